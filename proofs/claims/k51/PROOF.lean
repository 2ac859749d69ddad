import PyProof.Rows.All
import Wide.All
import OpenK.AllK
import Wide.FinOn
import KE.KStateDown
import HandS.Head2
import HandS.ForMost
import HandS.ForExc
import HandS.IsInst
import PyProof.StrBlock2
import HandS.TupAny
import HandS.Walk
import HandS.Exc
import HandS.Lambda
import HandS.Dict
import HandS.Deep
import PyProof.P3In
import HandS.Style
import HandS.TupSets
import HandS.SortInts
import HandS.Conv
import HandS.Star
import HandS.Flow
import HandS.Iter
import KE.GoesMore
import KE.GoesEnum
import HandS.NoneIn
import KE.KDictDisplayH
import HandS.ExcInit
import HandS.ExcValue
import HandS.WordsExc
import HandS.WordsList
import KE.KExcIs
import KE.KDflt
import HandS.OwnEq
import KE.KCallOwn
import HandS.HeadHook4
import HandS.Ends
import HandS.HeadWalk
import HandS.EndBits
import KE.Datum
import PySem.Challenge.RW_stonerounds_k51_kits_kept_and_refused
set_option Elab.async false
set_option linter.all false
set_option maxRecDepth 100000
/-! EvA: a plain evaluator of a small core language. Own work. Values are data; lists, dicts and instances are values unless they are cells. -/
namespace Ev
open PySem

/-- values -/
inductive AV where
  | non | bl (b : Bool) | int (i : Int) | str (x : Str) | fn (k : Nat)
  | tup (xs : List AV) | lst (xs : List AV) | dct (kvs : List (AV × AV))
  | ins (c : Nat) (fs : List (Str × AV)) | exc (c : Nat) (fs : List (Str × AV))
  | ref (n : Nat)
  deriving Inhabited

/-- cells: what may be changed; frz: what was -/
inductive AO where
  | lst (xs : List AV) | dct (kvs : List (AV × AV)) | ins (c : Nat) (fs : List (Str × AV)) | frz (v : AV)
  deriving Inhabited

structure AS where
  cells : List AO
  opn : Bool

inductive Rs (α : Type) where
  | ok (a : α) (s : AS) | exc (x : AV) (s : AS) | stuck

abbrev MM (α : Type) : Type := AS → Rs α
def MM.pure {α : Type} (a : α) : MM α := fun s => .ok a s
def MM.bind {α β : Type} (m : MM α) (f : α → MM β) : MM β := fun s => match m s with
  | .ok a s' => f a s'
  | .exc x s' => .exc x s'
  | .stuck => .stuck
theorem MM.assoc {α β γ : Type} (m : MM α) (f : α → MM β) (g : β → MM γ) : MM.bind (MM.bind m f) g = MM.bind m fun a => MM.bind (f a) g := by
  funext s
  unfold MM.bind
  cases m s <;> rfl
theorem MM.pure_bind {α β : Type} (a : α) (f : α → MM β) : MM.bind (MM.pure a) f = f a := rfl
theorem MM.bind_pure {α : Type} (m : MM α) : MM.bind m MM.pure = m := by
  funext s
  unfold MM.bind
  cases m s <;> rfl
def stuck {α : Type} : MM α := fun _ => .stuck
def ofO {α : Type} : Option α → MM α
  | some a => fun s => .ok a s
  | none => fun _ => .stuck
def guardM (b : Bool) : MM Unit := fun s => if b = true then .ok () s else .stuck

/-- the core language -/
inductive BOp where | add | sub | mul | div | mod | pow | cat deriving DecidableEq
inductive COp where | lt | le | gt | ge | eq | ne | isN | notN | isB | nisB | inn | nin deriving DecidableEq
inductive Blt where | len | int | str | abs | repr | all | tuple | list | sum | min | max | sorted | any deriving DecidableEq
/-- built-ins in one another: len(set(x)), sorted(set(x)) -/
inductive Blc where | lenI | lenT | sortset deriving DecidableEq
inductive BM where | join | append | pop | extend | insert | get deriving DecidableEq
inductive Tg where | var (i : Nat) | tup (ts : List Tg)

/-- a parameter's value: the j-th that is written, or a default -/
inductive PArg where | at (j : Nat) | dv (a : AV)
inductive CE where
  | var (i : Nat) | int (i : Int) | str (x : Str) | bl (b : Bool) | non
  | bin (o : BOp) (a b : CE) | neg (a : CE) | not (a : CE) | and (a b : CE) | or (a b : CE)
  | cmp (o : COp) (a b : CE) | ite (c a b : CE)
  | tup (es : List CE) | lst (al : Bool) (es : List CE) | dct (al : Bool) (ks vs : List CE)
  | idx (a i : CE) | slc (a : CE) (lo hi : Option CE)
  | comp (al : Bool) (ws : List Nat) (tg : Tg) (it : CE) (ifs : List CE) (elt : CE)
  | comp2 (al : Bool) (ws : List Nat) (tg : Tg) (it : CE) (ifs : List CE) (ws1 : List Nat) (tg1 : Tg) (it1 : CE) (ifs1 : List CE) (elt : CE)
  | rng (es : List CE)
  | call (k : Nat) (es ws : List CE) (ks : List Str) (perm : List PArg) (keep : Bool)
  | blt (b : Blt) (al : Bool) (es : List CE)
  | isi (e : CE) (ts : List String)
  | bm (m : BM) (a : CE) (es : List CE)
  | enm (e : CE)
  | isx (a : CE) (k : Nat) | xattr (a : CE) (f : Str)
  | heard (k : Nat) (e : CE)
  | nev | star (e : CE) | tupS (es : List CE) | lstS (al : Bool) (es : List CE)
  | meth (cs : List Nat) (m : Str) (k : Nat) (a : CE) (es ws : List CE) (ks : List Str) (perm : List PArg) (keep : Bool)
  | strc (cs : List Nat) (k : Nat) (a : CE)
  | blc (b : Blc) (e : CE) | rep (es : List CE) (b : CE)
  | glob (x : Str) (a : AV) | rev (a : CE) | lrng (al : Bool) (es : List CE)
  | chain (o1 o2 : COp) (a b c : CE)
  | attr (a : CE) (f : Str)
  | isc (a : CE) (c : Nat) (subs : List Nat)
  | new (al : Bool) (c k : Nat) (es ws : List CE) (ks : List Str) (perm : List PArg)
  | eqi (neg : Bool) (c k : Nat) (a b : CE)

inductive CS where
  | expr (e : CE) | asg (t : Tg) (e : CE) | setIx (a i e : CE)
  | setAt (a : CE) (f : Str) (e : CE) | never
  | ifS (c : CE) (a b : List CS) | forS (t : Tg) (it : CE) (body : List CS) | whileS (c : CE) (body : List CS) | raiseS (c : Nat) (fs : List Str) (es : List CE) | tryK (body : List CS) (i j : Nat) | ret (e : CE) | retN

abbrev AE := List (Option AV)

/-! ### values -/
/-- a key of a dict -/
def kA : L2.Key → AV
  | .inl i => .int i
  | .inr x => .str x
def keyOf : AV → Option L2.Key
  | .int i => some (.inl i)
  | .str x => some (.inr x)
  | _ => none
def keyEq1 : AV → AV → Bool
  | .int i, .int j => decide (i = j)
  | .str x, .str y => decide (x = y)
  | _, _ => false
def keysEq : List AV → List AV → Bool
  | [], [] => true
  | x :: xs, y :: ys => keyEq1 x y && keysEq xs ys
  | _, _ => false
def keyEq : AV → AV → Bool
  | .tup xs, .tup ys => keysEq xs ys
  | x, y => keyEq1 x y
def isTxA : AV → Bool
  | .str _ => true
  | _ => false
def keysOf : List AV → Option (List L2.Key)
  | [] => some []
  | x :: xs => match keyOf x with
    | none => none
    | some k => match keysOf xs with
      | none => none
      | some ks => some (k :: ks)
/-- a tuple as a key (tuples of texts alone may be a module's: not taken) -/
def tkeyOf : AV → Option (List L2.Key)
  | .tup xs => if xs.all isTxA = true then none else keysOf xs
  | _ => none
/-- what may be a display's keys -/
def dispOk (ps : List (AV × AV)) : Bool := (ps.all fun p => (keyOf p.1).isSome) || ps.all fun p => (tkeyOf p.1).isSome
/-- a value at a key: stored where it stood, or behind all -/
def putA (kvs : List (AV × AV)) (k v : AV) : List (AV × AV) :=
  if kvs.any (fun p => keyEq p.1 k) = true then kvs.map fun p => if keyEq p.1 k = true then (p.1, v) else p else kvs ++ [(k, v)]
def getA (kvs : List (AV × AV)) (k : AV) : Option AV := (kvs.find? fun p => keyEq p.1 k).map (·.2)
def mergeA (kvs more : List (AV × AV)) : List (AV × AV) := more.foldl (fun acc p => putA acc p.1 p.2) kvs
def mapO {α β : Type} (f : α → Option β) : List α → Option (List β)
  | [] => some []
  | x :: xs => match f x with
    | none => none
    | some y => match mapO f xs with
      | none => none
      | some ys => some (y :: ys)

/-- as plain data, cells read -/
def toPy (cs : List AO) : Nat → AV → Option PyData
  | 0, _ => none
  | n + 1, v => match v with
    | .non => some .none
    | .bl b => some (.bool b)
    | .int i => some (.int i)
    | .str x => some (.str x)
    | .tup xs => match mapO (toPy cs n) xs with | some ds => some (.tuple ds) | none => none
    | .lst xs => match mapO (toPy cs n) xs with | some ds => some (.list ds) | none => none
    | .ref k => match cs[k]? with
      | some (.lst xs) => match mapO (toPy cs n) xs with | some ds => some (.list ds) | none => none
      | some (.frz v) => toPy cs n v
      | _ => none
    | _ => none
def DPT : Nat := 12

/-- what stands in a list or tuple: false for a list -/
def seqOf (cs : List AO) : AV → Option (Bool × List AV)
  | .tup xs => some (true, xs)
  | .lst xs => some (false, xs)
  | .ref k => match cs[k]? with
    | some (.lst xs) => some (false, xs)
    | some (.frz (.lst xs)) => some (false, xs)
    | _ => none
  | _ => none

def isTupA : AV → Bool
  | .tup _ => true
  | _ => false
/-- what stands in a dict -/
def dctOf (cs : List AO) : AV → Option (List (AV × AV))
  | .dct kvs => some kvs
  | .ref k => match cs[k]? with
    | some (.dct kvs) => some kvs
    | some (.frz (.dct kvs)) => some kvs
    | _ => none
  | _ => none
/-- whether a value may be asked of a dict -/
def keyFits (kvs : List (AV × AV)) (y : AV) : Bool := match kvs with
  | [] => (keyOf y).isSome || (tkeyOf y).isSome
  | p :: _ => if isTupA p.1 = true then (tkeyOf y).isSome else (keyOf y).isSome
/-- an instance: its class, its fields -/
def insOf (cs : List AO) : AV → Option (Nat × List (Str × AV))
  | .ins c fs => some (c, fs)
  | .ref k => match cs[k]? with
    | some (.ins c fs) => some (c, fs)
    | some (.frz (.ins c fs)) => some (c, fs)
    | _ => none
  | _ => none
def getF (fs : List (Str × AV)) (f : Str) : Option AV := fs.lookup f
/-- a field stored: where it stood, or behind all -/
def putFA (f : Str) (y : AV) : List (Str × AV) → List (Str × AV)
  | [] => [(f, y)]
  | p :: r => if p.1 = f then (p.1, y) :: r else p :: putFA f y r

def truth (cs : List AO) : AV → Option Bool
  | .non => some false
  | .bl b => some b
  | .int i => some (i != 0)
  | .str x => if x.length ≤ 16777216 then some (x.length != 0) else none
  | v => match seqOf cs v with
    | some (_, xs) => some (!xs.isEmpty)
    | none => none

def truM (v : AV) : MM Bool := fun s => match truth s.cells v with
  | some b => .ok b s
  | none => .stuck

/-- a new list: a value, or a cell -/
def mkL (al : Bool) (xs : List AV) : MM AV := fun s =>
  if al = true then .ok (.ref s.cells.length) { s with cells := s.cells ++ [.lst xs] } else .ok (.lst xs) s
def mkD (al : Bool) (kvs : List (AV × AV)) : MM AV := fun s =>
  if al = true then .ok (.ref s.cells.length) { s with cells := s.cells ++ [.dct kvs] } else .ok (.dct kvs) s

def LIM : Nat := 16777216

/-! ### operators -/
def binM (o : BOp) (x y : AV) : MM AV := fun s => match o, x, y with
  | .add, .int i, .int j => .ok (.int (i + j)) s
  | .sub, .int i, .int j => .ok (.int (i - j)) s
  | .mul, .int i, .int j => if i.natAbs < 2 ^ 64 ∨ j.natAbs < 2 ^ 64 then .ok (.int (i * j)) s else .stuck
  | .div, .int i, .int j => if 0 < j ∧ j < 1073741824 then .ok (.int (i / j)) s else .stuck
  | .mod, .int i, .int j => if 0 < j then .ok (.int (i % j)) s else .stuck
  | .pow, .int i, .int j => if 0 ≤ j ∧ j ≤ 1000000 ∧ i.natAbs < 2 ^ 64 then .ok (.int (i ^ j.toNat)) s else .stuck
  | .mul, .str a, .int j => if a.length ≤ 1000 ∧ j ≤ 1000 ∧ -(2 ^ 62) ≤ j then .ok (.str (Txt.mul a j)) s else .stuck
  | .add, .str a, .str b => if a.length + b.length ≤ LIM then .ok (.str (a ++ b)) s else .stuck
  | .add, a, b => match seqOf s.cells a, seqOf s.cells b with
    | some (false, xs), some (false, ys) => if xs.length + ys.length ≤ LIM then .ok (.lst (xs ++ ys)) s else .stuck
    | some (true, xs), some (true, ys) => if xs.length + ys.length ≤ LIM then .ok (.tup (xs ++ ys)) s else .stuck
    | _, _ => .stuck
  | .cat, a, b => match seqOf s.cells a, seqOf s.cells b with
    | some (false, xs), some (false, ys) => if xs.length + ys.length ≤ LIM then mkL true (xs ++ ys) s else .stuck
    | _, _ => .stuck
  | _, _, _ => .stuck

def eqM (x y : AV) : MM Bool := fun s => match toPy s.cells DPT x, toPy s.cells DPT y with
  | some d, some e => if SeqAt.shaped d = true ∧ SeqAt.shaped e = true then .ok (PyData.eqv d e) s else .stuck
  | _, _ => .stuck

def seqPy : PyData → Option (List PyData)
  | .list ds => some ds
  | .tuple ds => some ds
  | _ => none
/-- y in d -/
def inD (neg : Bool) (x y : AV) : MM AV := fun s => match dctOf s.cells y with
  | some kvs => if keyFits kvs x = true then .ok (.bl (if neg = true then !(getA kvs x).isSome else (getA kvs x).isSome)) s else .stuck
  | none => .stuck
def inM (neg : Bool) (x y : AV) : MM AV := fun s => match toPy s.cells DPT x, toPy s.cells DPT y with
  | some d, some e => match seqPy e with
    | some ds => if SeqAt.shaped d = true ∧ SeqAt.shaped e = true then .ok (.bl (if neg = true then !ds.any fun z => PyData.eqv z d else ds.any fun z => PyData.eqv z d)) s else .stuck
    | none => .stuck
  | _, none => inD neg x y s
  | _, _ => .stuck
def cmpM (o : COp) (x y : AV) : MM AV := match o with
  | .inn => inM false x y
  | .nin => inM true x y
  | .eq => MM.bind (eqM x y) fun b => MM.pure (.bl b)
  | .ne => MM.bind (eqM x y) fun b => MM.pure (.bl (!b))
  | .lt => match x, y with | .int i, .int j => MM.pure (.bl (decide (i < j))) | _, _ => stuck
  | .le => match x, y with | .int i, .int j => MM.pure (.bl (decide (i ≤ j))) | _, _ => stuck
  | .gt => match x, y with | .int i, .int j => MM.pure (.bl (decide (j < i))) | _, _ => stuck
  | .ge => match x, y with | .int i, .int j => MM.pure (.bl (decide (j ≤ i))) | _, _ => stuck
  | .isB => match x, y with | .bl a, .bl b => MM.pure (.bl (decide (a = b))) | _, _ => stuck
  | .nisB => match x, y with | .bl a, .bl b => MM.pure (.bl (!decide (a = b))) | _, _ => stuck
  | _ => stuck

def isNone : AV → Bool
  | .non => true
  | _ => false

/-- d[y]; d.get(y, d) -/
def idxD (x y : AV) : MM AV := fun s => match dctOf s.cells x with
  | some kvs => if keyFits kvs y = true then (match getA kvs y with | some v => .ok v s | none => .stuck) else .stuck
  | none => .stuck
def getM (x y d : AV) : MM AV := fun s => match dctOf s.cells x with
  | some kvs => if keyFits kvs y = true then .ok ((getA kvs y).getD d) s else .stuck
  | none => .stuck
def idxM (x y : AV) : MM AV := fun s => match y with
  | .int i => match x with
    | .str z => if z.length ≤ LIM then (match L2.atI z.cps.toList i with | some c => .ok (.str ⟨#[c]⟩) s | none => .stuck) else .stuck
    | x => match seqOf s.cells x with
      | some (_, xs) => match L2.atI xs i with
        | some v => .ok v s
        | none => .stuck
      | none => idxD x (.int i) s
  | y => idxD x y s

def cutL {α : Type} (xs : List α) (lo hi : Option Int) : List α :=
  (xs.drop (HT.sIx xs.length 0 lo)).take (HT.sIx xs.length xs.length hi - HT.sIx xs.length 0 lo)
def slcM (x : AV) (lo hi : Option Int) : MM AV := fun s => match seqOf s.cells x with
  | some (false, xs) => .ok (.lst (cutL xs lo hi)) s
  | some (true, xs) => .ok (.tup (cutL xs lo hi)) s
  | _ => .stuck

/-- whether a value may name a cell behind k -/
def newer (k : Nat) : Nat → AV → Bool
  | 0, _ => true
  | n + 1, v => match v with
    | .ref j => decide (k < j)
    | .tup xs => xs.any (newer k n)
    | .lst xs => xs.any (newer k n)
    | .dct kvs => kvs.any fun p => newer k n p.1 || newer k n p.2
    | .ins _ fs => fs.any fun p => newer k n p.2
    | .exc _ fs => fs.any fun p => newer k n p.2
    | _ => false
/-- d[y] = v -/
def setDM (k : Nat) (y v : AV) : MM Unit := fun s => match s.cells[k]? with
  | some (.dct kvs) => if keyFits kvs y = true ∧ kvs.length < LIM then .ok () { cells := s.cells.set k (.dct (putA kvs y v)), opn := s.opn || newer k 12 v || newer k 12 y } else .stuck
  | _ => .stuck
def setIxM (x y v : AV) : MM Unit := fun s => match x, y with
  | .ref k, .int i => match s.cells[k]? with
    | some (.lst xs) => match L2.ixN xs.length i with
      | some j => .ok () { cells := s.cells.set k (.lst (xs.set j v)), opn := s.opn || newer k 12 v }
      | none => .stuck
    | _ => setDM k (.int i) v s
  | .ref k, y => setDM k y v s
  | _, _ => .stuck

/-- the type's name, of what is built in -/
def tyName (cs : List AO) : AV → Option String
  | .non => some "NoneType"
  | .bl _ => some "bool"
  | .int _ => some "int"
  | .str _ => some "str"
  | .tup _ => some "tuple"
  | .lst _ => some "list"
  | .dct _ => some "dict"
  | .ref k => match cs[k]? with
    | some (.lst _) => some "list"
    | some (.frz (.lst _)) => some "list"
    | some (.frz (.dct _)) => some "dict"
    | some (.dct _) => some "dict"
    | _ => none
  | _ => none
def isiM (x : AV) (ts : List String) : MM AV := fun s => match tyName s.cells x with
  | some t => match mapO (L2.kitB t) ts with
    | some bs => .ok (.bl (bs.any id)) s
    | none => .stuck
  | none => .stuck

def strsOf : List AV → Option (List Str)
  | [] => some []
  | .str x :: r => match strsOf r with | some xs => some (x :: xs) | none => none
  | _ :: _ => none

def asI : AV → Option Int
  | .int i => some i
  | _ => none
def intsOf : List AV → Option (List Int) := mapO asI
def insI (x : Int) : List Int → List Int
  | [] => [x]
  | y :: r => if x ≤ y then x :: y :: r else y :: insI x r
def sortI (xs : List Int) : List Int := xs.foldr insI []
/-- ints one behind another -/
def lexB : List Int → List Int → Bool
  | [], _ => true
  | _ :: _, [] => false
  | x :: xs, y :: ys => decide (x < y) || (decide (x = y) && lexB xs ys)
def insT (x : List Int) : List (List Int) → List (List Int)
  | [] => [x]
  | y :: r => if lexB x y = true then x :: y :: r else y :: insT x r
def sortT (xs : List (List Int)) : List (List Int) := xs.foldr insT []
/-- as a set, ascending -/
def insU (x : List Int) : List (List Int) → List (List Int)
  | [] => [x]
  | y :: r => if x = y then y :: r else if lexB x y = true then x :: y :: r else y :: insU x r
def setT (xs : List (List Int)) : List (List Int) := xs.foldr insU []
def tupOf : AV → Option (List Int)
  | .tup xs => intsOf xs
  | _ => none
def tupsOf : List AV → Option (List (List Int)) := mapO tupOf
def ofTup (ns : List Int) : AV := .tup (ns.map AV.int)
/-- all of one length, their ints from 0 on -/
def tupsOk (ts : List (List Int)) : Bool := match ts with
  | [] => true
  | t :: _ => decide (1 ≤ t.length) && ts.all fun u => u.length == t.length && u.all fun i => decide (0 ≤ i)
def blsOf : List AV → Option (List Bool) := mapO fun v => match v with | AV.bl b => some b | _ => none
def bltM (b : Blt) (al : Bool) (vs : List AV) : MM AV := fun s => match b, vs with
  | .len, [.str x] => if x.length ≤ LIM then .ok (.int x.length) s else .stuck
  | .len, [v] => match seqOf s.cells v with | some (_, xs) => .ok (.int xs.length) s | none => .stuck
  | .int, [.int i] => .ok (.int i) s
  | .int, [.bl b] => .ok (.int (if b then 1 else 0)) s
  | .str, [.int i] => if i.natAbs.log2 < 1920 then .ok (.str (toString i)) s else .stuck
  | .abs, [.int i] => .ok (.int (if i < 0 then -i else i)) s
  | .repr, [v] => match toPy s.cells DPT v with
    | some d => if d.showable = true ∧ d.hasDict = false ∧ d.shown.length ≤ LIM ∧ d.depth ≤ 64 then .ok (.str d.shown) s else .stuck
    | none => .stuck
  | .all, [v] => match seqOf s.cells v with
    | some (false, xs) => match blsOf xs with
      | some bs => .ok (.bl (bs.all id)) s
      | none => .stuck
    | _ => .stuck
  | .tuple, [v] => match seqOf s.cells v with | some (_, xs) => .ok (.tup xs) s | none => .stuck
  | .list, [v] => match seqOf s.cells v with | some (_, xs) => mkL al xs s | none => .stuck
  | .sum, [v] => match seqOf s.cells v with
    | some (false, xs) => match intsOf xs with | some ns => .ok (.int ns.sum) s | none => .stuck
    | _ => .stuck
  | .min, [.int i, .int j] => .ok (.int (if j < i then j else i)) s
  | .max, [.int i, .int j] => .ok (.int (if j > i then j else i)) s
  | .sorted, [v] => match seqOf s.cells v with
    | some (true, xs) => match intsOf xs with
      | some ns => mkL al ((sortI ns).map AV.int) s
      | none => .stuck
    | some (false, xs) => match intsOf xs with
      | some ns => mkL al ((sortI ns).map AV.int) s
      | none => match tupsOf xs with
        | some ts => if tupsOk ts = true ∧ ts.length < 64 then mkL al ((sortT ts).map ofTup) s else .stuck
        | none => .stuck
    | _ => .stuck
  | .any, [v] => match seqOf s.cells v with
    | some (false, xs) => match blsOf xs with
      | some bs => .ok (.bl (bs.any id)) s
      | none => .stuck
    | _ => .stuck
  | _, _ => .stuck
/-- each once -/
def ddup {α : Type} [DecidableEq α] : List α → List α
  | [] => []
  | x :: xs => if x ∈ ddup xs then ddup xs else x :: ddup xs
def blcM (b : Blc) (v : AV) : MM AV := fun s => match b with
  | .lenI => match seqOf s.cells v with
    | some (_, xs) => match intsOf xs with
      | some ns => if ns.length < 64 then .ok (.int (ddup ns).length) s else .stuck
      | none => .stuck
    | _ => .stuck
  | .lenT => match seqOf s.cells v with
    | some (false, xs) => match tupsOf xs with
      | some ts => if ts.length < 64 then .ok (.int (ddup ts).length) s else .stuck
      | none => .stuck
    | _ => .stuck
  | .sortset => match seqOf s.cells v with
    | some (false, xs) => match tupsOf xs with
      | some ts => if tupsOk ts = true ∧ ts.length < 64 then .ok (.lst ((setT ts).map ofTup)) s else .stuck
      | none => .stuck
    | _ => .stuck

/-- a cell's list anew -/
def putL (s : AS) (k : Nat) (xs : List AV) (more : List AV) : AS := { cells := s.cells.set k (.lst xs), opn := s.opn || more.any (newer k 12) }
def bmM (m : BM) (x : AV) (vs : List AV) : MM AV := fun s => match m, x, vs with
  | .append, .ref k, [v] => match s.cells[k]? with
    | some (.lst xs) => if xs.length < LIM then .ok .non (putL s k (xs ++ [v]) [v]) else .stuck
    | _ => .stuck
  | .pop, .ref k, [.int i] => match s.cells[k]? with
    | some (.lst xs) => if 0 ≤ i ∧ i < 2 ^ 62 then (match xs[i.toNat]? with
      | some y => .ok y (putL s k (xs.eraseIdx i.toNat) [])
      | none => .stuck) else .stuck
    | _ => .stuck
  | .extend, .ref k, [v] => match s.cells[k]? with
    | some (.lst xs) => match seqOf s.cells v with
      | some (_, ys) => if xs.length + ys.length ≤ LIM then .ok .non (putL s k (xs ++ ys) ys) else .stuck
      | none => .stuck
    | _ => .stuck
  | .insert, .ref k, [.int i, v] => match s.cells[k]? with
    | some (.lst xs) => if xs.length < LIM ∧ 0 ≤ i ∧ i < 2 ^ 62 then .ok .non (putL s k (xs.take i.toNat ++ [v] ++ xs.drop i.toNat) [v]) else .stuck
    | _ => .stuck
  | .join, .str a, [v] => match seqOf s.cells v with
    | some (_, xs) => match strsOf xs with
      | some ys => if (ys.map (·.length)).sum + ys.length * a.length ≤ LIM then .ok (.str (Txt.join a ys)) s else .stuck
      | none => .stuck
    | none => .stuck
  | .get, x, [y] => getM x y .non s
  | .get, x, [y, d] => getM x y d s
  | _, _, _ => .stuck

/-- the receiver's kind -/
def bmChk (m : BM) (x : AV) : MM Unit := fun s => match m, x with
  | .join, .str _ => .ok () s
  | .append, .ref k => match s.cells[k]? with | some (.lst _) => .ok () s | _ => .stuck
  | .pop, .ref k => match s.cells[k]? with | some (.lst _) => .ok () s | _ => .stuck
  | .extend, .ref k => match s.cells[k]? with | some (.lst _) => .ok () s | _ => .stuck
  | .insert, .ref k => match s.cells[k]? with | some (.lst _) => .ok () s | _ => .stuck
  | .get, x => match dctOf s.cells x with | some _ => .ok () s | none => .stuck
  | _, _ => .stuck

/-! ### instances -/
def attrM (x : AV) (f : Str) : MM AV := fun s => match insOf s.cells x with
  | some (_, fs) => match fs.lookup f with | some v => .ok v s | none => .stuck
  | none => .stuck
def setAtM (x : AV) (f : Str) (v : AV) : MM Unit := fun s => match x with
  | .ref k => match s.cells[k]? with
    | some (.ins c fs) => if fs.length < 900 then .ok () { cells := s.cells.set k (.ins c (putFA f v fs)), opn := s.opn || newer k 12 v } else .stuck
    | _ => .stuck
  | _ => .stuck
def iscM (x : AV) (subs : List Nat) : MM AV := fun s => match insOf s.cells x with
  | some (c, _) => .ok (.bl (subs.contains c)) s
  | none => match tyName s.cells x with
    | some _ => .ok (.bl false) s
    | none => .stuck
/-- isinstance of what was caught -/
def isxM (x : AV) (k : Nat) : MM AV := fun s => match x with
  | .non => .ok (.bl false) s
  | .exc c _ => .ok (.bl (decide (c = k))) s
  | _ => .stuck
/-- its field -/
def xattrM (x : AV) (f : Str) : MM AV := fun s => match x with
  | .exc _ fs => match fs.lookup f with | some v => .ok v s | none => .stuck
  | _ => .stuck
/-- two instances of a class -/
def bothM (c : Nat) (x y : AV) : MM Unit := fun s => match insOf s.cells x with
  | some (a, _) => if a = c then (match insOf s.cells y with
    | some (b, _) => if b = c then .ok () s else .stuck
    | none => match tyName s.cells y with
      | some _ => .ok () s
      | none => .stuck) else .stuck
  | none => .stuck
def negM (neg : Bool) (v : AV) : MM AV := match v with
  | .bl b => MM.pure (.bl (if neg = true then !b else b))
  | _ => stuck

/-! ### targets -/
mutual
def asgT (cs : List AO) : Tg → AV → AE → Option AE
  | .var i, v, ρ => if i < ρ.length then some (ρ.set i (some v)) else none
  | .tup ts, v, ρ => match seqOf cs v with
    | some (_, xs) => asgTs cs ts xs ρ
    | none => none
def asgTs (cs : List AO) : List Tg → List AV → AE → Option AE
  | [], [], ρ => some ρ
  | t :: ts, x :: xs, ρ => match asgT cs t x ρ with
    | some ρ' => asgTs cs ts xs ρ'
    | none => none
  | _, _, _ => none
end
def wipeE (ρ : AE) : List Nat → AE
  | [] => ρ
  | v :: vs => (wipeE ρ vs).set v none

/-- the cells from k on made values -/
def frzV (cs : List AO) (k : Nat) : Nat → AV → Option AV
  | 0, _ => none
  | n + 1, v => match v with
    | .tup xs => match mapO (frzV cs k n) xs with | some ys => some (.tup ys) | none => none
    | .lst xs => match mapO (frzV cs k n) xs with | some ys => some (.lst ys) | none => none
    | .ref j => if j < k then some (.ref j) else match cs[j]? with
      | some (.lst xs) => match mapO (frzV cs k n) xs with | some ys => some (.lst ys) | none => none
      | some (.dct kvs) => match mapO (frzV cs k n) (kvs.map (·.2)) with | some ys => some (.dct ((kvs.map (·.1)).zip ys)) | none => none
      | some (.ins c fs) => match mapO (frzV cs k n) (fs.map (·.2)) with | some ys => some (.ins c ((fs.map (·.1)).zip ys)) | none => none
      | some (.frz v) => frzV cs k n v
      | _ => none
    | .dct kvs => match mapO (frzV cs k n) (kvs.map (·.2)) with | some ys => some (.dct ((kvs.map (·.1)).zip ys)) | none => none
    | .ins c fs => match mapO (frzV cs k n) (fs.map (·.2)) with | some ys => some (.ins c ((fs.map (·.1)).zip ys)) | none => none
    | .exc _ _ => none
    | v => some v

/-- one above the greatest cell that is named -/
def topsO {α : Type} (f : α → Option Nat) : List α → Option Nat
  | [] => some 0
  | x :: xs => match f x with
    | none => none
    | some a => match topsO f xs with
      | none => none
      | some b => some (max a b)
def topV : Nat → AV → Option Nat
  | 0, _ => none
  | n + 1, v => match v with
    | .ref j => some (j + 1)
    | .tup xs => topsO (topV n) xs
    | .lst xs => topsO (topV n) xs
    | .dct kvs => match topsO (topV n) (kvs.map (·.1)) with
      | none => none
      | some a => match topsO (topV n) (kvs.map (·.2)) with
        | none => none
        | some b => some (max a b)
    | .ins _ fs => topsO (topV n) (fs.map (·.2))
    | .exc _ fs => topsO (topV n) (fs.map (·.2))
    | _ => some 0
def topO : AO → Option Nat
  | .lst xs => topsO (topV DPT) xs
  | .dct kvs => match topsO (topV DPT) (kvs.map (·.1)) with
    | none => none
    | some a => match topsO (topV DPT) (kvs.map (·.2)) with
      | none => none
      | some b => some (max a b)
  | .ins _ fs => topsO (topV DPT) (fs.map (·.2))
  | .frz v => topV DPT v
/-- these cells name none from q on -/
def closedC (q : Nat) (cs : List AO) : Bool := cs.all fun o => match topO o with
  | some j => decide (j ≤ q)
  | none => false
/-- run where just the first q cells are seen; the rest stays -/
def frameM (q : Option Nat) (m : MM AV) : MM AV := fun s => match q with
  | none => m s
  | some q => if q ≤ s.cells.length ∧ closedC q (s.cells.take q) = true then
      (match m ⟨s.cells.take q, false⟩ with
      | .ok v s2 => if s2.cells.length = q ∧ s2.opn = false then .ok v ⟨s2.cells ++ s.cells.drop q, s.opn⟩ else m s
      | .exc x s2 => if s2.cells.length = q ∧ s2.opn = false then .exc x ⟨s2.cells ++ s.cells.drop q, s.opn⟩ else m s
      | .stuck => m s)
    else m s
/-- an exception leaves: what it tells is made values -/
def frzX (cs : List AO) (k : Nat) : AV → Option AV
  | .exc c fs => match mapO (frzV cs k DPT) (fs.map (·.2)) with
    | some ys => some (.exc c ((fs.map (·.1)).zip ys))
    | none => none
  | _ => none
def leaveX (s0 : AS) (keep : Bool) (x : AV) (s : AS) : Rs AV :=
  if keep = true ∨ s.opn = true ∨ s.cells.length ≤ s0.cells.length then .exc x { cells := s.cells, opn := s0.opn || s.opn }
  else match frzX s.cells s0.cells.length x with
    | some y => .exc y { cells := s.cells.take s0.cells.length, opn := s0.opn }
    | none => .exc x { cells := s.cells, opn := s0.opn || s.opn }

def leaveV (s0 : AS) (keep : Bool) (v : AV) (s : AS) : Rs AV :=
  if keep = true ∨ s.opn = true ∨ s.cells.length ≤ s0.cells.length then .ok v { cells := s.cells, opn := s0.opn || s.opn }
  else match frzV s.cells s0.cells.length DPT v with
    | some w => .ok w { cells := s.cells.take s0.cells.length, opn := s0.opn }
    | none => .stuck
/-! ### the evaluator -/
def evList (f : CE → MM AV) : List CE → MM (List AV)
  | [] => MM.pure []
  | e :: es => MM.bind (f e) fun v => MM.bind (evList f es) fun vs => MM.pure (v :: vs)
/-- what stands in a list or tuple -/
def seqM (v : AV) : MM (List AV) := fun s => match seqOf s.cells v with
  | some (_, xs) => .ok xs s
  | none => .stuck
/-- .. with starred ones -/
def evListS (f : CE → MM AV) : List CE → MM (List AV)
  | [] => MM.pure []
  | .star e :: es => MM.bind (f e) fun v => MM.bind (seqM v) fun xs => MM.bind (evListS f es) fun ys => MM.pure (xs ++ ys)
  | e :: es => MM.bind (f e) fun v => MM.bind (evListS f es) fun vs => MM.pure (v :: vs)
def fewM (al : Option Bool) (vs : List AV) : MM AV := fun s => if vs.length ≤ LIM then (match al with
  | none => .ok (.tup vs) s
  | some al => mkL al vs s) else .stuck
/-- no exception within -/
def nox {α : Type} (m : MM α) : MM α := fun s => match m s with
  | .ok a s' => .ok a s'
  | _ => .stuck

def evPairs (f : CE → MM AV) : List CE → List CE → MM (List (AV × AV))
  | [], [] => MM.pure []
  | k :: ks, v :: vs => MM.bind (f k) fun a => MM.bind (f v) fun b => MM.bind (evPairs f ks vs) fun r => MM.pure ((a, b) :: r)
  | _, _ => stuck
/-- a display's dict -/
def mkDisp (al : Bool) (ps : List (AV × AV)) : MM AV := fun s =>
  if dispOk ps = true ∧ ps.length ≤ 15 then mkD al (mergeA [] ps) s else .stuck
def asIntM : AV → MM (Option Int)
  | .int i => MM.pure (some i)
  | _ => stuck
def evOpt (f : CE → MM AV) : Option CE → MM (Option Int)
  | none => MM.pure none
  | some e => MM.bind (f e) asIntM
def evTests (f : CE → MM AV) : List CE → MM Bool
  | [] => MM.pure true
  | [c] => MM.bind (f c) truM
  | _ => stuck

/-- what is walked: written items, or a cell's list -/
inductive Src where
  | items (xs : List AV)
  | cell (k n : Nat)
/-- a comprehension's loop over items: f makes of an item nothing or one more -/
def accO (acc : List AV) : Option AV → List AV
  | none => acc
  | some v => acc ++ [v]
def compL (f : AV → MM (Option AV)) : List AV → List AV → MM (List AV)
  | [], acc => MM.pure acc
  | x :: xs, acc => MM.bind (f x) fun o => compL f xs (accO acc o)
def itemAt (k i : Nat) : MM (Option AV) := fun s => match s.cells[k]? with
  | some (.lst xs) => .ok xs[i]? s
  | _ => .stuck
def compC (f : AV → MM (Option AV)) (k : Nat) : Nat → Nat → List AV → MM (List AV)
  | 0, i, acc => MM.bind (itemAt k i) fun o => match o with
    | none => MM.pure acc
    | some _ => stuck
  | m + 1, i, acc => MM.bind (itemAt k i) fun o => match o with
    | none => MM.pure acc
    | some x => MM.bind (f x) fun o => compC f k m (i + 1) (accO acc o)
/-- what is left of a comprehension's loop at turn i -/
def compR (turn : AV → MM (Option AV)) (src : Src) (i : Nat) (acc : List AV) : MM (List AV) := match src with
  | .items xs => compL turn (xs.drop i) acc
  | .cell k n => compC turn k (n - i) i acc

/-- what a for walks -/
def srcOf (v : AV) : MM Src := fun s => match v with
  | .tup xs => .ok (.items xs) s
  | .lst xs => .ok (.items xs) s
  | .ref k => match s.cells[k]? with
    | some (.lst xs) => .ok (.cell k xs.length) s
    | some (.frz (.lst xs)) => .ok (.items xs) s
    | _ => .stuck
  | _ => .stuck
/-- numbered from i on -/
def enumA : Int → List AV → List AV
  | _, [] => []
  | i, x :: r => .tup [.int i, x] :: enumA (i + 1) r
/-- what a for over enumerate(v) walks: v a list that does not change, or a tuple -/
def enmOf (v : AV) : MM Src := fun s => match v with
  | .lst xs => if xs.length ≤ 16777216 then .ok (.items (enumA 0 xs)) s else .stuck
  | .tup xs => if xs.length ≤ 16777216 then .ok (.items (enumA 0 xs)) s else .stuck
  | .ref k => match s.cells[k]? with
    | some (.frz (.lst xs)) => if xs.length ≤ 16777216 then .ok (.items (enumA 0 xs)) s else .stuck
    | _ => .stuck
  | _ => .stuck
def rngM (vs : List AV) : MM Src := fun s => match vs with
  | [.int j] => if j < 16777216 ∧ -(2 ^ 62) ≤ j then .ok (.items ((List.range j.toNat).map fun i => AV.int (i : Nat))) s else .stuck
  | [.int i, .int j] => if j - i < 16777216 ∧ -(2 ^ 62) ≤ i ∧ i < 2 ^ 62 ∧ -(2 ^ 62) ≤ j ∧ j < 2 ^ 62 then .ok (.items ((List.range (j - i).toNat).map fun k => AV.int (i + (k : Nat)))) s else .stuck
  | _ => .stuck
def lrngM (al : Bool) (vs : List AV) : MM AV := match vs with
  | [.int j] => fun s => if j < 16777216 ∧ -(2 ^ 62) ≤ j then mkL al ((List.range j.toNat).map fun i => AV.int (i : Nat)) s else .stuck
  | _ => stuck
/-- a list so many times -/
def repM (xs : List AV) (y : AV) : MM AV := fun s => match y with
  | .int j => if -(2 ^ 62) ≤ j ∧ j < 2 ^ 62 ∧ xs.length * j.toNat ≤ LIM then .ok (.lst (List.replicate j.toNat xs).flatten) s else .stuck
  | _ => .stuck
def isBlM : AV → MM Bool
  | .bl b => MM.pure b
  | _ => stuck
def evI (f : CE → MM AV) : CE → MM Src
  | .enm e => MM.bind (f e) enmOf
  | .rng es => MM.bind (evList f es) rngM
  | e => MM.bind (f e) srcOf

/-- a loop over items, with what has been gathered -/
def foldL {β : Type} (f : AV → β → MM β) : List AV → β → MM β
  | [], acc => MM.pure acc
  | x :: xs, acc => MM.bind (f x acc) fun acc => foldL f xs acc
def foldC {β : Type} (f : AV → β → MM β) (k : Nat) : Nat → Nat → β → MM β
  | 0, i, acc => MM.bind (itemAt k i) fun o => match o with
    | none => MM.pure acc
    | some _ => stuck
  | m + 1, i, acc => MM.bind (itemAt k i) fun o => match o with
    | none => MM.pure acc
    | some x => MM.bind (f x acc) fun acc => foldC f k m (i + 1) acc
def foldR {β : Type} (f : AV → β → MM β) (src : Src) (i : Nat) (acc : β) : MM β := match src with
  | .items xs => foldL f (xs.drop i) acc
  | .cell k n => foldC f k (n - i) i acc
/-- one more, while there is room -/
def moreM (acc : List AV) (v : AV) : MM (List AV) := if acc.length < LIM then MM.pure (acc ++ [v]) else stuck
def aTurn (fg : AS → AV → AE → Option AE) (ft : AE → MM Bool) (fe : AE → MM AV) (ρ : AE) : AV → List AV → MM (List AV) := fun x acc =>
  MM.bind (fun s => ofO (fg s x ρ) s) fun ρ' => MM.bind (nox (ft ρ')) fun b => if b = true then MM.bind (nox (fe ρ')) fun v => moreM acc v else MM.pure acc
def bTurn (fg : AS → AV → AE → Option AE) (ft : AE → MM Bool) (fi : AE → MM Src) (turn : AE → AV → List AV → MM (List AV)) (ρ : AE) : AV → List AV → MM (List AV) := fun x acc =>
  MM.bind (fun s => ofO (fg s x ρ) s) fun ρ' => MM.bind (nox (ft ρ')) fun b => if b = true then MM.bind (nox (fi ρ')) fun src => foldR (turn ρ') src 0 acc else MM.pure acc
/-- the turn of a comprehension -/
def cTurn (fg : AS → AV → AE → Option AE) (ft : AE → MM Bool) (fe : AE → MM AV) (ρ : AE) : AV → MM (Option AV) := fun x =>
  nox (MM.bind (fun s => ofO (fg s x ρ) s) fun ρ' => MM.bind (ft ρ') fun b => if b = true then MM.bind (fe ρ') fun v => MM.pure (some v) else MM.pure none)

def argOf (vs : List AV) : PArg → Option AV
  | .at j => vs[j]?
  | .dv a => some a
/-- a new instance, its __init__ run -/
def newP (call : Nat → List AV → Bool → MM AV) (al : Bool) (c k : Nat) (zs : List AV) (perm : List PArg) : MM AV := fun s =>
  match mapO (argOf (.ref s.cells.length :: zs)) perm with
  | none => .stuck
  | some args => match call k args true { cells := s.cells ++ [.ins c []], opn := false } with
    | .ok .non s2 => leaveV s al (.ref s.cells.length) s2
    | .exc x s2 => leaveX s al x s2
    | _ => .stuck
def newM (call : Nat → List AV → Bool → MM AV) (al : Bool) (c k : Nat) (zs : List AV) (perm : List PArg) : MM AV := match al with
  | true => newP call true c k zs perm
  | false => frameM (topsO (topV DPT) zs) (newP call false c k zs perm)
/-- the receiver of a method: an instance of one of some classes, with no field of the method's name -/
def mthChk (cs : List Nat) (m : Str) (x : AV) : MM Unit := fun s => match insOf s.cells x with
  | some (c, fs) => if cs.contains c = true ∧ fs.lookup m = none then .ok () s else .stuck
  | none => .stuck
/-- str(x), x of one of some classes -/
def strcM (call : Nat → List AV → Bool → MM AV) (cs : List Nat) (k : Nat) (x : AV) : MM AV := fun s => match insOf s.cells x with
  | some (c, _) => if cs.contains c = true then (match call k [x] false s with
    | .ok (.str z) s' => .ok (.str z) s'
    | _ => .stuck) else .stuck
  | none => .stuck
/-- what is heard: nothing, or the exception; then the rest -/
def heardR (r : Rs AV) (k : AV → AS → Rs AV) : Rs AV := match r with
  | .ok _ s => k .non s
  | .exc x s => k x s
  | .stuck => .stuck
def evE (call : Nat → List AV → Bool → MM AV) : Nat → CE → AE → MM AV
  | 0, _, _ => stuck
  | n + 1, c, ρ => match c with
    | .var i => ofO ((ρ[i]?).bind id)
    | .int i => MM.pure (.int i)
    | .str x => MM.pure (.str x)
    | .bl b => MM.pure (.bl b)
    | .non => MM.pure .non
    | .bin o a b => MM.bind (evE call n a ρ) fun x => MM.bind (evE call n b ρ) fun y => binM o x y
    | .neg a => MM.bind (evE call n a ρ) fun x => match x with | .int i => MM.pure (.int (-i)) | _ => stuck
    | .not a => MM.bind (evE call n a ρ) fun x => MM.bind (truM x) fun b => MM.pure (.bl (!b))
    | .and a b => MM.bind (evE call n a ρ) fun x => MM.bind (truM x) fun t => if t = true then evE call n b ρ else MM.pure x
    | .or a b => MM.bind (evE call n a ρ) fun x => MM.bind (truM x) fun t => if t = true then MM.pure x else evE call n b ρ
    | .cmp .isN a _ => MM.bind (evE call n a ρ) fun x => MM.pure (.bl (isNone x))
    | .cmp .notN a _ => MM.bind (evE call n a ρ) fun x => MM.pure (.bl (!isNone x))
    | .cmp o a b => MM.bind (evE call n a ρ) fun x => MM.bind (evE call n b ρ) fun y => cmpM o x y
    | .ite c a b => MM.bind (evE call n c ρ) fun x => MM.bind (truM x) fun t => if t = true then evE call n a ρ else evE call n b ρ
    | .tup es => MM.bind (evList (fun e => evE call n e ρ) es) fun vs => MM.pure (.tup vs)
    | .lst al es => MM.bind (evList (fun e => evE call n e ρ) es) fun vs => mkL al vs
    | .dct al ks vs => MM.bind (nox (evPairs (fun e => evE call n e ρ) ks vs)) fun ps => mkDisp al ps
    | .idx a i => MM.bind (evE call n a ρ) fun x => MM.bind (evE call n i ρ) fun y => idxM x y
    | .slc a lo hi => MM.bind (evE call n a ρ) fun x => MM.bind (evOpt (fun e => evE call n e ρ) lo) fun l => MM.bind (evOpt (fun e => evE call n e ρ) hi) fun h => slcM x l h
    | .comp al ws tg it ifs elt => MM.bind (evI (fun e => evE call n e ρ) it) fun src =>
        MM.bind (compR (cTurn (fun s v ρ => asgT s.cells tg v ρ) (fun ρ' => evTests (fun e => evE call n e ρ') ifs) (fun ρ' => evE call n elt ρ') (wipeE ρ ws)) src 0 []) fun vs => mkL al vs
    | .comp2 al ws tg it ifs ws1 tg1 it1 ifs1 elt => MM.bind (evI (fun e => evE call n e ρ) it) fun src =>
        MM.bind (foldR (bTurn (fun s v ρ => asgT s.cells tg v ρ) (fun ρ' => evTests (fun e => evE call n e ρ') ifs) (fun ρ' => evI (fun e => evE call n e ρ') it1)
          (fun ρ' => aTurn (fun s v ρ => asgT s.cells tg1 v ρ) (fun ρ2 => evTests (fun e => evE call n e ρ2) ifs1) (fun ρ2 => evE call n elt ρ2) (wipeE ρ' ws1)) (wipeE ρ ws)) src 0 []) fun vs => mkL al vs
    | .rng _ => stuck
    | .enm _ => stuck
    | .star _ => stuck
    | .nev => stuck
    | .tupS es => MM.bind (evListS (fun e => evE call n e ρ) es) fun vs => fewM none vs
    | .lstS al es => MM.bind (evListS (fun e => evE call n e ρ) es) fun vs => fewM (some al) vs
    | .call k es ws ks perm keep => MM.bind (evList (fun e => evE call n e ρ) es) fun v1 => MM.bind (evList (fun e => evE call n e ρ) ws) fun v2 => match mapO (argOf (v1 ++ v2)) perm with
        | some args => call k args keep
        | none => stuck
    | .blt b al es => MM.bind (evList (fun e => evE call n e ρ) es) fun vs => bltM b al vs
    | .isi e ts => MM.bind (evE call n e ρ) fun x => isiM x ts
    | .rep es b => MM.bind (evList (fun e => evE call n e ρ) es) fun vs => MM.bind (evE call n b ρ) fun y => repM vs y
    | .blc b e => MM.bind (evE call n e ρ) fun v => blcM b v
    | .glob _ a => MM.pure a
    | .rev a => MM.bind (evE call n a ρ) fun x => fun s => match seqOf s.cells x with | some (false, xs) => .ok (.lst xs.reverse) s | some (true, xs) => .ok (.tup xs.reverse) s | _ => .stuck
    | .lrng al es => MM.bind (evList (fun e => evE call n e ρ) es) fun vs => lrngM al vs
    | .chain o1 o2 a b c => MM.bind (evE call n a ρ) fun x => MM.bind (evE call n b ρ) fun y => MM.bind (cmpM o1 x y) fun t => MM.bind (isBlM t) fun k => if k = true then MM.bind (evE call n c ρ) fun z => cmpM o2 y z else MM.pure (.bl false)
    | .attr a f => MM.bind (evE call n a ρ) fun x => attrM x f
    | .isc a _ subs => MM.bind (evE call n a ρ) fun x => iscM x subs
    | .isx a k => MM.bind (evE call n a ρ) fun x => isxM x k
    | .xattr a f => MM.bind (evE call n a ρ) fun x => xattrM x f
    | .meth cs m k a es ws ks perm keep => MM.bind (evE call n a ρ) fun x => MM.bind (mthChk cs m x) fun _ => MM.bind (evList (fun e => evE call n e ρ) es) fun v1 => MM.bind (evList (fun e => evE call n e ρ) ws) fun v2 => match mapO (argOf (x :: (v1 ++ v2))) perm with
        | some args => call k args keep
        | none => stuck
    | .strc cs k a => MM.bind (evE call n a ρ) fun x => strcM call cs k x
    | .heard k e => fun s => heardR (evE call n e ρ s) fun x => call k [x] false
    | .new al c k es ws ks perm => MM.bind (evList (fun e => evE call n e ρ) es) fun v1 => MM.bind (evList (fun e => evE call n e ρ) ws) fun v2 => newM call al c k (v1 ++ v2) perm
    | .eqi neg c k a b => MM.bind (evE call n a ρ) fun x => MM.bind (evE call n b ρ) fun y => MM.bind (bothM c x y) fun _ => MM.bind (nox (call k [x, y] false)) (negM neg)
    | .bm m a es => MM.bind (evE call n a ρ) fun x => MM.bind (bmChk m x) fun _ => MM.bind (evList (fun e => evE call n e ρ) es) fun vs => bmM m x vs

/-! ### statements -/
inductive SRs where
  | next (ρ : AE) (s : AS) | ret (a : AV) (s : AS) | brk (ρ : AE) (s : AS) | cont (ρ : AE) (s : AS) | exc (x : AV) (ρ : AE) (s : AS) | stuck
/-- an expression, then a statement's rest -/
def sBind {α : Type} (ρ : AE) (m : MM α) (f : α → AS → SRs) : AS → SRs := fun s => match m s with
  | .ok a s' => f a s'
  | .exc x s' => .exc x ρ s'
  | .stuck => .stuck
def sSeq (r : SRs) (f : AE → AS → SRs) : SRs := match r with
  | .next ρ s => f ρ s
  | o => o
/-- a for's loop over items -/
def forL (f : AV → AE → AS → SRs) : List AV → AE → AS → SRs
  | [], ρ, s => .next ρ s
  | x :: xs, ρ, s => match f x ρ s with
    | .next ρ' s' => forL f xs ρ' s'
    | .cont ρ' s' => forL f xs ρ' s'
    | .brk ρ' s' => .next ρ' s'
    | o => o
def forC (f : AV → AE → AS → SRs) (k : Nat) : Nat → Nat → AE → AS → SRs
  | 0, i, ρ, s => match itemAt k i s with
    | .ok none s' => .next ρ s'
    | _ => .stuck
  | m + 1, i, ρ, s => match itemAt k i s with
    | .ok none s' => .next ρ s'
    | .ok (some x) s0 => match f x ρ s0 with
      | .next ρ' s' => forC f k m (i + 1) ρ' s'
      | .cont ρ' s' => forC f k m (i + 1) ρ' s'
      | .brk ρ' s' => .next ρ' s'
      | o => o
    | _ => .stuck
/-- a while's loop, so many turns at most -/
def whileL (t : AE → MM Bool) (f : AE → AS → SRs) : Nat → AE → AS → SRs
  | 0, _, _ => .stuck
  | n + 1, ρ, s => sBind ρ (t ρ) (fun b s' => if b = true then (match f ρ s' with
    | .next ρ' s2 => whileL t f n ρ' s2
    | .cont ρ' s2 => whileL t f n ρ' s2
    | .brk ρ' s2 => .next ρ' s2
    | o => o) else .next ρ s') s
/-- fields as they come to stand: the last one first -/
def revZ {α : Type} : List Str → List α → List (Str × α) → List (Str × α)
  | f :: fs, v :: vs, acc => revZ fs vs ((f, v) :: acc)
  | _, _, acc => acc
/-- what is left of try: body / except x as n: m = n -/
def tryR (i j : Nat) : SRs → SRs
  | .exc x ρ s => if i < ρ.length ∧ j < ρ.length then .next (((ρ.set i (some x)).set j (some x)).set i none) s else .stuck
  | o => o
def FUW : Nat := 1000000
def evB (st : CS → AE → AS → SRs) : List CS → AE → AS → SRs
  | [], ρ, s => .next ρ s
  | c :: cs, ρ, s => sSeq (st c ρ s) (evB st cs)
def evS (call : Nat → List AV → Bool → MM AV) : Nat → CS → AE → AS → SRs
  | 0, _, _, _ => .stuck
  | n + 1, c, ρ, s => match c with
    | .expr e => sBind ρ (evE call n e ρ) (fun _ s' => .next ρ s') s
    | .asg t e => sBind ρ (evE call n e ρ) (fun v s' => match asgT s'.cells t v ρ with | some ρ' => .next ρ' s' | none => .stuck) s
    | .setIx a i e => sBind ρ (MM.bind (evE call n e ρ) fun v => MM.bind (evE call n a ρ) fun x => MM.bind (evE call n i ρ) fun y => setIxM x y v) (fun _ s' => .next ρ s') s
    | .setAt a f e => sBind ρ (MM.bind (evE call n e ρ) fun v => MM.bind (evE call n a ρ) fun x => setAtM x f v) (fun _ s' => .next ρ s') s
    | .never => .stuck
    | .ifS c a b => sBind ρ (MM.bind (evE call n c ρ) truM) (fun t s' => if t = true then evB (evS call n) a ρ s' else evB (evS call n) b ρ s') s
    | .forS t it body => sBind ρ (evI (fun e => evE call n e ρ) it) (fun src s' =>
        let turn : AV → AE → AS → SRs := fun x ρ' s1 => match asgT s1.cells t x ρ' with | some ρ2 => evB (evS call n) body ρ2 s1 | none => .stuck
        match src with
        | .items xs => forL turn xs ρ s'
        | .cell k m => forC turn k m 0 ρ s') s
    | .whileS c body => whileL (fun ρ => MM.bind (evE call n c ρ) truM) (fun ρ s => evB (evS call n) body ρ s) FUW ρ s
    | .tryK body i j => tryR i j (evB (evS call n) body ρ s)
    | .raiseS c fs es => sBind ρ (evList (fun e => evE call n e ρ) es) (fun vs s' => if vs.length = fs.length then .exc (.exc c (revZ fs vs [])) ρ s' else .stuck) s
    | .ret e => sBind ρ (evE call n e ρ) (fun v s' => .ret v s') s
    | .retN => .ret .non s

/-! ### calls -/
structure FnD where
  name : Str
  nps : Nat
  nsl : Nat
  body : List CS
  hd : Bool := false
/-- the slots where a def begins; where it hears, what is heard stands behind what is asked -/
def FnD.env0 (f : FnD) (args : List AV) : AE := match f.hd with
  | true => none :: (args.map some ++ List.replicate (f.nsl - f.nps - 1) none)
  | false => args.map some ++ List.replicate (f.nsl - f.nps) none

/-- a def left: s0 ahead of the call -/
def leaveF (s0 : AS) (keep : Bool) : SRs → Rs AV
  | .next _ s => leaveV s0 keep .non s
  | .ret v s => leaveV s0 keep v s
  | .exc x _ s => leaveX s0 keep x s
  | _ => .stuck

def FU : Nat := 40
def plainF (call : Nat → List AV → Bool → MM AV) (f : FnD) (args : List AV) (keep : Bool) : MM AV :=
  fun s => leaveF s keep (evB (evS call FU) f.body (f.env0 args) { cells := s.cells, opn := false })
def callF (p : List FnD) : Nat → Nat → List AV → Bool → MM AV
  | 0, _, _, _ => stuck
  | d + 1, k, args, keep => match p[k]? with
    | none => stuck
    | some f => if args.length = f.nps then
        (match keep || f.hd with
        | true => plainF (callF p d) f args keep
        | false => frameM (topsO (topV DPT) args) (plainF (callF p d) f args keep))
      else stuck
end Ev

set_option linter.all false
set_option maxRecDepth 100000
set_option maxHeartbeats 1000000
/-! EvB: how the evaluator's values and cells stand in the layer's heap. Own work. -/
namespace Ev
open PySem PySem.Spec PyProof.Rows L2

/-- what the program's defs and classes are called by -/
structure GS where
  K : PySem.W.Frag
  fnA : Nat → Option Addr
  clA : Nat → Option Addr
  exA : Nat → Option Addr
  T : List (Addr × Str)
/-- at a: an exception of the class at C, its dict at dx -/
def exT (C dx a : Addr) : HO := .ext fun h => ∃ (oe : Obj) (vs : Array Value), h.get? a = some oe ∧ Zc (.ref C) (some dx) oe ∧ oe.data = .fields vs

/-- a key that is a tuple -/
def tA (k : List Key) : AV := .tup (k.map kA)
/-- a dict of either kind: its keys, its values -/
def DctH (o : HO) (as : List AV) (vs : List V) : Prop :=
  (∃ ks : List (Key × V), o = .dK ks ∧ ks.map (fun p => kA p.1) = as ∧ ks.map (·.2) = vs) ∨ ∃ ks : List (List Key × V), o = .dT ks ∧ ks.map (fun p => tA p.1) = as ∧ ks.map (·.2) = vs
theorem DctH.len {o : HO} {as : List AV} {vs : List V} (h : DctH o as vs) : as.length = vs.length := by
  rcases h with ⟨ks, _, rfl, rfl⟩ | ⟨ks, _, rfl, rfl⟩ <;> simp
theorem DctH.k {ks : List (Key × V)} {as : List AV} (h : ks.map (fun p => kA p.1) = as) : DctH (.dK ks) as (ks.map (·.2)) := .inl ⟨ks, rfl, h, rfl⟩
theorem DctH.t {ks : List (List Key × V)} {as : List AV} (h : ks.map (fun p => tA p.1) = as) : DctH (.dT ks) as (ks.map (·.2)) := .inr ⟨ks, rfl, h, rfl⟩
def isTx : V → Bool
  | .str _ => true
  | _ => false
/-- a tuple: made here, or one of the modules' whose items are texts -/
def SqX (K : PySem.W.Frag) (F : Hp) (a : Addr) (vs : List V) : Prop := F a = some (.tup vs) ∨ (SqT K F a vs ∧ vs.all isTx = true)
theorem SqX.t {K : PySem.W.Frag} {F : Hp} {a : Addr} {vs : List V} (h : SqX K F a vs) : SqT K F a vs := h.elim (fun e => .inl (.inl e)) (·.1)
mutual
inductive Den (G : GS) (F : Hp) (ι : List Addr) : V → AV → Prop
  | non : Den G F ι .non .non
  | bl (b : Bool) : Den G F ι (.bl b) (.bl b)
  | int (i : Int) : Den G F ι (.int i) (.int i)
  | str (x : Str) : Den G F ι (.str x) (.str x)
  | fn {k : Nat} {f : Addr} : G.fnA k = some f → Den G F ι (.ref f) (.fn k)
  | tup {a : Addr} {vs : List V} {xs : List AV} : SqX G.K F a vs → DenAll G F ι vs xs → Den G F ι (.ref a) (.tup xs)
  | lst {a : Addr} {vs : List V} {xs : List AV} : SqL G.K F a vs → DenAll G F ι vs xs → Den G F ι (.ref a) (.lst xs)
  | dctK {a : Addr} {o : HO} {vs : List V} {kvs : List (AV × AV)} : F a = some o → DctH o (kvs.map (·.1)) vs → DenAll G F ι vs (kvs.map (·.2)) → Den G F ι (.ref a) (.dct kvs)
  | ins {a C dx : Addr} {c : Nat} {vfs : List (Str × V)} {fs : List (Str × AV)} : G.clA c = some C → F a = some (.ins C dx vfs) → vfs.map (·.1) = fs.map (·.1) → DenAll G F ι (vfs.map (·.2)) (fs.map (·.2)) → Den G F ι (.ref a) (.ins c fs)
  | ref {n : Nat} {a : Addr} : ι[n]? = some a → Den G F ι (.ref a) (.ref n)
  | exc {a C dx : Addr} {c : Nat} {vfs : List (Str × V)} {fs : List (Str × AV)} : G.exA c = some C → F a = some (exT C dx a) → F dx = some (.xd vfs) → vfs.map (·.1) = fs.map (·.1) → DenAll G F ι (vfs.map (·.2)) (fs.map (·.2)) → Den G F ι (.ref a) (.exc c fs)
inductive DenAll (G : GS) (F : Hp) (ι : List Addr) : List V → List AV → Prop
  | nil : DenAll G F ι [] []
  | cons {v : V} {vs : List V} {x : AV} {xs : List AV} : Den G F ι v x → DenAll G F ι vs xs → DenAll G F ι (v :: vs) (x :: xs)
end

section
variable {G : GS} {F F' : Hp} {ι ι' : List Addr}
theorem rd_mono {a : Addr} {o : HO} (s : Same F F') (h : Rd F a o) : Rd F' a o := by
  rcases h with h | ⟨u, h⟩
  · exact .inl (s _ _ h)
  · exact .inr ⟨u, s _ _ h⟩
theorem sqT_mono {K : PySem.W.Frag} {a : Addr} {vs : List V} (s : Same F F') (h : SqT K F a vs) : SqT K F' a vs := by
  rcases h with h | h
  · exact .inl (rd_mono s h)
  · exact .inr h
theorem sqX_mono {K : PySem.W.Frag} {a : Addr} {vs : List V} (s : Same F F') (h : SqX K F a vs) : SqX K F' a vs := h.elim (fun e => .inl (s _ _ e)) fun z => .inr ⟨sqT_mono s z.1, z.2⟩
theorem sqL_mono {K : PySem.W.Frag} {a : Addr} {vs : List V} (s : Same F F') (h : SqL K F a vs) : SqL K F' a vs := by
  rcases h with h | h
  · exact .inl (rd_mono s h)
  · exact .inr h
theorem pre_get {n : Nat} {a : Addr} (p : ι <+: ι') (h : ι[n]? = some a) : ι'[n]? = some a := by
  obtain ⟨t, rfl⟩ := p
  obtain ⟨hn, _⟩ := List.getElem?_eq_some_iff.mp h
  rw [List.getElem?_append_left hn]
  exact h
mutual
theorem Den.mono (s : Same F F') (p : ι <+: ι') : ∀ {v : V} {x : AV}, Den G F ι v x → Den G F' ι' v x
  | _, _, .non => .non
  | _, _, .bl b => .bl b
  | _, _, .int i => .int i
  | _, _, .str x => .str x
  | _, _, .fn h => .fn h
  | _, _, .tup h r => .tup (sqX_mono s h) (DenAll.mono s p r)
  | _, _, .lst h r => .lst (sqL_mono s h) (DenAll.mono s p r)
  | _, _, .dctK h e r => .dctK (s _ _ h) e (DenAll.mono s p r)
  | _, _, .ins c h e r => .ins c (s _ _ h) e (DenAll.mono s p r)
  | _, _, .ref h => .ref (pre_get p h)
  | _, _, .exc c h1 h2 e r => .exc c (s _ _ h1) (s _ _ h2) e (DenAll.mono s p r)
theorem DenAll.mono (s : Same F F') (p : ι <+: ι') : ∀ {vs : List V} {xs : List AV}, DenAll G F ι vs xs → DenAll G F' ι' vs xs
  | _, _, .nil => .nil
  | _, _, .cons h r => .cons (Den.mono s p h) (DenAll.mono s p r)
end
theorem DenAll.length : ∀ {vs : List V} {xs : List AV}, DenAll G F ι vs xs → vs.length = xs.length
  | _, _, .nil => rfl
  | _, _, .cons _ r => by simp [DenAll.length r]
theorem DenAll.get : ∀ {vs : List V} {xs : List AV} {i : Nat} {x : AV}, DenAll G F ι vs xs → xs[i]? = some x → ∃ v, vs[i]? = some v ∧ Den G F ι v x
  | _, _, _, _, .nil, e => by simp at e
  | _, _, 0, _, .cons h r, e => by simp at e; subst e; exact ⟨_, rfl, h⟩
  | _, _, i + 1, _, .cons h r, e => by
    obtain ⟨v, e1, d⟩ := DenAll.get (i := i) r (by simpa using e)
    exact ⟨v, by simpa using e1, d⟩
theorem DenAll.getV : ∀ {vs : List V} {xs : List AV} {i : Nat} {v : V}, DenAll G F ι vs xs → vs[i]? = some v → ∃ x, xs[i]? = some x ∧ Den G F ι v x
  | _, _, _, _, .nil, e => by simp at e
  | _, _, 0, _, .cons h r, e => by simp at e; subst e; exact ⟨_, rfl, h⟩
  | _, _, i + 1, _, .cons h r, e => by
    obtain ⟨v, e1, d⟩ := DenAll.getV (i := i) r (by simpa using e)
    exact ⟨v, by simpa using e1, d⟩
theorem DenAll.append : ∀ {vs ws : List V} {xs ys : List AV}, DenAll G F ι vs xs → DenAll G F ι ws ys → DenAll G F ι (vs ++ ws) (xs ++ ys)
  | _, _, _, _, .nil, t => t
  | _, _, _, _, .cons h r, t => .cons h (DenAll.append r t)
theorem DenAll.take : ∀ {vs : List V} {xs : List AV} (n : Nat), DenAll G F ι vs xs → DenAll G F ι (vs.take n) (xs.take n)
  | _, _, 0, _ => by simp; exact .nil
  | _, _, _ + 1, .nil => by simp; exact .nil
  | _, _, n + 1, .cons h r => .cons h (DenAll.take n r)
theorem DenAll.drop : ∀ {vs : List V} {xs : List AV} (n : Nat), DenAll G F ι vs xs → DenAll G F ι (vs.drop n) (xs.drop n)
  | _, _, 0, r => r
  | _, _, _ + 1, .nil => by simp; exact .nil
  | _, _, n + 1, .cons _ r => DenAll.drop n r
theorem DenAll.set : ∀ {vs : List V} {xs : List AV} {v : V} {x : AV} (i : Nat), Den G F ι v x → DenAll G F ι vs xs → DenAll G F ι (vs.set i v) (xs.set i x)
  | _, _, _, _, _, _, .nil => .nil
  | _, _, _, _, 0, d, .cons _ r => .cons d r
  | _, _, _, _, i + 1, d, .cons h r => .cons h (DenAll.set i d r)
theorem DenAll.one {v : V} {x : AV} (h : Den G F ι v x) : DenAll G F ι [v] [x] := .cons h .nil
end

/-! ### cells -/
/-- a cell's object as it stands at a -/
def CellOk (G : GS) (F : Hp) (ι : List Addr) (H : Hp) (a : Addr) : AO → Prop
  | .lst xs => F a = none ∧ ∃ vs, H a = some (.lst vs) ∧ DenAll G F ι vs xs
  | .dct kvs => F a = none ∧ ∃ (o : HO) (vs : List V), H a = some o ∧ DctH o (kvs.map (·.1)) vs ∧ DenAll G F ι vs (kvs.map (·.2))
  | .ins c fs => F a = none ∧ ∃ C dx vfs, H a = some (.ins C dx vfs) ∧ G.clA c = some C ∧ vfs.map (·.1) = fs.map (·.1) ∧ DenAll G F ι (vfs.map (·.2)) (fs.map (·.2))
  | .frz v => Den G F ι (.ref a) v
theorem CellOk.mono {G : GS} {F F' : Hp} {ι ι' : List Addr} {H H' : Hp} {a : Addr} {o : AO} (sm : Same F F') (p : ι <+: ι') (hF : F a = none → F' a = none) (hH : ∀ u, H a = some u → H' a = some u) (h : CellOk G F ι H a o) : CellOk G F' ι' H' a o := by
  cases o with
  | lst xs => obtain ⟨h1, vs, h2, h3⟩ := h; exact ⟨hF h1, vs, hH _ h2, h3.mono sm p⟩
  | dct kvs => obtain ⟨h1, ks, vs, h2, h3, h4⟩ := h; exact ⟨hF h1, ks, vs, hH _ h2, h3, h4.mono sm p⟩
  | ins c fs => obtain ⟨h1, C, dx, vfs, h2, h3, h4, h5⟩ := h; exact ⟨hF h1, C, dx, vfs, hH _ h2, h3, h4, h5.mono sm p⟩
  | frz v => exact Den.mono sm p h

/-- no code object, no table of such -/
def plainO : HO → Prop
  | .ext _ => False | .tbl _ => False | _ => True
/-- the tables of code objects stand, and are nobody's -/
structure TabR (G : GS) (B : Hp) (F : Hp) (ι : List Addr) (H : Hp) : Prop where
  ok : LamX.Tabs G.T H
  nf : ∀ p ∈ G.T, F p.1 = none
  nb : ∀ p ∈ G.T, B p.1 = none
  ni : ∀ p ∈ G.T, p.1 ∉ ι
theorem TabR.at {G : GS} {B : Hp} {F : Hp} {ι : List Addr} {H : Hp} (t : TabR G B F ι H) {p : Addr × Str} (hp : p ∈ G.T) : ∃ ps, H p.1 = some (.tbl ps) := let ⟨ps, h, _⟩ := t.ok p hp; ⟨ps, h⟩
/-- an object that is no table and no code object is made, or changed -/
theorem tabs_upd {T : List (Addr × Str)} {H : Hp} {a : Addr} {o : HO} (t : LamX.Tabs T H) (h : ∀ u, H a = some u → plainO u) : LamX.Tabs T (upd H a o) := fun p hp => by
  obtain ⟨ps, h1, h2, h3⟩ := t p hp
  have ne : ∀ {b : Addr} {u : HO}, H b = some u → ¬ plainO u → b ≠ a := fun {b u} e n z => by subst z; exact n (h _ e)
  refine ⟨ps, by rw [upd_ne (ne h1 id)]; exact h1, h2, fun pos cv hc => ?_⟩
  obtain ⟨c, e1, e2⟩ := h3 pos cv hc
  exact ⟨c, e1, by rw [upd_ne (ne e2 id)]; exact e2⟩
theorem TabR.ne {G : GS} {B : Hp} {F : Hp} {ι : List Addr} {H : Hp} (t : TabR G B F ι H) {a : Addr} (h : ∀ u, H a = some u → plainO u) : ∀ p ∈ G.T, p.1 ≠ a := fun p hp z => by
  obtain ⟨ps, e⟩ := t.at hp
  rw [z] at e
  exact h _ e
section
variable {G : GS} {B : Hp} {F : Hp} {ι : List Addr} {H : Hp} {p : Addr}
theorem TabR.neN (t : TabR G B F ι H) (hp : H p = none) : ∀ q ∈ G.T, q.1 ≠ p := t.ne fun u e => by rw [hp] at e; cases e
theorem TabR.okN (t : TabR G B F ι H) (hp : H p = none) {o : HO} : LamX.Tabs G.T (upd H p o) := tabs_upd t.ok fun u e => by rw [hp] at e; cases e
theorem TabR.fresh (t : TabR G B F ι H) (hp : H p = none) {o o2 : HO} : TabR G B (upd F p o2) ι (upd H p o) :=
  ⟨t.okN hp, fun q hq => by rw [upd_ne (t.neN hp q hq)]; exact t.nf q hq, t.nb, t.ni⟩
theorem TabR.newCell (t : TabR G B F ι H) (hp : H p = none) {o : HO} : TabR G B F (ι ++ [p]) (upd H p o) :=
  ⟨t.okN hp, t.nf, t.nb, fun q hq z => by
    rcases List.mem_append.mp z with z | z
    · exact t.ni q hq z
    · simp at z
      exact t.neN hp q hq z⟩
theorem TabR.hold (t : TabR G B F ι H) (hp : H p = none) {o o2 : HO} : TabR G (upd B p o2) F ι (upd H p o) :=
  ⟨t.okN hp, t.nf, fun q hq => by rw [upd_ne (t.neN hp q hq)]; exact t.nb q hq, t.ni⟩
theorem TabR.neB {o : HO} (t : TabR G (upd B p o) F ι H) : ∀ q ∈ G.T, q.1 ≠ p := fun q hq z => by
  have := t.nb q hq
  rw [z, upd_same] at this
  cases this
theorem TabR.held {o o2 : HO} (t : TabR G (upd B p o) F ι H) (hp : ∀ u, H p = some u → plainO u) {o3 : HO} : TabR G (upd B p o2) F ι (upd H p o3) :=
  ⟨tabs_upd t.ok hp, t.nf, fun q hq => by
    have := t.nb q hq
    rw [upd_ne (t.neB q hq)] at this ⊢
    exact this, t.ni⟩
theorem TabR.release {o o2 : HO} (t : TabR G (upd B p o) F ι H) : TabR G B (upd F p o2) ι H :=
  ⟨t.ok, fun q hq => by rw [upd_ne (t.neB q hq)]; exact t.nf q hq, fun q hq => by
    have := t.nb q hq
    rw [upd_ne (t.neB q hq)] at this
    exact this, t.ni⟩
theorem TabR.toCell {o : HO} (t : TabR G (upd B p o) F ι H) : TabR G B F (ι ++ [p]) H :=
  ⟨t.ok, t.nf, fun q hq => by
    have := t.nb q hq
    rw [upd_ne (t.neB q hq)] at this
    exact this, fun q hq z => by
    rcases List.mem_append.mp z with z | z
    · exact t.ni q hq z
    · simp at z
      exact t.neB q hq z⟩
theorem TabR.put (t : TabR G B F ι H) (hp : ∀ u, H p = some u → plainO u) {o : HO} : TabR G B F ι (upd H p o) := ⟨tabs_upd t.ok hp, t.nf, t.nb, t.ni⟩
end
/-- B: what others hold and may change; it is let alone -/
structure Rel (G : GS) (B : Hp) (F : Hp) (ι : List Addr) (H : Hp) (s : AS) : Prop where
  sub : Same F H
  out : ∀ a o, B a = some o → H a = some o ∧ F a = none ∧ a ∉ ι
  len : ι.length = s.cells.length
  nd : ι.Nodup
  here : ∀ a ∈ ι, ∃ o, H a = some o
  cell : ∀ (n : Nat) (a : Addr) (o : AO), ι[n]? = some a → s.cells[n]? = some o → CellOk G F ι H a o
  tab : TabR G B F ι H

/-- the cells that a value names -/
inductive RefIn (j : Nat) : AV → Prop
  | ref : RefIn j (.ref j)
  | tup {x : AV} {xs : List AV} : x ∈ xs → RefIn j x → RefIn j (.tup xs)
  | lst {x : AV} {xs : List AV} : x ∈ xs → RefIn j x → RefIn j (.lst xs)
  | dctK {p : AV × AV} {kvs : List (AV × AV)} : p ∈ kvs → RefIn j p.1 → RefIn j (.dct kvs)
  | dctV {p : AV × AV} {kvs : List (AV × AV)} : p ∈ kvs → RefIn j p.2 → RefIn j (.dct kvs)
  | ins {p : Str × AV} {c : Nat} {fs : List (Str × AV)} : p ∈ fs → RefIn j p.2 → RefIn j (.ins c fs)
  | exc {p : Str × AV} {c : Nat} {fs : List (Str × AV)} : p ∈ fs → RefIn j p.2 → RefIn j (.exc c fs)
def RefO (j : Nat) : AO → Prop
  | .lst xs => ∃ x ∈ xs, RefIn j x
  | .dct kvs => ∃ p ∈ kvs, RefIn j p.1 ∨ RefIn j p.2
  | .ins _ fs => ∃ p ∈ fs, RefIn j p.2
  | .frz v => RefIn j v

/-- cells only come to be; what is changed while opn is false names no later cell anew -/
structure Clo (s s' : AS) : Prop where
  len : s.cells.length ≤ s'.cells.length
  opn : s.opn = true → s'.opn = true
  old : s'.opn = false → ∀ n, n < s.cells.length → ∀ o', s'.cells[n]? = some o' → ∀ j, RefO j o' → j ≤ n ∨ ∃ o, s.cells[n]? = some o ∧ RefO j o
theorem Clo.refl (s : AS) : Clo s s := ⟨Nat.le_refl _, id, fun _ _ _ o' h _ r => .inr ⟨o', h, r⟩⟩
theorem Clo.trans {a b c : AS} (p : Clo a b) (q : Clo b c) : Clo a c where
  len := Nat.le_trans p.len q.len
  opn := fun h => q.opn (p.opn h)
  old := fun h n hn o' ho j hj => by
    have hb : b.opn = false := by
      cases e : b.opn with
      | false => rfl
      | true => rw [q.opn e] at h; cases h
    rcases q.old h n (Nat.lt_of_lt_of_le hn p.len) o' ho j hj with e | ⟨o, e1, e2⟩
    · exact .inl e
    · exact p.old hb n hn o e1 j e2
theorem Clo.keep {s s' : AS} (h : s.cells <+: s'.cells) (e : s'.opn = s.opn) : Clo s s' := by
  obtain ⟨t, ht⟩ := h
  refine ⟨by rw [← ht]; simp, fun q => by rw [e]; exact q, fun _ n hn o' ho j hj => .inr ⟨o', ?_, hj⟩⟩
  rw [← ht, List.getElem?_append_left hn] at ho
  exact ho

structure Stp (G : GS) (F : Hp) (ι : List Addr) (s : AS) (F' : Hp) (ι' : List Addr) (s' : AS) : Prop where
  sm : Same F F'
  pre : ι <+: ι'
  clo : Clo s s'
theorem Stp.refl {G : GS} {F : Hp} {ι : List Addr} {s : AS} : Stp G F ι s F ι s := ⟨Same.refl _, List.prefix_refl _, Clo.refl _⟩
theorem Stp.trans {G : GS} {F F1 F2 : Hp} {ι ι1 ι2 : List Addr} {s s1 s2 : AS} (a : Stp G F ι s F1 ι1 s1) (b : Stp G F1 ι1 s1 F2 ι2 s2) : Stp G F ι s F2 ι2 s2 :=
  ⟨a.sm.trans b.sm, a.pre.trans b.pre, a.clo.trans b.clo⟩
theorem Den.stp {G : GS} {F F' : Hp} {ι ι' : List Addr} {s s' : AS} {v : V} {x : AV} (d : Den G F ι v x) (p : Stp G F ι s F' ι' s') : Den G F' ι' v x := d.mono p.sm p.pre
theorem DenAll.stp {G : GS} {F F' : Hp} {ι ι' : List Addr} {s s' : AS} {v : List V} {x : List AV} (d : DenAll G F ι v x) (p : Stp G F ι s F' ι' s') : DenAll G F' ι' v x := d.mono p.sm p.pre

/-- the slots -/
def EnvR (G : GS) (F : Hp) (ι : List Addr) (σ : L2.St) (ρ : AE) : Prop :=
  σ.length = ρ.length ∧ ∀ (i : Nat) (x : AV), ρ[i]? = some (some x) → ∃ v, σ[i]? = some (some v) ∧ Den G F ι v x
section
variable {G : GS} {F F' : Hp} {ι ι' : List Addr} {s s' : AS} {σ : L2.St} {ρ : AE}
theorem EnvR.stp (e : EnvR G F ι σ ρ) (p : Stp G F ι s F' ι' s') : EnvR G F' ι' σ ρ :=
  ⟨e.1, fun i x h => let ⟨v, h1, h2⟩ := e.2 i x h; ⟨v, h1, h2.stp p⟩⟩
theorem EnvR.set {i : Nat} {v : V} {x : AV} (e : EnvR G F ι σ ρ) (d : Den G F ι v x) : EnvR G F ι (σ.set i (some v)) (ρ.set i (some x)) := by
  refine ⟨by simp [e.1], fun j y h => ?_⟩
  by_cases hj : i = j
  · subst hj
    have hl : i < ρ.length := by
      have := (List.getElem?_eq_some_iff.mp h).1
      simpa using this
    rw [List.getElem?_set_self hl] at h
    cases h
    exact ⟨v, by rw [List.getElem?_set_self (by rw [e.1]; exact hl)], d⟩
  · rw [List.getElem?_set_ne hj] at h
    obtain ⟨w, h1, h2⟩ := e.2 j y h
    exact ⟨w, by rw [List.getElem?_set_ne hj]; exact h1, h2⟩
theorem EnvR.none {i : Nat} (e : EnvR G F ι σ ρ) : EnvR G F ι (σ.set i Option.none) (ρ.set i Option.none) := by
  refine ⟨by simp [e.1], fun j y h => ?_⟩
  by_cases hj : i = j
  · subst hj
    have hl : i < ρ.length := by
      have := (List.getElem?_eq_some_iff.mp h).1
      simpa using this
    rw [List.getElem?_set_self hl] at h
    cases h
  · rw [List.getElem?_set_ne hj] at h
    obtain ⟨w, h1, h2⟩ := e.2 j y h
    exact ⟨w, by rw [List.getElem?_set_ne hj]; exact h1, h2⟩
theorem EnvR.wipe (e : EnvR G F ι σ ρ) : ∀ vs : List Nat, EnvR G F ι (L2.wipe σ vs) (wipeE ρ vs)
  | [] => e
  | v :: vs => (EnvR.wipe e vs).none
end

/-- an exception in flight -/
def ExD (G : GS) (F : Hp) (ι : List Addr) (cls : Value) (d : Option Addr) : AV → Prop
  | .exc c fs => ∃ C, G.exA c = some C ∧ cls = .ref C ∧ ∃ dx vfs, d = some dx ∧ F dx = some (.xd vfs) ∧ vfs.map (·.1) = fs.map (·.1) ∧ DenAll G F ι (vfs.map (·.2)) (fs.map (·.2))
  | _ => False

/-- what is wanted behind a run of the evaluator -/
def Po {α β : Type} (G : GS) (B : Hp) (E : XK) (F : Hp) (ι : List Addr) (s : AS) (D : Hp → List Addr → β → α → Prop) (r : Rs α) (Q : β → Hp → Prop) : Prop :=
  match r with
  | .ok a s' => ∀ v H' F' ι', Stp G F ι s F' ι' s' → Rel G B F' ι' H' s' → D F' ι' v a → Q v H'
  | .exc x s' => ∀ cls d H' F' ι', Stp G F ι s F' ι' s' → Rel G B F' ι' H' s' → ExD G F' ι' cls d x → E cls d H'
  | .stuck => False

section
variable {α β γ δ : Type} {G : GS} {B : Hp} {E : XK} {F F' : Hp} {ι ι' : List Addr} {s s' : AS} {D : Hp → List Addr → β → α → Prop} {D' : Hp → List Addr → δ → γ → Prop} {Q : β → Hp → Prop} {H : Hp}
theorem Po.base {r : Rs α} (p : Stp G F ι s F' ι' s') (h : Po G B E F ι s D r Q) : Po G B E F' ι' s' D r Q := by
  cases r with
  | ok a s2 => exact fun v H' F2 ι2 st => h v H' F2 ι2 (p.trans st)
  | exc x s2 => exact fun c d H' F2 ι2 st => h c d H' F2 ι2 (p.trans st)
  | stuck => exact h
/-- the first part of a run -/
theorem Po.firstE {m : MM α} {f : α → MM γ} {R : δ → Hp → Prop} (h : Po G B E F ι s D' (MM.bind m f s) R)
    (k : ∀ v H1 F1 ι1 a s1, m s = .ok a s1 → Stp G F ι s F1 ι1 s1 → Rel G B F1 ι1 H1 s1 → D F1 ι1 v a → Po G B E F1 ι1 s1 D' (f a s1) R → Q v H1) : Po G B E F ι s D (m s) Q := by
  unfold MM.bind at h
  revert h k
  cases m s with
  | ok a s1 => exact fun h k v H1 F1 ι1 st R1 d => k v H1 F1 ι1 a s1 rfl st R1 d (Po.base st h)
  | exc x s1 => exact fun h _ => h
  | stuck => exact fun h _ => h
theorem Po.first {m : MM α} {f : α → MM γ} {R : δ → Hp → Prop} (h : Po G B E F ι s D' (MM.bind m f s) R)
    (k : ∀ v H1 F1 ι1 a s1, Stp G F ι s F1 ι1 s1 → Rel G B F1 ι1 H1 s1 → D F1 ι1 v a → Po G B E F1 ι1 s1 D' (f a s1) R → Q v H1) : Po G B E F ι s D (m s) Q := by
  unfold MM.bind at h
  revert h
  cases m s with
  | ok a s1 => exact fun h v H1 F1 ι1 st R1 d => k v H1 F1 ι1 a s1 st R1 d (Po.base st h)
  | exc x s1 => exact fun h => h
  | stuck => exact fun h => h
theorem Po.ok {a : α} {v : β} (h : Po G B E F ι s D (.ok a s') Q) (st : Stp G F ι s F' ι' s') (R : Rel G B F' ι' H s') (d : D F' ι' v a) : Q v H := h v H F' ι' st R d
theorem Po.mono {r : Rs α} {Q' : β → Hp → Prop} (h : Po G B E F ι s D r Q) (k : ∀ v H, Q v H → Q' v H) : Po G B E F ι s D r Q' := by
  cases r with
  | ok a s2 => exact fun v H' F2 ι2 st R d => k _ _ (h v H' F2 ι2 st R d)
  | exc x s2 => exact h
  | stuck => exact h
end

/-! ### reading -/
section
variable {G : GS} {B : Hp} {F : Hp} {ι : List Addr} {H : Hp} {s : AS}
theorem Rel.cellOf {n : Nat} {o : AO} (R : Rel G B F ι H s) (h : s.cells[n]? = some o) : ∃ a, ι[n]? = some a ∧ CellOk G F ι H a o := by
  have hn : n < ι.length := by rw [R.len]; exact (List.getElem?_eq_some_iff.mp h).1
  exact ⟨ι[n], by simp [hn], R.cell n _ o (by simp [hn]) h⟩
theorem DenAll.py (n : Nat) (ih : ∀ {v x d}, Den G F ι v x → toPy s.cells n x = some d → Dp G.K H v d) : ∀ {vs : List V} {xs : List AV} {ds : List PyData}, DenAll G F ι vs xs → mapO (toPy s.cells n) xs = some ds → DpAll G.K H vs ds
  | _, _, _, .nil, e => by simp [mapO] at e; subst e; exact .nil
  | _, _, _, .cons (x := x) (xs := xs) d r, e => by
    unfold mapO at e
    cases e1 : toPy s.cells n x with
    | none => rw [e1] at e; cases e
    | some y =>
      rw [e1] at e
      cases e2 : mapO (toPy s.cells n) xs with
      | none => rw [e2] at e; cases e
      | some ys =>
        rw [e2] at e
        cases e
        exact .cons (ih d e1) (DenAll.py n ih r e2)
theorem Rel.sqL {a : Addr} {vs : List V} (R : Rel G B F ι H s) (h : SqL G.K F a vs) : SqL G.K H a vs := sqL_mono R.sub h
theorem Rel.sqT {a : Addr} {vs : List V} (R : Rel G B F ι H s) (h : SqX G.K F a vs) : SqT G.K H a vs := sqT_mono R.sub h.t
theorem Rel.py (R : Rel G B F ι H s) : ∀ (n : Nat) {v : V} {x : AV} {d : PyData}, Den G F ι v x → toPy s.cells n x = some d → Dp G.K H v d
  | 0, _, _, _, _, e => by simp [toPy] at e
  | n + 1, v, x, d, h, e => by
    have ih := @Rel.py R n
    cases h with
    | non => simp [toPy] at e; subst e; exact .non
    | bl b => simp [toPy] at e; subst e; exact .bl b
    | int i => simp [toPy] at e; subst e; exact .int i
    | str z => simp [toPy] at e; subst e; exact .str z
    | fn _ => simp [toPy] at e
    | dctK _ _ _ => simp [toPy] at e
    | ins _ _ _ _ => simp [toPy] at e
    | exc _ _ _ _ _ => simp [toPy] at e
    | @tup a vs xs q r =>
      simp only [toPy] at e
      cases e2 : mapO (toPy s.cells n) xs with
      | none => rw [e2] at e; cases e
      | some ds =>
        rw [e2] at e; cases e
        exact .tup (R.sqT q) (DenAll.py n ih r e2)
    | @lst a vs xs q r =>
      simp only [toPy] at e
      cases e2 : mapO (toPy s.cells n) xs with
      | none => rw [e2] at e; cases e
      | some ds =>
        rw [e2] at e; cases e
        exact .lst (R.sqL q) (DenAll.py n ih r e2)
    | @ref k a hk =>
      simp only [toPy] at e
      cases ec : s.cells[k]? with
      | none => rw [ec] at e; cases e
      | some o =>
        obtain ⟨a', ha', ok⟩ := R.cellOf ec
        rw [hk] at ha'; cases ha'
        rw [ec] at e
        cases o with
        | lst xs =>
          simp only at e
          cases e2 : mapO (toPy s.cells n) xs with
          | none => rw [e2] at e; cases e
          | some ds =>
            rw [e2] at e; cases e
            obtain ⟨_, vs, hH, r⟩ := ok
            exact .lst (SqL.of hH) (DenAll.py n ih r e2)
        | frz w => exact ih ok e
        | dct _ => simp at e
        | ins _ _ => simp at e
theorem Rel.seq (R : Rel G B F ι H s) {v : V} {x : AV} {b : Bool} {xs : List AV} (h : Den G F ι v x) (e : seqOf s.cells x = some (b, xs)) :
    ∃ a vs, v = .ref a ∧ DenAll G F ι vs xs ∧ (b = true → SqX G.K F a vs) ∧ (b = false → SqL G.K H a vs) := by
  cases h with
  | non => simp [seqOf] at e
  | bl b => simp [seqOf] at e
  | int i => simp [seqOf] at e
  | str z => simp [seqOf] at e
  | fn _ => simp [seqOf] at e
  | dctK _ _ _ => simp [seqOf] at e
  | ins _ _ _ _ => simp [seqOf] at e
  | exc _ _ _ _ _ => simp [seqOf] at e
  | @tup a vs xs q r => simp [seqOf] at e; obtain ⟨rfl, rfl⟩ := e; exact ⟨a, vs, rfl, r, fun _ => q, (fun z => nomatch z)⟩
  | @lst a vs xs q r => simp [seqOf] at e; obtain ⟨rfl, rfl⟩ := e; exact ⟨a, vs, rfl, r, (fun z => nomatch z), fun _ => sqL_mono R.sub q⟩
  | @ref k a hk =>
    simp only [seqOf] at e
    cases ec : s.cells[k]? with
    | none => rw [ec] at e; cases e
    | some o =>
      obtain ⟨a', ha', ok⟩ := R.cellOf ec
      rw [hk] at ha'; cases ha'
      rw [ec] at e
      cases o with
      | lst ys =>
        simp only [Option.some.injEq, Prod.mk.injEq] at e
        obtain ⟨rfl, rfl⟩ := e
        obtain ⟨_, vs, hH, r⟩ := ok
        exact ⟨a, vs, rfl, r, (fun z => nomatch z), fun _ => SqL.of hH⟩
      | frz w =>
        cases w with
        | lst ys =>
          simp only [Option.some.injEq, Prod.mk.injEq] at e
          obtain ⟨rfl, rfl⟩ := e
          cases (show Den G F ι (.ref a) (.lst ys) from ok) with
          | lst q r => exact ⟨a, _, rfl, r, (fun z => nomatch z), fun _ => sqL_mono R.sub q⟩
        | _ => simp at e
      | dct _ => simp at e
      | ins _ _ => simp at e
/-- a new tracked object, a value from now on -/
theorem Rel.fresh (R : Rel G B F ι H s) {p : Addr} (o : HO) (hp : H p = none) : Stp G F ι s (upd F p o) ι s ∧ Rel G B (upd F p o) ι (upd H p o) s := by
  have hF : F p = none := by
    cases e : F p with
    | none => rfl
    | some u => rw [R.sub _ _ e] at hp; cases hp
  have sm : Same F (upd F p o) := fun b u e => by rw [upd_ne (ne_of_none e hF)]; exact e
  refine ⟨⟨sm, List.prefix_refl _, Clo.refl _⟩, ⟨fun b u e => ?_, fun b u e => ?_, R.len, R.nd, fun a ha => ?_, fun n a ob hn hc => ?_, R.tab.fresh hp⟩⟩
  · by_cases hb : b = p
    · subst hb; rw [upd_same] at e ⊢; exact e
    · rw [upd_ne hb] at e ⊢; exact R.sub _ _ e
  · obtain ⟨h1, h2, h3⟩ := R.out b u e
    have ne := ne_of_none h1 hp
    exact ⟨by rw [upd_ne ne]; exact h1, by rw [upd_ne ne]; exact h2, h3⟩
  · obtain ⟨u, hu⟩ := R.here a ha
    exact ⟨u, by rw [upd_ne (ne_of_none hu hp)]; exact hu⟩
  · obtain ⟨u, hu⟩ := R.here a (List.mem_of_getElem? hn)
    have ne : a ≠ p := ne_of_none hu hp
    exact (R.cell n a ob hn hc).mono sm (List.prefix_refl _) (fun h => by rw [upd_ne ne]; exact h) fun u h => by rw [upd_ne ne]; exact h
/-- a new cell -/
theorem Rel.newCell (R : Rel G B F ι H s) {p : Addr} {ho : HO} {ob0 : AO} (hp : H p = none) (d : F p = none → CellOk G F (ι ++ [p]) (upd H p ho) p ob0) :
    Stp G F ι s F (ι ++ [p]) { s with cells := s.cells ++ [ob0] } ∧ Rel G B F (ι ++ [p]) (upd H p ho) { s with cells := s.cells ++ [ob0] } := by
  have hF : F p = none := by
    cases e : F p with
    | none => rfl
    | some u => rw [R.sub _ _ e] at hp; cases hp
  have pre : ι <+: ι ++ [p] := ⟨[p], rfl⟩
  have sm := Same.refl F
  have np : p ∉ ι := fun hm => by
    obtain ⟨u, hu⟩ := R.here p hm
    rw [hp] at hu; cases hu
  refine ⟨⟨sm, pre, Clo.keep ⟨_, rfl⟩ rfl⟩, ⟨fun b u e => by rw [upd_ne (ne_of_none (R.sub _ _ e) hp)]; exact R.sub _ _ e, fun b u e => ?_, by simp [R.len], ?_, fun a ha => ?_, fun n a ob hn hc => ?_, R.tab.newCell hp⟩⟩
  · obtain ⟨h1, h2, h3⟩ := R.out b u e
    have ne := ne_of_none h1 hp
    exact ⟨by rw [upd_ne ne]; exact h1, h2, by simp [h3, ne]⟩
  · rw [List.nodup_append]
    refine ⟨R.nd, by simp, fun a ha b hb e => ?_⟩
    simp at hb
    subst hb; subst e
    exact np ha
  · rcases List.mem_append.mp ha with ha | ha
    · obtain ⟨u, hu⟩ := R.here a ha
      exact ⟨u, by rw [upd_ne (ne_of_none hu hp)]; exact hu⟩
    · simp at ha
      subst ha
      exact ⟨_, upd_same⟩
  · by_cases hl : n < ι.length
    · rw [List.getElem?_append_left hl] at hn
      rw [List.getElem?_append_left (by rw [← R.len]; exact hl)] at hc
      have ne : a ≠ p := fun e => np (by rw [← e]; exact List.mem_of_getElem? hn)
      exact (R.cell n a ob hn hc).mono sm pre id fun u h => by rw [upd_ne ne]; exact h
    · have e : n = ι.length := by
        have h1 := (List.getElem?_eq_some_iff.mp hn).1
        simp at h1
        omega
      subst e
      rw [List.getElem?_append_right (Nat.le_refl _)] at hn
      rw [R.len, List.getElem?_append_right (Nat.le_refl _)] at hc
      simp at hn hc
      subst hn; subst hc
      exact d hF
/-- an object that we hold for a while -/
theorem Rel.hold (R : Rel G B F ι H s) {p : Addr} (o : HO) (hp : H p = none) : Rel G (upd B p o) F ι (upd H p o) s := by
  have hF : F p = none := by
    cases e : F p with
    | none => rfl
    | some u => rw [R.sub _ _ e] at hp; cases hp
  have np : p ∉ ι := fun hm => by
    obtain ⟨u, hu⟩ := R.here p hm
    rw [hp] at hu; cases hu
  refine ⟨fun b u e => by rw [upd_ne (ne_of_none (R.sub _ _ e) hp)]; exact R.sub _ _ e, fun b u e => ?_, R.len, R.nd, fun a ha => ?_, fun n a ob hn hc => ?_, R.tab.hold hp⟩
  · by_cases hb : b = p
    · subst hb; rw [upd_same] at e ⊢; exact ⟨e, hF, np⟩
    · rw [upd_ne hb] at e ⊢; exact R.out b u e
  · obtain ⟨u, hu⟩ := R.here a ha
    exact ⟨u, by rw [upd_ne (ne_of_none hu hp)]; exact hu⟩
  · obtain ⟨u, hu⟩ := R.here a (List.mem_of_getElem? hn)
    have ne : a ≠ p := ne_of_none hu hp
    exact (R.cell n a ob hn hc).mono (Same.refl _) (List.prefix_refl _) id fun u h => by rw [upd_ne ne]; exact h
/-- .. changed by us -/
theorem Rel.held {p : Addr} {o : HO} (R : Rel G (upd B p o) F ι H s) (o' : HO) (po : plainO o) : Rel G (upd B p o') F ι (upd H p o') s := by
  obtain ⟨hH, hF, np⟩ := R.out p o upd_same
  refine ⟨fun b u e => ?_, fun b u e => ?_, R.len, R.nd, fun a ha => ?_, fun n a ob hn hc => ?_, R.tab.held fun u e => by rw [(R.out p o upd_same).1] at e; cases e; exact po⟩
  · have ne : b ≠ p := fun z => by rw [z, hF] at e; cases e
    rw [upd_ne ne]; exact R.sub _ _ e
  · by_cases hb : b = p
    · subst hb; rw [upd_same] at e ⊢; exact ⟨e, hF, np⟩
    · rw [upd_ne hb] at e ⊢
      exact R.out b u (by rw [upd_ne hb]; exact e)
  · have ne : a ≠ p := fun z => np (z ▸ ha)
    obtain ⟨u, hu⟩ := R.here a ha
    exact ⟨u, by rw [upd_ne ne]; exact hu⟩
  · have ne : a ≠ p := fun z => np (z ▸ List.mem_of_getElem? hn)
    exact (R.cell n a ob hn hc).mono (Same.refl _) (List.prefix_refl _) id fun u h => by rw [upd_ne ne]; exact h
/-- .. let alone from now on -/
theorem Rel.release {p : Addr} {o : HO} (R : Rel G (upd B p o) F ι H s) (hB : B p = none) : Stp G F ι s (upd F p o) ι s ∧ Rel G B (upd F p o) ι H s := by
  obtain ⟨hH, hF, np⟩ := R.out p o upd_same
  have sm : Same F (upd F p o) := fun b u e => by rw [upd_ne (ne_of_none e hF)]; exact e
  refine ⟨⟨sm, List.prefix_refl _, Clo.refl _⟩, ⟨fun b u e => ?_, fun b u e => ?_, R.len, R.nd, R.here, fun n a ob hn hc => ?_, R.tab.release⟩⟩
  · by_cases hb : b = p
    · subst hb; rw [upd_same] at e; cases e; exact hH
    · rw [upd_ne hb] at e; exact R.sub _ _ e
  · have ne : b ≠ p := ne_of_none e hB
    obtain ⟨h1, h2, h3⟩ := R.out b u (by rw [upd_ne ne]; exact e)
    exact ⟨h1, by rw [upd_ne ne]; exact h2, h3⟩
  · have ne : a ≠ p := fun z => np (z ▸ List.mem_of_getElem? hn)
    exact (R.cell n a ob hn hc).mono sm (List.prefix_refl _) (fun h => by rw [upd_ne ne]; exact h) fun u h => h
/-- .. a cell from now on -/
theorem Rel.toCell {p : Addr} {ho : HO} {ob0 : AO} (R : Rel G (upd B p ho) F ι H s) (hB : B p = none) (d : F p = none → H p = some ho → CellOk G F (ι ++ [p]) H p ob0) :
    Stp G F ι s F (ι ++ [p]) { s with cells := s.cells ++ [ob0] } ∧ Rel G B F (ι ++ [p]) H { s with cells := s.cells ++ [ob0] } := by
  obtain ⟨hH, hF, np⟩ := R.out p _ upd_same
  have pre : ι <+: ι ++ [p] := ⟨[p], rfl⟩
  have sm := Same.refl F
  refine ⟨⟨sm, pre, Clo.keep ⟨_, rfl⟩ rfl⟩, ⟨R.sub, fun b u e => ?_, by simp [R.len], ?_, fun a ha => ?_, fun n a ob hn hc => ?_, R.tab.toCell⟩⟩
  · have ne : b ≠ p := ne_of_none e hB
    obtain ⟨h1, h2, h3⟩ := R.out b u (by rw [upd_ne ne]; exact e)
    exact ⟨h1, h2, by simp [h3, ne]⟩
  · rw [List.nodup_append]
    refine ⟨R.nd, by simp, fun a ha b hb e => ?_⟩
    simp at hb
    subst hb; subst e
    exact np ha
  · rcases List.mem_append.mp ha with ha | ha
    · exact R.here a ha
    · simp at ha
      subst ha
      exact ⟨_, hH⟩
  · by_cases hl : n < ι.length
    · rw [List.getElem?_append_left hl] at hn
      rw [List.getElem?_append_left (by rw [← R.len]; exact hl)] at hc
      exact (R.cell n a ob hn hc).mono sm pre id fun u h => h
    · have e : n = ι.length := by
        have h1 := (List.getElem?_eq_some_iff.mp hn).1
        simp at h1
        omega
      subst e
      rw [List.getElem?_append_right (Nat.le_refl _)] at hn
      rw [R.len, List.getElem?_append_right (Nat.le_refl _)] at hc
      simp at hn hc
      subst hn; subst hc
      exact d hF hH
end
end Ev

set_option linter.all false
set_option maxRecDepth 100000
set_option maxHeartbeats 1000000
/-! EvBD: dicts of either kind: what stands in them, lookups. Own work. -/
namespace Ev
open PySem PySem.Spec PyProof.Rows L2
def DenKF {κ : Type} (f : κ → AV) (G : GS) (F : Hp) (ι : List Addr) (ks : List (κ × V)) (kvs : List (AV × AV)) : Prop := ks.map (fun p => f p.1) = kvs.map (·.1) ∧ DenAll G F ι (ks.map (·.2)) (kvs.map (·.2))
abbrev DenKV := @DenKF Key kA
abbrev DenKT := @DenKF (List Key) tA
section
variable {G : GS} {F F' : Hp} {ι ι' : List Addr}
class KeyF {κ : Type} [DecidableEq κ] (f : κ → AV) : Prop where
  eq : ∀ k l : κ, keyEq (f k) (f l) = decide (k = l)
theorem keyEq1_kA {k l : Key} : keyEq1 (kA k) (kA l) = decide (k = l) := by
  cases k <;> cases l <;> simp [kA, keyEq1]
instance : KeyF kA := ⟨fun k l => by cases k <;> cases l <;> simp [kA, keyEq, keyEq1]⟩
theorem keysEq_kA : ∀ {k l : List Key}, keysEq (k.map kA) (l.map kA) = decide (k = l)
  | [], [] => by simp [keysEq]
  | [], _ :: _ => by simp [keysEq]
  | _ :: _, [] => by simp [keysEq]
  | a :: k, b :: l => by
    rw [List.map_cons, List.map_cons]
    unfold keysEq
    rw [keyEq1_kA, keysEq_kA]
    simp [List.cons.injEq, Bool.decide_and]
instance : KeyF tA := ⟨fun k l => by unfold tA keyEq; exact keysEq_kA⟩
theorem kA_inj {k l : Key} (h : kA k = kA l) : k = l := by
  cases k <;> cases l <;> simp_all [kA]
def mergeF {κ : Type} [DecidableEq κ] (kvs more : List (κ × V)) : List (κ × V) := more.foldl (fun acc kv => putK acc kv.1 kv.2) kvs
section
variable {κ : Type} [DecidableEq κ] {f : κ → AV} [KeyF f]
theorem DenKF.nil : DenKF f G F ι [] [] := ⟨rfl, .nil⟩
theorem DenKF.cons {k : κ} {v : V} {x : AV} {ks : List (κ × V)} {kvs : List (AV × AV)} (d : Den G F ι v x) (h : DenKF f G F ι ks kvs) : DenKF f G F ι ((k, v) :: ks) ((f k, x) :: kvs) :=
  ⟨by simp [h.1], .cons d h.2⟩
theorem DenKF.out {p : κ × V} {ks : List (κ × V)} {kvs : List (AV × AV)} (h : DenKF f G F ι (p :: ks) kvs) : ∃ x r, kvs = (f p.1, x) :: r ∧ Den G F ι p.2 x ∧ DenKF f G F ι ks r := by
  obtain ⟨h1, h2⟩ := h
  cases kvs with
  | nil => simp at h1
  | cons q r =>
    simp at h1
    cases h2 with
    | cons d t => exact ⟨q.2, r, by rw [h1.1], d, h1.2, t⟩
theorem DenKF.empty {kvs : List (AV × AV)} (h : DenKF f G F ι [] kvs) : kvs = [] := by
  obtain ⟨h1, _⟩ := h
  cases kvs with
  | nil => rfl
  | cons _ _ => simp at h1
theorem DenKF.stp {ks : List (κ × V)} {kvs : List (AV × AV)} {s s' : AS} (h : DenKF f G F ι ks kvs) (p : Stp G F ι s F' ι' s') : DenKF f G F' ι' ks kvs := ⟨h.1, h.2.stp p⟩
theorem DenKF.any {k : κ} : ∀ {ks : List (κ × V)} {kvs : List (AV × AV)}, DenKF f G F ι ks kvs → (kvs.any fun p => keyEq p.1 (f k)) = ks.any fun p => decide (p.1 = k)
  | [], kvs, h => by rw [h.empty]; rfl
  | p :: ks, kvs, h => by
    obtain ⟨x, r, rfl, d, h2⟩ := h.out
    rw [List.any_cons, List.any_cons, h2.any, KeyF.eq (f := f)]
theorem DenKF.app : ∀ {ks ls : List (κ × V)} {kvs lvs : List (AV × AV)}, DenKF f G F ι ks kvs → DenKF f G F ι ls lvs → DenKF f G F ι (ks ++ ls) (kvs ++ lvs)
  | _, _, _, _, ⟨h1, h2⟩, ⟨h3, h4⟩ => ⟨by simp [h1, h3], by rw [List.map_append, List.map_append]; exact h2.append h4⟩
theorem DenKF.map {k : κ} {v : V} {x : AV} (d : Den G F ι v x) : ∀ {ks : List (κ × V)} {kvs : List (AV × AV)}, DenKF f G F ι ks kvs →
    DenKF f G F ι (ks.map fun kv => if kv.1 = k then (kv.1, v) else kv) (kvs.map fun p => if keyEq p.1 (f k) = true then (p.1, x) else p)
  | [], kvs, h => by rw [h.empty]; exact .nil
  | p :: ks, kvs, h => by
    obtain ⟨y, r, rfl, dy, h2⟩ := h.out
    rw [List.map_cons, List.map_cons, KeyF.eq (f := f)]
    by_cases e : p.1 = k
    · rw [if_pos e, if_pos (decide_eq_true e)]; exact .cons d (h2.map d)
    · rw [if_neg e, if_neg (by rw [decide_eq_false e]; decide)]; exact .cons dy (h2.map d)
theorem DenKF.put {k : κ} {v : V} {x : AV} {ks : List (κ × V)} {kvs : List (AV × AV)} (h : DenKF f G F ι ks kvs) (d : Den G F ι v x) : DenKF f G F ι (putK ks k v) (putA kvs (f k) x) := by
  unfold putK putA
  rw [h.any]
  split
  · exact h.map d
  · exact h.app (.cons d .nil)
theorem DenKF.merge : ∀ {more ks : List (κ × V)} {mvs kvs : List (AV × AV)}, DenKF f G F ι more mvs → DenKF f G F ι ks kvs → DenKF f G F ι (mergeF ks more) (mergeA kvs mvs)
  | [], ks, mvs, kvs, h, h2 => by rw [h.empty]; exact h2
  | p :: more, ks, mvs, kvs, h, h2 => by
    obtain ⟨x, r, rfl, d, h3⟩ := h.out
    show DenKF f G F ι (mergeF (putK ks p.1 p.2) more) (mergeA (putA kvs (f p.1) x) r)
    exact DenKF.merge h3 (h2.put d)
theorem DenKF.get {k : κ} : ∀ {ks : List (κ × V)} {kvs : List (AV × AV)} {x : AV}, DenKF f G F ι ks kvs → getA kvs (f k) = some x → ∃ v, valV ks k = some v ∧ Den G F ι v x
  | [], kvs, x, h, e => by rw [h.empty] at e; cases e
  | p :: ks, kvs, x, h, e => by
    obtain ⟨y, r, rfl, d, h2⟩ := h.out
    unfold getA at e
    rw [List.find?_cons, KeyF.eq (f := f)] at e
    by_cases hk : p.1 = k
    · rw [decide_eq_true hk] at e
      cases e
      exact ⟨p.2, valV_pos hk, d⟩
    · rw [decide_eq_false hk] at e
      obtain ⟨v, h3, h4⟩ := DenKF.get (x := x) h2 e
      exact ⟨v, by rw [valV_neg hk]; exact h3, h4⟩
theorem DenKF.none {k : κ} : ∀ {ks : List (κ × V)} {kvs : List (AV × AV)}, DenKF f G F ι ks kvs → getA kvs (f k) = none → valV ks k = none
  | [], kvs, h, e => rfl
  | p :: ks, kvs, h, e => by
    obtain ⟨y, r, rfl, d, h2⟩ := h.out
    unfold getA at e
    rw [List.find?_cons, KeyF.eq (f := f)] at e
    by_cases hk : p.1 = k
    · rw [decide_eq_true hk] at e; cases e
    · rw [decide_eq_false hk] at e
      rw [valV_neg hk]
      exact DenKF.none h2 e
end
theorem key_den {v : V} {x : AV} {k : Key} (d : Den G F ι v x) (e : keyOf x = some k) : v = kV k ∧ x = kA k := by
  cases d <;> first | (cases e; exact ⟨rfl, rfl⟩) | cases e
theorem keysOf_den : ∀ {vs : List V} {xs : List AV} {ks : List Key}, DenAll G F ι vs xs → keysOf xs = some ks → vs = ks.map kV ∧ xs = ks.map kA
  | _, _, _, .nil, e => by cases e; exact ⟨rfl, rfl⟩
  | _, _, _, .cons (x := x) (xs := xs) d r, e => by
    unfold keysOf at e
    cases h1 : keyOf x with
    | none => rw [h1] at e; cases e
    | some k =>
      rw [h1] at e
      cases h2 : keysOf xs with
      | none => rw [h2] at e; cases e
      | some ks =>
        rw [h2] at e
        cases e
        obtain ⟨rfl, rfl⟩ := key_den d h1
        obtain ⟨rfl, rfl⟩ := keysOf_den r h2
        exact ⟨rfl, rfl⟩
theorem tkey_den {v : V} {x : AV} {k : List Key} (d : Den G F ι v x) (e : tkeyOf x = some k) : x = tA k ∧ ∃ b, v = .ref b ∧ F b = some (.tup (k.map kV)) := by
  cases d with
  | @tup _ _ xs h r =>
    replace e : (if xs.all isTxA = true then none else keysOf xs) = some k := e
    split at e
    · cases e
    · rename_i hx
      obtain ⟨rfl, rfl⟩ := keysOf_den r e
      rcases h with h | ⟨_, h⟩
      · exact ⟨rfl, _, rfl, h⟩
      · refine (hx ?_).elim
        rw [List.all_eq_true] at h ⊢
        intro y hy
        obtain ⟨q, hq, rfl⟩ := List.mem_map.mp hy
        have := h (kV q) (List.mem_map_of_mem hq)
        cases q with
        | inl i => simp [kV, isTx] at this
        | inr z => rfl
  | _ => cases e
end
/-! ### lookups -/
section
variable {X : Cx} {pins : List (Addr × Obj)} {σ : L2.St} {H : Hp} {s : Shared} {a : Addr} {y v d : V} {u r : Value} {o : Option V} {A : Around} {E : Value → Shared → Prop}
/-- what a dict holds at a key; an empty one may be of the other kind -/
inductive DGX (H : Hp) (a : Addr) (y : V) : Option V → Prop
  | at {r : Option V} : DGet H a y r → DGX H a y r
  | kt {b : Addr} {k : List Key} : Rd H a (.dK []) → y = .ref b → H b = some (.tup (k.map kV)) → DGX H a y none
  | tk {k : Key} : Rd H a (.dT []) → y = kV k → DGX H a y none
theorem to_h (I : Inv X pins σ H s) (e : Rd H a (.dK [])) : (a == sysModules) = false ∧ s.heap.DictOfH (tupleKind (mixKind X.prog X.w)) a [] := by
  obtain ⟨z, hd, vs, rel, dd⟩ := dk_rd I.hok e
  cases rel
  obtain ⟨o, es, epo, g1, g2, g3, _, g4, _⟩ := dd
  refine ⟨hd, o, es, epo, g1, g2, g3, ?_, fun x hx => (nomatch hx), List.nodup_nil⟩
  cases hes : es.toList with
  | nil => rfl
  | cons a b => rw [hes] at g4; exact nomatch g4
theorem to_k (I : Inv X pins σ H s) (e : Rd H a (.dT [])) : (a == sysModules) = false ∧ s.heap.DictOf (mixKind X.prog X.w) a [] := by
  obtain ⟨z, hd, xs, rel, dd⟩ := dt_rd I.hok e
  cases rel
  obtain ⟨o, es, epo, g1, g2, g3, g4, _, _⟩ := dd
  have he : es.toList = [] := g4
  have he2 : es = #[] := Array.toList_eq_nil_iff.mp he
  subst he2
  exact ⟨hd, o, #[], epo, g1, g2, g3, fun e he => by simp at he, .nil, List.nodup_nil⟩
theorem dx_typeIs (I : Inv X pins σ H s) (g : DGX H a y o) : s.TypeIs (.ref a) "dict" := by
  cases g with
  | «at» g => exact dict_typeIs I g
  | kt e _ _ => exact (to_h I e).2.typeIs
  | tk e _ => exact (to_k I e).2.typeIs
theorem dx_in {Q : Value → Shared → Prop} (hu : A.units + 1 < cLine) (I : Inv X pins σ H s) (g : DGX H a y o) (ry : RelV y u) (h : ∀ s', Inv X pins σ H s' → Q (.bool o.isSome) s') :
    wpAny (model X.prog X.w) A (compareOp .In u (.ref a)) Q E s := by
  cases g with
  | «at» g => exact d_in hu I g ry h
  | kt e ey eb =>
    subst ey
    cases (show u = Value.ref _ from ry)
    obtain ⟨hd, dd⟩ := to_h I e
    exact wpAny_in_heap (tupleKind_room_in1 hu) (key_of I.hok eb) hd dd (h _ (I.tok _))
  | tk e ey =>
    subst ey
    obtain ⟨hd, dd⟩ := to_k I e
    exact wpAny_in_of (kV_is ry) hd dd.mapOf (h _ (I.tok _))
theorem dx_notIn {Q : Value → Shared → Prop} (hu : A.units + 1 < cLine) (I : Inv X pins σ H s) (g : DGX H a y o) (ry : RelV y u) (h : ∀ s', Inv X pins σ H s' → Q (.bool (!o.isSome)) s') :
    wpAny (model X.prog X.w) A (compareOp .NotIn u (.ref a)) Q E s := by
  cases g with
  | «at» g => exact d_notIn hu I g ry h
  | kt e ey eb =>
    subst ey
    cases (show u = Value.ref _ from ry)
    obtain ⟨hd, dd⟩ := to_h I e
    exact wpAny_notIn_heap (tupleKind_room_in1 hu) (key_of I.hok eb) hd dd (h _ (I.tok _))
  | tk e ey =>
    subst ey
    obtain ⟨hd, dd⟩ := to_k I e
    exact wpAny_notIn_of (kV_is ry) hd dd.mapOf (h _ (I.tok _))
theorem dx_get1 {Q : Value → Shared → Prop} (hu : A.units + 1 < cLine) (I : Inv X pins σ H s) (g : DGX H a y o) (ry : RelV y u) (h : ∀ w' s', Inv X pins σ H s' → RelV (o.getD .non) w' → Q w' s') :
    wpAny (model X.prog X.w) A (call (.builtin "dict.get") [.ref a, u]) Q E s := by
  cases g with
  | «at» g => exact d_get1 hu I g ry h
  | kt e ey eb =>
    subst ey
    cases (show u = Value.ref _ from ry)
    obtain ⟨hd, dd⟩ := to_h I e
    exact call_meetsIn PySem.F.slot_dict_get dd.typeIs PySem.F.entry_dict_get (PySem.F.args_dict_get_2 _ _) (meetsH_dict_get (tupleKind (mixKind X.prog X.w)) a _ hd) ⟨tupleKind_room_in1 hu, _, [], key_of I.hok eb, dd, h _ _ (I.tok _) rfl⟩
  | tk e ey =>
    subst ey
    obtain ⟨hd, dd⟩ := to_k I e
    exact call_meetsIn PySem.F.slot_dict_get dd.typeIs PySem.F.entry_dict_get (PySem.F.args_dict_get_2 _ _) (meets_dict_get (mixKind X.prog X.w) a (kV_is ry) hd) ⟨_, dd.mapOf, h _ _ (I.tok _) rfl⟩
theorem dx_get2 {Q : Value → Shared → Prop} (hu : A.units + 1 < cLine) (I : Inv X pins σ H s) (g : DGX H a y o) (ry : RelV y u) (rd : RelV d r) (h : ∀ w' s', Inv X pins σ H s' → RelV (o.getD d) w' → Q w' s') :
    wpAny (model X.prog X.w) A (call (.builtin "dict.get") [.ref a, u, r]) Q E s := by
  cases g with
  | «at» g => exact d_get2 hu I g ry rd h
  | kt e ey eb =>
    subst ey
    cases (show u = Value.ref _ from ry)
    obtain ⟨hd, dd⟩ := to_h I e
    exact call_meetsIn PySem.F.slot_dict_get dd.typeIs PySem.F.entry_dict_get (PySem.F.args_dict_get_3 _ _ _) (meetsH_dict_get_default (tupleKind (mixKind X.prog X.w)) a _ hd r) ⟨tupleKind_room_in1 hu, _, [], key_of I.hok eb, dd, h _ _ (I.tok _) rd⟩
  | tk e ey =>
    subst ey
    obtain ⟨hd, dd⟩ := to_k I e
    exact call_meetsIn PySem.F.slot_dict_get dd.typeIs PySem.F.entry_dict_get (PySem.F.args_dict_get_3 _ _ _) (meets_dict_get_default (mixKind X.prog X.w) a (kV_is ry) hd r) ⟨_, dd.mapOf, h _ _ (I.tok _) rd⟩
/-- d[y] = v; an empty dict takes the key's kind -/
inductive DPX (H : Hp) (a : Addr) (y v : V) : Hp → Prop
  | at {H' : Hp} : DPut H a y v H' → DPX H a y v H'
  | kt {b : Addr} {k : List Key} : H a = some (.dK []) → y = .ref b → H b = some (.tup (k.map kV)) → DPX H a y v (upd H a (.dT [(k, v)]))
  | tk {k : Key} : H a = some (.dT []) → y = kV k → DPX H a y v (upd H a (.dK [(k, v)]))
theorem dx_set {H' : Hp} {Q : Unit → Shared → Prop} (hu : A.units + 1 < cLine) (I : Inv X pins σ H s) (g : DPX H a y v H') (ry : RelV y u) (rv : RelV v r) (h : ∀ s', Inv X pins σ H' s' → Q () s') :
    wpAny (model X.prog X.w) A (setItem (.ref a) u r) Q E s := by
  cases g with
  | «at» g => exact d_setItem hu I g ry rv h
  | @kt b k e ey eb =>
    subst ey
    cases (show u = Value.ref _ from ry)
    obtain ⟨hd, dd⟩ := to_h I (.inl e)
    refine wpAny_setItem_heap (hsz := Nat.zero_le _) (tupleKind_room_in1 hu) (key_of I.hok eb) dd fun h' dd' hs => h _ ?_
    obtain ⟨q, es, ep, hq, h2, h3, h4, _, h5⟩ := dd'
    refine d_write I (by rw [e]; exact True.intro) hs ⟨q, hq⟩ ⟨Nat.le_of_ble_eq_true rfl, hd, _, (KT.put (kvs := []) (xs := []) .nil k eb rv).keeps fun c ys ec => ?_, q, es, ep, hq, h2, h3, h4, h5⟩
    rw [upd_ne (ne_of ec e (fun z => nomatch z))]
    exact ec
  | @tk k e ey =>
    subst ey
    obtain ⟨hd, dd⟩ := to_k I (.inl e)
    refine wpAny_setItem_pairs (hsz := Nat.zero_le _) (kV_is ry) dd fun h' dd' hs => h _ ?_
    have he : ∃ q, h'.get? a = some q := let ⟨q, _, _, hq, _⟩ := dd'; ⟨q, hq⟩
    exact d_write I (by rw [e]; exact True.intro) hs he (dk_new (Nat.le_of_ble_eq_true rfl) hd (KV.put (kvs := []) (vs := []) .nil k rv) dd')
end
/-! ### a dict of the evaluator -/
section
variable {G : GS} {B F : Hp} {ι : List Addr} {H : Hp} {s : AS}
theorem Rel.dct (R : Rel G B F ι H s) {v : V} {x : AV} {kvs : List (AV × AV)} (h : Den G F ι v x) (e : dctOf s.cells x = some kvs) :
    ∃ a o vs, v = .ref a ∧ H a = some o ∧ DctH o (kvs.map (·.1)) vs ∧ DenAll G F ι vs (kvs.map (·.2)) := by
  cases h with
  | @dctK a o vs kvs e1 e2 r => simp only [dctOf, Option.some.injEq] at e; subst e; exact ⟨a, o, vs, rfl, R.sub _ _ e1, e2, r⟩
  | @ref k a hk =>
    simp only [dctOf] at e
    cases ec : s.cells[k]? with
    | none => rw [ec] at e; cases e
    | some o =>
      obtain ⟨a', ha', ok⟩ := R.cellOf ec
      rw [hk] at ha'; cases ha'
      rw [ec] at e
      cases o with
      | dct kvs =>
        simp only [Option.some.injEq] at e
        subst e
        obtain ⟨_, o, vs, h1, h2, h3⟩ := ok
        exact ⟨a, o, vs, rfl, h1, h2, h3⟩
      | frz w =>
        cases w with
        | dct kvs =>
          simp only [Option.some.injEq] at e
          subst e
          cases (show Den G F ι (.ref a) (.dct kvs) from ok) with
          | dctK e1 e2 r => exact ⟨a, _, _, rfl, R.sub _ _ e1, e2, r⟩
        | _ => simp at e
      | lst _ => simp at e
      | ins _ _ => simp at e
  | _ => simp [dctOf] at e
theorem isTup_kA (k : Key) : isTupA (kA k) = false := by cases k <;> rfl
/-- a key that fits is asked of a dict -/
theorem dget_of {a : Addr} {o : HO} {vs : List V} {kvs : List (AV × AV)} {y : V} {b : AV} (hs : Same F H) (ho : H a = some o) (hd : DctH o (kvs.map (·.1)) vs) (dv : DenAll G F ι vs (kvs.map (·.2))) (dk : Den G F ι y b) (hk : keyFits kvs b = true) :
    (∃ x v, getA kvs b = some x ∧ DGX H a y (some v) ∧ Den G F ι v x) ∨ (getA kvs b = none ∧ DGX H a y none) := by
  have K : ∀ {k : Key} {ks : List (Key × V)}, H a = some (.dK ks) → DenKF kA G F ι ks kvs → b = kA k → y = kV k → (∃ x v, getA kvs b = some x ∧ DGX H a y (some v) ∧ Den G F ι v x) ∨ (getA kvs b = none ∧ DGX H a y none) := fun {k ks} h1 h2 h3 h4 => by
    cases e : getA kvs b with
    | none => exact Or.inr ⟨rfl, .at (by rw [h3] at e; rw [h4, ← h2.none e]; exact DGet.k h1)⟩
    | some x =>
      rw [h3] at e
      obtain ⟨v, e2, d2⟩ := h2.get e
      exact Or.inl ⟨x, v, rfl, .at (by rw [h4, ← e2]; exact DGet.k h1), d2⟩
  have T : ∀ {k : List Key} {ks : List (List Key × V)} {c : Addr}, H a = some (.dT ks) → DenKF tA G F ι ks kvs → b = tA k → y = .ref c → H c = some (.tup (k.map kV)) → (∃ x v, getA kvs b = some x ∧ DGX H a y (some v) ∧ Den G F ι v x) ∨ (getA kvs b = none ∧ DGX H a y none) := fun {k ks c} h1 h2 h3 h4 h5 => by
    cases e : getA kvs b with
    | none => exact Or.inr ⟨rfl, .at (by rw [h3] at e; rw [h4, ← h2.none e]; exact DGet.t h1 h5)⟩
    | some x =>
      rw [h3] at e
      obtain ⟨v, e2, d2⟩ := h2.get e
      exact Or.inl ⟨x, v, rfl, .at (by rw [h4, ← e2]; exact DGet.t h1 h5), d2⟩
  have key : (∃ k, keyOf b = some k ∧ (kvs = [] ∨ ∃ p r, kvs = p :: r ∧ isTupA p.1 = false)) ∨ (∃ k, tkeyOf b = some k ∧ (kvs = [] ∨ ∃ p r, kvs = p :: r ∧ isTupA p.1 = true)) := by
    unfold keyFits at hk
    cases kvs with
    | nil =>
      rcases Bool.or_eq_true .. ▸ hk with h | h
      · obtain ⟨k, h⟩ := Option.isSome_iff_exists.mp h
        exact .inl ⟨k, h, .inl rfl⟩
      · obtain ⟨k, h⟩ := Option.isSome_iff_exists.mp h
        exact .inr ⟨k, h, .inl rfl⟩
    | cons p r =>
      simp only at hk
      split at hk
      · rename_i hp
        obtain ⟨k, h⟩ := Option.isSome_iff_exists.mp hk
        exact .inr ⟨k, h, .inr ⟨p, r, rfl, hp⟩⟩
      · rename_i hp
        obtain ⟨k, h⟩ := Option.isSome_iff_exists.mp hk
        exact .inl ⟨k, h, .inr ⟨p, r, rfl, by simpa using hp⟩⟩
  obtain hd | hd := hd
  · obtain ⟨ks, rfl, e1, rfl⟩ := hd
    rcases key with ⟨k, h1, _⟩ | ⟨k, h1, h2⟩
    · obtain ⟨e3, e4⟩ := key_den dk h1
      exact K ho ⟨e1, dv⟩ e4 e3
    · obtain ⟨e3, c, e4, e5⟩ := tkey_den dk h1
      have hn : kvs = [] := by
        rcases h2 with h2 | ⟨p, r, rfl, hp⟩
        · exact h2
        · cases ks with
          | nil => simp at e1
          | cons q qs =>
            rw [List.map_cons, List.map_cons] at e1
            injection e1 with e1 _
            rw [← e1, isTup_kA] at hp
            cases hp
      subst hn
      cases ks with
      | nil => exact .inr ⟨rfl, .kt (.inl ho) e4 (hs _ _ e5)⟩
      | cons _ _ => simp at e1
  · obtain ⟨ks, rfl, e1, rfl⟩ := hd
    rcases key with ⟨k, h1, h2⟩ | ⟨k, h1, _⟩
    · obtain ⟨e3, e4⟩ := key_den dk h1
      have hn : kvs = [] := by
        rcases h2 with h2 | ⟨p, r, rfl, hp⟩
        · exact h2
        · cases ks with
          | nil => simp at e1
          | cons q qs =>
            rw [List.map_cons, List.map_cons] at e1
            injection e1 with e1 _
            rw [← e1] at hp
            cases hp
      subst hn
      cases ks with
      | nil => exact .inr ⟨rfl, .tk (.inl ho) e3⟩
      | cons _ _ => simp at e1
    · obtain ⟨e3, c, e4, e5⟩ := tkey_den dk h1
      exact T ho ⟨e1, dv⟩ e3 e4 (hs _ _ e5)
end
end Ev

set_option linter.all false
set_option maxRecDepth 100000
set_option maxHeartbeats 1000000
/-! EvC: operators and built-ins of the evaluator, by the layer's rules. Own work. -/
namespace Ev
open PySem PySem.Spec PyProof.Rows L2

structure GN where
  fnA : Nat → Option Addr
  clA : Nat → Option Addr
  exA : Nat → Option Addr
  T : List (Addr × Str)
abbrev gsOf (X : Cx) (g : GN) : GS := ⟨X.K, g.fnA, g.clA, g.exA, g.T⟩

def opOf : BOp → Operator
  | .add => .Add | .sub => .Sub | .mul => .Mult | .div => .FloorDiv | .mod => .Mod | .pow => .Pow | .cat => .Add
def copOf : COp → CmpOp
  | .lt => .Lt | .le => .LtE | .gt => .Gt | .ge => .GtE | .eq => .Eq | .ne => .NotEq | .isN => .Is | .notN => .IsNot | .isB => .Is | .nisB => .IsNot | .inn => .In | .nin => .NotIn

def rBin (G : GS) (o : BOp) : R2 := fun x y H Q => ∃ B E F ι s a b, Rel G B F ι H s ∧ Den G F ι x a ∧ Den G F ι y b ∧ Po G B E F ι s (Den G) (binM o a b s) Q

section
variable {X : Cx} {g : GN}
theorem lstR {pins : List (Addr × Obj)} {σ : L2.St} {H : Hp} {s : Shared} (I : Inv X pins σ H s) {a : Addr} {xs : List V} (h : Rd H a (.lst xs)) :
    xs.length ≤ sizeLine ∧ ∃ its n, Vals xs its ∧ xs.length = its.length ∧ s.heap.get? a = some { cls := .type "list", data := .seq its.toArray n } := by
  obtain ⟨z, its, n, r, e⟩ := (Rd.ok h I.hok : ObjOk X.prog X.w H s.heap a (.lst xs))
  exact ⟨z, its, n, r, r.length, e⟩
/-- lists put together: a script's list may be any list -/
theorem op_catL : OpR X (binaryOp .Add) (fun x y H Q => ∃ l b xs zs, x = .ref l ∧ y = .ref b ∧ SqL X.K H l xs ∧ SqL X.K H b zs ∧ xs.length + zs.length ≤ sizeLine ∧ ∀ p, H p = none → Q (.ref p) (upd H p (.lst (xs ++ zs)))) := by
  intro pins s σ H x y v u Q I rx ry h
  obtain ⟨l, b, xs, zs, rfl, rfl, h1, h2, hz, q⟩ := h
  cases rx
  cases ry
  obtain ⟨i1, r1, ⟨⟨c1, d1, dt1, sl1⟩, n1, g1, e11, e12, e13⟩, _⟩ := I.list h1
  obtain ⟨i2, r2, ⟨⟨c2, d2, dt2, sl2⟩, n2, g2, e21, e22, e23⟩, _⟩ := I.list h2
  simp only at e11 e12 e13 e21 e22 e23
  subst e11 e12 e13 e21 e22 e23
  have el : i1.length + i2.length ≤ sizeLine := by rw [← r1.length, ← r2.length]; exact hz
  have et : i1.toArray ++ i2.toArray = (i1 ++ i2).toArray := by simp
  refine concat_meets ⟨_, g1, rfl⟩ ⟨_, g2, rfl⟩ noFill_list_add seq_list_add PySem.F.slot_list_add PySem.F.entry_list_add (PySem.F.args_list_add_2 _ _)
    (list_addW l b i1.toArray i2.toArray n1 n2 none none sl1 sl2 (by simpa using el)) ⟨g1, g2, ?_⟩
  rw [et]
  exact ⟨.ref _, _, I.lnew (t' := s.toks) (r1.append r2) (by rw [List.length_append]; omega), rfl, q _ I.fresh⟩

theorem LIM_eq : (LIM : Nat) = sizeLine := by decide

/-- a new list as a value -/
theorem Po.newL {G : GS} {B : Hp} {E : XK} {F : Hp} {ι : List Addr} {H : Hp} {s : AS} {vs : List V} {xs : List AV} {Q : VK} {p : Addr} {al : Bool} (R : Rel G B F ι H s) (d : DenAll G F ι vs xs)
    (h : Po G B E F ι s (Den G) (mkL al xs s) Q) (hp : H p = none) : Q (.ref p) (upd H p (.lst vs)) := by
  unfold mkL at h
  cases al with
  | true =>
    obtain ⟨st, R'⟩ := R.newCell (ho := .lst vs) (ob0 := .lst xs) hp fun hF => ⟨hF, vs, upd_same, d.mono (Same.refl _) ⟨[p], rfl⟩⟩
    refine h _ _ _ _ st R' (.ref ?_)
    rw [← R.len, List.getElem?_append_right (Nat.le_refl _)]
    simp
  | false =>
    obtain ⟨st, R'⟩ := R.fresh (.lst vs) hp
    exact h _ _ _ _ st R' (.lst (SqL.of upd_same) (d.stp st))
theorem Po.newT {G : GS} {B : Hp} {E : XK} {F : Hp} {ι : List Addr} {H : Hp} {s : AS} {vs : List V} {xs : List AV} {Q : VK} {p : Addr} (R : Rel G B F ι H s) (d : DenAll G F ι vs xs)
    (h : Po G B E F ι s (Den G) (.ok (.tup xs) s) Q) (hp : H p = none) : Q (.ref p) (upd H p (.tup vs)) := by
  obtain ⟨st, R'⟩ := R.fresh (.tup vs) hp
  exact h _ _ _ _ st R' (.tup (.inl upd_same) (d.stp st))
theorem mkL_false {xs : List AV} {s : AS} : mkL false xs s = .ok (.lst xs) s := rfl

/-- a str some times -/
theorem op_mulS : OpR X (binaryOp .Mult) (fun x y H Q => ∃ (z : Str) (k : Int), x = .str z ∧ y = .int k ∧ (z.length ≤ 1000 ∧ k ≤ 1000 ∧ -(2 ^ 62) ≤ k) ∧ Q (.str (Txt.mul z k)) H) := by
  intro pins s σ H x y v u Q I rx ry h
  obtain ⟨z, k, rfl, rfl, ⟨h1, h2, h3⟩, q⟩ := h
  obtain ⟨t, rfl⟩ := rx
  obtain ⟨t', rfl⟩ := ry
  refine SB.mul ⟨?_, fun hk _ => ?_, fun hk _ => ?_⟩ fun t' tk => ⟨.str (Txt.mul z k), H, I.tok _, ⟨_, rfl⟩, q⟩
  · rw [decide_eq_false (by omega), decide_eq_false (by omega)]; rfl
  · have : 1000 ≤ (2 ^ 63 - 1) / k := (Int.le_ediv_iff_mul_le (by omega)).mpr (by omega)
    omega
  · have : z.length * k.toNat ≤ 1000 * 1000 := Nat.mul_le_mul h1 (by omega)
    unfold Builtin.Str.tooLong
    exact decide_eq_false (by have : sizeLine = 16777216 := rfl; omega)
theorem bin_ok (o : BOp) : OpR X (binaryOp (opOf o)) (rBin (gsOf X g) o) := by
  intro pins s σ H x y v u Q I rx ry h
  obtain ⟨B, E, F, ι, st, a, b, R, da, db, h⟩ := h
  unfold binM at h
  split at h
  · cases da; cases db
    exact op_add pins s σ H _ _ v u Q I rx ry ⟨_, _, rfl, rfl, h _ _ _ _ Stp.refl R (.int _)⟩
  · cases da; cases db
    exact op_sub pins s σ H _ _ v u Q I rx ry ⟨_, _, rfl, rfl, h _ _ _ _ Stp.refl R (.int _)⟩
  · rename_i i j
    cases da; cases db
    split at h
    · rename_i hc
      refine op_mul pins s σ H _ _ v u Q I rx ry ⟨_, _, rfl, rfl, ?_, h _ _ _ _ Stp.refl R (.int _)⟩
      rcases hc with hc | hc
      · exact .inl ⟨by omega, by omega⟩
      · exact .inr ⟨by omega, by omega⟩
    · exact h.elim
  · cases da; cases db
    split at h
    · rename_i hc
      exact op_fdiv pins s σ H _ _ v u Q I rx ry ⟨_, _, rfl, rfl, hc, h _ _ _ _ Stp.refl R (.int _)⟩
    · exact h.elim
  · cases da; cases db
    split at h
    · rename_i hc
      exact op_mod pins s σ H _ _ v u Q I rx ry ⟨_, _, rfl, rfl, hc, h _ _ _ _ Stp.refl R (.int _)⟩
    · exact h.elim
  · cases da; cases db
    split at h
    · rename_i hc
      exact op_pow pins s σ H _ _ v u Q I rx ry ⟨_, _, rfl, rfl, hc, h _ _ _ _ Stp.refl R (.int _)⟩
    · exact h.elim
  · cases da; cases db
    split at h
    · rename_i hc
      exact op_mulS pins s σ H _ _ v u Q I rx ry ⟨_, _, rfl, rfl, hc, h _ _ _ _ Stp.refl R (.str _)⟩
    · exact h.elim
  · cases da; cases db
    split at h
    · rename_i hc
      exact op_add_str pins s σ H _ _ v u Q I rx ry ⟨_, _, rfl, rfl, hc, h _ _ _ _ Stp.refl R (.str _)⟩
    · exact h.elim
  · split at h
    · rename_i xs ys e1 e2
      obtain ⟨p, vs, rfl, r1, _, l1⟩ := R.seq da e1
      obtain ⟨q, ws, rfl, r2, _, l2⟩ := R.seq db e2
      split at h
      · rename_i hc
        refine op_catL pins s σ H _ _ v u Q I rx ry ⟨_, _, _, _, rfl, rfl, l1 rfl, l2 rfl, ?_, fun z hz => ?_⟩
        · rw [r1.length, r2.length, ← LIM_eq]; exact hc
        · exact Po.newL (al := false) R (r1.append r2) h hz
      · exact h.elim
    · rename_i xs ys e1 e2
      obtain ⟨p, vs, rfl, r1, l1, _⟩ := R.seq da e1
      obtain ⟨q, ws, rfl, r2, l2, _⟩ := R.seq db e2
      split at h
      · rename_i hc
        refine op_catA pins s σ H _ _ v u Q I rx ry ⟨_, _, _, _, rfl, rfl, R.sqT (l1 rfl), R.sqT (l2 rfl), ?_, fun hz => ?_, fun hz hz2 => ?_, fun _ _ z hz => ?_⟩
        · rw [r1.length, r2.length, ← LIM_eq]; exact hc
        · subst hz
          cases r1
          exact h _ _ _ _ Stp.refl R (.tup (l2 rfl) r2)
        · subst hz2
          cases r2
          rw [List.append_nil] at h
          exact h _ _ _ _ Stp.refl R (.tup (l1 rfl) r1)
        · exact Po.newT R (r1.append r2) h hz
      · exact h.elim
    · exact h.elim
  · split at h
    · rename_i xs ys e1 e2
      obtain ⟨p, vs, rfl, r1, _, l1⟩ := R.seq da e1
      obtain ⟨q, ws, rfl, r2, _, l2⟩ := R.seq db e2
      split at h
      · rename_i hc
        refine op_catL pins s σ H _ _ v u Q I rx ry ⟨_, _, _, _, rfl, rfl, l1 rfl, l2 rfl, ?_, fun z hz => ?_⟩
        · rw [r1.length, r2.length, ← LIM_eq]; exact hc
        · exact Po.newL (al := true) R (r1.append r2) h hz
      · exact h.elim
    · exact h.elim
  · exact h.elim

/-! ### comparisons -/
def rCmp (G : GS) (o : COp) : R2 := fun x y H Q => ∃ B E F ι s a b, Rel G B F ι H s ∧ Den G F ι x a ∧ Den G F ι y b ∧ Po G B E F ι s (Den G) (cmpM o a b s) Q
theorem eq_cases {G : GS} {B : Hp} {E : XK} {F : Hp} {ι : List Addr} {H : Hp} {s : AS} {x y : V} {a b : AV} {f : Bool → AV} {Q : VK} (R : Rel G B F ι H s) (da : Den G F ι x a) (db : Den G F ι y b)
    (h : Po G B E F ι s (Den G) (MM.bind (eqM a b) (fun b => MM.pure (f b)) s) Q) :
    ∃ d e, Dp G.K H x d ∧ Dp G.K H y e ∧ SeqAt.shaped d = true ∧ SeqAt.shaped e = true ∧ Po G B E F ι s (Den G) (.ok (f (PyData.eqv d e)) s) Q := by
  unfold MM.bind eqM at h
  cases e1 : toPy s.cells DPT a with
  | none => simp only [e1] at h; exact h.elim
  | some d =>
    cases e2 : toPy s.cells DPT b with
    | none => simp only [e1, e2] at h; exact h.elim
    | some e =>
      simp only [e1, e2] at h
      by_cases hc : SeqAt.shaped d = true ∧ SeqAt.shaped e = true
      · rw [if_pos hc] at h
        exact ⟨d, e, R.py _ da e1, R.py _ db e2, hc.1, hc.2, h⟩
      · rw [if_neg hc] at h
        exact h.elim
/-- x in a list, a tuple of data -/
theorem op_inP (neg : Bool) (hu : X.A.units + 65 < cLine) : OpR X (compareOp (if neg = true then .NotIn else .In)) (fun x y H Q => ∃ d e ds, Dp X.K H x d ∧ Dp X.K H y e ∧ seqPy e = some ds ∧ SeqAt.shaped d = true ∧ SeqAt.shaped e = true ∧ Q (.bl (if neg = true then !ds.any fun z => PyData.eqv z d else ds.any fun z => PyData.eqv z d)) H) := by
  intro pins s σ H x y v u Q I rx ry h
  obtain ⟨d, e, ds, hd, he, hs, sd, se, q⟩ := h
  obtain ⟨as, r1⟩ := Dp.reads I d x v hd rx
  obtain ⟨bs, r2⟩ := Dp.reads I e y u he ry
  cases e with
  | list es =>
    cases hs
    cases neg with
    | true => exact SeqAt.notIn_list_reads r2 r1 (SeqAt.canLay_of_shaped se) (SeqAt.canLay_of_shaped sd) (room_in_shaped sd hu) ⟨.bl _, H, I, rfl, q⟩
    | false => exact SeqAt.in_list_reads r2 r1 (SeqAt.canLay_of_shaped se) (SeqAt.canLay_of_shaped sd) (room_in_shaped sd hu) ⟨.bl _, H, I, rfl, q⟩
  | tuple es =>
    cases hs
    have cl : PyData.canLayAll0 ds = true := by
      have := SeqAt.canLay_of_shaped se
      simpa only [PyData.canLay0] using this
    cases neg with
    | true => exact SeqAt.notIn_tuple_reads r2 r1 cl (SeqAt.canLay_of_shaped sd) (room_in_shaped sd hu) ⟨.bl _, H, I, rfl, q⟩
    | false => exact SeqAt.in_tuple_reads r2 r1 cl (SeqAt.canLay_of_shaped sd) (room_in_shaped sd hu) ⟨.bl _, H, I, rfl, q⟩
  | _ => cases hs
theorem in_cases {neg : Bool} {G : GS} {B : Hp} {E : XK} {F : Hp} {ι : List Addr} {H : Hp} {s : AS} {x y : V} {a b : AV} {Q : VK} (R : Rel G B F ι H s) (da : Den G F ι x a) (db : Den G F ι y b) (h : Po G B E F ι s (Den G) (inM neg a b s) Q) :
    (∃ d e ds, Dp G.K H x d ∧ Dp G.K H y e ∧ seqPy e = some ds ∧ SeqAt.shaped d = true ∧ SeqAt.shaped e = true ∧ Q (.bl (if neg = true then !ds.any fun z => PyData.eqv z d else ds.any fun z => PyData.eqv z d)) H) ∨ ∃ p r, y = .ref p ∧ DGX H p x r ∧ Q (.bl (if neg = true then !r.isSome else r.isSome)) H := by
  unfold inM at h
  split at h
  · rename_i d e e1 e2
    split at h
    · rename_i ds hs
      split at h
      · rename_i hc
        exact .inl ⟨d, e, ds, R.py _ da e1, R.py _ db e2, hs, hc.1, hc.2, h _ _ _ _ Stp.refl R (.bl _)⟩
      · exact h.elim
    · exact h.elim
  · unfold inD at h
    split at h
    · rename_i kvs ek
      split at h
      · rename_i hf
        obtain ⟨p, o, vs, rfl, ho, hd, dv⟩ := R.dct db ek
        rcases dget_of R.sub ho hd dv da hf with ⟨x, v, e1, g, _⟩ | ⟨e1, g⟩
        · rw [e1] at h
          exact .inr ⟨p, _, rfl, g, h _ _ _ _ Stp.refl R (.bl _)⟩
        · rw [e1] at h
          exact .inr ⟨p, _, rfl, g, h _ _ _ _ Stp.refl R (.bl _)⟩
      · exact h.elim
    · exact h.elim
  · exact h.elim
theorem cmp_ok (o : COp) (hu : X.A.units + 65 < cLine) : OpR X (compareOp (copOf o)) (rCmp (gsOf X g) o) := by
  intro pins s σ H x y v u Q I rx ry h
  obtain ⟨B, E, F, ι, st, a, b, R, da, db, h⟩ := h
  unfold cmpM at h
  cases o with
  | eq =>
    obtain ⟨d, e, p, q, h1, h2, h⟩ := eq_cases R da db h
    exact op_eqD (by omega) pins s σ H _ _ v u Q I rx ry ⟨d, e, p, q, h1, h2, h _ _ _ _ Stp.refl R (.bl _)⟩
  | ne =>
    obtain ⟨d, e, p, q, h1, h2, h⟩ := eq_cases (f := fun b => AV.bl (!b)) R da db h
    exact op_neD (by omega) pins s σ H _ _ v u Q I rx ry ⟨d, e, p, q, h1, h2, h _ _ _ _ Stp.refl R (.bl _)⟩
  | lt =>
    simp only at h
    split at h
    · cases da; cases db
      exact op_lt pins s σ H _ _ v u Q I rx ry ⟨_, _, rfl, rfl, h _ _ _ _ Stp.refl R (.bl _)⟩
    · exact h.elim
  | le =>
    simp only at h
    split at h
    · cases da; cases db
      exact op_le pins s σ H _ _ v u Q I rx ry ⟨_, _, rfl, rfl, h _ _ _ _ Stp.refl R (.bl _)⟩
    · exact h.elim
  | gt =>
    simp only at h
    split at h
    · cases da; cases db
      exact op_gt pins s σ H _ _ v u Q I rx ry ⟨_, _, rfl, rfl, h _ _ _ _ Stp.refl R (.bl _)⟩
    · exact h.elim
  | ge =>
    simp only at h
    split at h
    · cases da; cases db
      exact op_ge pins s σ H _ _ v u Q I rx ry ⟨_, _, rfl, rfl, h _ _ _ _ Stp.refl R (.bl _)⟩
    · exact h.elim
  | isB =>
    simp only at h
    split at h
    · cases da; cases db
      exact op_isBl pins s σ H _ _ v u Q I rx ry ⟨_, _, rfl, rfl, h _ _ _ _ Stp.refl R (.bl _)⟩
    · exact h.elim
  | nisB =>
    simp only at h
    split at h
    · cases da; cases db
      exact op_notBl pins s σ H _ _ v u Q I rx ry ⟨_, _, rfl, rfl, h _ _ _ _ Stp.refl R (.bl _)⟩
    · exact h.elim
  | isN => exact h.elim
  | notN => exact h.elim
  | inn =>
    rcases in_cases R da db h with h | ⟨p, r, rfl, g, q⟩
    · exact op_inP (X := X) false hu pins s σ H _ _ v u Q I rx ry h
    · cases (show u = Value.ref p from ry)
      exact dx_in (by omega) I g rx fun s' I' => ⟨.bl r.isSome, _, I', rfl, q⟩
  | nin =>
    rcases in_cases R da db h with h | ⟨p, r, rfl, g, q⟩
    · exact op_inP (X := X) true hu pins s σ H _ _ v u Q I rx ry h
    · cases (show u = Value.ref p from ry)
      exact dx_notIn (by omega) I g rx fun s' I' => ⟨.bl (!r.isSome), _, I', rfl, q⟩

/-! ### truth -/
theorem seq_truth {G : GS} {B : Hp} {F : Hp} {ι : List Addr} {H : Hp} {s : AS} {v : V} {x : AV} {b : Bool} {xs : List AV} (R : Rel G B F ι H s) (d : Den G F ι v x) (e : seqOf s.cells x = some (b, xs)) : TruV G.K v H (!xs.isEmpty) := by
  obtain ⟨p, vs, rfl, r1, l1, l2⟩ := R.seq d e
  have hl : vs.isEmpty = xs.isEmpty := by cases r1 <;> rfl
  cases b with
  | true => exact .inr (.inl ⟨vs, R.sqT (l1 rfl), by rw [hl]⟩)
  | false => exact .inl ⟨vs, l2 rfl, by rw [hl]⟩
theorem tru_of {G : GS} {B : Hp} {F : Hp} {ι : List Addr} {H : Hp} {s : AS} {v : V} {x : AV} {b : Bool} (R : Rel G B F ι H s) (d : Den G F ι v x) (e : truth s.cells x = some b) : TruV G.K v H b := by
  unfold truth at e
  split at e
  · cases d; cases e; exact rfl
  · cases d; cases e; exact rfl
  · cases d; cases e; exact rfl
  · cases d
    split at e
    · rename_i hz
      cases e
      refine ⟨by rw [sizeLine_eq]; exact hz, ?_⟩
      rename_i z
      cases hq : z.length with
      | zero => rfl
      | succ k => rfl
    · cases e
  · split at e
    · rename_i hs
      cases e
      exact seq_truth R d hs
    · cases e

/-! ### subscripts -/
def rIdx (G : GS) : R2 := fun x y H Q => ∃ B E F ι s a b, Rel G B F ι H s ∧ Den G F ι x a ∧ Den G F ι y b ∧ Po G B E F ι s (Den G) (idxM a b s) Q
theorem atI_den {G : GS} {F : Hp} {ι : List Addr} {vs : List V} {xs : List AV} {i : Int} {x : AV} (r : DenAll G F ι vs xs) (e : atI xs i = some x) : ∃ v, atI vs i = some v ∧ Den G F ι v x := by
  unfold atI at e ⊢
  rw [r.length]
  cases h : ixN xs.length i with
  | none => rw [h] at e; cases e
  | some j =>
    rw [h] at e
    exact r.get (i := j) e
theorem ix_dx (hu : X.A.units + 1 < cLine) : IxR X (fun x y H Q => ∃ a v, x = .ref a ∧ DGet H a y (some v) ∧ Q v H) := by
  intro value slice pins s σ H x y v u Q I rx ry h hs
  obtain ⟨a, r, rfl, g, q⟩ := h
  obtain rfl : v = Value.ref a := rx
  exact tail_any (dict_typeIs I g) PySem.F.slot_dict_getitem.lookup (d_getItem hu I g ry fun w' s3 I3 rw' => ⟨r, H, I3, rw', q⟩) hs
theorem idxD_ok (hu : X.A.units + 1 < cLine) {x y : V} {a b : AV} {B F : Hp} {E : XK} {ι : List Addr} {st : AS} {H : Hp} {Q : VK} (R : Rel (gsOf X g) B F ι H st) (da : Den (gsOf X g) F ι x a) (db : Den (gsOf X g) F ι y b) (h : Po (gsOf X g) B E F ι st (Den (gsOf X g)) (idxD a b st) Q) :
    ∃ a v, x = .ref a ∧ DGet H a y (some v) ∧ Q v H := by
  unfold idxD at h
  split at h
  · rename_i kvs ek
    split at h
    · rename_i hf
      obtain ⟨p, o, vs, rfl, ho, hd, dv⟩ := R.dct da ek
      rcases dget_of R.sub ho hd dv db hf with ⟨x, v, e1, g, d⟩ | ⟨e1, _⟩
      · rw [e1] at h
        cases g with
        | «at» g => exact ⟨p, v, rfl, g, h _ _ _ _ Stp.refl R d⟩
      · rw [e1] at h; exact h.elim
    · exact h.elim
  · exact h.elim
theorem idx_ok (hu : X.A.units + 1 < cLine) : IxR X (rIdx (gsOf X g)) := by
  intro value slice pins s σ H x y v u Q I rx ry h hs
  obtain ⟨B, E, F, ι, st, a, b, R, da, db, h⟩ := h
  unfold idxM at h
  split at h
  · rename_i i
    have db0 : Den (gsOf X g) F ι y (.int i) := db
    cases db
    split at h
    · cases da
      split at h
      · rename_i hz
        split at h
        · rename_i hc
          exact ix_seq value slice pins s σ H _ _ v u Q I rx ry (.inr (.inr ⟨_, _, _, rfl, rfl, by rw [sizeLine_eq]; exact hz, hc, h _ _ _ _ Stp.refl R (.str _)⟩)) hs
        · exact h.elim
      · exact h.elim
    · split at h
      · rename_i bb xs hq
        obtain ⟨p, vs, rfl, r1, l1, l2⟩ := R.seq da hq
        split at h
        · rename_i hc
          obtain ⟨w, hw, dw⟩ := atI_den r1 hc
          cases bb with
          | true => exact ix_seq value slice pins s σ H _ _ v u Q I rx ry (.inr (.inl ⟨p, vs, _, w, rfl, rfl, R.sqT (l1 rfl), hw, h _ _ _ _ Stp.refl R dw⟩)) hs
          | false => exact ix_seq value slice pins s σ H _ _ v u Q I rx ry (.inl ⟨p, vs, _, w, rfl, rfl, l2 rfl, hw, h _ _ _ _ Stp.refl R dw⟩) hs
        · exact h.elim
      · exact ix_dx hu value slice pins s σ H _ _ v u Q I rx ry (idxD_ok hu R da db0 h) hs
  · exact ix_dx hu value slice pins s σ H _ _ v u Q I rx ry (idxD_ok hu R da db h) hs

theorem cut_den {G : GS} {F : Hp} {ι : List Addr} {vs : List V} {xs : List AV} {lo hi : Option Int} (r : DenAll G F ι vs xs) : DenAll G F ι (cutV vs lo hi) (cutL xs lo hi) := by
  unfold cutV cutL
  rw [r.length]
  exact (r.drop _).take _
def rSlc (G : GS) : V → Option Int → Option Int → Hp → VK → Prop := fun x lo hi H Q => ∃ B E F ι s a, Rel G B F ι H s ∧ Den G F ι x a ∧ Po G B E F ι s (Den G) (slcM a lo hi s) Q
theorem slc_ok : SlR X (rSlc (gsOf X g)) := by
  intro pins s σ H x v vl vu lo hi sl Q I rx hs pl pu h
  obtain ⟨B, E, F, ι, st, a, R, da, h⟩ := h
  unfold slcM at h
  split at h
  · rename_i xs hq
    obtain ⟨p, vs, rfl, r1, l1, l2⟩ := R.seq da hq
    exact sl_list pins s σ H _ v vl vu lo hi sl Q I rx hs pl pu ⟨p, vs, rfl, l2 rfl, fun z hz => Po.newL (al := false) R (cut_den r1) h hz⟩
  · rename_i xs hq
    obtain ⟨p, vs, rfl, r1, l1, l2⟩ := R.seq da hq
    refine sl_tupA pins s σ H _ v vl vu lo hi sl Q I rx hs pl pu ⟨p, vs, rfl, R.sqT (l1 rfl), fun hw => ?_, fun hw z hz => Po.newT R (cut_den r1) h hz⟩
    have e : cutL xs lo hi = xs := by
      unfold cutL
      rw [r1.length] at hw
      rw [hw.1, hw.2]
      simp
    rw [e] at h
    exact h _ _ _ _ Stp.refl R (.tup (l1 rfl) r1)
  · exact h.elim

/-! ### isinstance -/
theorem tyDct {K : PySem.W.Frag} {H : Hp} {a : Addr} {o : HO} {as : List AV} {vs : List V} (e : H a = some o) (h : DctH o as vs) : TyX K H (.ref a) (.type "dict") := by
  rcases h with ⟨ks, rfl, _⟩ | ⟨ks, rfl, _⟩
  · exact .base (.dK e)
  · exact .base (.dT e)
theorem ty_of {G : GS} {B : Hp} {F : Hp} {ι : List Addr} {H : Hp} {s : AS} {v : V} {x : AV} {T : String} (R : Rel G B F ι H s) (d : Den G F ι v x) (e : tyName s.cells x = some T) : TyX G.K H v (.type T) := by
  cases d with
  | non => cases e; exact .base .non
  | bl b => cases e; exact .base (.bl b)
  | int i => cases e; exact .base (.int i)
  | str z => cases e; exact .base (.str z)
  | fn _ => cases e
  | exc _ _ _ _ _ => cases e
  | tup h r =>
    cases e
    rcases R.sqT h with (h | ⟨o, h⟩) | ⟨o, its, n, h1, h2, _⟩
    · exact .base (.tup h)
    · exact .fTuple h
    · exact .kTuple h1 h2
  | lst h r =>
    cases e
    rcases R.sqL h with (h | ⟨o, h⟩) | ⟨o, its, n, h1, h2, _⟩
    · exact .base (.lst h)
    · exact .base (.frz h)
    · exact .kList h1 h2
  | dctK h k r => cases e; exact tyDct (R.sub _ _ h) k
  | ins _ _ _ _ => cases e
  | @ref k a hk =>
    simp only [tyName] at e
    cases ec : s.cells[k]? with
    | none => rw [ec] at e; cases e
    | some o =>
      obtain ⟨a', ha', ok⟩ := R.cellOf ec
      rw [hk] at ha'; cases ha'
      rw [ec] at e
      cases o with
      | lst xs => cases e; obtain ⟨_, vs, hH, _⟩ := ok; exact .base (.lst hH)
      | dct _ => cases e; obtain ⟨_, _, _, hH, k, _⟩ := ok; exact tyDct hH k
      | ins _ _ => cases e
      | frz w =>
        cases w with
        | lst ys =>
          cases e
          cases (show Den G F ι (.ref a) (.lst ys) from ok) with
          | lst h r =>
            rcases R.sqL h with (h | ⟨o, h⟩) | ⟨o, its, n, h1, h2, _⟩
            · exact .base (.lst h)
            · exact .base (.frz h)
            · exact .kList h1 h2
        | dct ys =>
          cases e
          cases (show Den G F ι (.ref a) (.dct ys) from ok) with
          | dctK h k r => exact tyDct (R.sub _ _ h) k
        | _ => cases e
theorem kitAny_of {K : PySem.W.Frag} {T : String} : ∀ {ts : List String} {bs : List Bool}, mapO (kitB T) ts = some bs → PySem.W.kitAny K (.type T) (ts.map Value.type) = some (bs.any id)
  | [], _, e => by simp [mapO] at e; subst e; exact kitAny_nil
  | t :: ts, _, e => by
    unfold mapO at e
    cases e1 : kitB T t with
    | none => rw [e1] at e; cases e
    | some b =>
      rw [e1] at e
      cases e2 : mapO (kitB T) ts with
      | none => rw [e2] at e; cases e
      | some bs =>
        rw [e2] at e
        cases e
        exact kitAny_cons (kit_ty e1) (fun hb => by rw [hb]; simpa using kitAny_of e2) (fun hb => by rw [hb]; rfl)
/-- x, then a class or a tuple of classes -/
def rIsi1 (G : GS) (t : String) : List V → Hp → VK → Prop := fun vs H Q => ∃ B E F ι s x a, vs = [x, .ty t] ∧ Rel G B F ι H s ∧ Den G F ι x a ∧ Po G B E F ι s (Den G) (isiM a [t] s) Q
theorem isi_ok (t : String) : CallR X (.builtin "isinstance") (rIsi1 (gsOf X g) t) := by
  intro pins s σ H vs us Q I r h
  obtain ⟨B, E, F, ι, st, x, a, rfl, R, da, h⟩ := h
  unfold isiM at h
  split at h
  · rename_i T hT
    split at h
    · rename_i bs hb
      unfold mapO at hb
      cases e1 : kitB T t with
      | none => rw [e1] at hb; cases hb
      | some b =>
        rw [e1] at hb
        simp [mapO] at hb
        subst hb
        refine call_isi pins s σ H _ us Q I r ⟨x, .ty t, _, _, b, rfl, .ty t, ty_of R da hT, kit_ty e1, ?_⟩
        have h2 := h _ _ _ _ Stp.refl R (.bl _)
        simpa using h2
    · exact h.elim
  · exact h.elim
def rIsiN (G : GS) (ts : List String) : List V → Hp → VK → Prop := fun vs H Q => ∃ B E F ι s x a p, vs = [x, .ref p] ∧ H p = some (.tup (ts.map V.ty)) ∧ Rel G B F ι H s ∧ Den G F ι x a ∧ Po G B E F ι s (Den G) (isiM a ts s) Q
theorem clsV_all : ∀ ts : List String, Paired ClsV (ts.map V.ty) (ts.map Value.type)
  | [] => .nil
  | t :: ts => .cons (.ty t) (clsV_all ts)
theorem isiN_ok (ts : List String) : CallR X (.builtin "isinstance") (rIsiN (gsOf X g) ts) := by
  intro pins s σ H vs us Q I r h
  obtain ⟨B, E, F, ι, st, x, a, p, rfl, hp, R, da, h⟩ := h
  unfold isiM at h
  split at h
  · rename_i T hT
    split at h
    · rename_i bs hb
      exact call_isiT pins s σ H _ us Q I r ⟨x, p, ts.map V.ty, _, ts.map Value.type, bs.any id, rfl, hp, clsV_all ts, ty_of R da hT, kitAny_of hb, h _ _ _ _ Stp.refl R (.bl _)⟩
    · exact h.elim
  · exact h.elim
end
end Ev

set_option linter.all false
set_option maxRecDepth 100000
set_option maxHeartbeats 1000000
/-! EvS: sorted lists and sets of the evaluator. Own work. -/
namespace Ev
open PySem PySem.Spec PyProof.Rows L2

/-! ### plain -/
theorem perm_uniq {α : Type} {R : α → α → Prop} : ∀ {xs ys : List α}, (∀ a b, a ∈ xs → b ∈ xs → R a b → R b a → a = b) → xs.Pairwise R → ys.Pairwise R → xs.Perm ys → xs = ys
  | [], ys, _, _, _, p => p.nil_eq
  | x :: xs, [], _, _, _, p => p.symm.nil_eq.symm
  | x :: xs, y :: ys, anti, hx, hy, p => by
    rw [List.pairwise_cons] at hx hy
    have e : x = y := by
      rcases List.mem_cons.mp (p.mem_iff.mp (List.mem_cons_self : x ∈ x :: xs)) with h | h
      · exact h
      · rcases List.mem_cons.mp (p.mem_iff.mpr (List.mem_cons_self : y ∈ y :: ys)) with h2 | h2
        · exact h2.symm
        · exact anti x y List.mem_cons_self (List.mem_cons_of_mem _ h2) (hx.1 y h2) (hy.1 x h)
    subst e
    rw [perm_uniq (fun a b ha hb => anti a b (List.mem_cons_of_mem _ ha) (List.mem_cons_of_mem _ hb)) hx.2 hy.2 p.cons_inv]
theorem insI_perm (x : Int) : ∀ xs : List Int, (insI x xs).Perm (x :: xs)
  | [] => .refl _
  | y :: r => by
    unfold insI
    split
    · exact .refl _
    · exact ((insI_perm x r).cons y).trans (.swap x y r)
theorem insI_pw (x : Int) : ∀ xs : List Int, xs.Pairwise (· ≤ ·) → (insI x xs).Pairwise (· ≤ ·)
  | [], _ => by simp [insI]
  | y :: r, h => by
    unfold insI
    rw [List.pairwise_cons] at h
    split
    · rename_i hc
      refine List.pairwise_cons.mpr ⟨fun z hz => ?_, List.pairwise_cons.mpr h⟩
      rcases List.mem_cons.mp hz with e | e
      · rw [e]; exact hc
      · exact Int.le_trans hc (h.1 z e)
    · rename_i hc
      refine List.pairwise_cons.mpr ⟨fun z hz => ?_, insI_pw x r h.2⟩
      rcases List.mem_cons.mp ((insI_perm x r).mem_iff.mp hz) with e | e
      · rw [e]; omega
      · exact h.1 z e
theorem sortI_perm : ∀ xs : List Int, (sortI xs).Perm xs
  | [] => .refl _
  | x :: xs => (insI_perm x (sortI xs)).trans ((sortI_perm xs).cons x)
theorem sortI_pw : ∀ xs : List Int, (sortI xs).Pairwise (· ≤ ·)
  | [] => .nil
  | x :: xs => insI_pw x _ (sortI_pw xs)
theorem sortI_uniq {xs ys : List Int} (p : ys.Perm xs) (h : ys.Pairwise (· ≤ ·)) : ys = sortI xs :=
  perm_uniq (fun a b _ _ h1 h2 => Int.le_antisymm h1 h2) h (sortI_pw xs) (p.trans (sortI_perm xs).symm)

theorem lexB_refl : ∀ xs : List Int, lexB xs xs = true
  | [] => rfl
  | x :: xs => by simp [lexB, lexB_refl xs]
theorem lexB_anti : ∀ {xs ys : List Int}, lexB xs ys = true → lexB ys xs = true → xs = ys
  | [], [], _, _ => rfl
  | [], _ :: _, _, h => by simp [lexB] at h
  | _ :: _, [], h, _ => by simp [lexB] at h
  | x :: xs, y :: ys, h1, h2 => by
    simp only [lexB, Bool.or_eq_true, Bool.and_eq_true, decide_eq_true_eq] at h1 h2
    have e : x = y := by omega
    subst e
    have h1' : lexB xs ys = true := by rcases h1 with h | h; · omega
                                       · exact h.2
    have h2' : lexB ys xs = true := by rcases h2 with h | h; · omega
                                       · exact h.2
    rw [lexB_anti h1' h2']
theorem lexB_total : ∀ xs ys : List Int, lexB xs ys = false → lexB ys xs = true
  | [], _, h => by simp [lexB] at h
  | _ :: _, [], _ => rfl
  | x :: xs, y :: ys, h => by
    simp only [lexB, Bool.or_eq_false_iff, Bool.and_eq_false_iff, decide_eq_false_iff_not] at h
    simp only [lexB, Bool.or_eq_true, Bool.and_eq_true, decide_eq_true_eq]
    rcases h.2 with h2 | h2
    · exact .inl (by omega)
    · by_cases e : y = x
      · exact .inr ⟨e, lexB_total xs ys h2⟩
      · exact .inl (by omega)
theorem lexB_trans : ∀ {xs ys zs : List Int}, lexB xs ys = true → lexB ys zs = true → lexB xs zs = true
  | [], _, _, _, _ => by simp [lexB]
  | _ :: _, [], _, h, _ => by simp [lexB] at h
  | _ :: _, _ :: _, [], _, h => by simp [lexB] at h
  | x :: xs, y :: ys, z :: zs, h1, h2 => by
    simp only [lexB, Bool.or_eq_true, Bool.and_eq_true, decide_eq_true_eq] at h1 h2 ⊢
    rcases h1 with h1 | h1
    · rcases h2 with h2 | h2
      · exact .inl (by omega)
      · exact .inl (by omega)
    · rcases h2 with h2 | h2
      · exact .inl (by omega)
      · exact .inr ⟨by omega, lexB_trans h1.2 h2.2⟩
theorem insT_perm (x : List Int) : ∀ xs : List (List Int), (insT x xs).Perm (x :: xs)
  | [] => .refl _
  | y :: r => by
    unfold insT
    split
    · exact .refl _
    · exact ((insT_perm x r).cons y).trans (.swap x y r)
abbrev LexP (a b : List Int) : Prop := lexB a b = true
theorem insT_pw (x : List Int) : ∀ xs : List (List Int), xs.Pairwise LexP → (insT x xs).Pairwise LexP
  | [], _ => by simp [insT]
  | y :: r, h => by
    unfold insT
    rw [List.pairwise_cons] at h
    split
    · rename_i hc
      refine List.pairwise_cons.mpr ⟨fun z hz => ?_, List.pairwise_cons.mpr h⟩
      rcases List.mem_cons.mp hz with e | e
      · rw [e]; exact hc
      · exact lexB_trans hc (h.1 z e)
    · rename_i hc
      refine List.pairwise_cons.mpr ⟨fun z hz => ?_, insT_pw x r h.2⟩
      rcases List.mem_cons.mp ((insT_perm x r).mem_iff.mp hz) with e | e
      · rw [e]; exact lexB_total _ _ (by simpa using hc)
      · exact h.1 z e
theorem sortT_perm : ∀ xs : List (List Int), (sortT xs).Perm xs
  | [] => .refl _
  | x :: xs => (insT_perm x (sortT xs)).trans ((sortT_perm xs).cons x)
theorem sortT_pw : ∀ xs : List (List Int), (sortT xs).Pairwise LexP
  | [] => .nil
  | x :: xs => insT_pw x _ (sortT_pw xs)
theorem sortT_uniq {xs ys : List (List Int)} (p : ys.Perm xs) (h : ys.Pairwise LexP) : ys = sortT xs :=
  perm_uniq (fun a b _ _ h1 h2 => lexB_anti h1 h2) h (sortT_pw xs) (p.trans (sortT_perm xs).symm)
theorem mem_insU {x z : List Int} : ∀ {xs : List (List Int)}, z ∈ insU x xs ↔ z = x ∨ z ∈ xs
  | [] => by simp [insU]
  | y :: r => by
    unfold insU
    split
    · rename_i e
      subst e
      simp
    · split
      · simp
      · simp only [List.mem_cons, mem_insU (xs := r)]
        constructor
        · rintro (h | h | h)
          · exact .inr (.inl h)
          · exact .inl h
          · exact .inr (.inr h)
        · rintro (h | h | h)
          · exact .inr (.inl h)
          · exact .inl h
          · exact .inr (.inr h)
abbrev LexS (a b : List Int) : Prop := lexB a b = true ∧ a ≠ b
theorem LexS.trans {a b c : List Int} (h1 : LexS a b) (h2 : LexP b c) : LexS a c := ⟨lexB_trans h1.1 h2, fun e => by
  subst e
  exact h1.2 (lexB_anti h1.1 h2)⟩
theorem insU_pw (x : List Int) : ∀ xs : List (List Int), xs.Pairwise LexS → (insU x xs).Pairwise LexS
  | [], _ => by simp [insU]
  | y :: r, h => by
    unfold insU
    have h' := h
    rw [List.pairwise_cons] at h
    split
    · exact h'
    · rename_i hne
      split
      · rename_i hc
        refine List.pairwise_cons.mpr ⟨fun z hz => ?_, h'⟩
        rcases List.mem_cons.mp hz with e | e
        · rw [e]; exact ⟨hc, hne⟩
        · exact LexS.trans ⟨hc, hne⟩ (h.1 z e).1
      · rename_i hc
        refine List.pairwise_cons.mpr ⟨fun z hz => ?_, insU_pw x r h.2⟩
        rcases mem_insU.mp hz with e | e
        · rw [e]; exact ⟨lexB_total _ _ (by simpa using hc), fun z => hne z.symm⟩
        · exact h.1 z e
theorem mem_setT {z : List Int} : ∀ {xs : List (List Int)}, z ∈ setT xs ↔ z ∈ xs
  | [] => by simp [setT]
  | x :: xs => by
    show z ∈ insU x (setT xs) ↔ _
    rw [mem_insU, mem_setT]
    simp
theorem setT_pw : ∀ xs : List (List Int), (setT xs).Pairwise LexS
  | [] => .nil
  | x :: xs => insU_pw x _ (setT_pw xs)
theorem setT_nodup (xs : List (List Int)) : (setT xs).Nodup := (setT_pw xs).imp fun h => h.2
theorem setT_uniq {xs ys : List (List Int)} (hn : ys.Nodup) (hm : ∀ z, z ∈ ys ↔ z ∈ xs) (h : ys.Pairwise LexP) : ys = setT xs :=
  perm_uniq (fun a b _ _ h1 h2 => lexB_anti h1 h2) h ((setT_pw xs).imp fun h => h.1) ((List.perm_ext_iff_of_nodup hn (setT_nodup xs)).mpr fun z => by rw [hm, mem_setT])

/-! ### the layer's code -/
theorem code_lex' {B : Int} : ∀ {xs ys : List Int}, xs.length = ys.length → TS.Bd B xs → TS.Bd B ys → lexB xs ys = false → TS.code B ys < TS.code B xs
  | [], _, _, _, _, h => by simp [lexB] at h
  | _ :: _, [], h, _, _, _ => by simp at h
  | x :: xs, y :: ys, hl, h1, h2, h => by
    simp only [lexB, Bool.or_eq_false_iff, Bool.and_eq_false_iff, decide_eq_false_iff_not] at h
    have hl' : xs.length = ys.length := by simpa using hl
    by_cases e : x = y
    · subst e
      have h3 : lexB xs ys = false := by rcases h.2 with h | h; · exact absurd rfl h
                                         · exact h
      exact (TS.code_same hl'.symm).mpr (code_lex' hl' h1.tail h2.tail h3)
    · exact TS.code_lt hl'.symm h2.tail h1.tail (by omega)
theorem lex_of_code {B : Int} {xs ys : List Int} (hl : xs.length = ys.length) (h1 : TS.Bd B xs) (h2 : TS.Bd B ys) (h : TS.code B xs ≤ TS.code B ys) : lexB xs ys = true := by
  cases e : lexB xs ys with
  | true => rfl
  | false =>
    have := code_lex' hl h1 h2 e
    omega
/-- a bound -/
def bdOf (ts : List (List Int)) : Int := 1 + (ts.flatten.map Int.natAbs).sum
theorem bd_of {ts : List (List Int)} (h : tupsOk ts = true) : ∀ t ∈ ts, TS.Bd (bdOf ts) t := fun t ht m hm => by
  have hall : ∀ u ∈ ts, ∀ i ∈ u, 0 ≤ i := by
    cases ts with
    | nil => intro u hu; cases hu
    | cons a r =>
      simp only [tupsOk, Bool.and_eq_true] at h
      intro u hu i hi
      have := List.all_eq_true.mp h.2 u hu
      simp only [Bool.and_eq_true] at this
      exact of_decide_eq_true (List.all_eq_true.mp this.2 i hi)
  refine ⟨hall t ht m hm, ?_⟩
  have key : ∀ (l : List Int) (i : Int), i ∈ l → i.natAbs ≤ (l.map Int.natAbs).sum := by
    intro l
    induction l with
    | nil => intro i hi; cases hi
    | cons a l ih =>
      intro i hi
      rcases List.mem_cons.mp hi with e | e
      · subst e; simp
      · have := ih i e; simp; omega
  have := key ts.flatten m (List.mem_flatten.mpr ⟨t, ht, hm⟩)
  unfold bdOf
  omega
theorem len_of {ts : List (List Int)} (h : tupsOk ts = true) : ∃ d, 1 ≤ d ∧ ∀ t ∈ ts, t.length = d := by
  cases ts with
  | nil => exact ⟨1, Nat.le_refl _, fun t ht => by cases ht⟩
  | cons a r =>
    simp only [tupsOk, Bool.and_eq_true] at h
    refine ⟨a.length, of_decide_eq_true h.1, fun t ht => ?_⟩
    have := List.all_eq_true.mp h.2 t ht
    simp only [Bool.and_eq_true] at this
    exact eq_of_beq this.1

/-! ### lists of tuples over the heap -/
section
variable {G : GS} {F : Hp} {ι : List Addr}
theorem ints_map : ∀ {xs : List AV} {ns : List Int}, intsOf xs = some ns → xs = ns.map AV.int
  | [], _, e => by simp [intsOf, mapO] at e; subst e; rfl
  | x :: xs, ns, e => by
    unfold intsOf mapO at e
    cases x with
    | int i =>
      simp only [asI] at e
      cases e2 : mapO asI xs with
      | none => rw [e2] at e; cases e
      | some r =>
        rw [e2] at e; cases e
        rw [ints_map (xs := xs) (ns := r) e2]; rfl
    | _ => simp [asI] at e
theorem tups_map : ∀ {xs : List AV} {ts : List (List Int)}, tupsOf xs = some ts → xs = ts.map ofTup
  | [], _, e => by simp [tupsOf, mapO] at e; subst e; rfl
  | x :: xs, ts, e => by
    unfold tupsOf mapO at e
    cases e1 : tupOf x with
    | none => rw [e1] at e; cases e
    | some t =>
      rw [e1] at e
      simp only at e
      cases e2 : mapO tupOf xs with
      | none => rw [e2] at e; cases e
      | some r =>
        rw [e2] at e; cases e
        rw [tups_map (xs := xs) (ts := r) e2]
        cases x with
        | tup ys => rw [ints_map (xs := ys) (ns := t) e1]; rfl
        | _ => simp [tupOf] at e1
theorem den_intsV : ∀ {vs : List V} {ns : List Int}, DenAll G F ι vs (ns.map AV.int) → vs = ns.map V.int
  | [], [], _ => rfl
  | _, n :: ns, h => by
    rw [List.map_cons] at h
    cases h with
    | cons d r => cases d; rw [den_intsV r]; rfl
  | _ :: _, [], h => by cases h
theorem den_tup {v : V} {t : List Int} (d : Den G F ι v (ofTup t)) : ∃ a, v = .ref a ∧ SqX G.K F a (t.map V.int) := by
  cases d with
  | tup h r => rw [den_intsV r] at h; exact ⟨_, rfl, h⟩
theorem tups_perm {vs ys : List V} (p : vs.Perm ys) : ∀ {ts : List (List Int)}, DenAll G F ι vs (ts.map ofTup) → ∃ ts', ts.Perm ts' ∧ DenAll G F ι ys (ts'.map ofTup) := by
  induction p with
  | nil => intro ts h; cases ts with
    | nil => exact ⟨[], .refl _, .nil⟩
    | cons _ _ => cases h
  | cons x p ih => intro ts h; cases ts with
    | nil => cases h
    | cons t ts =>
      cases h with
      | cons d r =>
        obtain ⟨ts', p', r'⟩ := ih r
        exact ⟨t :: ts', p'.cons t, .cons d r'⟩
  | swap x y l => intro ts h; match ts, h with
    | t :: u :: ts, .cons d (.cons d2 r) => exact ⟨u :: t :: ts, .swap u t ts, .cons d2 (.cons d r)⟩
  | trans p1 p2 ih1 ih2 => intro ts h
                           obtain ⟨t1, q1, r1⟩ := ih1 h
                           obtain ⟨t2, q2, r2⟩ := ih2 r1
                           exact ⟨t2, q1.trans q2, r2⟩
theorem tups_pw {P : V → V → Prop} {Q : List Int → List Int → Prop} (k : ∀ y z n m, P y z → Den G F ι y (ofTup n) → Den G F ι z (ofTup m) → Q n m) : ∀ {ys : List V} {ts : List (List Int)}, ys.Pairwise P → DenAll G F ι ys (ts.map ofTup) → ts.Pairwise Q
  | _, [], _, _ => .nil
  | [], _ :: _, _, h => by cases h
  | y :: ys, t :: ts, hp, h => by
    rw [List.pairwise_cons] at hp
    cases h with
    | cons d r =>
      refine List.pairwise_cons.mpr ⟨fun u hu => ?_, tups_pw k hp.2 r⟩
      obtain ⟨j, hj, e⟩ := List.getElem_of_mem hu
      have hj2 : (ts.map ofTup)[j]? = some (ofTup u) := by rw [List.getElem?_map, List.getElem?_eq_getElem hj, e]; rfl
      obtain ⟨v, hv, dv⟩ := r.get hj2
      exact k y v t u (hp.1 v (List.mem_of_getElem? hv)) d dv
theorem tups_at : ∀ {vs : List V} {ts : List (List Int)}, DenAll G F ι vs (ts.map ofTup) → ∃ ks : List (Addr × List Int), vs = ks.map (fun p => V.ref p.1) ∧ ks.map (·.2) = ts ∧ ∀ p ∈ ks, SqX G.K F p.1 (p.2.map V.int)
  | [], [], _ => ⟨[], rfl, rfl, fun p hp => by cases hp⟩
  | _, t :: ts, h => by
    rw [List.map_cons] at h
    cases h with
    | cons d r =>
      obtain ⟨a, rfl, ha⟩ := den_tup d
      obtain ⟨ks, e1, e2, e3⟩ := tups_at r
      refine ⟨(a, t) :: ks, by rw [e1]; rfl, by simp [e2], fun p hp => ?_⟩
      rcases List.mem_cons.mp hp with e | e
      · subst e; exact ha
      · exact e3 p e
  | _ :: _, [], h => by cases h
theorem den_intsA : ∀ ns : List Int, DenAll G F ι (ns.map V.int) (ns.map AV.int)
  | [] => .nil
  | n :: r => .cons (.int n) (den_intsA r)
theorem tups_back : ∀ {L : List (Addr × List Int)}, (∀ p ∈ L, SqX G.K F p.1 (p.2.map V.int)) → DenAll G F ι (L.map fun q => V.ref q.1) ((L.map (·.2)).map ofTup)
  | [], _ => .nil
  | p :: L, h => .cons (.tup (h p List.mem_cons_self) (den_intsA p.2)) (tups_back fun q hq => h q (List.mem_cons_of_mem _ hq))
end

/-! ### sorted of a tuple -/
section
variable {prog : Program} {w : World} {A : Around} {E : Value → Shared → Prop} {s : Shared} {Q : List Value → Shared → Prop}
/-- all items of a tuple, by way of a new list -/
theorem gather_tup {t : Addr} {vs : List Value} (ht : s.heap.IsTuple t vs.toArray) (hz : vs.length ≤ sizeLine) (k : Q vs { s with heap := (s.heap.push (seqObj "list" #[] 0)).update s.heap.objs.size (Obj.mapSeq (· ++ vs.toArray)) }) : wpAny (model prog w) A (collect (.ref t)) Q E s := by
  obtain ⟨o, ho, hc, n, hd⟩ := id ht
  have up : (s.heap.push (seqObj "list" #[] 0)).get? t = some o := Heap.get?_push_of_some _ ho
  have new := Heap.get?_push_size s.heap (o := seqObj "list" #[] 0) rfl
  unfold collect
  refine wpAny_bind (wpAny_runValue (codeAny_builtin PyProof.Rows.entry_proto_collect' (?_ : wpAny _ _ (do again (.builtin "list.__iadd__" ⟨[← newList [], .ref t], []⟩)) _ _ s)))
  refine wpAny_bind (wpAny_newList (wpAny_pure ⟨Code.quiet_builtin _ (by decide +kernel), codeAny_builtin PyProof.Rows.entry_list_iadd' (?_ : wpAny _ _ (Builtin.List.listExtendWith (.ref s.heap.objs.size) (.ref t) (.ref s.heap.objs.size)) _ _ { s with heap := s.heap.push (seqObj "list" #[] 0) })⟩))
  unfold Builtin.List.listExtendWith
  refine wpAny_bind (wpAny_typeOf (T := "tuple") ⟨o, up, hc⟩ ?_)
  rw [if_pos (by rw [show (Value.type "tuple" == Value.type "tuple") = true from rfl]; simp)]
  refine wpAny_bind (PyProof.Rows.listItems_at up hd (wpAny_bind (PyProof.Rows.listItems_at (xs := #[]) (n := 0) new rfl ?_)))
  rw [if_neg (by simp)]
  refine wpAny_bind (PyProof.Rows.listUpdate_at (xs := #[]) (n := 0) new rfl (wpAny_pure ?_) (Nat.zero_le _) (by show (#[] ++ vs.toArray).size ≤ _; simp only [Array.size_append, List.size_toArray, List.length_nil]; omega))
  show wpAny (model prog w) A (do let o ← load s.heap.objs.size; match o.data with | .seq xs _ => pure xs.toList | _ => unsupported "internal:collect") Q E _
  refine wpAny_bind (wpAny_load (PyProof.Rows.get?_update_seq new _) (?_ : wpAny _ _ (pure ((#[] : Array Value) ++ vs.toArray).toList) Q E _))
  rw [show ((#[] : Array Value) ++ vs.toArray).toList = vs by simp]
  exact wpAny_pure k
/-- sorted of a tuple -/
theorem sorted_tup {t : Addr} {vs : List Value} {lt : Value → Value → Bool} {Q : Value → Shared → Prop} (O : SrtO.Swo lt) (ht : s.heap.IsTuple t vs.toArray) (hz : vs.length ≤ sizeLine)
    (hS : 2 ≤ vs.length → ∀ (h1 : Heap) (a : Addr), SrtO.SortableO prog w A.in1.in1 { s with heap := h1 } a vs lt)
    (k : ∀ out : List Value, SrtO.Srtd lt out → SrtO.Stb lt out vs → Q (.ref (s.heap.objs.size + 1)) { s with heap := PyProof.Rows.sortedAll s.heap vs out.toArray }) : wpAny (model prog w) A (call (.builtin "sorted") [.ref t]) Q E s := by
  refine Calls.call_function_entry PyProof.Rows.kind_sorted PyProof.Rows.plain_sorted PyProof.Rows.entry_sorted (PyProof.Rows.args_sorted1 _) ?_
  unfold Builtin.«sorted»
  have grow : ((s.heap.push (seqObj "list" #[] 0)).update s.heap.objs.size (Obj.mapSeq (· ++ vs.toArray))).objs.size = s.heap.objs.size + 1 := (Heap.size_update ..).trans (PyProof.Rows.size_push' ..)
  have here := Heap.get?_push_size ((s.heap.push (seqObj "list" #[] 0)).update s.heap.objs.size (Obj.mapSeq (· ++ vs.toArray))) (o := seqObj "list" vs.toArray 0) rfl
  rw [grow] at here
  refine wpAny_bind (m := checkCount "sorted" 1 1 _) (wpAny_pure (wpAny_bind (gather_tup ht hz (wpAny_bind (wpAny_newList (?_) hz)))))
  rw [grow]
  exact wpAny_bind (wpAny_holding (wpAny_call_entry PyProof.Rows.slot_list_sort ⟨_, here, rfl⟩ PyProof.Rows.entry_list_sort (SrtO.list_sort_ord O here hz (fun h2 => hS h2 _ _) fun out h1 h2 => ⟨_, rfl, wpAny_pure ⟨_, rfl, k out h1 h2⟩⟩) (PyProof.Rows.args_list_sort _)))
end
section
variable {X : Cx}
theorem cr_sortedIT : CallR X (.builtin "sorted") (fun vs H Q => ∃ (a : Addr) (ns : List Int), vs = [V.ref a] ∧ SqT X.K H a (ns.map V.int) ∧ ∀ (ns' : List Int) (p : Addr), ns'.Perm ns → ns'.Pairwise (· ≤ ·) → H p = none → Q (.ref p) (upd H p (.lst (ns'.map V.int)))) := by
  intro pins s σ H vs us Q I r h
  obtain ⟨a, ns, rfl, hs, q⟩ := h
  obtain ⟨its, rv, ht, hz⟩ := I.tuple hs
  rw [Vals.ref1 r]
  have hi := rv.ints
  refine sorted_tup SrtO.swo_int ht (by rw [← rv.length]; exact hz) (fun h2 h₁ a' => SrtO.ints_sortable hi h2) fun out h1 h2 => ?_
  obtain ⟨k1, k2, k3⟩ := SrtO.ints_out hi h1 h2
  obtain ⟨ep, at'⟩ := PyProof.Rows.sortedAll_at s.heap its out.toArray
  have len : ((out.map SrtO.iv).map V.int).length ≤ sizeLine := by
    rw [List.length_map, k2.length_eq]
    simpa using hz
  exact ⟨.ref _, upd H (s.heap.objs.size + 1) (.lst ((out.map SrtO.iv).map V.int)), I.laid (t' := s.toks) (fun _ _ => PyProof.Rows.sortedAll_old) (Nat.le_succ _) ⟨len, out, ep, vals_of_ints k1, at'⟩, rfl, q _ _ k2 k3 (I.hok.fresh (Nat.le_succ _))⟩
end
/-! ### sorted, sorted(set()), len(set()) -/
section
variable {X : Cx} {g : GN}
theorem Rel.sq {G : GS} {B : Hp} {F : Hp} {ι : List Addr} {H : Hp} {s : AS} {a : Addr} {vs : List V} (R : Rel G B F ι H s) (h : SqX G.K F a vs) : SqT G.K H a vs := sqT_mono R.sub h.t
/-- sorted of a list of tuples of ints -/
theorem sortedT_ok {pins : List (Addr × Obj)} {s : Shared} {σ : L2.St} {H : Hp} {us : List Value} {a : Addr} {xs : List V} {ts : List (List Int)} {B F : Hp} {ι : List Addr} {E : XK} {st : AS} {al : Bool} {Q : VK} {ws : List V} (I : Inv X pins σ H s) (r : Vals ws us) (hw : ws = [.ref a]) (hl : SqL X.K H a xs)
    (R : Rel (gsOf X g) B F ι H st) (d : DenAll (gsOf X g) F ι xs (ts.map ofTup)) (ok : tupsOk ts = true) (h64 : ts.length < 64) (h : Po (gsOf X g) B E F ι st (Den (gsOf X g)) (mkL al ((sortT ts).map ofTup) st) Q) :
    wpAny (model X.prog X.w) X.A (call (.builtin "sorted") us) (EP X pins σ Q) X.xe s := by
  obtain ⟨dd, hd, hlen⟩ := len_of ok
  have bd := bd_of ok
  have hx : ∀ x ∈ xs, ∃ t ∈ ts, Den (gsOf X g) F ι x (ofTup t) := fun x hx => by
    obtain ⟨j, hj, e⟩ := List.getElem_of_mem hx
    obtain ⟨y, hy, dy⟩ := d.getV (i := j) (v := x) (by rw [List.getElem?_eq_getElem hj, e])
    rw [List.getElem?_map] at hy
    cases ht : ts[j]? with
    | none => rw [ht] at hy; cases hy
    | some t => rw [ht] at hy; cases hy; exact ⟨t, List.mem_of_getElem? ht, dy⟩
  refine cr_sortT (X := X) (d := dd) (B := bdOf ts) hd pins s σ H ws us Q I r ⟨a, xs, hw, hl, ?_, fun x hm => ?_, fun ys p hp pw np => ?_⟩
  · have := d.length
    simp at this
    omega
  · obtain ⟨t, ht, dt⟩ := hx x hm
    obtain ⟨b, rfl, hb⟩ := den_tup dt
    exact ⟨t, ⟨b, rfl, R.sq hb⟩, hlen t ht, bd t ht⟩
  · obtain ⟨ts', p1, d1⟩ := tups_perm hp.symm d
    have pw2 : ts'.Pairwise (fun n m => TS.code (bdOf ts) n ≤ TS.code (bdOf ts) m) := tups_pw (fun y z n m hyz dn dm => by
      obtain ⟨b, rfl, hb⟩ := den_tup dn
      obtain ⟨c, rfl, hc⟩ := den_tup dm
      exact hyz n m ⟨b, rfl, R.sq hb⟩ ⟨c, rfl, R.sq hc⟩) pw d1
    have pw3 : ts'.Pairwise LexP := pw2.imp_of_mem fun {n m} hn hm hnm => by
      have h1 := p1.mem_iff.mpr hn
      have h2 := p1.mem_iff.mpr hm
      exact lex_of_code ((hlen n h1).trans (hlen m h2).symm) (bd n h1) (bd m h2) hnm
    have e := sortT_uniq p1.symm pw3
    subst e
    exact Po.newL R d1 h np
end
end Ev

set_option linter.all false
set_option maxRecDepth 100000
set_option maxHeartbeats 1000000
/-! EvD: built-ins and methods. Own work. -/
namespace Ev
open PySem PySem.Spec PyProof.Rows L2

def bltV : Blt → Value
  | .len => .builtin "len" | .int => .type "int" | .str => .type "str" | .abs => .builtin "abs" | .repr => .builtin "repr" | .all => .builtin "all" | .tuple => .type "tuple" | .list => .type "list" | .sum => .builtin "sum" | .min => .builtin "min" | .max => .builtin "max" | .sorted => .builtin "sorted" | .any => .builtin "any"
def bltN : Blt → Str
  | .len => "len" | .int => "int" | .str => "str" | .abs => "abs" | .repr => "repr" | .all => "all" | .tuple => "tuple" | .list => "list" | .sum => "sum" | .min => "min" | .max => "max" | .sorted => "sorted" | .any => "any"

/-- what a body's context must bear beside the layer's own -/
structure Fit (X : Cx) : Prop where
  calm : X.calm = true
  un : X.A.units + 100 < cLine
  gd : X.A.guards = some []
  dp : X.A.depth < recursionLimit

def rBlt (G : GS) (b : Blt) (al : Bool) : List V → Hp → VK → Prop := fun vs H Q => ∃ B E F ι s as, Rel G B F ι H s ∧ DenAll G F ι vs as ∧ Po G B E F ι s (Den G) (bltM b al as s) Q

section
variable {X : Cx} {g : GN}
theorem mapO_bl : ∀ {xs : List AV} {bs : List Bool}, mapO (fun v => match v with | AV.bl b => some b | _ => none) xs = some bs → xs = bs.map AV.bl
  | [], _, e => by simp [mapO] at e; subst e; rfl
  | x :: xs, bs, e => by
    unfold mapO at e
    cases x with
    | bl b =>
      simp only at e
      cases e2 : mapO (fun v => match v with | AV.bl b => some b | _ => none) xs with
      | none => rw [e2] at e; cases e
      | some ys => rw [e2] at e; cases e; rw [mapO_bl e2]; rfl
    | _ => simp at e
theorem den_bls {G : GS} {F : Hp} {ι : List Addr} : ∀ {vs : List V} {bs : List Bool}, DenAll G F ι vs (bs.map AV.bl) → vs = bs.map V.bl
  | [], [], _ => rfl
  | _, b :: bs, h => by
    rw [List.map_cons] at h
    cases h with
    | cons d r => cases d; rw [den_bls r]; rfl
  | _ :: _, [], h => by cases h
theorem strsOf_den {G : GS} {F : Hp} {ι : List Addr} : ∀ {vs : List V} {xs : List AV} {ys : List Str}, DenAll G F ι vs xs → strsOf xs = some ys → vs = ys.map V.str
  | _, _, _, .nil, e => by simp [strsOf] at e; subst e; rfl
  | _, _, _, .cons (x := x) (xs := xs) d r, e => by
    cases x with
    | str z =>
      simp only [strsOf] at e
      cases e2 : strsOf xs with
      | none => rw [e2] at e; cases e
      | some zs => rw [e2] at e; cases e; cases d; rw [strsOf_den r e2]; rfl
    | _ => simp [strsOf] at e
theorem repr_data (ft : Fit X) : CallR X (.builtin "repr") (fun xs H Q => ∃ x d, xs = [x] ∧ Dp X.K H x d ∧ d.showable = true ∧ d.hasDict = false ∧ d.shown.length ≤ sizeLine ∧ d.depth ≤ 64 ∧ Q (.str d.shown) H) := by
  intro pins s σ H xs us Q I r h
  obtain ⟨x, d, rfl, dp, h1, h2, h3, h4, q⟩ := h
  obtain ⟨u, rfl, rx⟩ := vals1 r
  obtain ⟨as, rd⟩ := Dp.reads I d x u dp rx
  have fin : ∀ h' (u tk : Tok), (∀ b o, s.heap.get? b = some o → h'.get? b = some o) → EP X pins σ Q (.str d.shown u) { s with heap := h', toks := tk } := fun h' u tk hk =>
    ⟨.str d.shown, H, I.kept hk, ⟨_, rfl⟩, q⟩
  cases dp with
  | non =>
    cases rx
    simp only [PyData.shown] at fin
    exact PySem.P.repr_of_none (fin s.heap _ _ fun _ _ e => e)
  | bl b =>
    cases rx
    simp only [PyData.shown] at fin
    exact PySem.P.repr_of_bool (fin s.heap _ _ fun _ _ e => e)
  | int i =>
    obtain ⟨t, rfl⟩ := rx
    simp only [PyData.shown] at fin
    exact PySem.P.repr_of_int (by simpa [PyData.showable] using h1) (fin s.heap _ _ fun _ _ e => e)
  | str z =>
    obtain ⟨t, rfl⟩ := rx
    simp only [PyData.shown] at fin h3
    exact PySem.P.repr_of_str (fin s.heap _ _ fun _ _ e => e) h3
  | lst _ _ =>
    cases rx
    have hu := ft.un
    exact repr_of_reads' rd h1 (by rw [h2]; exact fun z => nomatch z) ft.gd (by omega) (fun _ _ e => e) fin h3
  | tup _ _ =>
    cases rx
    have hu := ft.un
    exact repr_of_reads' rd h1 (by rw [h2]; exact fun z => nomatch z) ft.gd (by omega) (fun _ _ e => e) fin h3

theorem lim_le {n : Nat} (h : n ≤ LIM) : n ≤ sizeLine := by rw [← LIM_eq]; exact h

theorem blt_ok (ft : Fit X) (b : Blt) (al : Bool) : CallR X (bltV b) (rBlt (gsOf X g) b al) := by
  intro pins s σ H vs us Q I r h
  obtain ⟨B, E, F, ι, st, as, R, d, h⟩ := h
  unfold bltM at h
  split at h
  · -- len of a text
    cases d with
    | cons d d2 =>
      cases d2; cases d
      split at h
      · rename_i hz
        exact call_len pins s σ H _ us Q I r ⟨_, _, rfl, ⟨lim_le hz, rfl⟩, h _ _ _ _ Stp.refl R (.int _)⟩
      · exact h.elim
  · split at h
    · rename_i b xs hq
      cases d with
      | cons d d2 =>
        cases d2
        obtain ⟨p, ws, rfl, r1, l1, l2⟩ := R.seq d hq
        have hl := r1.length
        refine call_len pins s σ H _ us Q I r ⟨.ref p, xs.length, rfl, ?_, h _ _ _ _ Stp.refl R (.int _)⟩
        cases b with
        | true => exact .inr ⟨ws, R.sqT (l1 rfl), hl.symm⟩
        | false => exact .inl ⟨ws, l2 rfl, hl.symm⟩
    · exact h.elim
  · cases d with
    | cons d d2 => cases d2; cases d; exact call_int1 pins s σ H _ us Q I r (.inl ⟨_, rfl, h _ _ _ _ Stp.refl R (.int _)⟩)
  · cases d with
    | cons d d2 => cases d2; cases d; exact call_int1 pins s σ H _ us Q I r (.inr ⟨_, rfl, h _ _ _ _ Stp.refl R (.int _)⟩)
  · cases d with
    | cons d d2 =>
      cases d2; cases d
      split at h
      · rename_i hz
        exact call_str_int pins s σ H _ us Q I r ⟨_, rfl, hz, h _ _ _ _ Stp.refl R (.str _)⟩
      · exact h.elim
  · cases d with
    | cons d d2 => cases d2; cases d; exact call_abs pins s σ H _ us Q I r ⟨_, rfl, h _ _ _ _ Stp.refl R (.int _)⟩
  · cases d with
    | cons d d2 =>
      cases d2
      split at h
      · rename_i y hy
        split at h
        · rename_i hc
          exact repr_data ft pins s σ H _ us Q I r ⟨_, y, rfl, R.py _ d hy, hc.1, hc.2.1, lim_le hc.2.2.1, hc.2.2.2, h _ _ _ _ Stp.refl R (.str _)⟩
        · exact h.elim
      · exact h.elim
  · cases d with
    | cons d d2 =>
      cases d2
      split at h
      · rename_i xs hq
        split at h
        · rename_i bs hb
          obtain ⟨p, ws, rfl, r1, l1, l2⟩ := R.seq d hq
          have e := mapO_bl hb
          subst e
          have e := den_bls r1
          subst e
          exact cr_all ft.calm pins s σ H _ us Q I r ⟨p, bs, rfl, l2 rfl, h _ _ _ _ Stp.refl R (.bl _)⟩
        · exact h.elim
      · exact h.elim
  · cases d with
    | cons d d2 =>
      cases d2
      split at h
      · rename_i b xs hq
        obtain ⟨p, ws, rfl, r1, l1, l2⟩ := R.seq d hq
        cases b with
        | true => exact call_tuple_of pins s σ H _ us Q I r ⟨p, ws, rfl, .inr ⟨R.sqT (l1 rfl), h _ _ _ _ Stp.refl R (.tup (l1 rfl) r1)⟩⟩
        | false => exact call_tuple_of pins s σ H _ us Q I r ⟨p, ws, rfl, .inl ⟨l2 rfl, fun z hz => Po.newT R r1 h hz⟩⟩
      · exact h.elim
  · cases d with
    | cons d d2 =>
      cases d2
      split at h
      · rename_i b xs hq
        obtain ⟨p, ws, rfl, r1, l1, l2⟩ := R.seq d hq
        refine call_list_of pins s σ H _ us Q I r ⟨p, ws, rfl, ?_, fun z hz => Po.newL R r1 h hz⟩
        cases b with
        | true => exact .inr (R.sqT (l1 rfl))
        | false => exact .inl (l2 rfl)
      · exact h.elim
  · cases d with
    | cons d d2 =>
      cases d2
      split at h
      · rename_i xs hq
        split at h
        · rename_i ns hn
          obtain ⟨p, ws, rfl, r1, l1, l2⟩ := R.seq d hq
          have e := ints_map hn
          subst e
          have e := den_intsV r1
          subst e
          exact cr_sum ft.calm pins s σ H _ us Q I r ⟨p, ns, rfl, l2 rfl, h _ _ _ _ Stp.refl R (.int _)⟩
        · exact h.elim
      · exact h.elim
  · cases d with
    | cons d d2 => cases d2 with
      | cons d2 d3 => cases d3; cases d; cases d2; exact call_min2 ft.calm pins s σ H _ us Q I r ⟨_, _, rfl, h _ _ _ _ Stp.refl R (.int _)⟩
  · cases d with
    | cons d d2 => cases d2 with
      | cons d2 d3 => cases d3; cases d; cases d2; exact call_max2 ft.calm pins s σ H _ us Q I r ⟨_, _, rfl, h _ _ _ _ Stp.refl R (.int _)⟩
  · cases d with
    | cons d d2 =>
      cases d2
      split at h
      · rename_i xs hq
        obtain ⟨p, ws, rfl, r1, l1, l2⟩ := R.seq d hq
        split at h
        · rename_i ns hn
          have e := ints_map hn
          subst e
          have e := den_intsV r1
          subst e
          refine cr_sortedIT pins s σ H _ us Q I r ⟨p, ns, rfl, R.sqT (l1 rfl), fun ns' q hp hs hq => ?_⟩
          have e := sortI_uniq hp hs
          subst e
          exact Po.newL R (den_intsA _) h hq
        · exact h.elim
      · rename_i xs hq
        obtain ⟨p, ws, rfl, r1, l1, l2⟩ := R.seq d hq
        split at h
        · rename_i ns hn
          have e := ints_map hn
          subst e
          have e := den_intsV r1
          subst e
          refine cr_sortedI pins s σ H _ us Q I r ⟨p, ns, rfl, l2 rfl, fun ns' q hp hs hq => ?_⟩
          have e := sortI_uniq hp hs
          subst e
          exact Po.newL R (den_intsA _) h hq
        · split at h
          · rename_i ts ht
            split at h
            · rename_i hc
              have e := tups_map ht
              subst e
              exact sortedT_ok I r rfl (l2 rfl) R r1 hc.1 hc.2 h
            · exact h.elim
          · exact h.elim
      · exact h.elim
  · cases d with
    | cons d d2 =>
      cases d2
      split at h
      · rename_i xs hq
        split at h
        · rename_i bs hb
          obtain ⟨p, ws, rfl, r1, l1, l2⟩ := R.seq d hq
          have e := mapO_bl hb
          subst e
          have e := den_bls r1
          subst e
          exact cr_any ft.calm pins s σ H _ us Q I r ⟨p, bs, rfl, l2 rfl, h _ _ _ _ Stp.refl R (.bl _)⟩
        · exact h.elim
      · exact h.elim
  · exact h.elim

/-! ### stores -/
theorem newer_le {k : Nat} : ∀ (n : Nat) {v : AV}, newer k n v = false → ∀ j, RefIn j v → j ≤ k
  | 0, v, h, _, _ => by simp [newer] at h
  | n + 1, v, h, j, r => by
    cases r with
    | ref => simp [newer] at h; exact h
    | tup hm r =>
      simp only [newer, List.any_eq_false] at h
      exact newer_le n (by simpa using h _ hm) j r
    | lst hm r =>
      simp only [newer, List.any_eq_false] at h
      exact newer_le n (by simpa using h _ hm) j r
    | dctK hm r =>
      simp only [newer, List.any_eq_false] at h
      have := h _ hm
      simp only [Bool.or_eq_true, not_or, Bool.not_eq_true] at this
      exact newer_le n this.1 j r
    | dctV hm r =>
      simp only [newer, List.any_eq_false] at h
      have := h _ hm
      simp only [Bool.or_eq_true, not_or, Bool.not_eq_true] at this
      exact newer_le n this.2 j r
    | ins hm r =>
      simp only [newer, List.any_eq_false] at h
      exact newer_le n (by simpa using h _ hm) j r
    | exc hm r =>
      simp only [newer, List.any_eq_false] at h
      exact newer_le n (by simpa using h _ hm) j r
/-- a list cell is changed -/
theorem Rel.setL {G : GS} {B : Hp} {F : Hp} {ι : List Addr} {H : Hp} {s : AS} {k : Nat} {a : Addr} {xs ys : List AV} {vs ws : List V} {op : Bool} (R : Rel G B F ι H s) (hk : ι[k]? = some a) (hc : s.cells[k]? = some (.lst xs)) (d : DenAll G F ι ws ys)
    (ho : s.opn = true → op = true) (hr : op = false → ∀ y ∈ ys, ∀ j, RefIn j y → j ≤ k ∨ ∃ x ∈ xs, RefIn j x) :
    Stp G F ι s F ι { cells := s.cells.set k (.lst ys), opn := op } ∧ Rel G B F ι (upd H a (.lst ws)) { cells := s.cells.set k (.lst ys), opn := op } := by
  obtain ⟨hF, vs', hH, _⟩ := R.cell k a _ hk hc
  have hkl : k < s.cells.length := (List.getElem?_eq_some_iff.mp hc).1
  refine ⟨⟨Same.refl _, List.prefix_refl _, ⟨by simp, ho, fun h n hn o' ho' j hj => ?_⟩⟩, ⟨fun b u e => ?_, fun b u e => ?_, by simp [R.len], R.nd, fun b hb => ?_, fun n b o hn ho' => ?_, R.tab.put fun u e => by rw [hH] at e; cases e; exact trivial⟩⟩
  · by_cases e : k = n
    · subst e
      simp only [List.getElem?_set_self hkl] at ho'
      cases ho'
      obtain ⟨y, hy, hj⟩ := hj
      rcases hr h y hy j hj with e | ⟨x, hx, hj⟩
      · exact .inl e
      · exact .inr ⟨_, hc, x, hx, hj⟩
    · simp only [List.getElem?_set_ne e] at ho'
      exact .inr ⟨o', ho', hj⟩
  · have ne : b ≠ a := fun z => by rw [z, hF] at e; cases e
    rw [upd_ne ne]
    exact R.sub _ _ e
  · obtain ⟨h1, h2, h3⟩ := R.out b u e
    have ne : b ≠ a := fun z => h3 (z ▸ List.mem_of_getElem? hk)
    exact ⟨by rw [upd_ne ne]; exact h1, h2, h3⟩
  · by_cases e : b = a
    · subst e; exact ⟨_, upd_same⟩
    · obtain ⟨u, hu⟩ := R.here b hb
      exact ⟨u, by rw [upd_ne e]; exact hu⟩
  · by_cases e : k = n
    · subst e
      rw [hk] at hn; cases hn
      simp only [List.getElem?_set_self hkl] at ho'
      cases ho'
      exact ⟨hF, ws, upd_same, d⟩
    · simp only [List.getElem?_set_ne e] at ho'
      have ne : b ≠ a := fun z => by
        subst z
        obtain ⟨h1, e1⟩ := List.getElem?_eq_some_iff.mp hn
        obtain ⟨h2, e2⟩ := List.getElem?_eq_some_iff.mp hk
        exact e ((List.getElem_inj R.nd).mp (e2.trans e1.symm))
      exact (R.cell n b o hn ho').mono (Same.refl _) (List.prefix_refl _) id fun u h => by rw [upd_ne ne]; exact h
/-- a dict cell is changed -/
theorem Rel.setD {G : GS} {B : Hp} {F : Hp} {ι : List Addr} {H : Hp} {s : AS} {k : Nat} {a : Addr} {xs ys : List (AV × AV)} {o' : HO} {ws : List V} {op : Bool} (R : Rel G B F ι H s) (hk : ι[k]? = some a) (hc : s.cells[k]? = some (.dct xs)) (dh : DctH o' (ys.map (·.1)) ws) (d : DenAll G F ι ws (ys.map (·.2)))
    (ho : s.opn = true → op = true) (hr : op = false → ∀ p ∈ ys, ∀ j, RefIn j p.1 ∨ RefIn j p.2 → j ≤ k ∨ ∃ q ∈ xs, RefIn j q.1 ∨ RefIn j q.2) :
    Stp G F ι s F ι { cells := s.cells.set k (.dct ys), opn := op } ∧ Rel G B F ι (upd H a o') { cells := s.cells.set k (.dct ys), opn := op } := by
  obtain ⟨hF, o0, vs', hH, hd0, _⟩ := R.cell k a _ hk hc
  have hkl : k < s.cells.length := (List.getElem?_eq_some_iff.mp hc).1
  refine ⟨⟨Same.refl _, List.prefix_refl _, ⟨by simp, ho, fun h n hn o2 ho' j hj => ?_⟩⟩, ⟨fun b u e => ?_, fun b u e => ?_, by simp [R.len], R.nd, fun b hb => ?_, fun n b o hn ho' => ?_, R.tab.put fun u e => by rw [hH] at e; cases e; rcases hd0 with ⟨_, rfl, _⟩ | ⟨_, rfl, _⟩ <;> exact trivial⟩⟩
  · by_cases e : k = n
    · subst e
      simp only [List.getElem?_set_self hkl] at ho'
      cases ho'
      obtain ⟨y, hy, hj⟩ := hj
      rcases hr h y hy j hj with e | ⟨x, hx, hj⟩
      · exact .inl e
      · exact .inr ⟨_, hc, x, hx, hj⟩
    · simp only [List.getElem?_set_ne e] at ho'
      exact .inr ⟨o2, ho', hj⟩
  · have ne : b ≠ a := fun z => by rw [z, hF] at e; cases e
    rw [upd_ne ne]
    exact R.sub _ _ e
  · obtain ⟨h1, h2, h3⟩ := R.out b u e
    have ne : b ≠ a := fun z => h3 (z ▸ List.mem_of_getElem? hk)
    exact ⟨by rw [upd_ne ne]; exact h1, h2, h3⟩
  · by_cases e : b = a
    · subst e; exact ⟨_, upd_same⟩
    · obtain ⟨u, hu⟩ := R.here b hb
      exact ⟨u, by rw [upd_ne e]; exact hu⟩
  · by_cases e : k = n
    · subst e
      rw [hk] at hn; cases hn
      simp only [List.getElem?_set_self hkl] at ho'
      cases ho'
      exact ⟨hF, o', ws, upd_same, dh, d⟩
    · simp only [List.getElem?_set_ne e] at ho'
      have ne : b ≠ a := fun z => by
        subst z
        obtain ⟨h1, e1⟩ := List.getElem?_eq_some_iff.mp hn
        obtain ⟨h2, e2⟩ := List.getElem?_eq_some_iff.mp hk
        exact e ((List.getElem_inj R.nd).mp (e2.trans e1.symm))
      exact (R.cell n b o hn ho').mono (Same.refl _) (List.prefix_refl _) id fun u h => by rw [upd_ne ne]; exact h
theorem putA_mem {kvs : List (AV × AV)} {y v : AV} {p : AV × AV} (h : p ∈ putA kvs y v) : (p.1 = y ∧ p.2 = v) ∨ p ∈ kvs ∨ ∃ q ∈ kvs, p.1 = q.1 ∧ p.2 = v := by
  unfold putA at h
  split at h
  · obtain ⟨q, hq, rfl⟩ := List.mem_map.mp h
    split
    · exact .inr (.inr ⟨q, hq, rfl, rfl⟩)
    · exact .inr (.inl hq)
  · rcases List.mem_append.mp h with h | h
    · exact .inr (.inl h)
    · rw [List.mem_singleton.mp h]; exact .inl ⟨rfl, rfl⟩
/-- a key that fits is stored in a dict -/
theorem dput_of {G : GS} {F H : Hp} {ι : List Addr} {a : Addr} {o : HO} {vs : List V} {kvs : List (AV × AV)} {y v : V} {b c : AV} (hs : Same F H) (ho : H a = some o) (hd : DctH o (kvs.map (·.1)) vs) (dv : DenAll G F ι vs (kvs.map (·.2))) (dk : Den G F ι y b) (dc : Den G F ι v c) (hk : keyFits kvs b = true) (hl : kvs.length < sizeLine) :
    ∃ o' ws, DPX H a y v (upd H a o') ∧ DctH o' ((putA kvs b c).map (·.1)) ws ∧ DenAll G F ι ws ((putA kvs b c).map (·.2)) := by
  have key : (∃ k, keyOf b = some k ∧ (kvs = [] ∨ ∃ p r, kvs = p :: r ∧ isTupA p.1 = false)) ∨ (∃ k, tkeyOf b = some k ∧ (kvs = [] ∨ ∃ p r, kvs = p :: r ∧ isTupA p.1 = true)) := by
    unfold keyFits at hk
    cases kvs with
    | nil =>
      rcases Bool.or_eq_true .. ▸ hk with h | h
      · obtain ⟨k, h⟩ := Option.isSome_iff_exists.mp h
        exact .inl ⟨k, h, .inl rfl⟩
      · obtain ⟨k, h⟩ := Option.isSome_iff_exists.mp h
        exact .inr ⟨k, h, .inl rfl⟩
    | cons p r =>
      simp only at hk
      split at hk
      · rename_i hp
        obtain ⟨k, h⟩ := Option.isSome_iff_exists.mp hk
        exact .inr ⟨k, h, .inr ⟨p, r, rfl, hp⟩⟩
      · rename_i hp
        obtain ⟨k, h⟩ := Option.isSome_iff_exists.mp hk
        exact .inl ⟨k, h, .inr ⟨p, r, rfl, by simpa using hp⟩⟩
  have len : ∀ {κ : Type} {f : κ → AV} {ks : List (κ × V)}, DenKF f G F ι ks kvs → ks.length < sizeLine := fun h => by
    have := congrArg List.length h.1
    rw [List.length_map, List.length_map] at this
    omega
  obtain hd | hd := hd
  · obtain ⟨ks, rfl, e1, rfl⟩ := hd
    have D : DenKF kA G F ι ks kvs := ⟨e1, dv⟩
    rcases key with ⟨k, h1, _⟩ | ⟨k, h1, h2⟩
    · obtain ⟨e3, e4⟩ := key_den dk h1
      have D2 := D.put (k := k) dc
      subst e3 e4
      exact ⟨_, _, .at (DPut.k ho (len D)), .k D2.1, D2.2⟩
    · obtain ⟨e3, q, e4, e5⟩ := tkey_den dk h1
      have hn : kvs = [] := by
        rcases h2 with h2 | ⟨p, r, rfl, hp⟩
        · exact h2
        · cases ks with
          | nil => simp at e1
          | cons q qs =>
            rw [List.map_cons, List.map_cons] at e1
            injection e1 with e1 _
            rw [← e1, isTup_kA] at hp
            cases hp
      subst hn
      cases ks with
      | nil =>
        subst e3
        exact ⟨_, _, .kt ho e4 (hs _ _ e5), .t (ks := [(k, v)]) rfl, .cons dc .nil⟩
      | cons _ _ => simp at e1
  · obtain ⟨ks, rfl, e1, rfl⟩ := hd
    have D : DenKF tA G F ι ks kvs := ⟨e1, dv⟩
    rcases key with ⟨k, h1, h2⟩ | ⟨k, h1, _⟩
    · obtain ⟨e3, e4⟩ := key_den dk h1
      have hn : kvs = [] := by
        rcases h2 with h2 | ⟨p, r, rfl, hp⟩
        · exact h2
        · cases ks with
          | nil => simp at e1
          | cons q qs =>
            rw [List.map_cons, List.map_cons] at e1
            injection e1 with e1 _
            rw [← e1] at hp
            cases hp
      subst hn
      cases ks with
      | nil =>
        subst e4
        exact ⟨_, _, .tk ho e3, .k (ks := [(k, v)]) rfl, .cons dc .nil⟩
      | cons _ _ => simp at e1
    · obtain ⟨e3, q, e4, e5⟩ := tkey_den dk h1
      have D2 := D.put (k := k) dc
      subst e3 e4
      exact ⟨_, _, .at (DPut.t ho (hs _ _ e5) (len D)), .t D2.1, D2.2⟩
def rSet (G : GS) : V → V → V → Hp → (Hp → Prop) → Prop := fun o i v H Q => ∃ B E F ι s a b c, Rel G B F ι H s ∧ Den G F ι o a ∧ Den G F ι i b ∧ Den G F ι v c ∧ Po G B E F ι s (fun _ _ (_ : Unit) (_ : Unit) => True) (setIxM a b c s) (fun _ => Q)
theorem setD_ok (hu : X.A.units + 1 < cLine) {pins : List (Addr × Obj)} {s : Shared} {σ : L2.St} {H : Hp} {o i v : V} {ov iv u : Value} {Q : Hp → Prop} {B F : Hp} {E : XK} {ι : List Addr} {st : AS} {k : Nat} {b c : AV} (I : Inv X pins σ H s) (ro : RelV o ov) (ri : RelV i iv) (rv : RelV v u)
    (R : Rel (gsOf X g) B F ι H st) (da : Den (gsOf X g) F ι o (.ref k)) (db : Den (gsOf X g) F ι i b) (dc : Den (gsOf X g) F ι v c) (h : Po (gsOf X g) B E F ι st (fun _ _ (_ : Unit) (_ : Unit) => True) (setDM k b c st) (fun _ => Q)) :
    wpAny (model X.prog X.w) X.A (setItem ov iv u) (fun _ s' => ∃ H', Inv X pins σ H' s' ∧ Q H') X.xe s := by
  unfold setDM at h
  split at h
  · rename_i kvs hc
    split at h
    · rename_i hz
      cases da with
      | @ref _ a hk =>
        obtain ⟨hF, o0, vs, hH, hd, dv⟩ := R.cell _ _ _ hk hc
        obtain ⟨o', ws, hp, dh, dw⟩ := dput_of R.sub hH hd dv db dc hz.1 (by rw [← LIM_eq]; exact hz.2)
        cases (show ov = Value.ref a from ro)
        refine dx_set hu I hp ri rv fun s' I' => ⟨_, I', ?_⟩
        obtain ⟨st', R'⟩ := R.setD (op := st.opn || newer k 12 c || newer k 12 b) hk hc dh dw (fun z => by rw [z]; rfl) (fun z p hp j hj => by
          rw [Bool.or_eq_false_iff, Bool.or_eq_false_iff] at z
          rcases putA_mem hp with ⟨e1, e2⟩ | hm | ⟨q, hq, e1, e2⟩
          · rw [e1, e2] at hj
            rcases hj with hj | hj
            · exact .inl (newer_le 12 z.2 j hj)
            · exact .inl (newer_le 12 z.1.2 j hj)
          · exact .inr ⟨p, hm, hj⟩
          · rw [e1, e2] at hj
            rcases hj with hj | hj
            · exact .inr ⟨q, hq, .inl hj⟩
            · exact .inl (newer_le 12 z.1.2 j hj))
        exact h () _ _ _ st' R' trivial
    · exact h.elim
  · exact h.elim
theorem set_ok (hu : X.A.units + 1 < cLine) : PSet X (rSet (gsOf X g)) := by
  intro pins s σ H o i v ov iv u Q I ro ri rv h
  obtain ⟨B, E, F, ι, st, a, b, c, R, da, db, dc, h⟩ := h
  unfold setIxM at h
  split at h
  · rename_i k i
    split at h
    · rename_i xs hc
      cases db
      cases da with
      | ref hk =>
        split at h
        · rename_i j hj
          obtain ⟨hF, vs, hH, r⟩ := R.cell _ _ _ hk hc
          refine set_list pins s σ H _ _ v ov iv u Q I ro ri rv ⟨_, vs, _, j, rfl, rfl, hH, by rw [r.length]; exact hj, ?_⟩
          obtain ⟨st', R'⟩ := R.setL (op := st.opn || newer k 12 c) (vs := vs) hk hc (r.set j dc) (fun z => by rw [z]; rfl) (fun z y hy l hl => by
            rw [Bool.or_eq_false_iff] at z
            rcases List.mem_or_eq_of_mem_set hy with hy | hy
            · exact .inr ⟨y, hy, hl⟩
            · subst hy; exact .inl (newer_le 12 z.2 l hl))
          exact h () _ _ _ st' R' trivial
        · exact h.elim
    · exact setD_ok hu I ro ri rv R da db dc h
  · exact setD_ok hu I ro ri rv R da db dc h
  · exact h.elim
theorem DenAll.erase {G : GS} {F : Hp} {ι : List Addr} : ∀ {vs : List V} {xs : List AV} (i : Nat), DenAll G F ι vs xs → DenAll G F ι (vs.eraseIdx i) (xs.eraseIdx i)
  | _, _, _, .nil => .nil
  | _, _, 0, .cons _ r => r
  | _, _, i + 1, .cons h r => .cons h (DenAll.erase i r)
theorem seqIndex_nat {i : Int} {n : Nat} (h0 : 0 ≤ i) (h : i.toNat < n) : seqIndex? i n = some i.toNat := by
  unfold seqIndex?
  simp
  omega
/-! ### methods of what is built in -/
theorem list_extendL (l : Addr) (items : Array Value) (n : Nat) (b : Addr) (ob : Obj) (items2 : Array Value) (n2 : Nat) (hcls : ob.cls = .type "list") (hdat : ob.data = .seq items2 n2) (hc0 : ¬(!items.isEmpty && Builtin.List.listTooLong (items.size + items2.size)) = true) (hc1 : items.size ≤ sizeLine) (hs2 : items.size + items2.size ≤ sizeLine + 1) :
    Meets (Builtin.«list.extend» ⟨[.ref l, .ref b], []⟩) (fun _ R s => s.heap.get? l = some { cls := .type "list", dict := none, data := .seq items n, slots := #[] } ∧ s.heap.get? b = some ob ∧ R (.ok (.ret Value.none)) { s with heap := s.heap.update l (Obj.mapSeq fun x => x ++ items2), toks := s.toks }) :=
  .of_wp fun prog w A R s h => by
    obtain ⟨c, dct, dat, sl⟩ := ob
    simp only at hcls hdat
    subst hcls hdat
    obtain ⟨hp, g, d, tk, os⟩ := s; obtain ⟨hl, hb, h⟩ := h; have f1 := PySem.AutoSeq1.idx_int; have f2 := PySem.AutoSeq1.sub_tuple_tuple; have f3 := PySem.AutoSeq1.sub_list_list; have f4 := PySem.AutoSeq1.sub_tuple_list; have f5 := PySem.AutoSeq1.sub_list_tuple;
    have hz' : (items ++ items2).size ≤ sizeLine + 1 := by rw [Array.size_append]; exact hs2
    wp_walk using (wpAny_updateSeq hl rfl (hz := hc1) (_hz' := hz')), PySem.AutoSeq1.wpAny_loadPart' hl, PySem.AutoSeq1.wpAny_loadPart' hb; exact ⟨_, rfl, h⟩
theorem list_extendT (l : Addr) (items : Array Value) (n : Nat) (b : Addr) (ob : Obj) (items2 : Array Value) (n2 : Nat) (hcls : ob.cls = .type "tuple") (hdat : ob.data = .seq items2 n2) (hc0 : ¬(!items.isEmpty && Builtin.List.listTooLong (items.size + items2.size)) = true) (hc1 : items.size ≤ sizeLine) (hs2 : items.size + items2.size ≤ sizeLine + 1) :
    Meets (Builtin.«list.extend» ⟨[.ref l, .ref b], []⟩) (fun _ R s => s.heap.get? l = some { cls := .type "list", dict := none, data := .seq items n, slots := #[] } ∧ s.heap.get? b = some ob ∧ R (.ok (.ret Value.none)) { s with heap := s.heap.update l (Obj.mapSeq fun x => x ++ items2), toks := s.toks }) :=
  .of_wp fun prog w A R s h => by
    obtain ⟨c, dct, dat, sl⟩ := ob
    simp only at hcls hdat
    subst hcls hdat
    obtain ⟨hp, g, d, tk, os⟩ := s; obtain ⟨hl, hb, h⟩ := h; have f1 := PySem.AutoSeq1.idx_int; have f2 := PySem.AutoSeq1.sub_tuple_tuple; have f3 := PySem.AutoSeq1.sub_list_list; have f4 := PySem.AutoSeq1.sub_tuple_list; have f5 := PySem.AutoSeq1.sub_list_tuple;
    have hz' : (items ++ items2).size ≤ sizeLine + 1 := by rw [Array.size_append]; exact hs2
    wp_walk using (wpAny_updateSeq hl rfl (hz := hc1) (_hz' := hz')), PySem.AutoSeq1.wpAny_loadPart' hl, PySem.AutoSeq1.wpAny_loadPart' hb; exact ⟨_, rfl, h⟩
def rExt (K : PySem.W.Frag) : V → List V → Hp → VK → Prop := fun x vs H Q => ∃ l b xs zs, x = .ref l ∧ vs = [.ref b] ∧ H l = some (.lst xs) ∧ (SqL K H b zs ∨ SqT K H b zs) ∧ xs.length + zs.length ≤ sizeLine ∧ Q .non (upd H l (.lst (xs ++ zs)))
theorem mt_ext {X : Cx} : MtR X "list.extend" (rExt X.K) := by
  intro pins s σ H x vs v us Q I rx rv h
  obtain ⟨l, b, xs, zs, rfl, rfl, hH, hB, hz, q⟩ := h
  cases rx
  obtain ⟨u, rfl, ru⟩ := rv.one
  cases ru
  obtain ⟨z, its, n, r, hl, e⟩ := I.lstM hH
  obtain ⟨its2, r2, go⟩ : ∃ its2 : List Value, Vals zs its2 ∧ ∃ (ob : Obj) (n2 : Nat), s.heap.get? b = some ob ∧ (ob.cls = .type "list" ∨ ob.cls = .type "tuple") ∧ ob.data = .seq its2.toArray n2 := by
    rcases hB with hB | hB
    · obtain ⟨its2, r2, ⟨ob, n2, e2, hc, _, hd⟩, _⟩ := I.list hB
      exact ⟨its2, r2, ob, n2, e2, .inl hc, hd⟩
    · obtain ⟨its2, r2, ⟨ob, e2, hc, n2, hd⟩, _⟩ := I.tuple hB
      exact ⟨its2, r2, ob, n2, e2, .inr hc, hd⟩
  obtain ⟨ob, n2, e2, hc, hd⟩ := go
  have hl2 := r2.length
  have hsz : its.toArray.size + its2.toArray.size ≤ sizeLine := by rw [List.size_toArray, List.size_toArray]; omega
  have hlong : ¬ (!its.toArray.isEmpty && Builtin.List.listTooLong (its.toArray.size + its2.toArray.size)) = true := by
    rw [notLongL hsz, Bool.and_false]
    exact Bool.false_ne_true
  have fin : EP X pins σ Q Value.none { s with heap := s.heap.update l (Obj.mapSeq fun x => x ++ its2.toArray), toks := s.toks } := by
    refine ⟨.non, _, I.lset (its' := its ++ its2) hH e (by simp) (r.append r2) ?_, rfl, q⟩
    rw [List.length_append]
    omega
  rcases hc with hc | hc
  · exact call_meets F.slot_list_extend ⟨_, e, rfl⟩ F.entry_list_extend (F.args_list_extend_2 _ _)
      (list_extendL l its.toArray n b ob its2.toArray n2 hc hd hlong (by rw [List.size_toArray]; omega) (by omega)) ⟨e, e2, fin⟩
  · exact call_meets F.slot_list_extend ⟨_, e, rfl⟩ F.entry_list_extend (F.args_list_extend_2 _ _)
      (list_extendT l its.toArray n b ob its2.toArray n2 hc hd hlong (by rw [List.size_toArray]; omega) (by omega)) ⟨e, e2, fin⟩
def bmId : BM → String
  | .get => "dict.get" | .join => "str.join" | .append => "list.append" | .pop => "list.pop" | .extend => "list.extend" | .insert => "list.insert"
def rBm (G : GS) (m : BM) : V → List V → Hp → VK → Prop := fun x vs H Q => ∃ B E F ι s a as, Rel G B F ι H s ∧ Den G F ι x a ∧ DenAll G F ι vs as ∧ Po G B E F ι s (Den G) (bmM m a as s) Q
theorem bm_ok (m : BM) (hm : m ≠ .get) : MtR X (bmId m) (rBm (gsOf X g) m) := by
  intro pins s σ H x xs v us Q I rx rs h
  obtain ⟨B, E, F, ι, st, a, as, R, da, d, h⟩ := h
  unfold bmM at h
  split at h
  · cases d with
    | cons d d2 =>
      cases d2
      cases da with
      | ref hk =>
        split at h
        · rename_i xs hc
          split at h
          · rename_i hz
            obtain ⟨hF, ws, hH, r⟩ := R.cell _ _ _ hk hc
            refine mt_append pins s σ H _ _ v us Q I rx rs ⟨_, ws, _, rfl, rfl, hH, ?_, ?_⟩
            · rw [r.length, ← LIM_eq]; exact hz
            · obtain ⟨st', R'⟩ := R.setL (vs := ws) (op := st.opn || [_].any (newer _ 12)) hk hc (r.append (.cons d .nil)) (fun z => by rw [z]; rfl) (fun z y hy l hl => by
                rw [Bool.or_eq_false_iff] at z
                rcases List.mem_append.mp hy with hy | hy
                · exact .inr ⟨y, hy, hl⟩
                · rw [List.mem_singleton] at hy
                  subst hy
                  have z2 := z.2
                  simp only [List.any_cons, List.any_nil, Bool.or_false] at z2
                  exact .inl (newer_le 12 z2 l hl))
              exact h _ _ _ _ st' R' .non
          · exact h.elim
        · exact h.elim
  · cases d with
    | cons d d2 =>
      cases d2
      cases d
      cases da with
      | ref hk =>
        split at h
        · rename_i xs hc
          split at h
          · rename_i hi
            split at h
            · rename_i y hy
              obtain ⟨hF, ws, hH, r⟩ := R.cell _ _ _ hk hc
              obtain ⟨w, hw, dw⟩ := r.get hy
              have hlt := (List.getElem?_eq_some_iff.mp hw).1
              refine mt_popAt pins s σ H _ _ v us Q I rx rs ⟨_, ws, _, _, w, rfl, rfl, hH, by omega, by omega, ?_, hw, ?_⟩
              · exact seqIndex_nat hi.1 hlt
              · obtain ⟨st', R'⟩ := R.setL (vs := ws) (op := st.opn || [].any (newer _ 12)) hk hc (r.erase _) (fun z => by rw [z]; rfl) (fun z y hy l hl => .inr ⟨y, List.mem_of_mem_eraseIdx hy, hl⟩)
                exact h _ _ _ _ st' R' (dw.stp st')
            · exact h.elim
          · exact h.elim
        · exact h.elim
  · cases d with
    | cons d d2 =>
      cases d2
      cases da with
      | ref hk =>
        split at h
        · rename_i xs hc
          split at h
          · rename_i b ys hq
            split at h
            · rename_i hz
              obtain ⟨hF, ws, hH, r⟩ := R.cell _ _ _ hk hc
              obtain ⟨p, zs, rfl, r1, l1, l2⟩ := R.seq d hq
              refine mt_ext pins s σ H _ _ v us Q I rx rs ⟨_, p, ws, zs, rfl, rfl, hH, ?_, ?_, ?_⟩
              · cases b with
                | true => exact .inr (R.sqT (l1 rfl))
                | false => exact .inl (l2 rfl)
              · rw [r.length, r1.length, ← LIM_eq]; exact hz
              · obtain ⟨st', R'⟩ := R.setL (vs := ws) (op := st.opn || ys.any (newer _ 12)) hk hc (r.append r1) (fun z => by rw [z]; rfl) (fun z y hy l hl => by
                  rw [Bool.or_eq_false_iff] at z
                  rcases List.mem_append.mp hy with hy | hy
                  · exact .inr ⟨y, hy, hl⟩
                  · exact .inl (newer_le 12 (List.any_eq_false.mp z.2 y hy |> fun q => by simpa using q) l hl))
                exact h _ _ _ _ st' R' .non
            · exact h.elim
          · exact h.elim
        · exact h.elim
  · cases d with
    | cons d0 d =>
    cases d with
    | cons d d2 =>
      cases d2
      cases d0
      cases da with
      | ref hk =>
        split at h
        · rename_i xs hc
          split at h
          · rename_i hi
            obtain ⟨hF, ws, hH, r⟩ := R.cell _ _ _ hk hc
            refine mt_insert pins s σ H _ _ v us Q I rx rs ⟨_, ws, _, _, rfl, rfl, hH, ?_, by omega, by omega, ?_⟩
            · rw [r.length, ← LIM_eq]; exact hi.1
            · obtain ⟨st', R'⟩ := R.setL (vs := ws) (op := st.opn || [_].any (newer _ 12)) hk hc (((r.take _).append (.cons d .nil)).append (r.drop _)) (fun z => by rw [z]; rfl) (fun z y hy l hl => by
                rw [Bool.or_eq_false_iff] at z
                rcases List.mem_append.mp hy with hy | hy
                · rcases List.mem_append.mp hy with hy | hy
                  · exact .inr ⟨y, List.mem_of_mem_take hy, hl⟩
                  · rw [List.mem_singleton] at hy
                    subst hy
                    have z2 := z.2
                    simp only [List.any_cons, List.any_nil, Bool.or_false] at z2
                    exact .inl (newer_le 12 z2 l hl)
                · exact .inr ⟨y, List.mem_of_mem_drop hy, hl⟩)
              exact h _ _ _ _ st' R' .non
          · exact h.elim
        · exact h.elim
  · cases da
    cases d with
    | cons d d2 =>
      cases d2
      split at h
      · rename_i b xs hq
        split at h
        · rename_i ys hy
          split at h
          · rename_i hz
            obtain ⟨p, ws, rfl, r1, l1, l2⟩ := R.seq d hq
            have e := strsOf_den r1 hy
            subst e
            refine mt_join pins s σ H _ _ v us Q I rx rs ⟨_, p, ys, rfl, rfl, ?_, hz, h _ _ _ _ Stp.refl R (.str _)⟩
            cases b with
            | true => exact .inr (R.sqT (l1 rfl))
            | false => exact .inl (l2 rfl)
          · exact h.elim
        · exact h.elim
      · exact h.elim
  · exact (hm rfl).elim
  · exact (hm rfl).elim
  · exact h.elim

theorem get_of {x y d : V} {a b c : AV} {B F : Hp} {E : XK} {ι : List Addr} {st : AS} {H : Hp} {Q : VK} (R : Rel (gsOf X g) B F ι H st) (da : Den (gsOf X g) F ι x a) (db : Den (gsOf X g) F ι y b) (dc : Den (gsOf X g) F ι d c) (h : Po (gsOf X g) B E F ι st (Den (gsOf X g)) (getM a b c st) Q) :
    ∃ p r, x = .ref p ∧ DGX H p y r ∧ Q (r.getD d) H := by
  unfold getM at h
  split at h
  · rename_i kvs ek
    split at h
    · rename_i hf
      obtain ⟨p, o, vs, rfl, ho, hd, dv⟩ := R.dct da ek
      rcases dget_of R.sub ho hd dv db hf with ⟨z, v, e1, g, dz⟩ | ⟨e1, g⟩
      · rw [e1] at h
        exact ⟨p, _, rfl, g, h _ _ _ _ Stp.refl R dz⟩
      · rw [e1] at h
        exact ⟨p, _, rfl, g, h _ _ _ _ Stp.refl R dc⟩
    · exact h.elim
  · exact h.elim
theorem get_ok (hu : X.A.units + 1 < cLine) : MtR X (bmId .get) (rBm (gsOf X g) .get) := by
  intro pins s σ H x xs v us Q I rx rs h
  obtain ⟨B, E, F, ι, st, a, as, R, da, d, h⟩ := h
  cases d with
  | nil => exact h.elim
  | cons d1 d2 =>
    cases rs with
    | cons r1 r2 =>
      cases d2 with
      | nil =>
        cases r2
        obtain ⟨p, r, rfl, g, q⟩ := get_of R da d1 .non h
        cases (show v = Value.ref p from rx)
        exact dx_get1 hu I g r1 fun w' s' I' rw' => ⟨_, _, I', rw', q⟩
      | cons d3 d4 =>
        cases r2 with
        | cons r3 r4 =>
          cases d4 with
          | nil =>
            cases r4
            obtain ⟨p, r, rfl, g, q⟩ := get_of R da d1 d3 h
            cases (show v = Value.ref p from rx)
            exact dx_get2 hu I g r1 r3 fun w' s' I' rw' => ⟨_, _, I', rw', q⟩
          | cons _ _ => exact h.elim
end
end Ev

set_option linter.all false
set_option maxRecDepth 100000
set_option maxHeartbeats 1000000
/-! EvE: expressions. Own work. -/
namespace Ev
open PySem PySem.Spec PyProof.Rows L2

/-- a reading by the evaluator -/
def Tv {α β : Type} (G : GS) (W : WX) (D : Hp → List Addr → β → α → Prop) (f : AE → MM α) : L2.St → Hp → (β → Hp → Prop) → Prop := fun σ H Q =>
  ∃ B F ι ρ s, Rel G B F ι H s ∧ EnvR G F ι σ ρ ∧ Po G B (fun c d H => W c d σ H) F ι s D (f ρ s) Q
abbrev TE1 (G : GS) (W : WX) (f : AE → MM AV) : TE := Tv G W (Den G) f
abbrev TA1 (G : GS) (W : WX) (f : AE → MM (List AV)) : TA := Tv G W (DenAll G) f
abbrev SameD {α : Type} : Hp → List Addr → α → α → Prop := fun _ _ a b => a = b
abbrev TT1 (G : GS) (W : WX) (f : AE → MM Bool) : TT := Tv G W SameD f
abbrev TO1 (G : GS) (W : WX) (f : AE → MM (Option Int)) : TO := Tv G W SameD f

section
variable {α β γ δ : Type} {G : GS} {W : WX} {B : Hp} {F : Hp} {ι : List Addr} {σ : L2.St} {ρ : AE} {H : Hp} {s : AS} {D : Hp → List Addr → β → α → Prop} {D' : Hp → List Addr → δ → γ → Prop} {Q : β → Hp → Prop}
theorem Tv.seq {m : AE → MM α} {f : α → MM γ} {R : δ → Hp → Prop} (r : Rel G B F ι H s) (e : EnvR G F ι σ ρ) (po : Po G B (fun c d H => W c d σ H) F ι s D' (MM.bind (m ρ) f s) R)
    (k : ∀ v H1 F1 ι1 a s1, Stp G F ι s F1 ι1 s1 → Rel G B F1 ι1 H1 s1 → EnvR G F1 ι1 σ ρ → D F1 ι1 v a → Po G B (fun c d H => W c d σ H) F1 ι1 s1 D' (f a s1) R → Q v H1) : Tv G W D m σ H Q :=
  ⟨B, F, ι, ρ, s, r, e, po.first fun v H1 F1 ι1 a s1 st R1 d p => k v H1 F1 ι1 a s1 st R1 (e.stp st) d p⟩
theorem Tv.mono {m : AE → MM α} {Q' : β → Hp → Prop} (h : Tv G W D m σ H Q) (k : ∀ v H, Q v H → Q' v H) : Tv G W D m σ H Q' := by
  obtain ⟨B, F, ι, ρ, s, r, e, p⟩ := h
  exact ⟨B, F, ι, ρ, s, r, e, p.mono k⟩
theorem Po.pure {E : XK} {a : α} {v : β} (h : Po G B E F ι s D (MM.pure a s) Q) (R : Rel G B F ι H s) (d : D F ι v a) : Q v H := h v H F ι Stp.refl R d
theorem Po.tru {E : XK} {a : AV} {v : V} {f : Bool → MM γ} {R : δ → Hp → Prop} (h : Po G B E F ι s D' (MM.bind (truM a) f s) R) (r : Rel G B F ι H s) (d : Den G F ι v a) : ∃ k, TruV G.K v H k ∧ Po G B E F ι s D' (f k s) R := by
  unfold MM.bind truM at h
  cases e : truth s.cells a with
  | none => rw [e] at h; exact h.elim
  | some k => rw [e] at h; exact ⟨k, tru_of r d e, h⟩
end

section
variable {X : Cx} {g : GN} {W : WX}
theorem PE.weak {e : Expr} {t t' : TE} (h : PE X e t) (w : ∀ σ H Q, t' σ H Q → t σ H Q) : PE X e t' := ⟨fun pins s σ H Q I q => h.run pins s σ H Q I (w σ H Q q)⟩
theorem PT.weak {e : Expr} {t t' : TT} (h : PT X e t) (w : ∀ σ H Q, t' σ H Q → t σ H Q) : PT X e t' := ⟨fun pins s σ H Q I q => h.run pins s σ H Q I (w σ H Q q)⟩
theorem PW.weak {e : Expr} {t t' : TT} (h : PW X e t) (w : ∀ σ H Q, t' σ H Q → t σ H Q) : PW X e t' := ⟨fun wh pins s σ H Q I q => h.run wh pins s σ H Q I (w σ H Q q)⟩
theorem PA.weak {e : List Expr} {t t' : TA} (h : PA X e t) (w : ∀ σ H Q, t' σ H Q → t σ H Q) : PA X e t' := ⟨fun p pins s σ H Q I q => h.run p pins s σ H Q I (w σ H Q q)⟩
theorem PO.weak {e : Option Expr} {t t' : TO} (h : PO X e t) (w : ∀ σ H Q, t' σ H Q → t σ H Q) : PO X e t' := ⟨fun pins s σ H Q I q => h.run pins s σ H Q I (w σ H Q q)⟩
theorem PS.weak {e : Stmt} {t t' : TS} (h : PS X e t) (w : ∀ D σ H, t' D σ H → t D σ H) : PS X e t' := ⟨fun pins s σ H D I q => h.run pins s σ H D I (w D σ H q)⟩
theorem PSs.weak {e : List Stmt} {t t' : TS} (h : PSs X e t) (w : ∀ D σ H, t' D σ H → t D σ H) : PSs X e t' := ⟨fun pins s σ H D I q => h.run pins s σ H D I (w D σ H q)⟩
theorem PI.weak {tg e : Expr} {t t' : TI} (h : PI X tg e t) (w : ∀ σ H Q, t' σ H Q → t σ H Q) : PI X tg e t' := ⟨fun pins s σ H Q I q => h.run pins s σ H Q I (w σ H Q q)⟩
theorem PG.weak {e : Expr} {t t' : TG} (h : PG X e t) (w : ∀ v σ H Q, t' v σ H Q → t v σ H Q) : PG X e t' := ⟨fun pins s σ H v u Q I r q => h.run pins s σ H v u Q I r (w v σ H Q q)⟩

/-! ### names, constants -/
theorem de_var {i : Nat} {x : Str} {pos : Pos} (hN : X.N[i]? = some x) (hv : Vis X.env.scope x) (hd : (x == ("__debug__" : Str)) = false) (hcd : (x == ("__classdict__" : Str)) = false) :
    PE X (.Name x pos) (TE1 (gsOf X g) W fun ρ => ofO ((ρ[i]?).bind id)) := by
  refine PE.weak (pe_var hN hv hd hcd) fun σ H Q h => ?_
  obtain ⟨B, F, ι, ρ, s, r, e, p⟩ := h
  simp only at p
  cases h1 : (ρ[i]?).bind id with
  | none => rw [h1] at p; exact p.elim
  | some a =>
    rw [h1] at p
    have h2 : ρ[i]? = some (some a) := by
      cases h3 : ρ[i]? with
      | none => rw [h3] at h1; cases h1
      | some o => rw [h3] at h1; exact congrArg some h1
    obtain ⟨v, hv, d⟩ := e.2 i a h2
    exact ⟨v, hv, p v H F ι Stp.refl r d⟩
theorem de_int {i : Int} {j pos} : PE X (.Constant (.int i) j pos) (TE1 (gsOf X g) W fun _ => MM.pure (.int i)) :=
  PE.weak pe_int fun σ H Q ⟨B, F, ι, ρ, s, r, e, p⟩ => p.pure r (.int i)
theorem de_str {x : Str} {j pos} : PE X (.Constant (.str x) j pos) (TE1 (gsOf X g) W fun _ => MM.pure (.str x)) :=
  PE.weak pe_str fun σ H Q ⟨B, F, ι, ρ, s, r, e, p⟩ => p.pure r (.str x)
theorem de_bl {b : Bool} {j pos} : PE X (.Constant (.bool b) j pos) (TE1 (gsOf X g) W fun _ => MM.pure (.bl b)) :=
  PE.weak pe_bl fun σ H Q ⟨B, F, ι, ρ, s, r, e, p⟩ => p.pure r (.bl b)
theorem de_non {j pos} : PE X (.Constant .none j pos) (TE1 (gsOf X g) W fun _ => MM.pure .non) :=
  PE.weak pe_non fun σ H Q ⟨B, F, ι, ρ, s, r, e, p⟩ => p.pure r .non

/-! ### operators -/
variable {a b c : Expr} {fa fb fc : AE → MM AV} {pos : Pos}
/-- two expressions, then an operator by values -/
theorem op_seq {r : R2} {op : AV → AV → MM AV} (hr : ∀ B E F ι s x y a b H Q, Rel (gsOf X g) B F ι H s → Den (gsOf X g) F ι x a → Den (gsOf X g) F ι y b → Po (gsOf X g) B E F ι s (Den (gsOf X g)) (op a b s) Q → r x y H Q)
    {σ : L2.St} {H : Hp} {Q : VK} (h : TE1 (gsOf X g) W (fun ρ => MM.bind (fa ρ) fun x => MM.bind (fb ρ) fun y => op x y) σ H Q) : tOp r (TE1 (gsOf X g) W fa) (TE1 (gsOf X g) W fb) σ H Q := by
  obtain ⟨B, F, ι, ρ, s, R, e, p⟩ := h
  refine Tv.seq R e p fun v H1 F1 ι1 a s1 st R1 e1 d p1 => ?_
  refine Tv.seq R1 e1 p1 fun w H2 F2 ι2 b s2 st2 R2 e2 d2 p2 => ?_
  exact hr B _ F2 ι2 s2 v w a b H2 Q R2 (d.stp st2) d2 p2
theorem de_bin (o : BOp) (ha : PE X a (TE1 (gsOf X g) W fa)) (hb : PE X b (TE1 (gsOf X g) W fb)) :
    PE X (.BinOp a (opOf o) b pos) (TE1 (gsOf X g) W fun ρ => MM.bind (fa ρ) fun x => MM.bind (fb ρ) fun y => binM o x y) :=
  PE.weak (pe_op (bin_ok (g := g) o) ha hb) fun σ H Q h => op_seq (fun B E F ι s x y a b H Q R d1 d2 p => ⟨B, E, F, ι, s, a, b, R, d1, d2, p⟩) h
theorem de_cmp (ft : Fit X) (o : COp) (hm : behindInMarks (copOf o) b = false) (ha : PE X a (TE1 (gsOf X g) W fa)) (hb : PE X b (TE1 (gsOf X g) W fb)) :
    PE X (.Compare a [copOf o] [b] pos) (TE1 (gsOf X g) W fun ρ => MM.bind (fa ρ) fun x => MM.bind (fb ρ) fun y => cmpM o x y) := by
  have hu := ft.un
  refine PE.weak (pe_cmpR (cmp_ok (g := g) o (by omega)) ha hb hm) fun σ H Q h => op_seq (r := rCmp (gsOf X g) o) (fun B E F ι s x y a b H Q R d1 d2 p => ⟨B, E, F, ι, s, a, b, R, d1, d2, p⟩) h
theorem isNone_den {G : GS} {F : Hp} {ι : List Addr} {v : V} {x : AV} (d : Den G F ι v x) : decide (v = .non) = isNone x := by
  cases d <;> simp [isNone]
theorem de_isN {j pos'} (ha : PE X a (TE1 (gsOf X g) W fa)) : PE X (.Compare a [.Is] [.Constant .none j pos'] pos) (TE1 (gsOf X g) W fun ρ => MM.bind (fa ρ) fun x => MM.pure (.bl (isNone x))) := by
  refine PE.weak (pe_cmp (pc_isN ha)) fun σ H Q ⟨B, F, ι, ρ, s, R, e, p⟩ => ?_
  refine Tv.seq R e p fun v H1 F1 ι1 a s1 st R1 e1 d p1 => ?_
  rw [isNone_den d]
  exact p1.pure R1 (.bl _)
theorem de_notN {j pos'} (ha : PE X a (TE1 (gsOf X g) W fa)) : PE X (.Compare a [.IsNot] [.Constant .none j pos'] pos) (TE1 (gsOf X g) W fun ρ => MM.bind (fa ρ) fun x => MM.pure (.bl (!isNone x))) := by
  refine PE.weak (pe_cmp (pc_notN ha)) fun σ H Q ⟨B, F, ι, ρ, s, R, e, p⟩ => ?_
  refine Tv.seq R e p fun v H1 F1 ι1 a s1 st R1 e1 d p1 => ?_
  rw [isNone_den d]
  exact p1.pure R1 (.bl _)
theorem de_neg (ha : PE X a (TE1 (gsOf X g) W fa)) : PE X (.UnaryOp .USub a pos) (TE1 (gsOf X g) W fun ρ => MM.bind (fa ρ) fun x => match x with | .int i => MM.pure (.int (-i)) | _ => stuck) := by
  refine PE.weak (pe_un un_neg ha) fun σ H Q ⟨B, F, ι, ρ, s, R, e, p⟩ => ?_
  refine Tv.seq R e p fun v H1 F1 ι1 a s1 st R1 e1 d p1 => ?_
  cases d with
  | int i => exact ⟨i, rfl, p1.pure R1 (.int _)⟩
  | _ => exact p1.elim
theorem de_not (ha : PE X a (TE1 (gsOf X g) W fa)) : PE X (.UnaryOp .Not a pos) (TE1 (gsOf X g) W fun ρ => MM.bind (fa ρ) fun x => MM.bind (truM x) fun b => MM.pure (.bl (!b))) := by
  refine PE.weak (pe_notT ha) fun σ H Q ⟨B, F, ι, ρ, s, R, e, p⟩ => ?_
  refine Tv.seq R e p fun v H1 F1 ι1 a s1 st R1 e1 d p1 => ?_
  obtain ⟨k, hk, p2⟩ := p1.tru R1 d
  exact ⟨k, hk, p2.pure R1 (.bl _)⟩
theorem de_and {rest : List Expr} (ha : PE X a (TE1 (gsOf X g) W fa)) (hb : PE X (.BoolOp .And (b :: rest) pos) (TE1 (gsOf X g) W fb)) :
    PE X (.BoolOp .And (a :: b :: rest) pos) (TE1 (gsOf X g) W fun ρ => MM.bind (fa ρ) fun x => MM.bind (truM x) fun t => if t = true then fb ρ else MM.pure x) := by
  refine PE.weak (pe_andT ha hb) fun σ H Q ⟨B, F, ι, ρ, s, R, e, p⟩ => ?_
  refine Tv.seq R e p fun v H1 F1 ι1 a s1 st R1 e1 d p1 => ?_
  obtain ⟨k, hk, p2⟩ := p1.tru R1 d
  refine ⟨k, hk, ?_⟩
  cases k with
  | true => exact ⟨B, F1, ι1, ρ, s1, R1, e1, p2⟩
  | false => exact p2.pure R1 d
theorem de_or {rest : List Expr} (ha : PE X a (TE1 (gsOf X g) W fa)) (hb : PE X (.BoolOp .Or (b :: rest) pos) (TE1 (gsOf X g) W fb)) :
    PE X (.BoolOp .Or (a :: b :: rest) pos) (TE1 (gsOf X g) W fun ρ => MM.bind (fa ρ) fun x => MM.bind (truM x) fun t => if t = true then MM.pure x else fb ρ) := by
  refine PE.weak (pe_orT ha hb) fun σ H Q ⟨B, F, ι, ρ, s, R, e, p⟩ => ?_
  refine Tv.seq R e p fun v H1 F1 ι1 a s1 st R1 e1 d p1 => ?_
  obtain ⟨k, hk, p2⟩ := p1.tru R1 d
  refine ⟨k, hk, ?_⟩
  cases k with
  | true => exact p2.pure R1 d
  | false => exact ⟨B, F1, ι1, ρ, s1, R1, e1, p2⟩

/-! ### tests -/
/-- by the value's truth -/
theorem dt_truth (ha : PE X a (TE1 (gsOf X g) W fa)) (he : ∀ whole, isTrue a X.env whole = (do let v ← whole; standAt a.pos; holding [v] (truthy v))) : PT X a (TT1 (gsOf X g) W fun ρ => MM.bind (fa ρ) truM) := by
  refine PT.weak (pt_truth ha he) fun σ H Q ⟨B, F, ι, ρ, s, R, e, p⟩ => ?_
  refine Tv.seq R e p fun v H1 F1 ι1 a s1 st R1 e1 d p1 => ?_
  have p1' : Po (gsOf X g) B (fun c d H => W c d σ H) F1 ι1 s1 SameD (MM.bind (truM a) MM.pure s1) Q := by
    have e : MM.bind (truM a) MM.pure s1 = truM a s1 := by
      unfold MM.bind MM.pure
      cases truM a s1 <;> rfl
    rw [e]; exact p1
  obtain ⟨k, hk, p2⟩ := p1'.tru R1 d
  exact ⟨k, hk, p2.pure R1 rfl⟩
variable {ta tb : AE → MM Bool}
theorem bind_tru {m : MM AV} {f : Bool → MM Bool} : True := trivial
theorem dt_not (ha : PT X a (TT1 (gsOf X g) W ta)) : PT X (.UnaryOp .Not a pos) (TT1 (gsOf X g) W fun ρ => MM.bind (ta ρ) fun b => MM.pure (!b)) := by
  refine PT.weak (pt_not ha) fun σ H Q ⟨B, F, ι, ρ, s, R, e, p⟩ => ?_
  refine Tv.seq R e p fun v H1 F1 ι1 a s1 st R1 e1 d p1 => ?_
  cases d
  exact p1.pure R1 rfl
theorem dw_and {rest : List Expr} (ha : PT X a (TT1 (gsOf X g) W ta)) (hb : PW X (.BoolOp .And (b :: rest) pos) (TT1 (gsOf X g) W tb)) :
    PW X (.BoolOp .And (a :: b :: rest) pos) (TT1 (gsOf X g) W fun ρ => MM.bind (ta ρ) fun t => if t = true then tb ρ else MM.pure false) := by
  refine PW.weak (pw_and ha hb) fun σ H Q ⟨B, F, ι, ρ, s, R, e, p⟩ => ?_
  refine Tv.seq R e p fun v H1 F1 ι1 a s1 st R1 e1 d p1 => ?_
  cases d
  cases v with
  | true => rw [if_pos rfl]; exact ⟨B, F1, ι1, ρ, s1, R1, e1, p1⟩
  | false => rw [if_neg (by decide)]; exact p1.pure R1 rfl
theorem dw_or {rest : List Expr} (ha : PT X a (TT1 (gsOf X g) W ta)) (hb : PW X (.BoolOp .Or (b :: rest) pos) (TT1 (gsOf X g) W tb)) :
    PW X (.BoolOp .Or (a :: b :: rest) pos) (TT1 (gsOf X g) W fun ρ => MM.bind (ta ρ) fun t => if t = true then MM.pure true else tb ρ) := by
  refine PW.weak (pw_or ha hb) fun σ H Q ⟨B, F, ι, ρ, s, R, e, p⟩ => ?_
  refine Tv.seq R e p fun v H1 F1 ι1 a s1 st R1 e1 d p1 => ?_
  cases d
  cases v with
  | true => rw [if_pos rfl]; exact p1.pure R1 rfl
  | false => rw [if_neg (by decide)]; exact ⟨B, F1, ι1, ρ, s1, R1, e1, p1⟩
theorem de_ite (hc : PT X c (TT1 (gsOf X g) W ta)) (ha : PE X a (TE1 (gsOf X g) W fa)) (hb : PE X b (TE1 (gsOf X g) W fb)) :
    PE X (.IfExp c a b pos) (TE1 (gsOf X g) W fun ρ => MM.bind (ta ρ) fun t => if t = true then fa ρ else fb ρ) := by
  refine PE.weak (pe_ifExp hc ha hb) fun σ H Q ⟨B, F, ι, ρ, s, R, e, p⟩ => ?_
  refine Tv.seq R e p fun v H1 F1 ι1 a s1 st R1 e1 d p1 => ?_
  cases d
  cases v with
  | true => rw [if_pos rfl]; exact ⟨B, F1, ι1, ρ, s1, R1, e1, p1⟩
  | false => rw [if_neg (by decide)]; exact ⟨B, F1, ι1, ρ, s1, R1, e1, p1⟩

/-! ### displays, arguments -/
variable {e : Expr} {es : List Expr} {fs : AE → MM (List AV)}
theorem da_nil : PA X [] (TA1 (gsOf X g) W fun _ => MM.pure []) :=
  PA.weak pa_nil fun σ H Q ⟨B, F, ι, ρ, s, R, e, p⟩ => p.pure R .nil
theorem da_cons (ha : PE X e (TE1 (gsOf X g) W fa)) (hr : PA X es (TA1 (gsOf X g) W fs)) (hs : starEach (e :: es) X.env = (false, eval e X.env) :: starEach es X.env) :
    PA X (e :: es) (TA1 (gsOf X g) W fun ρ => MM.bind (fa ρ) fun v => MM.bind (fs ρ) fun vs => MM.pure (v :: vs)) := by
  refine PA.weak (pa_cons ha hr hs) fun σ H Q ⟨B, F, ι, ρ, s, R, e, p⟩ => ?_
  refine Tv.seq R e p fun v H1 F1 ι1 a s1 st R1 e1 d p1 => ?_
  refine Tv.seq R1 e1 p1 fun w H2 F2 ι2 b s2 st2 R2 e2 d2 p2 => ?_
  exact p2.pure R2 (.cons (d.stp st2) d2)
theorem de_tup {k} (hz : es.length ≤ sizeLine) (hl : ∀ ρ s vs s', fs ρ s = .ok vs s' → vs.length = es.length) (h : PA X es (TA1 (gsOf X g) W fs)) :
    PE X (.Tuple es k pos) (TE1 (gsOf X g) W fun ρ => MM.bind (fs ρ) fun vs => MM.pure (.tup vs)) := by
  refine PE.weak (pe_tup h) fun σ H Q ⟨B, F, ι, ρ, s, R, e, p⟩ => ?_
  exact ⟨B, F, ι, ρ, s, R, e, Po.firstE p fun v H1 F1 ι1 a s1 e1 st R1 d p1 => ⟨by rw [d.length, hl _ _ _ _ e1]; exact hz, fun z hz => Po.newT R1 d p1 hz⟩⟩
theorem de_lst {al : Bool} (hz : es.length ≤ sizeLine) (hl : ∀ ρ s vs s', fs ρ s = .ok vs s' → vs.length = es.length) (h : PA X es (TA1 (gsOf X g) W fs)) :
    PE X (.List es pos) (TE1 (gsOf X g) W fun ρ => MM.bind (fs ρ) fun vs => mkL al vs) := by
  refine PE.weak (pe_lst h) fun σ H Q ⟨B, F, ι, ρ, s, R, e, p⟩ => ?_
  exact ⟨B, F, ι, ρ, s, R, e, Po.firstE p fun v H1 F1 ι1 a s1 e1 st R1 d p1 => ⟨by rw [d.length, hl _ _ _ _ e1]; exact hz, fun z hz => Po.newL R1 d p1 hz⟩⟩

theorem da_star {p : Pos} (ha : PE X e (TE1 (gsOf X g) W fa)) (hr : PA X es (TA1 (gsOf X g) W fs)) (hs : starEach (.Starred e p :: es) X.env = (true, eval e X.env) :: starEach es X.env) :
    PA X (.Starred e p :: es) (TA1 (gsOf X g) W fun ρ => MM.bind (fa ρ) fun v => MM.bind (seqM v) fun xs => MM.bind (fs ρ) fun ys => MM.pure (xs ++ ys)) := by
  refine PA.weak (StX.pa_star ha hr hs) fun σ H Q ⟨B, F, ι, ρ, s, R, e, p⟩ => ?_
  refine Tv.seq R e p fun v H1 F1 ι1 a s1 st R1 e1 d p1 => ?_
  unfold MM.bind seqM at p1
  cases hs : seqOf s1.cells a with
  | none => rw [hs] at p1; exact p1.elim
  | some q =>
    obtain ⟨b, xs⟩ := q
    rw [hs] at p1
    obtain ⟨ad, vs, rfl, r, l1, l2⟩ := R1.seq d hs
    refine ⟨ad, vs, rfl, ?_, Tv.seq R1 e1 p1 fun w H2 F2 ι2 b s2 st2 R2 e2 d2 p2 => p2.pure R2 ((r.stp st2).append d2)⟩
    cases b with
    | true => exact .inl (R1.sqT (l1 rfl))
    | false => exact .inr (l2 rfl)
theorem few_ok' {G : GS} {B F : Hp} {ι : List Addr} {s : AS} {E : XK} {Q : VK} {al : Option Bool} {vs : List AV} (h : Po G B E F ι s (Den G) (fewM al vs s) Q) : vs.length ≤ sizeLine ∧ Po G B E F ι s (Den G) ((match al with | none => MM.pure (AV.tup vs) | some al => mkL al vs) s) Q := by
  unfold fewM at h
  split at h
  · rename_i hz
    refine ⟨by rw [sizeLine_eq]; exact hz, ?_⟩
    cases al <;> exact h
  · exact h.elim
theorem de_tupS {k} (h : PA X es (TA1 (gsOf X g) W fs)) : PE X (.Tuple es k pos) (TE1 (gsOf X g) W fun ρ => MM.bind (fs ρ) fun vs => fewM none vs) := by
  refine PE.weak (pe_tup h) fun σ H Q ⟨B, F, ι, ρ, s, R, e, p⟩ => ?_
  exact ⟨B, F, ι, ρ, s, R, e, Po.firstE p fun v H1 F1 ι1 a s1 e1 st R1 d p1 => by
    obtain ⟨hz, p2⟩ := few_ok' p1
    exact ⟨by rw [d.length]; exact hz, fun z hz => Po.newT R1 d p2 hz⟩⟩
theorem de_lstS {al : Bool} (h : PA X es (TA1 (gsOf X g) W fs)) : PE X (.List es pos) (TE1 (gsOf X g) W fun ρ => MM.bind (fs ρ) fun vs => fewM (some al) vs) := by
  refine PE.weak (pe_lst h) fun σ H Q ⟨B, F, ι, ρ, s, R, e, p⟩ => ?_
  exact ⟨B, F, ι, ρ, s, R, e, Po.firstE p fun v H1 F1 ι1 a s1 e1 st R1 d p1 => by
    obtain ⟨hz, p2⟩ := few_ok' p1
    exact ⟨by rw [d.length]; exact hz, fun z hz => Po.newL R1 d p2 hz⟩⟩

/-! ### subscripts -/
theorem de_idx (hu : X.A.units + 1 < cLine) (hs : PlainIx b) (ha : PE X a (TE1 (gsOf X g) W fa)) (hb : PE X b (TE1 (gsOf X g) W fb)) : PE X (.Subscript a b pos) (TE1 (gsOf X g) W fun ρ => MM.bind (fa ρ) fun x => MM.bind (fb ρ) fun y => idxM x y) :=
  PE.weak (pe_ix (idx_ok (g := g) hu) ha hb hs) fun σ H Q h => op_seq (r := rIdx (gsOf X g)) (fun B E F ι s x y a b H Q R d1 d2 p => ⟨B, E, F, ι, s, a, b, R, d1, d2, p⟩) h
theorem do_none : PO X none (TO1 (gsOf X g) W fun _ => MM.pure none) :=
  PO.weak po_none fun σ H Q ⟨B, F, ι, ρ, s, R, e, p⟩ => p.pure R rfl
theorem do_some (ha : PE X a (TE1 (gsOf X g) W fa)) : PO X (some a) (TO1 (gsOf X g) W fun ρ => MM.bind (fa ρ) asIntM) := by
  refine PO.weak (po_some ha) fun σ H Q ⟨B, F, ι, ρ, s, R, e, p⟩ => ?_
  refine Tv.seq R e p fun v H1 F1 ι1 a s1 st R1 e1 d p1 => ?_
  cases d with
  | int i => exact ⟨i, rfl, p1.pure R1 rfl⟩
  | _ => exact p1.elim
theorem de_slc {lo hi : Option Expr} {fl fh : AE → MM (Option Int)} {p2 : Pos} (ha : PE X a (TE1 (gsOf X g) W fa)) (hl : PO X lo (TO1 (gsOf X g) W fl)) (hh : PO X hi (TO1 (gsOf X g) W fh)) :
    PE X (.Subscript a (.Slice lo hi none p2) pos) (TE1 (gsOf X g) W fun ρ => MM.bind (fa ρ) fun x => MM.bind (fl ρ) fun l => MM.bind (fh ρ) fun h => slcM x l h) := by
  refine PE.weak (pe_slice (slc_ok (g := g)) ha hl hh) fun σ H Q ⟨B, F, ι, ρ, s, R, e, p⟩ => ?_
  refine Tv.seq R e p fun v H1 F1 ι1 a s1 st R1 e1 d p1 => ?_
  refine Tv.seq R1 e1 p1 fun l H2 F2 ι2 l' s2 st2 R2 e2 d2 p2 => ?_
  refine Tv.seq R2 e2 p2 fun h H3 F3 ι3 h' s3 st3 R3 e3 d3 p3 => ?_
  cases d2; cases d3
  exact ⟨B, _, F3, ι3, s3, a, R3, d.stp (st2.trans st3), p3⟩

/-! ### built-ins -/
theorem de_bltF {b : Blt} {al : Bool} {x : Str} {p : Pos} (ft : Fit X) (hg : Gl X x) (hm : X.mg x = none) (hv : bootBuiltins x = some (bltV b)) (hn : x ≠ "__name__") (hdb : (x == ("__debug__" : Str)) = false)
    (h : PA X (e :: es) (TA1 (gsOf X g) W fs)) (he : starEach (e :: es) X.env = (false, eval e X.env) :: starEach es X.env) (hpl : (backTo pos (starEach es X.env)).any (·.1) = false) :
    PE X (.Call (.Name x p) (e :: es) [] pos) (TE1 (gsOf X g) W fun ρ => MM.bind (fs ρ) fun vs => bltM b al vs) := by
  have fin : ∀ σ H Q, TE1 (gsOf X g) W (fun ρ => MM.bind (fs ρ) fun vs => bltM b al vs) σ H Q → TA1 (gsOf X g) W fs σ H fun vs H1 => rBlt (gsOf X g) b al vs H1 Q := fun σ H Q ⟨B, F, ι, ρ, s, R, e, p⟩ =>
    Tv.seq R e p fun v H1 F1 ι1 a s1 st R1 e1 d p1 => ⟨B, _, F1, ι1, s1, a, R1, d, p1⟩
  cases hb : bltV b with
  | builtin id =>
    have hc := blt_ok (X := X) (g := g) ft b al
    rw [hb] at hv hc
    exact PE.weak (pe_callB hc hg hm hv h hn hdb he hpl) fin
  | type T =>
    have hc := blt_ok (X := X) (g := g) ft b al
    rw [hb] at hv hc
    exact PE.weak (pe_callTy hc hg hm hv h hn hdb he hpl) fin
  | _ => cases b <;> cases hb
end
end Ev

set_option linter.all false
set_option maxRecDepth 100000
set_option maxHeartbeats 1000000
/-! EvEn: enumerate of a tuple over the hand layer. Own work. -/
namespace Ev
open PySem PySem.Spec PyProof.Rows L2
section
open PySem.Calls
/-- enumerate(v), v told by how its iterator begins -/
theorem en_new {v : Value} {o : Obj} {Z : Heap → Prop} (B : Begins v o Z) :
    Meets (Builtin.«enumerate.__new__» ⟨[.type "enumerate", v], []⟩) (fun _ R t => Z t.heap ∧ R (.ok (.ret (.ref (t.heap.push o).objs.size))) { t with heap := (t.heap.push o).push { cls := .type "enumerate", data := .fields #[.none, .bool false, .ref t.heap.objs.size, rawInt 0, .none, .none] } }) :=
  .of_wp fun prog w A R t q => by
    obtain ⟨hp, gn, dr, tk, os⟩ := t
    obtain ⟨z, q⟩ := q
    have sub := sub_enumerate
    have beg : ∀ {A2 : Around} {E2 Q2 : Value → Shared → Prop}, Q2 (.ref hp.objs.size) ⟨hp.push o, gn, dr, tk, os⟩ → wpAny (model prog w) A2 (pyIter v) Q2 E2 ⟨hp, gn, dr, tk, os⟩ := fun x => B.iter prog w _ _ ⟨hp, gn, dr, tk, os⟩ _ z x
    wp_walk using beg
    refine wpAny_stack_any fun st2 => (wpAny_pure ?_)
    split
    · rename_i c _ _ _ _ _
      cases (c == Value.type "enumerate") <;> (wp_walk using beg; exact ⟨_, rfl, q⟩)
    · wp_walk using beg
      exact ⟨_, rfl, q⟩
theorem en_call {prog : Program} {w : World} {A : Around} {E Q : Value → Shared → Prop} {s : Shared} {v : Value} {o : Obj} {Z : Heap → Prop} (B : Begins v o Z) (z : Z s.heap)
    (k : ∀ h', IsEnum h' (s.heap.objs.size + 1) s.heap.objs.size 0 .none → h'.get? s.heap.objs.size = some o → (∀ b u, s.heap.get? b = some u → h'.get? b = some u) → Q (.ref (s.heap.objs.size + 1)) { s with heap := h' }) :
    wpAny (model prog w) A (call (.type "enumerate") [v]) Q E s := by
  refine callType_new F.called_enumerate (by decide) (F.typeCall_enumerate_1 _) (F.newCall_enumerate_1 _) (fun obj => F.args_object_init_2 obj _) F.entry_enumerate_new (en_new B) ⟨z, ?_⟩
  have sz : (s.heap.push o).objs.size = s.heap.objs.size + 1 := Heap.size_push ..
  show _ ∧ _
  rw [sz]
  have is : IsEnum ((s.heap.push o).push { cls := .type "enumerate", data := .fields #[.none, .bool false, .ref s.heap.objs.size, rawInt 0, .none, .none] }) (s.heap.objs.size + 1) s.heap.objs.size 0 .none := by
    have g := Heap.get?_push_size (s.heap.push o) (o := { cls := .type "enumerate", data := .fields #[.none, .bool false, .ref s.heap.objs.size, rawInt 0, .none, .none] }) rfl
    rw [sz] at g
    exact g
  exact ⟨⟨_, is, rfl⟩, k _ is (Heap.get?_push_of_some _ (Heap.get?_push_size _ B.free)) fun b u x => Heap.get?_push_of_some _ (Heap.get?_push_of_some _ x)⟩
end
/-- the tuple at a, each item in a new pair -/
def Itet (K : PySem.W.Frag) (a : Addr) : It where
  go := fun i H => ∃ (xs : List V) (x : V), SqT K H a xs ∧ xs[i]? = some x
  yld := fun i H v H' => ∃ T x, v = .ref T ∧ H T = none ∧ H' = upd H T (.tup [.int (i : Nat), x]) ∧ ∀ xs, SqT K H a xs → xs[i]? = some x
  stop := fun i H => ∃ xs : List V, SqT K H a xs ∧ xs.length ≤ i
theorem turn_enumT {P : Program} {w : World} {K : PySem.W.Frag} {elts : List Expr} {kk : Nat} {tpos : Pos} (a e it : Addr) :
    Turn P w K (.Tuple elts kk tpos) (Itet K a) [e, it] e (fun i h => (∃ old, IsEnum h e it ((i : Nat) : Int) old) ∧ h.IsTupleIter it a i ∧ e ≠ it ∧ e ≠ a ∧ a ≠ it) where
  mem := List.mem_cons_self
  obj := fun i h st b hb => by
    obtain ⟨⟨old, he⟩, ⟨o, ho, hc, hd⟩, _⟩ := st
    rcases List.mem_cons.mp hb with z | hb
    · subst z
      exact ⟨_, he, fun v q => nomatch q⟩
    · rw [List.mem_singleton.mp hb]
      exact ⟨o, ho, fun v q => by rw [hd] at q; cases q⟩
  keep := fun i h h' st k => by
    obtain ⟨⟨old, he⟩, hi, n⟩ := st
    exact ⟨⟨old, k e List.mem_cons_self _ he⟩, hi.at fun o q => k it (List.mem_cons_of_mem _ List.mem_cons_self) o q, n⟩
  item := by
    intro X hP hw hK hc i pins s σ H E I hf st hg
    subst hP hw hK
    obtain ⟨⟨old, he⟩, hit, ne1, ne2, ne3⟩ := st
    obtain ⟨xs, x, hq, hx⟩ := hg
    obtain ⟨its, rv, p, hz⟩ := I.tuple hq
    obtain ⟨u, hu, ru⟩ := rv.get hx
    have hel : e < s.heap.objs.size := Heap.lt_size he
    have hil : it < s.heap.objs.size := by obtain ⟨_, q, _⟩ := hit; exact Heap.lt_size q
    have hlt : i < its.toArray.size := by
      have := (List.getElem?_eq_some_iff.mp hu).1
      simpa using this
    have D := Draws.tuple (prog := X.prog) (w := X.w) (A := X.A.in1) (show X.A.in1.handled = none from I.ok.hd hc) it a ne3 its.toArray
    refine wpAny_pyNext_enum_itemD D he ⟨hit, p⟩ hlt ne1 (by simp [ne1, ne2]) fun y h' tk hy ho hit' hT hsz hk => ?_
    have ey : y = u := by
      have hy : its.toArray[i]? = some y := hy
      have h2 : its.toArray[i]? = some u := by simpa using hu
      rw [h2] at hy
      exact (Option.some.inj hy).symm
    subst ey
    refine ⟨_, rfl, wpAny_letOwnedTupleGo_enum (s := { s with heap := h', toks := tk + 1 }) ho fun h2 he' sb => ?_⟩
    have hT2 := (sb.2 _ (Nat.ne_of_gt hel)).trans hT
    have new : ObjOk X.prog X.w (upd H s.heap.objs.size (.tup [.int (i : Nat), x])) h2 s.heap.objs.size (.tup [.int (i : Nat), x]) :=
      ⟨by show 2 ≤ sizeLine; decide, [.int i tk, y], .cons ⟨_, rfl⟩ (.cons ru .nil), ⟨_, hT2, rfl, _, rfl⟩⟩
    have I1 : Inv X pins σ (upd H s.heap.objs.size (.tup [.int (i : Nat), x])) { s with heap := h2, toks := tk + 1 } :=
      I.turnedNew (ch := [e, it]) (fun b ob hb q => by
        have b1 : b ≠ e := fun z => hb (by rw [z]; exact List.mem_cons_self)
        have b2 : b ≠ it := fun z => hb (by rw [z]; exact List.mem_cons_of_mem _ List.mem_cons_self)
        exact (sb.2 b b1).trans (hk b ob b1 b2 q)) hf (Nat.le_refl _) new
    refine ⟨.ref s.heap.objs.size, _, I1, rfl, ⟨_, x, rfl, I.hok.fresh (Nat.le_refl _), rfl, fun ys hy => by rw [I.tuple_inj hy hq]; exact hx⟩, ⟨⟨y, ?_⟩, hit'.1.at fun o q => (sb.2 it (Ne.symm ne1)).trans q, ne1, ne2, ne3⟩, fun b hb => ?_⟩
    · have e1 : ((i + 1 : Nat) : Int) = (i : Int) + 1 := by omega
      rw [e1]
      exact he'
    · have hb' : b < s.heap.objs.size := by
        rcases List.mem_cons.mp hb with z | hb
        · rw [z]; exact hel
        · rw [List.mem_singleton.mp hb]; exact hil
      rw [upd_ne (Nat.ne_of_lt hb')]
      exact (hf b hb).1
  done := by
    intro X hP hw hK hc i pins s σ H E I hf st hg
    subst hP hw hK
    obtain ⟨⟨old, he⟩, hit, ne1, ne2, ne3⟩ := st
    obtain ⟨xs, hq, hx⟩ := hg
    obtain ⟨its, rv, p, hz⟩ := I.tuple hq
    obtain ⟨f0, f1, f2, f3, f4, f5⟩ := hf it (List.mem_cons_of_mem _ List.mem_cons_self)
    have hl := rv.length
    have none' : its.toArray[i]? = none := by simp; omega
    have D : Draws X.prog X.w X.A.in1 it [it, a] i (fun _ _ => True) (fun j h => j = i ∧ h.IsTupleIter it a i ∧ h.IsTuple a its.toArray) := {
      live := fun _ _ st => let ⟨o, ho, _⟩ := st.2.1; ⟨o, ho⟩
      frame := fun _ _ _ st hk => ⟨st.1, st.2.1.at fun o e => hk it (by simp) o e, st.2.2.at fun o e => hk a (by simp) o e⟩
      item := fun j s Q E hj st => absurd st.1 (Nat.ne_of_lt hj)
      done := fun s Q E st hE => wpAny_nextOf_tuple_end (show X.A.in1.handled = none from I.ok.hd hc) st.2.1 st.2.2 none' hE }
    exact wpAny_pyNext_enum_endD D he ⟨rfl, hit, p⟩ fun h' eb => ⟨rfl, I.turned (t' := s.toks) (fun b o hb q => eb b o hb q) f0 f1 f3 f4 f5⟩
  self := fun A i s Q E st h => let ⟨⟨_, he⟩, _⟩ := st; wpAny_pyIter_enum he h

/-- what a for over enumerate(e) walks, e a list or a tuple -/
def iEnu (K : PySem.W.Frag) (ta : TA) : TI := fun σ H R => ta σ H fun vs H1 => ∃ a xs, vs = [.ref a] ∧ ((SqT K H1 a xs ∧ R (Itet K a) H1) ∨ (SqL K H1 a xs ∧ R (Ite K a) H1))
theorem pi_enum2 {X : Cx} {e : Expr} {ta : TA} {p pos tpos : Pos} {elts : List Expr} {kk : Nat} (hg : Gl X "enumerate") (hm : X.mg "enumerate" = none) (ha : PA X [e] ta) (hs : starEach [e] X.env = [(false, eval e X.env)]) :
    PI X (.Tuple elts kk tpos) (.Call (.Name "enumerate" p) [e] [] pos) (iEnu X.K ta) := by
  constructor
  intro pins s σ H R I h
  have boot : bootBuiltins ("enumerate" : Str) = some (.type "enumerate") := by decide +kernel
  refine Call_ (ld_blt I hg hm boot (callWith_type1 (thn (ha.run pos pins s σ H _ I h) fun us s1 ⟨vs, H1, I1, r1, q1⟩ => ?_) hs rfl))
  obtain ⟨a, xs, rfl, q1⟩ := q1
  have fpo : ∀ b ∈ [s1.heap.objs.size + 1, s1.heap.objs.size], s1.heap.objs.size ≤ b := fun b hb => by
    rcases List.mem_cons.mp hb with z | hb
    · rw [z]; exact Nat.le_succ _
    · rw [List.mem_singleton.mp hb]; exact Nat.le_refl _
  cases r1 with
  | cons r rr =>
    cases rr
    cases r
    rcases q1 with ⟨hq, q⟩ | ⟨hq, q⟩
    · obtain ⟨its, rv, tp, hz⟩ := I1.tuple hq
      have hal : a < s1.heap.objs.size := by
        obtain ⟨o, ho, _⟩ := tp
        exact Heap.lt_size ho
      refine en_call (begins_tuple a its.toArray) tp fun h' he hit hk => wpAny_pyIter_enum he ?_
      have I2 : Inv X pins σ H1 { s1 with heap := h' } := I1.kept (t' := s1.toks) hk
      exact ⟨s1.heap.objs.size + 1, [s1.heap.objs.size + 1, s1.heap.objs.size], _, _, H1, rfl, I2, turn_enumT a (s1.heap.objs.size + 1) s1.heap.objs.size, ⟨⟨.none, he⟩, ⟨_, hit, rfl, rfl⟩, Nat.succ_ne_self _, Nat.ne_of_gt (Nat.lt_succ_of_lt hal), Nat.ne_of_lt hal⟩, fun b hb => I1.fpOk (fpo b hb) (I1.hok.fresh (fpo b hb)), q⟩
    · obtain ⟨its, rv, lp, hz⟩ := I1.list hq
      refine en_call (begins_list a its.toArray) lp.isList fun h' he hit hk => wpAny_pyIter_enum he ?_
      have I2 : Inv X pins σ H1 { s1 with heap := h' } := I1.kept (t' := s1.toks) hk
      exact ⟨s1.heap.objs.size + 1, [s1.heap.objs.size + 1, s1.heap.objs.size], _, _, H1, rfl, I2, turn_enum a (s1.heap.objs.size + 1) s1.heap.objs.size, ⟨⟨.none, he⟩, ⟨_, hit, rfl, rfl⟩, Nat.succ_ne_self _⟩, fun b hb => I1.fpOk (fpo b hb) (I1.hok.fresh (fpo b hb)), q⟩
end Ev

set_option linter.all false
set_option maxRecDepth 100000
set_option maxHeartbeats 1000000
/-! EvF: what is walked, comprehensions, targets. Own work. -/
namespace Ev
open PySem PySem.Spec PyProof.Rows L2

/-! ### what is walked -/
inductive SrcD (G : GS) (F : Hp) (ι : List Addr) : It → Src → Prop
  | lst {a : Addr} {vs : List V} {xs : List AV} : SqL G.K F a vs → DenAll G F ι vs xs → vs.length ≤ sizeLine → SrcD G F ι (Itl G.K a) (.items xs)
  | tup {a : Addr} {vs : List V} {xs : List AV} : SqT G.K F a vs → DenAll G F ι vs xs → vs.length ≤ sizeLine → SrcD G F ι (Itt G.K a) (.items xs)
  | rng {lo : Int} {n : Nat} {xs : List AV} : n ≤ sizeLine → xs = (List.range n).map (fun (i : Nat) => AV.int (lo + (i : Int))) → SrcD G F ι (Itr lo n) (.items xs)
  | cell {k n : Nat} {a : Addr} : ι[k]? = some a → n ≤ sizeLine → SrcD G F ι (Itl G.K a) (.cell k n)
  | enm {a : Addr} {vs : List V} {xs : List AV} : SqL G.K F a vs → DenAll G F ι vs xs → vs.length ≤ sizeLine → SrcD G F ι (Ite G.K a) (.items (enumA 0 xs))
  | enmT {a : Addr} {vs : List V} {xs : List AV} : SqT G.K F a vs → DenAll G F ι vs xs → vs.length ≤ sizeLine → SrcD G F ι (Itet G.K a) (.items (enumA 0 xs))
theorem enumA_len : ∀ (j : Int) (xs : List AV), (enumA j xs).length = xs.length
  | _, [] => rfl
  | j, x :: r => by rw [enumA, List.length_cons, List.length_cons, enumA_len]
theorem enumA_get : ∀ (j : Int) (xs : List AV) (i : Nat), (enumA j xs)[i]? = (xs[i]?).map fun x => AV.tup [.int (j + (i : Int)), x]
  | _, [], i => rfl
  | j, x :: r, 0 => by simp [enumA]
  | j, x :: r, i + 1 => by
    rw [enumA, List.getElem?_cons_succ, List.getElem?_cons_succ, enumA_get (j + 1) r i]
    have : j + 1 + (i : Int) = j + ((i + 1 : Nat) : Int) := by omega
    rw [this]
def srcAt (s : AS) : Src → Nat → Option (Option AV)
  | .items xs, i => some xs[i]?
  | .cell k _, i => match s.cells[k]? with
    | some (.lst xs) => some xs[i]?
    | _ => none
def srcN : Src → Nat
  | .items xs => xs.length
  | .cell _ n => n
theorem SrcD.lim {G : GS} {F : Hp} {ι : List Addr} {J : It} {src : Src} (h : SrcD G F ι J src) : srcN src ≤ sizeLine := by
  cases h with
  | lst h r z => show _ ≤ _; rw [srcN, ← r.length]; exact z
  | tup h r z => show _ ≤ _; rw [srcN, ← r.length]; exact z
  | rng z e => subst e; show _ ≤ _; simpa [srcN] using z
  | cell h z => exact z
  | enm h r z => show (enumA 0 _).length ≤ _; rw [enumA_len, ← r.length]; exact z
  | enmT h r z => show (enumA 0 _).length ≤ _; rw [enumA_len, ← r.length]; exact z
theorem SrcD.step {G : GS} {F F' : Hp} {ι ι' : List Addr} {J : It} {src : Src} (h : SrcD G F ι J src) (sm : Same F F') (pre : ι <+: ι') {B : Hp} {H : Hp} {s : AS} (R : Rel G B F' ι' H s) (i : Nat) :
    (srcAt s src i = some none → J.stop i H) ∧ ∀ a, srcAt s src i = some (some a) → J.go i H ∧ ∀ x H', J.yld i H x H' → ∃ F'', Stp G F' ι' s F'' ι' s ∧ Rel G B F'' ι' H' s ∧ Den G F'' ι' x a := by
  cases h with
  | @lst a vs xs h r z =>
    have hq : SqL G.K H a vs := sqL_mono (fun b o e => R.sub b o (sm b o e)) h
    have r' := r.mono sm pre
    refine ⟨fun e => ⟨vs, hq, ?_⟩, fun y e => ?_⟩
    · have := List.getElem?_eq_none_iff.mp (Option.some.inj e)
      rw [r.length]; exact this
    · obtain ⟨v, hv, d⟩ := r'.get (Option.some.inj e)
      exact ⟨⟨vs, v, hq, hv⟩, fun x H' ⟨e1, e2⟩ => by
        have := e2 vs hq
        rw [hv] at this; cases this
        subst e1
        exact ⟨F', Stp.refl, R, d⟩⟩
  | @tup a vs xs h r z =>
    have hq : SqT G.K H a vs := sqT_mono (fun b o e => R.sub b o (sm b o e)) h
    have r' := r.mono sm pre
    refine ⟨fun e => ⟨vs, hq, ?_⟩, fun y e => ?_⟩
    · have := List.getElem?_eq_none_iff.mp (Option.some.inj e)
      rw [r.length]; exact this
    · obtain ⟨v, hv, d⟩ := r'.get (Option.some.inj e)
      exact ⟨⟨vs, v, hq, hv⟩, fun x H' ⟨e1, e2⟩ => by
        have := e2 vs hq
        rw [hv] at this; cases this
        subst e1
        exact ⟨F', Stp.refl, R, d⟩⟩
  | @enm a vs xs h r z =>
    have hq : SqL G.K H a vs := sqL_mono (fun b o e => R.sub b o (sm b o e)) h
    have r' := r.mono sm pre
    have e0 : srcAt s (.items (enumA 0 xs)) i = some ((xs[i]?).map fun x => AV.tup [.int (0 + (i : Int)), x]) := by
      show some ((enumA 0 xs)[i]?) = _
      rw [enumA_get]
    rw [e0]
    refine ⟨fun e => ⟨vs, hq, ?_⟩, fun y e => ?_⟩
    · have e := Option.some.inj e
      cases hx : xs[i]? with
      | none => rw [r.length]; exact List.getElem?_eq_none_iff.mp hx
      | some x => rw [hx] at e; cases e
    · have e := Option.some.inj e
      cases hx : xs[i]? with
      | none => rw [hx] at e; cases e
      | some x =>
        rw [hx] at e; cases e
        obtain ⟨v, hv, d⟩ := r'.get hx
        refine ⟨⟨vs, v, hq, hv⟩, fun w H' ⟨T, u, e1, e2, e3, e4⟩ => ?_⟩
        have := e4 vs hq
        rw [hv] at this; cases this
        subst e1; subst e3
        obtain ⟨st, R2⟩ := R.fresh (.tup [.int (i : Nat), v]) e2
        have e5 : (0 : Int) + (i : Int) = ((i : Nat) : Int) := Int.zero_add _
        rw [e5]
        exact ⟨_, st, R2, .tup (.inl upd_same) (.cons (.int _) (.cons (d.stp st) .nil))⟩
  | @enmT a vs xs h r z =>
    have hq : SqT G.K H a vs := sqT_mono (fun b o e => R.sub b o (sm b o e)) h
    have r' := r.mono sm pre
    have e0 : srcAt s (.items (enumA 0 xs)) i = some ((xs[i]?).map fun x => AV.tup [.int (0 + (i : Int)), x]) := by
      show some ((enumA 0 xs)[i]?) = _
      rw [enumA_get]
    rw [e0]
    refine ⟨fun e => ⟨vs, hq, ?_⟩, fun y e => ?_⟩
    · have e := Option.some.inj e
      cases hx : xs[i]? with
      | none => rw [r.length]; exact List.getElem?_eq_none_iff.mp hx
      | some x => rw [hx] at e; cases e
    · have e := Option.some.inj e
      cases hx : xs[i]? with
      | none => rw [hx] at e; cases e
      | some x =>
        rw [hx] at e; cases e
        obtain ⟨v, hv, d⟩ := r'.get hx
        refine ⟨⟨vs, v, hq, hv⟩, fun w H' ⟨T, u, e1, e2, e3, e4⟩ => ?_⟩
        have := e4 vs hq
        rw [hv] at this; cases this
        subst e1; subst e3
        obtain ⟨st, R2⟩ := R.fresh (.tup [.int (i : Nat), v]) e2
        have e5 : (0 : Int) + (i : Int) = ((i : Nat) : Int) := Int.zero_add _
        rw [e5]
        exact ⟨_, st, R2, .tup (.inl upd_same) (.cons (.int _) (.cons (d.stp st) .nil))⟩
  | @rng lo n xs z e =>
    subst e
    refine ⟨fun e => ?_, fun y e => ?_⟩
    · have := List.getElem?_eq_none_iff.mp (Option.some.inj e)
      show n ≤ i
      simpa using this
    · have e := Option.some.inj e
      rw [List.getElem?_map] at e
      cases h1 : (List.range n)[i]? with
      | none => rw [h1] at e; cases e
      | some j =>
        rw [h1] at e
        obtain ⟨hj, hj2⟩ := List.getElem?_eq_some_iff.mp h1
        simp at hj hj2
        subst hj2
        cases e
        exact ⟨hj, fun x H' ⟨e1, e2⟩ => by
          subst e1; subst e2
          exact ⟨F', Stp.refl, R, .int _⟩⟩
  | @cell k n a hk z =>
    have hk' := pre_get pre hk
    refine ⟨fun e => ?_, fun y e => ?_⟩
    · simp only [srcAt] at e
      split at e
      · rename_i xs hc
        obtain ⟨_, vs, hH, r⟩ := R.cell k a _ hk' hc
        have := List.getElem?_eq_none_iff.mp (Option.some.inj e)
        exact ⟨vs, .of hH, by rw [r.length]; exact this⟩
      · cases e
    · simp only [srcAt] at e
      split at e
      · rename_i xs hc
        obtain ⟨_, vs, hH, r⟩ := R.cell k a _ hk' hc
        obtain ⟨v, hv, d⟩ := r.get (Option.some.inj e)
        refine ⟨⟨vs, v, .of hH, hv⟩, fun x H' ⟨e1, e2⟩ => ?_⟩
        have := e2 vs (.of hH)
        rw [hv] at this; cases this
        subst e1
        exact ⟨F', Stp.refl, R, d⟩
      · cases e

abbrev TI1 (G : GS) (W : WX) (f : AE → MM Src) : TI := Tv G W (SrcD G) f
section
variable {X : Cx} {g : GN} {W : WX} {tg e : Expr} {fa : AE → MM AV} {es : List Expr} {fs : AE → MM (List AV)} {pos : Pos}
theorem pi_den {pins : List (Addr × Obj)} {s : Shared} {σ : L2.St} {H : Hp} {R : It → Hp → Prop} {v : Value} {x : V} {B F ι E} {st : AS} {a : AV} (I : Inv X pins σ H s) (rx : RelV x v) (Rl : Rel (gsOf X g) B F ι H st) (d : Den (gsOf X g) F ι x a)
    (p : Po (gsOf X g) B E F ι st (SrcD (gsOf X g)) (srcOf a st) R) : wpAny (model X.prog X.w) X.A (pyIter v) (PIE X pins σ tg R) X.xe s := by
  have goL : ∀ {b : Addr} {vs : List V}, x = .ref b → SqL X.K H b vs → (vs.length ≤ sizeLine → R (Itl X.K b) H) → wpAny (model X.prog X.w) X.A (pyIter v) (PIE X pins σ tg R) X.xe s := fun {b vs} ex hr k => by
    subst ex
    cases rx
    obtain ⟨its, rv, pl, hz⟩ := I.list hr
    refine wpAny_pyIter_list pl.isList ?_
    refine ⟨s.heap.objs.size, [s.heap.objs.size], _, _, H, rfl, I.kept (t' := s.toks) fun b o e => Heap.get?_push_of_some _ e, turn_list b _, ⟨_, Heap.get?_push_size _ rfl, rfl, rfl⟩, fun c hc => ?_, k hz⟩
    have e : c = s.heap.objs.size := by simpa using hc
    subst e
    exact I.fpOk (Nat.le_refl _) (I.hok.fresh (Nat.le_refl _))
  have goT : ∀ {b : Addr} {vs : List V}, x = .ref b → SqT X.K H b vs → (vs.length ≤ sizeLine → R (Itt X.K b) H) → wpAny (model X.prog X.w) X.A (pyIter v) (PIE X pins σ tg R) X.xe s := fun {b vs} ex hr k => by
    subst ex
    cases rx
    obtain ⟨its, rv, pl, hz⟩ := I.tuple hr
    refine wpAny_pyIter_tuple (show s.heap.IsTuple b its.toArray from pl) ?_
    refine ⟨s.heap.objs.size, [s.heap.objs.size], _, _, H, rfl, I.kept (t' := s.toks) fun b o e => Heap.get?_push_of_some _ e, turn_tuple b _, ⟨_, Heap.get?_push_size _ rfl, rfl, rfl⟩, fun c hc => ?_, k hz⟩
    have e : c = s.heap.objs.size := by simpa using hc
    subst e
    exact I.fpOk (Nat.le_refl _) (I.hok.fresh (Nat.le_refl _))
  unfold srcOf at p
  split at p
  · cases d with
    | tup h r => exact goT rfl (Rl.sqT h) fun hz => p _ _ _ _ Stp.refl Rl (.tup h.t r hz)
  · cases d with
    | lst h r => exact goL rfl (Rl.sqL h) fun hz => p _ _ _ _ Stp.refl Rl (.lst h r hz)
  · rename_i k
    cases d with
    | ref hk =>
      split at p
      · rename_i xs hc
        obtain ⟨_, vs, hH, r⟩ := Rl.cell k _ _ hk hc
        exact goL rfl (SqL.of hH) fun hz => p _ _ _ _ Stp.refl Rl (.cell hk (by rw [← r.length]; exact hz))
      · rename_i xs hc
        have ok := Rl.cell k _ _ hk hc
        cases (show Den (gsOf X g) F ι _ (.lst xs) from ok) with
        | lst h r => exact goL rfl (Rl.sqL h) fun hz => p _ _ _ _ Stp.refl Rl (.lst h r hz)
      · exact p.elim
  · exact p.elim
theorem di_val (he : PE X e (TE1 (gsOf X g) W fa)) : PI X tg e (TI1 (gsOf X g) W fun ρ => MM.bind (fa ρ) srcOf) := by
  refine ⟨fun pins s σ H R I h => ?_⟩
  obtain ⟨B, F, ι, ρ, st, r, ev, p⟩ := h
  have h2 : TE1 (gsOf X g) W fa σ H (fun x H1 => ∃ B E F ι st a, Rel (gsOf X g) B F ι H1 st ∧ Den (gsOf X g) F ι x a ∧ Po (gsOf X g) B E F ι st (SrcD (gsOf X g)) (srcOf a st) R) :=
    Tv.seq r ev p fun v H1 F1 ι1 a s1 st1 R1 e1 d p1 => ⟨B, _, F1, ι1, s1, a, R1, d, p1⟩
  refine thn (he.run pins s σ H _ I h2) fun v s1 ⟨x, H1, I1, r1, B1, E1, F1, ι1, st1, a1, R1, d1, p1⟩ => ?_
  exact pi_den I1 r1 R1 d1 p1
theorem di_enm {tp p : Pos} {elts : List Expr} {kk : Nat} (hg : Gl X "enumerate") (hm : X.mg "enumerate" = none) (he : PE X e (TE1 (gsOf X g) W fa)) (hs : starEach [e] X.env = [(false, eval e X.env)]) :
    PI X (.Tuple elts kk tp) (.Call (.Name "enumerate" p) [e] [] pos) (TI1 (gsOf X g) W fun ρ => MM.bind (fa ρ) enmOf) := by
  refine PI.weak (pi_enum2 hg hm (pa_cons he pa_nil hs) hs) fun σ H Q ⟨B, F, ι, ρ, s, R, e, p⟩ => ?_
  refine Tv.seq R e p fun v H1 F1 ι1 a s1 st R1 e1 d p1 => ?_
  unfold enmOf at p1
  split at p1
  · split at p1
    · rename_i hz
      cases d with
      | lst h r => exact ⟨_, _, rfl, .inr ⟨R1.sqL h, p1 _ _ _ _ Stp.refl R1 (.enm h r (by rw [r.length, sizeLine_eq]; exact hz))⟩⟩
    · exact p1.elim
  · split at p1
    · rename_i hz
      cases d with
      | tup h r => exact ⟨_, _, rfl, .inl ⟨R1.sqT h, p1 _ _ _ _ Stp.refl R1 (.enmT h.t r (by rw [r.length, sizeLine_eq]; exact hz))⟩⟩
    · exact p1.elim
  · split at p1
    · rename_i k xs hk
      split at p1
      · rename_i hz
        cases d with
        | ref hi =>
          obtain ⟨a', ha', ok⟩ := R1.cellOf hk
          rw [hi] at ha'; cases ha'
          cases (show Den (gsOf X g) F1 ι1 (.ref _) (.lst xs) from ok) with
          | lst h r => exact ⟨_, _, rfl, .inr ⟨R1.sqL h, p1 _ _ _ _ Stp.refl R1 (.enm h r (by rw [r.length, sizeLine_eq]; exact hz))⟩⟩
      · exact p1.elim
    · exact p1.elim
  · exact p1.elim
theorem di_rng1 {p : Pos} (hg : Gl X "range") (hm : X.mg "range" = none) (h : PA X [e] (TA1 (gsOf X g) W fs)) (hl : ∀ ρ s vs s', fs ρ s = .ok vs s' → vs.length = 1) (hs : starEach [e] X.env = [(false, eval e X.env)]) :
    PI X tg (.Call (.Name "range" p) [e] [] pos) (TI1 (gsOf X g) W fun ρ => MM.bind (fs ρ) rngM) := by
  refine PI.weak (pi_range1 hg hm h hs) fun σ H Q ⟨B, F, ι, ρ, s, R, e, p⟩ => ?_
  refine ⟨B, F, ι, ρ, s, R, e, Po.firstE p fun v H1 F1 ι1 a s1 e1 st R1 d p1 => ?_⟩
  have hl := hl _ _ _ _ e1
  unfold rngM at p1
  split at p1
  · rename_i j
    split at p1
    · rename_i hc
      cases d with
      | cons d d2 =>
        cases d2; cases d
        refine ⟨j, rfl, hc.2, by omega, ?_⟩
        exact p1 _ _ _ _ Stp.refl R1 (.rng (by rw [sizeLine_eq]; omega) (by simp))
    · exact p1.elim
  · simp at hl
  · exact p1.elim
theorem di_rng2 {e2 : Expr} {p : Pos} (hg : Gl X "range") (hm : X.mg "range" = none) (h : PA X [e, e2] (TA1 (gsOf X g) W fs)) (hl : ∀ ρ s vs s', fs ρ s = .ok vs s' → vs.length = 2)
    (hs : starEach [e, e2] X.env = [(false, eval e X.env), (false, eval e2 X.env)]) (hs2 : starEach [e2] X.env = [(false, eval e2 X.env)]) :
    PI X tg (.Call (.Name "range" p) [e, e2] [] pos) (TI1 (gsOf X g) W fun ρ => MM.bind (fs ρ) rngM) := by
  refine PI.weak (pi_range2 hg hm h hs hs2) fun σ H Q ⟨B, F, ι, ρ, s, R, e, p⟩ => ?_
  refine ⟨B, F, ι, ρ, s, R, e, Po.firstE p fun v H1 F1 ι1 a s1 e1 st R1 d p1 => ?_⟩
  have hl := hl _ _ _ _ e1
  unfold rngM at p1
  split at p1
  · simp at hl
  · rename_i i j
    split at p1
    · rename_i hc
      cases d with
      | cons d d2 =>
        cases d2 with
        | cons d2 d3 =>
          cases d3; cases d; cases d2
          refine ⟨i, j, rfl, ⟨hc.2.1, hc.2.2.1, hc.2.2.2.1, hc.2.2.2.2⟩, ?_⟩
          exact p1 _ _ _ _ Stp.refl R1 (.rng (by rw [sizeLine_eq]; omega) rfl)
    · exact p1.elim
  · exact p1.elim
end

/-! ### targets -/
mutual
def tgIn (vs : List Nat) : Tg → Bool
  | .var i => vs.contains i
  | .tup ts => tgsIn vs ts
def tgsIn (vs : List Nat) : List Tg → Bool
  | [] => true
  | t :: ts => tgIn vs t && tgsIn vs ts
end
theorem wipe_set {σ : L2.St} {i : Nat} {v : Option V} : ∀ {vs : List Nat}, i ∈ vs → wipe (σ.set i v) vs = wipe σ vs
  | [], h => by cases h
  | j :: vs, h => by
    show (wipe (σ.set i v) vs).set j none = (wipe σ vs).set j none
    by_cases hj : i ∈ vs
    · rw [wipe_set hj]
    · have e : i = j := by
        rcases List.mem_cons.mp h with e | e
        · exact e
        · exact absurd e hj
      subst e
      have key : ∀ {σ : L2.St} {vs : List Nat}, i ∉ vs → wipe (σ.set i v) vs = (wipe σ vs).set i v := by
        intro σ vs
        induction vs with
        | nil => intro _; rfl
        | cons k vs ih =>
          intro hk
          have h1 : i ≠ k := fun e => hk (by simp [e])
          have h2 : i ∉ vs := fun e => hk (by simp [e])
          show (wipe (σ.set i v) vs).set k none = ((wipe σ vs).set k none).set i v
          rw [ih h2, List.set_comm _ _ h1]
      rw [key hj, List.set_set]
/-- what a target's store reaches: the slots as the evaluator has them -/
def TG1 (G : GS) (f : AS → AV → AE → Option AE) (inn : List Nat → Bool) : TG := fun v σ H Q =>
  ∃ B F ι ρ s a ρ', Rel G B F ι H s ∧ EnvR G F ι σ ρ ∧ Den G F ι v a ∧ f s a ρ = some ρ' ∧ ∀ σ', EnvR G F ι σ' ρ' → (∀ vs, inn vs = true → wipe σ' vs = wipe σ vs) → Q σ' H
def TGs1 (G : GS) (f : AS → List AV → AE → Option AE) (inn : List Nat → Bool) : TGs := fun v σ H Q =>
  ∃ B F ι ρ s a ρ', Rel G B F ι H s ∧ EnvR G F ι σ ρ ∧ DenAll G F ι v a ∧ f s a ρ = some ρ' ∧ ∀ σ', EnvR G F ι σ' ρ' → (∀ vs, inn vs = true → wipe σ' vs = wipe σ vs) → Q σ' H
section
variable {X : Cx} {g : GN} {e : Expr} {es : List Expr} {pos : Pos}
theorem PGs.weak {t t' : TGs} (h : PGs X es t) (w : ∀ v σ H Q, t' v σ H Q → t v σ H Q) : PGs X es t' := ⟨fun pins s σ H v u Q I r q => h.run pins s σ H v u Q I r (w v σ H Q q)⟩
theorem dg_var {i : Nat} {x : Str} (hN : X.N.Nodup) (hi : X.N[i]? = some x) (hx : Loc X.env.scope x) (hf : X.fn x = true ∨ X.env.scope.names.lookup x = some .local) :
    PG X (.Name x pos) (TG1 (gsOf X g) (fun s v ρ => asgT s.cells (.var i) v ρ) (fun vs => tgIn vs (.var i))) := by
  refine PG.weak (pg_name hN hi hx hf) fun v σ H Q ⟨B, F, ι, ρ, s, a, ρ', R, ev, d, h, k⟩ => ?_
  simp only [asgT] at h
  split at h
  · cases h
    exact k _ (ev.set d) fun vs hv => wipe_set (by simpa [tgIn] using hv)
  · cases h
theorem dgs_nil : PGs X [] (TGs1 (gsOf X g) (fun s v ρ => asgTs s.cells [] v ρ) (fun vs => tgsIn vs [])) := by
  refine PGs.weak pgs_nil fun v σ H Q ⟨B, F, ι, ρ, s, a, ρ', R, ev, d, h, k⟩ => ?_
  cases d with
  | nil => simp [asgTs] at h; subst h; exact ⟨rfl, k σ ev fun _ _ => rfl⟩
  | cons _ _ => simp [asgTs] at h
theorem dgs_cons {t : Tg} {ts : List Tg} (h1 : PG X e (TG1 (gsOf X g) (fun s v ρ => asgT s.cells t v ρ) (fun vs => tgIn vs t))) (h2 : PGs X es (TGs1 (gsOf X g) (fun s v ρ => asgTs s.cells ts v ρ) (fun vs => tgsIn vs ts)))
    (hs : (assignEach (e :: es) X.env).map (·.2) = assign e X.env :: (assignEach es X.env).map (·.2)) :
    PGs X (e :: es) (TGs1 (gsOf X g) (fun s v ρ => asgTs s.cells (t :: ts) v ρ) (fun vs => tgsIn vs (t :: ts))) := by
  refine PGs.weak (pgs_cons h1 h2 hs) fun v σ H Q ⟨B, F, ι, ρ, s, a, ρ', R, ev, d, h, k⟩ => ?_
  cases d with
  | nil => simp [asgTs] at h
  | @cons w ws x xs d d2 =>
    simp only [asgTs] at h
    split at h
    · rename_i ρ1 h1
      refine ⟨w, ws, rfl, B, F, ι, ρ, s, x, ρ1, R, ev, d, h1, fun σ1 ev1 w1 => ?_⟩
      refine ⟨B, F, ι, ρ1, s, xs, ρ', R, ev1, d2, h, fun σ2 ev2 w2 => k σ2 ev2 fun vs hv => ?_⟩
      have hv' : tgIn vs t = true ∧ tgsIn vs ts = true := by simpa [tgsIn] using hv
      rw [w2 vs hv'.2, w1 vs hv'.1]
    · cases h
/-- (a, b, ..) = a tuple or list of that length -/
def gOrL (K : PySem.W.Frag) (n : Nat) (t : TGs) : TG := fun v σ H Q => ∃ a xs, v = .ref a ∧ (SqT K H a xs ∨ SqL K H a xs) ∧ xs.length = n ∧ t xs σ H Q
theorem pg_orL {k n : Nat} {t : TGs} (hc : X.calm = true) (h : PGs X es t) (hn : (assignEach es X.env).length = n) (hst : (assignEach es X.env).findIdx? (·.1) = none) : PG X (.Tuple es k pos) (gOrL X.K n t) :=
  ⟨fun pins s σ H v u Q I r ⟨a, xs, e, q, hl, w⟩ => q.elim (fun q => (pg_tup hc h hn hst).run pins s σ H v u Q I r ⟨a, xs, e, q, hl, w⟩) fun q => (pg_unl hc h hn hst).run pins s σ H v u Q I r ⟨a, xs, e, q, hl, w⟩⟩
theorem dg_tup {k : Nat} {ts : List Tg} (hc : X.calm = true) (h : PGs X es (TGs1 (gsOf X g) (fun s v ρ => asgTs s.cells ts v ρ) (fun vs => tgsIn vs ts))) (hlen : es.length = ts.length)
    (hn : (assignEach es X.env).length = es.length) (hst : (assignEach es X.env).findIdx? (·.1) = none) :
    PG X (.Tuple es k pos) (TG1 (gsOf X g) (fun s v ρ => asgT s.cells (.tup ts) v ρ) (fun vs => tgIn vs (.tup ts))) := by
  refine PG.weak (pg_orL hc h hn hst) fun v σ H Q ⟨B, F, ι, ρ, s, a, ρ', R, ev, d, h, k⟩ => ?_
  simp only [asgT] at h
  split at h
  · rename_i b xs hs
    have hl : ∀ {ts : List Tg} {xs : List AV} {ρ ρ' : AE}, asgTs s.cells ts xs ρ = some ρ' → xs.length = ts.length := by
      intro ts
      induction ts with
      | nil => intro xs ρ ρ' h; cases xs with
        | nil => rfl
        | cons _ _ => simp [asgTs] at h
      | cons t ts ih => intro xs ρ ρ' h; cases xs with
        | nil => simp [asgTs] at h
        | cons x xs =>
          simp only [asgTs] at h
          split at h
          · simp [ih h]
          · cases h
    obtain ⟨a, vs, rfl, r, l1, l2⟩ := R.seq d hs
    refine ⟨a, vs, rfl, ?_, by rw [r.length, hl h, hlen], B, F, ι, ρ, s, xs, ρ', R, ev, r, h, k⟩
    cases b with
    | true => exact .inl (R.sqT (l1 rfl))
    | false => exact .inr (l2 rfl)
  · cases h
end

/-! ### list comprehensions -/
/-- an item or none -/
def DenO (G : GS) (F : Hp) (ι : List Addr) : Option V → Option AV → Prop
  | some v, some a => Den G F ι v a
  | none, none => True
  | _, _ => False
section
variable {G : GS} {B B' : Hp} {E : XK} {F : Hp} {ι : List Addr} {s : AS} {α β γ δ : Type} {D : Hp → List Addr → β → α → Prop} {D' : Hp → List Addr → δ → γ → Prop} {Q : β → Hp → Prop}
/-- a part that raises nothing, while we hold more -/
theorem Po.nox {m : MM α} {f : α → MM γ} {R : δ → Hp → Prop} (h : Po G B E F ι s D' (MM.bind (nox m) f s) R) :
    Po G B' (fun _ _ _ => False) F ι s D (m s) (fun v H1 => ∃ F1 ι1 s1 a, Stp G F ι s F1 ι1 s1 ∧ Rel G B' F1 ι1 H1 s1 ∧ D F1 ι1 v a ∧ Po G B E F1 ι1 s1 D' (f a s1) R) := by
  unfold MM.bind Ev.nox at h
  revert h
  cases m s with
  | ok a s1 => exact fun h v H1 F1 ι1 st R1 d => ⟨F1, ι1, s1, a, st, R1, d, Po.base st h⟩
  | exc x s1 => exact fun h => h.elim
  | stuck => exact fun h => h.elim
theorem Po.item {k i : Nat} {c : Option AV → MM γ} {R : δ → Hp → Prop} (h : Po G B E F ι s D' (MM.bind (itemAt k i) c s) R) : ∃ xs, s.cells[k]? = some (.lst xs) ∧ Po G B E F ι s D' (c xs[i]? s) R := by
  unfold MM.bind itemAt at h
  cases hc : s.cells[k]? with
  | none => rw [hc] at h; exact h.elim
  | some o =>
    rw [hc] at h
    cases o with
    | lst xs => exact ⟨xs, rfl, h⟩
    | dct _ => exact h.elim
    | ins _ _ => exact h.elim
    | frz _ => exact h.elim
theorem compR_turn {turn : AV → MM (Option AV)} {src : Src} {i : Nat} {acc : List AV} {f : List AV → MM γ} {R : δ → Hp → Prop} (hi : i ≤ srcN src) (h : Po G B E F ι s D' (MM.bind (compR turn src i acc) f s) R) :
    (srcAt s src i = some none ∧ Po G B E F ι s D' (f acc s) R) ∨
    ∃ x, i < srcN src ∧ srcAt s src i = some (some x) ∧ Po G B E F ι s D' (MM.bind (turn x) (fun o => MM.bind (compR turn src (i + 1) (accO acc o)) f) s) R := by
  cases src with
  | items xs =>
    show _ ∨ ∃ x, i < xs.length ∧ _
    have h : Po G B E F ι s D' (MM.bind (compL turn (xs.drop i) acc) f s) R := h
    by_cases hlt : i < xs.length
    · rw [List.drop_eq_getElem_cons hlt, compL, MM.assoc] at h
      exact .inr ⟨xs[i], hlt, by simp [srcAt, hlt], h⟩
    · have e : xs.drop i = [] := List.drop_eq_nil_of_le (by omega)
      rw [e] at h
      exact .inl ⟨by simp [srcAt]; omega, h⟩
  | cell k n =>
    show _ ∨ ∃ x, i < n ∧ _
    have hi : i ≤ n := hi
    have h : Po G B E F ι s D' (MM.bind (compC turn k (n - i) i acc) f s) R := h
    by_cases hlt : i < n
    · have e1 : n - i = (n - (i + 1)) + 1 := by omega
      rw [e1, compC, MM.assoc] at h
      obtain ⟨xs, hc, h⟩ := Po.item h
      cases hx : xs[i]? with
      | none => simp only [hx] at h; exact .inl ⟨by simp [srcAt, hc, hx], h⟩
      | some x =>
        simp only [hx, MM.assoc] at h
        exact .inr ⟨x, hlt, by simp [srcAt, hc, hx], h⟩
    · have e1 : n - i = 0 := by omega
      rw [e1, compC, MM.assoc] at h
      obtain ⟨xs, hc, h⟩ := Po.item h
      cases hx : xs[i]? with
      | none => simp only [hx] at h; exact .inl ⟨by simp [srcAt, hc, hx], h⟩
      | some x => simp only [hx] at h; exact h.elim
end
theorem bind_ofO {α γ : Type} {q : AS → Option α} {f : α → MM γ} {s : AS} {a : α} (h : q s = some a) : MM.bind (fun s => ofO (q s) s) f s = f a s := by
  show (match ofO (q s) s with | .ok a s' => f a s' | .exc x s' => .exc x s' | .stuck => .stuck) = f a s
  rw [h]
  rfl
theorem wipe_wipe (σ : L2.St) (vs : List Nat) : wipe (wipe σ vs) vs = wipe σ vs := by
  have : ∀ us : List Nat, (∀ u ∈ us, u ∈ vs) → wipe (wipe σ us) vs = wipe σ vs := by
    intro us
    induction us with
    | nil => intro _; rfl
    | cons u us ih =>
      intro hu
      show wipe ((wipe σ us).set u none) vs = _
      rw [wipe_set (hu u List.mem_cons_self), ih fun w hw => hu w (List.mem_cons_of_mem _ hw)]
  exact this vs fun _ h => h
abbrev W0 : WX := fun _ _ _ _ => False
section
variable {X : Cx} {g : GN} {W : WX}
theorem tLc_ok {fi : AE → MM Src} {fg : AS → AV → AE → Option AE} {inn : List Nat → Bool} {ft : AE → MM Bool} {fe : AE → MM AV} {al : Bool} {ws : List Nat} (hin : inn ws = true) {σ : L2.St} {H : Hp} {Q : VK}
    (h : TE1 (gsOf X g) W (fun ρ => MM.bind (fi ρ) fun src => MM.bind (compR (cTurn fg ft fe (wipeE ρ ws)) src 0 []) fun vs => mkL al vs) σ H Q) :
    tLc (TI1 (gsOf X g) W fi) (TG1 (gsOf X g) fg inn) (TT1 (gsOf X g) W0 ft) (TE1 (gsOf X g) W0 fe) ws σ H Q := by
  obtain ⟨B, F, ι, ρ, s, R, ev, p⟩ := h
  refine Tv.seq R ev p fun J H1 F1 ι1 src s1 st1 R1 ev1 d1 p1 => ?_
  intro D hD
  have hBD : B D = none := by
    cases e : B D with
    | none => rfl
    | some u => rw [(R1.out D u e).1] at hD; cases hD
  refine ⟨fun i m H => m = srcN src - i ∧ i ≤ srcN src ∧ ∃ F2 ι2 s2 acc vs, Stp (gsOf X g) F1 ι1 s1 F2 ι2 s2 ∧ Rel (gsOf X g) (upd B D (.lst vs)) F2 ι2 H s2 ∧ DenAll (gsOf X g) F2 ι2 vs acc ∧ acc.length ≤ i ∧
      Po (gsOf X g) B (fun c d H => W c d σ H) F2 ι2 s2 (Den (gsOf X g)) (MM.bind (compR (cTurn fg ft fe (wipeE ρ ws)) src i acc) (fun vs => mkL al vs) s2) Q,
    ⟨srcN src - 0, rfl, Nat.zero_le _, F1, ι1, s1, [], [], Stp.refl, R1.hold _ hD, .nil, Nat.le_refl _, p1⟩, ?_⟩
  rintro i m H2 ⟨rfl, hi, F2, ι2, s2, acc, vs, st2, R2, da, hl, p2⟩
  obtain ⟨hs1, hs2⟩ := d1.step st2.sm st2.pre R2 i
  rcases compR_turn hi p2 with ⟨e, p3⟩ | ⟨x, hlt, e, p3⟩
  · refine .inl ⟨hs1 e, ?_⟩
    unfold mkL at p3
    cases al with
    | true =>
      obtain ⟨st3, R3⟩ := R2.toCell (ob0 := .lst acc) hBD fun hF hH => ⟨hF, vs, hH, da.mono (Same.refl _) ⟨[D], rfl⟩⟩
      refine p3 _ _ _ _ st3 R3 (.ref ?_)
      rw [← R2.len, List.getElem?_append_right (Nat.le_refl _)]
      simp
    | false =>
      obtain ⟨st3, R3⟩ := R2.release hBD
      exact p3 _ _ _ _ st3 R3 (.lst (SqL.of upd_same) (da.stp st3))
  · obtain ⟨go, yl⟩ := hs2 x e
    refine .inr ⟨go, fun H' => (i + 1 ≤ srcN src ∧ ∃ F2 ι2 s2 acc vs, Stp (gsOf X g) F1 ι1 s1 F2 ι2 s2 ∧ Rel (gsOf X g) (upd B D (.lst vs)) F2 ι2 H' s2 ∧ DenAll (gsOf X g) F2 ι2 vs acc ∧ acc.length ≤ i + 1 ∧
      Po (gsOf X g) B (fun c d H => W c d σ H) F2 ι2 s2 (Den (gsOf X g)) (MM.bind (compR (cTurn fg ft fe (wipeE ρ ws)) src (i + 1) acc) (fun vs => mkL al vs) s2) Q), fun H' hH => ⟨_, ?_, rfl, hH⟩, fun y H3 hy => ?_⟩
    · omega
    · obtain ⟨F3, st3, R3, d3⟩ := yl y H3 hy
      have st13 := st2.trans st3
      have ev3 : EnvR (gsOf X g) F3 ι2 (wipe σ ws) (wipeE ρ ws) := (ev1.stp st13).wipe ws
      have p4 := (Po.nox (B' := upd B D (.lst vs)) (D := DenO (gsOf X g)) (p3.base st3))
      cases hfg : fg s2 x (wipeE ρ ws) with
      | none =>
        unfold MM.bind at p4
        simp only [hfg, ofO] at p4
        exact p4.elim
      | some ρ' =>
        rw [bind_ofO hfg] at p4
        refine ⟨upd B D (.lst vs), F3, ι2, wipeE ρ ws, s2, x, ρ', R3, ev3, d3, hfg, fun σ2 ev2 w2 => ⟨?_, ?_⟩⟩
        · rw [w2 ws hin, wipe_wipe]
        · refine Tv.seq (W := W0) R3 ev2 p4 fun b H4 F4 ι4 b' s4 st4 R4 ev4 d4 p7 => ?_
          cases d4
          cases b with
          | false =>
            rw [if_neg (by decide)] at p7 ⊢
            obtain ⟨F5, ι5, s5, oa, st5, R5, d5, p8⟩ := p7 none H4 F4 ι4 Stp.refl R4 trivial
            cases oa with
            | some _ => exact d5.elim
            | none => exact ⟨hlt, F5, ι5, s5, acc, vs, st13.trans st5, R5, da.stp (st3.trans st5), by omega, p8⟩
          | true =>
            rw [if_pos rfl] at p7 ⊢
            refine Tv.seq (W := W0) R4 ev4 p7 fun v H5 F5 ι5 a s5 st5 R5 ev5 d5 p8 => ?_
            obtain ⟨F6, ι6, s6, oa, st6, R6, d6, p9⟩ := p8 (some v) H5 F5 ι5 Stp.refl R5 d5
            cases oa with
            | none => exact d6.elim
            | some w =>
              have hvl : vs.length = acc.length := da.length
              have := d1.lim
              refine ⟨vs, (R6.out D _ upd_same).1, by omega, hlt, F6, ι6, s6, acc ++ [w], vs ++ [v], st13.trans st6, R6.held _ trivial, (da.stp (st3.trans st6)).append (.cons d6 .nil), by simp; omega, p9⟩
theorem de_comp {tg it elt : Expr} {ifs : List Expr} {scope : Scope} {own : List (Str × Nat)} {pos : Pos} {fi : AE → MM Src} {fg : AS → AV → AE → Option AE} {inn : List Nat → Bool} {ft : AE → MM Bool} {fe : AE → MM AV} {al : Bool}
    (hc : X.calm = true) (hN : X.N.Nodup) (ok : BlkOk X.N X.env.scope scope own) (hin : inn (own.map (·.2)) = true) (hi : PI X tg it (TI1 (gsOf X g) W fi))
    (hg : ∀ (s : Shared) (H : Hp) (C : Addr) (cl : List (Str × Addr)) (fp : List Addr), PG (X.blk s H scope (compEnvC scope cl C X.env) fp) tg (TG1 (gsOf X g) fg inn))
    (ht : ∀ (s : Shared) (H : Hp) (C : Addr) (cl : List (Str × Addr)) (fp : List Addr), PTs (X.blk s H scope (compEnvC scope cl C X.env) fp) ifs (TT1 (gsOf X g) W0 ft))
    (he : ∀ (s : Shared) (H : Hp) (C : Addr) (cl : List (Str × Addr)) (fp : List Addr), PE (X.blk s H scope (compEnvC scope cl C X.env) fp) elt (TE1 (gsOf X g) W0 fe)) (hs : ∀ x, foldedSetIterable it X.env x = pure x) :
    PE X (.ListComp elt [⟨tg, it, ifs, 0⟩] scope pos) (TE1 (gsOf X g) W fun ρ => MM.bind (fi ρ) fun src => MM.bind (compR (cTurn fg ft fe (wipeE ρ (own.map (·.2)))) src 0 []) fun vs => mkL al vs) :=
  PE.weak (pe_lc hc hN hi ok hg ht he hs) fun _ _ _ h => tLc_ok hin h
/-- name = [..] -/
theorem ds_setLc {i : Nat} {y : Str} {py : Pos} {tg it elt : Expr} {ifs : List Expr} {scope : Scope} {own : List (Str × Nat)} {pos spos : Pos} {fi : AE → MM Src} {fg : AS → AV → AE → Option AE} {inn : List Nat → Bool} {ft : AE → MM Bool} {fe : AE → MM AV} {al : Bool}
    (hc : X.calm = true) (hN : X.N.Nodup) (hy : X.N[i]? = some y) (hyl : X.env.scope.names.lookup y = some .local) (hsw : swapsWith (.ListComp elt [⟨tg, it, ifs, 0⟩] scope pos) (some (.Name y py)) spos.line X.env = pure true)
    (ok : BlkOk X.N X.env.scope scope own) (hin : inn (own.map (·.2)) = true) (hi : PI X tg it (TI1 (gsOf X g) W fi))
    (hg : ∀ (s : Shared) (H : Hp) (C : Addr) (cl : List (Str × Addr)) (fp : List Addr), PG (X.blk s H scope (compEnvC scope cl C X.env) fp) tg (TG1 (gsOf X g) fg inn))
    (ht : ∀ (s : Shared) (H : Hp) (C : Addr) (cl : List (Str × Addr)) (fp : List Addr), PTs (X.blk s H scope (compEnvC scope cl C X.env) fp) ifs (TT1 (gsOf X g) W0 ft))
    (he : ∀ (s : Shared) (H : Hp) (C : Addr) (cl : List (Str × Addr)) (fp : List Addr), PE (X.blk s H scope (compEnvC scope cl C X.env) fp) elt (TE1 (gsOf X g) W0 fe)) (hs : ∀ x, foldedSetIterable it X.env x = pure x) :
    PS X (.Assign [.Name y py] (.ListComp elt [⟨tg, it, ifs, 0⟩] scope pos) spos) (tAsg (TE1 (gsOf X g) W fun ρ => MM.bind (fi ρ) fun src => MM.bind (compR (cTurn fg ft fe (wipeE ρ (own.map (·.2)))) src 0 []) fun vs => mkL al vs) (gName i)) :=
  PS.weak (ps_setLc hc hN hy hyl hsw hi ok hg ht he hs) fun _ _ _ h => tLc_ok hin h
end
section
variable {G : GS} {B B' : Hp} {E : XK} {F : Hp} {ι : List Addr} {s : AS} {α β γ δ : Type} {D : Hp → List Addr → β → α → Prop} {D' : Hp → List Addr → δ → γ → Prop} {Q : β → Hp → Prop}
theorem foldR_turn {turn : AV → β → MM β} {src : Src} {i : Nat} {acc : β} {f : β → MM γ} {R : δ → Hp → Prop} (hi : i ≤ srcN src) (h : Po G B E F ι s D' (MM.bind (foldR turn src i acc) f s) R) :
    (srcAt s src i = some none ∧ Po G B E F ι s D' (f acc s) R) ∨
    ∃ x, i < srcN src ∧ srcAt s src i = some (some x) ∧ Po G B E F ι s D' (MM.bind (turn x acc) (fun a => MM.bind (foldR turn src (i + 1) a) f) s) R := by
  cases src with
  | items xs =>
    show _ ∨ ∃ x, i < xs.length ∧ _
    have h : Po G B E F ι s D' (MM.bind (foldL turn (xs.drop i) acc) f s) R := h
    by_cases hlt : i < xs.length
    · rw [List.drop_eq_getElem_cons hlt, foldL, MM.assoc] at h
      exact .inr ⟨xs[i], hlt, by simp [srcAt, hlt], h⟩
    · have e : xs.drop i = [] := List.drop_eq_nil_of_le (by omega)
      rw [e] at h
      exact .inl ⟨by simp [srcAt]; omega, h⟩
  | cell k n =>
    show _ ∨ ∃ x, i < n ∧ _
    have hi : i ≤ n := hi
    have h : Po G B E F ι s D' (MM.bind (foldC turn k (n - i) i acc) f s) R := h
    by_cases hlt : i < n
    · have e1 : n - i = (n - (i + 1)) + 1 := by omega
      rw [e1, foldC, MM.assoc] at h
      obtain ⟨xs, hc, h⟩ := Po.item h
      cases hx : xs[i]? with
      | none => simp only [hx] at h; exact .inl ⟨by simp [srcAt, hc, hx], h⟩
      | some x =>
        simp only [hx, MM.assoc] at h
        exact .inr ⟨x, hlt, by simp [srcAt, hc, hx], h⟩
    · have e1 : n - i = 0 := by omega
      rw [e1, foldC, MM.assoc] at h
      obtain ⟨xs, hc, h⟩ := Po.item h
      cases hx : xs[i]? with
      | none => simp only [hx] at h; exact .inl ⟨by simp [srcAt, hc, hx], h⟩
      | some x => simp only [hx] at h; exact h.elim
end
section
variable {X : Cx} {g : GN} {W : WX}
/-- behind the list that is made at D -/
def Lst (G : GS) (B : Hp) (D : Addr) (H : Hp) (F1 : Hp) (ι1 : List Addr) (s1 : AS) (acc : List AV) (K : Hp → List Addr → AS → Prop) : Prop :=
  ∃ F2 ι2 s2 vs, Stp G F1 ι1 s1 F2 ι2 s2 ∧ Rel G (upd B D (.lst vs)) F2 ι2 H s2 ∧ DenAll G F2 ι2 vs acc ∧ K F2 ι2 s2
theorem tLc2_ok {fi fi1 : AE → MM Src} {fg fg1 : AS → AV → AE → Option AE} {inn inn1 : List Nat → Bool} {ft ft1 : AE → MM Bool} {fe : AE → MM AV} {al : Bool} {ws ws1 : List Nat} (hin : inn ws = true) (hin1 : inn1 ws1 = true) {σ : L2.St} {H : Hp} {Q : VK}
    (h : TE1 (gsOf X g) W (fun ρ => MM.bind (fi ρ) fun src => MM.bind (foldR (bTurn fg ft fi1 (fun ρ => aTurn fg1 ft1 fe (wipeE ρ ws1)) (wipeE ρ ws)) src 0 []) fun vs => mkL al vs) σ H Q) :
    tLc2 (TI1 (gsOf X g) W fi) (TG1 (gsOf X g) fg inn) (TT1 (gsOf X g) W0 ft) (TI1 (gsOf X g) W0 fi1) (TG1 (gsOf X g) fg1 inn1) (TT1 (gsOf X g) W0 ft1) (TE1 (gsOf X g) W0 fe) ws ws1 σ H Q := by
  obtain ⟨B, F, ι, ρ, s, R, ev, p⟩ := h
  refine Tv.seq R ev p fun J H1 F1 ι1 src s1 st1 R1 ev1 d1 p1 => ?_
  intro D hD
  have hBD : B D = none := by
    cases e : B D with
    | none => rfl
    | some u => rw [(R1.out D u e).1] at hD; cases hD
  refine ⟨fun i m H => m = srcN src - i ∧ i ≤ srcN src ∧ ∃ acc, Lst (gsOf X g) B D H F1 ι1 s1 acc fun F2 ι2 s2 =>
      Po (gsOf X g) B (fun c d H => W c d σ H) F2 ι2 s2 (Den (gsOf X g)) (MM.bind (foldR (bTurn fg ft fi1 (fun ρ => aTurn fg1 ft1 fe (wipeE ρ ws1)) (wipeE ρ ws)) src i acc) (fun vs => mkL al vs) s2) Q,
    ⟨srcN src - 0, rfl, Nat.zero_le _, [], F1, ι1, s1, [], Stp.refl, R1.hold _ hD, .nil, p1⟩, ?_⟩
  rintro i m H2 ⟨rfl, hi, acc, F2, ι2, s2, vs, st2, R2, da, p2⟩
  obtain ⟨hs1, hs2⟩ := d1.step st2.sm st2.pre R2 i
  rcases foldR_turn hi p2 with ⟨e, p3⟩ | ⟨x, hlt, e, p3⟩
  · refine .inl ⟨hs1 e, ?_⟩
    unfold mkL at p3
    cases al with
    | true =>
      obtain ⟨st3, R3⟩ := R2.toCell (ob0 := .lst acc) hBD fun hF hH => ⟨hF, vs, hH, da.mono (Same.refl _) ⟨[D], rfl⟩⟩
      refine p3 _ _ _ _ st3 R3 (.ref ?_)
      rw [← R2.len, List.getElem?_append_right (Nat.le_refl _)]
      simp
    | false =>
      obtain ⟨st3, R3⟩ := R2.release hBD
      exact p3 _ _ _ _ st3 R3 (.lst (SqL.of upd_same) (da.stp st3))
  · obtain ⟨go, yl⟩ := hs2 x e
    refine .inr ⟨go, fun H' => i + 1 ≤ srcN src ∧ ∃ acc, Lst (gsOf X g) B D H' F1 ι1 s1 acc fun F2 ι2 s2 =>
      Po (gsOf X g) B (fun c d H => W c d σ H) F2 ι2 s2 (Den (gsOf X g)) (MM.bind (foldR (bTurn fg ft fi1 (fun ρ => aTurn fg1 ft1 fe (wipeE ρ ws1)) (wipeE ρ ws)) src (i + 1) acc) (fun vs => mkL al vs) s2) Q, fun H' hH => ⟨_, ?_, rfl, hH⟩, fun y H3 hy => ?_⟩
    · omega
    obtain ⟨F3, st3, R3, d3⟩ := yl y H3 hy
    have st13 := st2.trans st3
    have ev3 : EnvR (gsOf X g) F3 ι2 (wipe σ ws) (wipeE ρ ws) := (ev1.stp st13).wipe ws
    have p4 : Po (gsOf X g) B (fun c d H => W c d σ H) F3 ι2 s2 (Den (gsOf X g)) _ Q := p3.base st3
    rw [bTurn, MM.assoc] at p4
    cases hfg : fg s2 x (wipeE ρ ws) with
    | none =>
      unfold MM.bind at p4
      simp only [hfg, ofO] at p4
      exact p4.elim
    | some ρ' =>
      rw [bind_ofO hfg, MM.assoc] at p4
      refine ⟨upd B D (.lst vs), F3, ι2, wipeE ρ ws, s2, x, ρ', R3, ev3, d3, hfg, fun σ2 ev2 w2 => ⟨?_, ?_⟩⟩
      · rw [w2 ws hin, wipe_wipe]
      refine ⟨upd B D (.lst vs), F3, ι2, ρ', s2, R3, ev2, (Po.nox (B' := upd B D (.lst vs)) (D := SameD) p4).mono fun b H4 ⟨F4, ι4, s4, b', st4, R4, d4, p7⟩ => ?_⟩
      cases d4
      cases b with
      | false =>
        rw [if_neg (by decide)] at p7 ⊢
        exact ⟨hlt, acc, F4, ι4, s4, vs, st13.trans st4, R4, da.stp (st3.trans st4), p7⟩
      | true =>
        rw [if_pos rfl] at p7 ⊢
        rw [MM.assoc] at p7
        refine ⟨upd B D (.lst vs), F4, ι4, ρ', s4, R4, ev2.stp st4, (Po.nox (B' := upd B D (.lst vs)) (D := SrcD (gsOf X g)) p7).mono fun J1 H5 ⟨F5, ι5, s5, src1, st5, R5, d5, p8⟩ => ?_⟩
        have st15 := st13.trans (st4.trans st5)
        have ev5 := (ev2.stp st4).stp st5
        refine ⟨fun j k H => k = srcN src1 - j ∧ j ≤ srcN src1 ∧ ∃ acc, Lst (gsOf X g) B D H F5 ι5 s5 acc fun F2 ι2 s2 =>
            Po (gsOf X g) B (fun c d H => W c d σ H) F2 ι2 s2 (Den (gsOf X g)) (MM.bind (foldR (aTurn fg1 ft1 fe (wipeE ρ' ws1)) src1 j acc) (fun a => MM.bind (foldR (bTurn fg ft fi1 (fun ρ => aTurn fg1 ft1 fe (wipeE ρ ws1)) (wipeE ρ ws)) src (i + 1) a) fun vs => mkL al vs) s2) Q,
          ⟨srcN src1 - 0, rfl, Nat.zero_le _, acc, F5, ι5, s5, vs, Stp.refl, R5, (da.stp (st3.trans (st4.trans st5))), p8⟩, ?_⟩
        rintro j k H6 ⟨rfl, hj, acc1, F6, ι6, s6, vs1, st6, R6, da1, p9⟩
        obtain ⟨hs1, hs2⟩ := d5.step st6.sm st6.pre R6 j
        rcases foldR_turn hj p9 with ⟨e1, p10⟩ | ⟨x1, hlt1, e1, p10⟩
        · exact .inl ⟨hs1 e1, hlt, acc1, F6, ι6, s6, vs1, st15.trans st6, R6, da1, p10⟩
        · obtain ⟨go1, yl1⟩ := hs2 x1 e1
          refine .inr ⟨go1, fun H' => j + 1 ≤ srcN src1 ∧ ∃ acc, Lst (gsOf X g) B D H' F5 ι5 s5 acc fun F2 ι2 s2 =>
            Po (gsOf X g) B (fun c d H => W c d σ H) F2 ι2 s2 (Den (gsOf X g)) (MM.bind (foldR (aTurn fg1 ft1 fe (wipeE ρ' ws1)) src1 (j + 1) acc) (fun a => MM.bind (foldR (bTurn fg ft fi1 (fun ρ => aTurn fg1 ft1 fe (wipeE ρ ws1)) (wipeE ρ ws)) src (i + 1) a) fun vs => mkL al vs) s2) Q, fun H' hH => ⟨_, ?_, rfl, hH⟩, fun y1 H7 hy1 => ?_⟩
          · omega
          obtain ⟨F7, st7, R7, d7⟩ := yl1 y1 H7 hy1
          have st67 := st6.trans st7
          have ev7 : EnvR (gsOf X g) F7 ι6 (wipe σ2 ws1) (wipeE ρ' ws1) := (ev5.stp st67).wipe ws1
          have p11 : Po (gsOf X g) B (fun c d H => W c d σ H) F7 ι6 s6 (Den (gsOf X g)) _ Q := p10.base st7
          rw [aTurn, MM.assoc] at p11
          cases hfg1 : fg1 s6 x1 (wipeE ρ' ws1) with
          | none =>
            unfold MM.bind at p11
            simp only [hfg1, ofO] at p11
            exact p11.elim
          | some ρ2 =>
            rw [bind_ofO hfg1, MM.assoc] at p11
            refine ⟨upd B D (.lst vs1), F7, ι6, wipeE ρ' ws1, s6, x1, ρ2, R7, ev7, d7, hfg1, fun σ3 ev3 w3 => ⟨?_, ?_⟩⟩
            · rw [w3 ws1 hin1, wipe_wipe]
            refine ⟨upd B D (.lst vs1), F7, ι6, ρ2, s6, R7, ev3, (Po.nox (B' := upd B D (.lst vs1)) (D := SameD) p11).mono fun b H8 ⟨F8, ι8, s8, b', st8, R8, d8, p12⟩ => ?_⟩
            cases d8
            cases b with
            | false =>
              rw [if_neg (by decide)] at p12 ⊢
              exact ⟨hlt1, acc1, F8, ι8, s8, vs1, st67.trans st8, R8, da1.stp (st7.trans st8), p12⟩
            | true =>
              rw [if_pos rfl] at p12 ⊢
              rw [MM.assoc] at p12
              refine ⟨upd B D (.lst vs1), F8, ι8, ρ2, s8, R8, ev3.stp st8, (Po.nox (B' := upd B D (.lst vs1)) (D := Den (gsOf X g)) p12).mono fun v H9 ⟨F9, ι9, s9, a9, st9, R9, d9, p13⟩ => ?_⟩
              have hvl : vs1.length = acc1.length := da1.length
              unfold moreM at p13
              by_cases hz : acc1.length < LIM
              · rw [if_pos hz] at p13
                refine ⟨vs1, (R9.out D _ upd_same).1, by rw [hvl]; exact hz, hlt1, acc1 ++ [a9], F9, ι9, s9, vs1 ++ [v], (st67.trans st8).trans st9, R9.held _ trivial, (da1.stp (st7.trans (st8.trans st9))).append (.cons d9 .nil), p13⟩
              · rw [if_neg hz] at p13
                exact p13.elim
end
section
variable {X : Cx} {g : GN} {W : WX}
theorem de_comp2 {tg it tg1 it1 elt : Expr} {ifs ifs1 : List Expr} {scope : Scope} {own : List (Str × Nat)} {ws1 : List Nat} {pos : Pos} {fi fi1 : AE → MM Src} {fg fg1 : AS → AV → AE → Option AE} {inn inn1 : List Nat → Bool} {ft ft1 : AE → MM Bool} {fe : AE → MM AV} {al : Bool}
    (hc : X.calm = true) (hN : X.N.Nodup) (ok : BlkOk X.N X.env.scope scope own) (hv : ∀ i ∈ ws1, i ∈ own.map (·.2)) (hin : inn (own.map (·.2)) = true) (hin1 : inn1 ws1 = true) (hi : PI X tg it (TI1 (gsOf X g) W fi))
    (hg : ∀ (s : Shared) (H : Hp) (C : Addr) (cl : List (Str × Addr)) (fp : List Addr), PG (X.blk s H scope (compEnvC scope cl C X.env) fp) tg (TG1 (gsOf X g) fg inn))
    (ht : ∀ (s : Shared) (H : Hp) (C : Addr) (cl : List (Str × Addr)) (fp : List Addr), PTs (X.blk s H scope (compEnvC scope cl C X.env) fp) ifs (TT1 (gsOf X g) W0 ft))
    (hi1 : ∀ (s : Shared) (H : Hp) (C : Addr) (cl : List (Str × Addr)) (fp : List Addr), PI (X.blk s H scope (compEnvC scope cl C X.env) fp) tg1 it1 (TI1 (gsOf X g) W0 fi1))
    (hg1 : ∀ (s : Shared) (H : Hp) (C : Addr) (cl : List (Str × Addr)) (fp : List Addr), PG (X.blk s H scope (compEnvC scope cl C X.env) fp) tg1 (TG1 (gsOf X g) fg1 inn1))
    (ht1 : ∀ (s : Shared) (H : Hp) (C : Addr) (cl : List (Str × Addr)) (fp : List Addr), PTs (X.blk s H scope (compEnvC scope cl C X.env) fp) ifs1 (TT1 (gsOf X g) W0 ft1))
    (he : ∀ (s : Shared) (H : Hp) (C : Addr) (cl : List (Str × Addr)) (fp : List Addr), PE (X.blk s H scope (compEnvC scope cl C X.env) fp) elt (TE1 (gsOf X g) W0 fe)) (hs : ∀ x, foldedSetIterable it X.env x = pure x) (hs1 : ∀ env x, foldedSetIterable it1 env x = pure x) :
    PE X (.ListComp elt [⟨tg, it, ifs, 0⟩, ⟨tg1, it1, ifs1, 0⟩] scope pos) (TE1 (gsOf X g) W fun ρ => MM.bind (fi ρ) fun src => MM.bind (foldR (bTurn fg ft fi1 (fun ρ => aTurn fg1 ft1 fe (wipeE ρ ws1)) (wipeE ρ (own.map (·.2)))) src 0 []) fun vs => mkL al vs) :=
  PE.weak (pe_lc2 hc hN hi ok hv hg ht hi1 hg1 ht1 he hs hs1) fun _ _ _ h => tLc2_ok hin hin1 h
/-- name = [.. for .. for ..] -/
theorem ds_setLc2 {i : Nat} {y : Str} {py : Pos} {tg it tg1 it1 elt : Expr} {ifs ifs1 : List Expr} {scope : Scope} {own : List (Str × Nat)} {ws1 : List Nat} {pos spos : Pos} {fi fi1 : AE → MM Src} {fg fg1 : AS → AV → AE → Option AE} {inn inn1 : List Nat → Bool} {ft ft1 : AE → MM Bool} {fe : AE → MM AV} {al : Bool}
    (hc : X.calm = true) (hN : X.N.Nodup) (hy : X.N[i]? = some y) (hyl : X.env.scope.names.lookup y = some .local) (hsw : swapsWith (.ListComp elt [⟨tg, it, ifs, 0⟩, ⟨tg1, it1, ifs1, 0⟩] scope pos) (some (.Name y py)) spos.line X.env = pure true)
    (ok : BlkOk X.N X.env.scope scope own) (hv : ∀ i ∈ ws1, i ∈ own.map (·.2)) (hin : inn (own.map (·.2)) = true) (hin1 : inn1 ws1 = true) (hi : PI X tg it (TI1 (gsOf X g) W fi))
    (hg : ∀ (s : Shared) (H : Hp) (C : Addr) (cl : List (Str × Addr)) (fp : List Addr), PG (X.blk s H scope (compEnvC scope cl C X.env) fp) tg (TG1 (gsOf X g) fg inn))
    (ht : ∀ (s : Shared) (H : Hp) (C : Addr) (cl : List (Str × Addr)) (fp : List Addr), PTs (X.blk s H scope (compEnvC scope cl C X.env) fp) ifs (TT1 (gsOf X g) W0 ft))
    (hi1 : ∀ (s : Shared) (H : Hp) (C : Addr) (cl : List (Str × Addr)) (fp : List Addr), PI (X.blk s H scope (compEnvC scope cl C X.env) fp) tg1 it1 (TI1 (gsOf X g) W0 fi1))
    (hg1 : ∀ (s : Shared) (H : Hp) (C : Addr) (cl : List (Str × Addr)) (fp : List Addr), PG (X.blk s H scope (compEnvC scope cl C X.env) fp) tg1 (TG1 (gsOf X g) fg1 inn1))
    (ht1 : ∀ (s : Shared) (H : Hp) (C : Addr) (cl : List (Str × Addr)) (fp : List Addr), PTs (X.blk s H scope (compEnvC scope cl C X.env) fp) ifs1 (TT1 (gsOf X g) W0 ft1))
    (he : ∀ (s : Shared) (H : Hp) (C : Addr) (cl : List (Str × Addr)) (fp : List Addr), PE (X.blk s H scope (compEnvC scope cl C X.env) fp) elt (TE1 (gsOf X g) W0 fe)) (hs : ∀ x, foldedSetIterable it X.env x = pure x) (hs1 : ∀ env x, foldedSetIterable it1 env x = pure x) :
    PS X (.Assign [.Name y py] (.ListComp elt [⟨tg, it, ifs, 0⟩, ⟨tg1, it1, ifs1, 0⟩] scope pos) spos) (tAsg (TE1 (gsOf X g) W fun ρ => MM.bind (fi ρ) fun src => MM.bind (foldR (bTurn fg ft fi1 (fun ρ => aTurn fg1 ft1 fe (wipeE ρ ws1)) (wipeE ρ (own.map (·.2)))) src 0 []) fun vs => mkL al vs) (gName i)) :=
  PS.weak (ps_setLc2 hc hN hy hyl hsw hi ok hv hg ht hi1 hg1 ht1 he hs hs1) fun _ _ _ h => tLc2_ok hin hin1 h
end
end Ev

set_option linter.all false
set_option maxRecDepth 100000
set_option maxHeartbeats 1000000
/-! EvDT: dicts whose keys are tuples: displays. Own work. -/
namespace Ev
open PySem PySem.Spec PyProof.Rows L2

/-- pairs whose keys are tracked tuples -/
abbrev KeyT (H : Hp) : List (V × V) → List (List Key × V) → Prop := Paired fun p q => (∃ b, p.1 = .ref b ∧ H b = some (.tup (q.1.map kV))) ∧ p.2 = q.2
def mergeT (kvs more : List (List Key × V)) : List (List Key × V) := more.foldl (fun acc kv => putK acc kv.1 kv.2) kvs
theorem length_mergeT : ∀ (more kvs : List (List Key × V)), (mergeT kvs more).length ≤ kvs.length + more.length
  | [], kvs => by show kvs.length ≤ kvs.length + 0; omega
  | p :: r, kvs => by
    have h1 := length_mergeT r (putK kvs p.1 p.2)
    have h2 := length_putK kvs p.1 p.2
    show (mergeT (putK kvs p.1 p.2) r).length ≤ _
    rw [List.length_cons]; omega
theorem KT.mergeH {H : Hp} : ∀ {more : List (List Key × V)} {rs : List (List Key × Addr × Value)} {kvs : List (List Key × V)} {xs : List (List Key × Addr × Value)}, KT H more rs → KT H kvs xs → KT H (mergeT kvs more) (storedAllH xs rs) := by
  intro more rs kvs xs r
  induction r generalizing kvs xs with
  | nil => intro q; exact q
  | @cons p q ps qs h t ih =>
    intro r0
    have e : KT H (putK kvs p.1 p.2) (storedH xs q.1 q.2.1 q.2.2) := by
      have := r0.put p.1 h.2.1 h.2.2
      rw [← h.1]; exact this
    exact ih e
theorem carriesH_of {P : Program} {w : World} {H : Hp} {h : Heap} (ok : HOk P w H h) : ∀ {ps : List (V × V)} {kvs : List (List Key × V)} {ws : List (Value × Value)}, KeyT H ps kvs → VV ps ws → ∃ rs, CarriesH (tupleKind (mixKind P w)) h ws rs ∧ KT H kvs rs
  | [], _, _, .nil, r => by cases r; exact ⟨[], True.intro, .nil⟩
  | (p1, p2) :: ps, _, _, .cons (b := kv) ⟨⟨b, e1, e2⟩, e3⟩ t, r => by
    cases r with
    | @cons _ c _ cs hc tc =>
      obtain ⟨rs, q1, q2⟩ := carriesH_of ok t tc
      obtain ⟨c1, c2⟩ := c
      obtain ⟨h1, h2⟩ := hc
      simp only at e1 e3 h1 h2
      subst e1 e3
      cases (show c1 = Value.ref b from h1)
      exact ⟨(kv.1, b, c2) :: rs, ⟨rfl, rfl, key_of ok e2, q1⟩, .cons ⟨rfl, e2, h2⟩ q2⟩
/-- {k: v, ..}: keys ints and texts, or tuples; told behind the pairs -/
def tDispG (trs : List (TE × TE)) : TE := fun σ H Q => ∀ p, H p = none → tPairs trs σ (upd H p (.dK [])) fun ps H2 => H2 p = some (.dK []) ∧ ((∃ kvs : List (Key × V), ps = kvs.map (fun kv => (kV kv.1, kv.2)) ∧ kvs.length ≤ 15 ∧ Q (.ref p) (upd H2 p (.dK (mergeK [] kvs)))) ∨
  ∃ kvs : List (List Key × V), KeyT H2 ps kvs ∧ kvs.length ≤ 15 ∧ Q (.ref p) (upd H2 p (.dT (mergeT [] kvs))))
theorem pe_dispG {X : Cx} {pos : Pos} {keys : List (Option Expr)} {values : List Expr} {trs : List (TE × TE)} (hu : X.A.units + 1 < cLine) (h : PPs X pos keys values trs) (hall : keys.all (·.isSome) = true) (hl : keys.length = values.length) (h0 : keys ≠ [])
    (h15 : keys.length ≤ 15) : PE X (.Dict keys values pos) (tDispG trs) := by
  refine ⟨fun pins s σ H Q I q => ?_⟩
  have hn := I.hok.fresh (Nat.le_refl s.heap.objs.size)
  have I1 := I.laid (a := s.heap.objs.size) (o := .dK []) (h' := s.heap.push { cls := .type "dict", data := .dict #[] }) (t' := s.toks) (fun _ _ q => Heap.get?_push_of_some _ q) (Nat.le_refl _) (dk_empty s.heap I.big)
  have hpl := pairTrees_length keys values X.env pos hall hl
  have hne : pairTrees keys values X.env pos ≠ [] := fun e => h0 (List.length_eq_zero_iff.mp (by rw [← hpl, e]; rfl))
  have hsh := zip_pairTrees keys values X.env pos hall hl
  rw [arm_eval_Dict, hsh, dictDisplay_pairs _ hne (by omega)]
  refine wpAny_bind (wpAny_standAt (wpAny_bind ?_))
  unfold subDict
  refine wpAny_bind (wpAny_alloc ?_)
  refine wpAny_bind (wpAny_holding ?_)
  rw [if_pos (by omega)]
  refine wpAny_bind (wpAny_mono (wpAny_evalPairs_len (h.run pins _ σ _ _ I1 (q _ hn))) (fun ws s2 h2 => ?_) fun _ _ e => e)
  obtain ⟨hvl, ps, H2, I2, rel, e, h2⟩ := h2
  refine wpAny_holding ?_
  obtain ⟨z, hd, vs0, r0, dd⟩ := dk_of I2.hok e
  cases r0
  rcases h2 with ⟨kvs, ep, lk, q2⟩ | ⟨kvs, ep, lk, q2⟩
  · subst ep
    obtain ⟨rs, c, rk⟩ := carries_of (P := X.prog) (w := X.w) rel
    have hz : (mergeK [] kvs).length ≤ sizeLine := by
      have h1 := length_mergeK kvs []
      rw [List.length_nil] at h1
      rw [sizeLine_eq]; omega
    refine wpAny_bind (wpAny_storeAll ws rs [] s2 _ c dd (by rw [List.length_nil, ← rk.length, sizeLine_eq]; omega) fun h' dd' hs => wpAny_pure (wpAny_pure (wpAny_pure ⟨.ref s.heap.objs.size, _, ?_, rfl, q2⟩)))
    have he : ∃ q, h'.get? s.heap.objs.size = some q := let ⟨q, _, _, hq, _⟩ := dd'; ⟨q, hq⟩
    exact d_write I2 (by rw [e]; exact True.intro) hs he (dk_new hz hd (rk.merge .nil) dd')
  · obtain ⟨rs, c, rk⟩ := carriesH_of (P := X.prog) (w := X.w) I2.hok ep rel
    have hz : (mergeT [] kvs).length ≤ sizeLine := by
      have h1 := length_mergeT kvs []
      rw [List.length_nil] at h1
      rw [sizeLine_eq]; omega
    have dd2 : s2.heap.DictOfH (tupleKind (mixKind X.prog X.w)) s.heap.objs.size [] := by
      obtain ⟨o, es, epo, g1, g2, g3, _, g4, _⟩ := dd
      refine ⟨o, es, epo, g1, g2, g3, ?_, fun x hx => (nomatch hx), List.nodup_nil⟩
      cases hes : es.toList with
      | nil => rfl
      | cons a b => rw [hes] at g4; exact nomatch g4
    refine wpAny_bind (wpAny_storeAllH (knd := tupleKind (mixKind X.prog X.w)) (show X.A.units < cLine by omega) ws rs [] s2 _ c dd2 (by rw [List.length_nil, ← Paired.length rk, sizeLine_eq]; omega) fun h' tk dd' hs => wpAny_pure (wpAny_pure (wpAny_pure ⟨.ref s.heap.objs.size, _, ?_, rfl, q2⟩)))
    obtain ⟨ob, es, epo, hq, g2, g3, g4, _, g5⟩ := dd'
    refine d_write I2 (by rw [e]; exact True.intro) hs ⟨ob, hq⟩ ⟨hz, hd, _, (KT.mergeH rk .nil).keeps fun c ys ec => ?_, ob, es, epo, hq, g2, g3, g4, g5⟩
    rw [upd_ne (ne_of ec e (fun z => nomatch z))]
    exact ec
end Ev

set_option linter.all false
set_option maxRecDepth 100000
set_option maxHeartbeats 1000000
/-! EvF2: dict displays. Own work. -/
namespace Ev
open PySem PySem.Spec PyProof.Rows L2

def DenPs (G : GS) (F : Hp) (ι : List Addr) (ps : List (V × V)) (as : List (AV × AV)) : Prop := DenAll G F ι (ps.map (·.1)) (as.map (·.1)) ∧ DenAll G F ι (ps.map (·.2)) (as.map (·.2))
section
variable {G : GS} {F F' : Hp} {ι ι' : List Addr}
theorem DenPs.keys : ∀ {ps : List (V × V)} {as : List (AV × AV)}, DenPs G F ι ps as → as.all (fun p => (keyOf p.1).isSome) = true → ∃ kvs : List (Key × V), ps = kvs.map (fun kv => (kV kv.1, kv.2)) ∧ DenKV G F ι kvs as
  | [], [], _, _ => ⟨[], rfl, .nil⟩
  | [], _ :: _, ⟨h, _⟩, _ => by cases h
  | _ :: _, [], ⟨h, _⟩, _ => by cases h
  | p :: ps, a :: as, ⟨h1, h2⟩, hk => by
    rw [List.all_cons, Bool.and_eq_true] at hk
    cases h1 with
    | cons d1 r1 =>
      cases h2 with
      | cons d2 r2 =>
        obtain ⟨kvs, rfl, h3⟩ := DenPs.keys ⟨r1, r2⟩ hk.2
        obtain ⟨k, hk1⟩ := Option.isSome_iff_exists.mp hk.1
        obtain ⟨e1, e2⟩ := key_den d1 hk1
        refine ⟨(k, p.2) :: kvs, ?_, ?_⟩
        · rw [List.map_cons, ← e1]
        · have := DenKF.cons (k := k) d2 h3
          rw [← e2] at this
          exact this
theorem DenPs.keysT {H : Hp} (hs : Same F H) : ∀ {ps : List (V × V)} {as : List (AV × AV)}, DenPs G F ι ps as → as.all (fun p => (tkeyOf p.1).isSome) = true → ∃ kvs : List (List Key × V), KeyT H ps kvs ∧ DenKT G F ι kvs as
  | [], [], _, _ => ⟨[], .nil, .nil⟩
  | [], _ :: _, ⟨h, _⟩, _ => by cases h
  | _ :: _, [], ⟨h, _⟩, _ => by cases h
  | p :: ps, a :: as, ⟨h1, h2⟩, hk => by
    rw [List.all_cons, Bool.and_eq_true] at hk
    cases h1 with
    | cons d1 r1 =>
      cases h2 with
      | cons d2 r2 =>
        obtain ⟨kvs, hkt, h3⟩ := DenPs.keysT hs ⟨r1, r2⟩ hk.2
        obtain ⟨k, hk1⟩ := Option.isSome_iff_exists.mp hk.1
        obtain ⟨e1, b, e2, e3⟩ := tkey_den d1 hk1
        refine ⟨(k, p.2) :: kvs, .cons ⟨⟨b, e2, hs _ _ e3⟩, rfl⟩ hkt, ?_⟩
        have := DenKF.cons (f := tA) (k := k) d2 h3
        rw [← e1] at this
        exact this
end
section
variable {X : Cx} {g : GN} {W : WX} {pos : Pos} {al : Bool}
theorem mkD_post {G : GS} {B : Hp} {E : XK} {F : Hp} {ι : List Addr} {H : Hp} {s : AS} {Q : VK} {D : Addr} {o : HO} {vs : List V} {kvs : List (AV × AV)} (hB : B D = none) (R : Rel G (upd B D o) F ι H s) (dk : DctH o (kvs.map (·.1)) vs) (d : DenAll G F ι vs (kvs.map (·.2)))
    (p : Po G B E F ι s (Den G) (mkD al kvs s) Q) : Q (.ref D) H := by
  unfold mkD at p
  cases al with
  | true =>
    obtain ⟨st, R'⟩ := R.toCell (ob0 := .dct kvs) hB fun hF hH => ⟨hF, _, _, hH, dk, d.mono (Same.refl _) ⟨[D], rfl⟩⟩
    refine p _ _ _ _ st R' (.ref ?_)
    rw [← R.len, List.getElem?_append_right (Nat.le_refl _)]
    simp
  | false =>
    obtain ⟨st, R'⟩ := R.release hB
    exact p _ _ _ _ st R' (.dctK upd_same dk (d.stp st))
theorem de_dct0 : PE X (.Dict [] [] pos) (TE1 (gsOf X g) W fun ρ => MM.bind (nox (MM.pure [])) fun ps => mkDisp al ps) := by
  refine PE.weak pe_dnewK fun σ H Q ⟨B, F, ι, ρ, s, R, ev, p⟩ => fun D hD => ?_
  have hB : B D = none := by
    cases e : B D with
    | none => rfl
    | some u => rw [(R.out D u e).1] at hD; cases hD
  exact mkD_post hB (R.hold (.dK []) hD) (.k (ks := []) rfl) .nil p
theorem de_dct (hu : X.A.units + 1 < cLine) {keys : List (Option Expr)} {values : List Expr} {trs : List (TE × TE)} {fp : AE → MM (List (AV × AV))} (h : PPs X pos keys values trs) (hall : keys.all (·.isSome) = true) (hl : keys.length = values.length) (h0 : keys ≠ []) (h15 : keys.length ≤ 15)
    (ht : ∀ {B F ι ρ s σ H Q}, Rel (gsOf X g) B F ι H s → EnvR (gsOf X g) F ι σ ρ → Po (gsOf X g) B (fun c d H => W0 c d σ H) F ι s (DenPs (gsOf X g)) (fp ρ s) Q → tPairs trs σ H Q) :
    PE X (.Dict keys values pos) (TE1 (gsOf X g) W fun ρ => MM.bind (nox (fp ρ)) fun ps => mkDisp al ps) := by
  refine PE.weak (pe_dispG hu h hall hl h0 h15) fun σ H Q ⟨B, F, ι, ρ, s, R, ev, p⟩ => fun D hD => ?_
  have hB : B D = none := by
    cases e : B D with
    | none => rfl
    | some u => rw [(R.out D u e).1] at hD; cases hD
  have q := Po.nox (B' := upd B D (.dK [])) (D := DenPs (gsOf X g)) p
  refine ht (R.hold (.dK []) hD) ev (q.mono fun ps H2 ⟨F5, ι5, s5, as, st, R5, d, p5⟩ => ⟨(R5.out D _ upd_same).1, ?_⟩)
  unfold mkDisp at p5
  split at p5
  · rename_i hc
    have hc1 := hc.1
    unfold dispOk at hc1
    have ln := d.2.length
    simp only [List.length_map] at ln
    rcases Bool.or_eq_true .. ▸ hc1 with hc1 | hc1
    · obtain ⟨kvs, e, dk⟩ := d.keys hc1
      have dm := DenKF.merge (f := kA) dk .nil
      refine .inl ⟨kvs, e, ?_, mkD_post hB (R5.held _ trivial) (.k dm.1) dm.2 p5⟩
      rw [e, List.length_map] at ln
      omega
    · obtain ⟨kvs, e, dk⟩ := d.keysT R5.sub hc1
      have dm := DenKF.merge (f := tA) dk .nil
      refine .inr ⟨kvs, e, ?_, mkD_post hB (R5.held _ trivial) (.t dm.1) dm.2 p5⟩
      rw [Paired.length e] at ln
      omega
  · exact p5.elim
end
end Ev

set_option linter.all false
set_option maxRecDepth 100000
set_option maxHeartbeats 1000000
/-! EvG: statements. Own work. -/
namespace Ev
open PySem PySem.Spec PyProof.Rows L2

def PoS (G : GS) (B : Hp) (W : WX) (D : Ends) (F : Hp) (ι : List Addr) (s : AS) (r : SRs) : Prop :=
  match r with
  | .next ρ' s' => ∀ σ' H' F' ι', Stp G F ι s F' ι' s' → Rel G B F' ι' H' s' → EnvR G F' ι' σ' ρ' → D.nx σ' H'
  | .ret a s' => ∀ v H' F' ι', Stp G F ι s F' ι' s' → Rel G B F' ι' H' s' → Den G F' ι' v a → D.rt v H'
  | .brk ρ' s' => ∀ σ' H' F' ι', Stp G F ι s F' ι' s' → Rel G B F' ι' H' s' → EnvR G F' ι' σ' ρ' → D.bk σ' H'
  | .cont ρ' s' => ∀ σ' H' F' ι', Stp G F ι s F' ι' s' → Rel G B F' ι' H' s' → EnvR G F' ι' σ' ρ' → D.ct σ' H'
  | .exc x ρ' s' => ∀ cls d σ' H' F' ι', Stp G F ι s F' ι' s' → Rel G B F' ι' H' s' → EnvR G F' ι' σ' ρ' → ExD G F' ι' cls d x → W cls d σ' H'
  | .stuck => False
def TS1 (G : GS) (W : WX) (f : AE → AS → SRs) : TS := fun D σ H => ∃ B F ι ρ s, Rel G B F ι H s ∧ EnvR G F ι σ ρ ∧ PoS G B W D F ι s (f ρ s)

section
variable {G : GS} {B : Hp} {W : WX} {D : Ends} {F F' : Hp} {ι ι' : List Addr} {s s' : AS} {σ : L2.St} {ρ : AE} {H : Hp}
theorem PoS.base {r : SRs} (p : Stp G F ι s F' ι' s') (h : PoS G B W D F ι s r) : PoS G B W D F' ι' s' r := by
  cases r with
  | next ρ s2 => exact fun σ' H' F2 ι2 st => h σ' H' F2 ι2 (p.trans st)
  | ret a s2 => exact fun σ' H' F2 ι2 st => h σ' H' F2 ι2 (p.trans st)
  | brk ρ s2 => exact fun σ' H' F2 ι2 st => h σ' H' F2 ι2 (p.trans st)
  | cont ρ s2 => exact fun σ' H' F2 ι2 st => h σ' H' F2 ι2 (p.trans st)
  | exc x ρ s2 => exact fun c d σ' H' F2 ι2 st => h c d σ' H' F2 ι2 (p.trans st)
  | stuck => exact h
/-- an expression's part, then the rest -/
theorem TS1.first {α β : Type} {Dn : Hp → List Addr → β → α → Prop} {m : AE → MM α} {f : α → AS → SRs} {Q : β → Hp → Prop} (R : Rel G B F ι H s) (ev : EnvR G F ι σ ρ) (p : PoS G B W D F ι s (sBind ρ (m ρ) f s))
    (k : ∀ v H1 F1 ι1 a s1, Stp G F ι s F1 ι1 s1 → Rel G B F1 ι1 H1 s1 → EnvR G F1 ι1 σ ρ → Dn F1 ι1 v a → PoS G B W D F1 ι1 s1 (f a s1) → Q v H1) : Tv G W Dn m σ H Q := by
  refine ⟨B, F, ι, ρ, s, R, ev, ?_⟩
  unfold sBind at p
  revert p
  cases m ρ s with
  | ok a s1 => exact fun p v H1 F1 ι1 st R1 d => k v H1 F1 ι1 a s1 st R1 (ev.stp st) d (PoS.base st p)
  | exc x s1 => exact fun p c d H1 F1 ι1 st R1 e => p c d σ H1 F1 ι1 st R1 (ev.stp st) e
  | stuck => exact fun p => p
end

section
variable {X : Cx} {g : GN} {W : WX} {e : Expr} {fa : AE → MM AV} {pos : Pos}
theorem ds_expr (he : PE X e (TE1 (gsOf X g) W fa)) (hs : swapsWith e none pos.line X.env = pure false) : PS X (.Expr e pos) (TS1 (gsOf X g) W fun ρ s => sBind ρ (fa ρ) (fun _ s' => .next ρ s') s) := by
  refine PS.weak (ps_expr he hs) fun D σ H ⟨B, F, ι, ρ, s, R, ev, p⟩ => ?_
  exact TS1.first R ev p fun v H1 F1 ι1 a s1 st R1 ev1 d p1 => p1 σ H1 F1 ι1 Stp.refl R1 ev1
theorem ds_ret (he : PE X e (TE1 (gsOf X g) W fa)) : PS X (.Return (some e) pos) (TS1 (gsOf X g) W fun ρ s => sBind ρ (fa ρ) (fun v s' => .ret v s') s) := by
  refine PS.weak (ps_ret he) fun D σ H ⟨B, F, ι, ρ, s, R, ev, p⟩ => ?_
  exact TS1.first R ev p fun v H1 F1 ι1 a s1 st R1 ev1 d p1 => p1 v H1 F1 ι1 Stp.refl R1 d
theorem ds_retN : PS X (.Return none pos) (TS1 (gsOf X g) W fun ρ s => .ret .non s) :=
  PS.weak ps_retN fun D σ H ⟨B, F, ι, ρ, s, R, ev, p⟩ => p .non H F ι Stp.refl R .non
/-- the store behind a value -/
theorem asg_tail {fg : AS → AV → AE → Option AE} {inn : List Nat → Bool} {D : Ends} {B : Hp} {F : Hp} {ι : List Addr} {s : AS} {σ : L2.St} {ρ : AE} {H : Hp} {v : V} {a : AV} (R : Rel (gsOf X g) B F ι H s) (ev : EnvR (gsOf X g) F ι σ ρ) (d : Den (gsOf X g) F ι v a)
    (p : PoS (gsOf X g) B W D F ι s (match fg s a ρ with | some ρ' => .next ρ' s | none => .stuck)) : TG1 (gsOf X g) fg inn v σ H D.nx := by
  cases h : fg s a ρ with
  | none => rw [h] at p; exact p.elim
  | some ρ' => rw [h] at p; exact ⟨B, F, ι, ρ, s, a, ρ', R, ev, d, h, fun σ' ev' _ => p σ' H F ι Stp.refl R ev'⟩
theorem ds_asg {tg : Expr} {fg : AS → AV → AE → Option AE} {inn : List Nat → Bool} (he : PE X e (TE1 (gsOf X g) W fa)) (hg : PG X tg (TG1 (gsOf X g) fg inn)) (hs : swapsWithSole [tg] e pos.line X.env = pure false) (hw : swappedStores [tg] e X.env = pure none)
    (h1 : (assignEach [tg] X.env).map (·.2) = [assign tg X.env]) : PS X (.Assign [tg] e pos) (TS1 (gsOf X g) W fun ρ s => sBind ρ (fa ρ) (fun v s' => match fg s' v ρ with | some ρ' => .next ρ' s' | none => .stuck) s) := by
  refine PS.weak (ps_asg he hg hs hw h1) fun D σ H ⟨B, F, ι, ρ, s, R, ev, p⟩ => ?_
  exact TS1.first R ev p fun v H1 F1 ι1 a s1 st R1 ev1 d p1 => asg_tail R1 ev1 d p1
theorem asg_name {i : Nat} {D : Ends} {B : Hp} {F : Hp} {ι : List Addr} {s : AS} {σ : L2.St} {ρ : AE} {H : Hp} {v : V} {a : AV} (R : Rel (gsOf X g) B F ι H s) (ev : EnvR (gsOf X g) F ι σ ρ) (d : Den (gsOf X g) F ι v a)
    (p : PoS (gsOf X g) B W D F ι s (match asgT s.cells (.var i) a ρ with | some ρ' => .next ρ' s | none => .stuck)) : gName i v σ H D.nx := by
  simp only [asgT] at p
  split at p
  · rename_i ρ' h
    split at h
    · cases h
      exact p _ H F ι Stp.refl R (ev.set d)
    · cases h
  · exact p.elim
theorem ds_set {i : Nat} {x : Str} {pos' : Pos} (hN : X.N.Nodup) (hi : X.N[i]? = some x) (hx : Loc X.env.scope x) (he : PE X e (TE1 (gsOf X g) W fa)) (hs : swapsWith e (some (.Name x pos')) pos.line X.env = pure false) (hf : X.fn x = true ∨ X.env.scope.names.lookup x = some .local) :
    PS X (.Assign [.Name x pos'] e pos) (TS1 (gsOf X g) W fun ρ s => sBind ρ (fa ρ) (fun v s' => match asgT s'.cells (.var i) v ρ with | some ρ' => .next ρ' s' | none => .stuck) s) := by
  refine PS.weak (ps_set hN hi hx he hs hf) fun D σ H ⟨B, F, ι, ρ, s, R, ev, p⟩ => ?_
  exact TS1.first R ev p fun v H1 F1 ι1 a s1 st R1 ev1 d p1 => asg_name R1 ev1 d p1
theorem ds_setLc' {i : Nat} {y : Str} {py spos : Pos} (h : PS X (.Assign [.Name y py] e spos) (tAsg (TE1 (gsOf X g) W fa) (gName i))) :
    PS X (.Assign [.Name y py] e spos) (TS1 (gsOf X g) W fun ρ s => sBind ρ (fa ρ) (fun v s' => match asgT s'.cells (.var i) v ρ with | some ρ' => .next ρ' s' | none => .stuck) s) := by
  refine PS.weak h fun D σ H ⟨B, F, ι, ρ, s, R, ev, p⟩ => ?_
  exact TS1.first R ev p fun v H1 F1 ι1 a s1 st R1 ev1 d p1 => asg_name R1 ev1 d p1
/-- a, b = x, y -/
theorem ds_par {i j : Nat} {x y : Str} {a b : Expr} {fs : AE → MM (List AV)} {px py pt : Pos} {kt k2 pt2} (hc : X.calm = true) (hN : X.N.Nodup) (hi : X.N[i]? = some x) (hj : X.N[j]? = some y) (hij : i ≠ j)
    (hx : X.env.scope.names.lookup x = some .local) (hy : X.env.scope.names.lookup y = some .local) (ha : PA X [a, b] (TA1 (gsOf X g) W fs)) (hl : ∀ ρ s vs s', fs ρ s = .ok vs s' → vs.length = 2)
    (hw : swappedStores [.Tuple [.Name x px, .Name y py] kt pt] (.Tuple [a, b] k2 pt2) X.env = pure (some [x, y]))
    (hs : swapsWithSole [.Tuple [.Name x px, .Name y py] kt pt] (.Tuple [a, b] k2 pt2) pos.line X.env = pure false) :
    PS X (.Assign [.Tuple [.Name x px, .Name y py] kt pt] (.Tuple [a, b] k2 pt2) pos)
      (TS1 (gsOf X g) W fun ρ s => sBind ρ (MM.bind (fs ρ) fun vs => MM.pure (AV.tup vs)) (fun v s' => match asgT s'.cells (.tup [.var i, .var j]) v ρ with | some ρ' => .next ρ' s' | none => .stuck) s) := by
  refine PS.weak (ps_par hc hN hi hj hij hx hy ha hw hs) fun D σ H ⟨B, F, ι, ρ, s, R, ev, p⟩ => ?_
  have p' : PoS (gsOf X g) B W D F ι s (sBind ρ (fs ρ) (fun vs s' => match asgT s'.cells (.tup [.var i, .var j]) (.tup vs) ρ with | some ρ' => .next ρ' s' | none => .stuck) s) := by
    dsimp only at p
    unfold sBind MM.bind MM.pure at p
    unfold sBind
    revert p
    cases fs ρ s <;> exact id
  have hl' : ∀ vs s', fs ρ s = .ok vs s' → vs.length = 2 := fun vs s' h => hl ρ s vs s' h
  refine ⟨B, F, ι, ρ, s, R, ev, ?_⟩
  unfold sBind at p'
  revert p' hl'
  cases fs ρ s with
  | exc x s1 => exact fun p' _ c d H1 F1 ι1 st R1 e => p' c d σ H1 F1 ι1 st R1 (ev.stp st) e
  | stuck => exact fun p' _ => p'
  | ok vs s1 =>
    intro p' hl' ws H1 F1 ι1 st R1 d
    have hl2 := hl' vs s1 rfl
    cases d with
    | nil => simp at hl2
    | cons d d2 =>
      cases d2 with
      | nil => simp at hl2
      | cons d2 d3 =>
        cases d3 with
        | cons _ _ => simp at hl2
        | nil =>
          refine ⟨_, _, rfl, ?_⟩
          simp only [asgT, seqOf, asgTs] at p'
          split at p'
          · rename_i ρ' h
            split at h
            · rename_i ρ1 h1
              split at h1
              · cases h1
                split at h
                · rename_i ρ2 h2
                  split at h2
                  · cases h2; cases h
                    have ev1 := ev.stp st
                    exact p' _ H1 F1 ι1 st R1 ((ev1.set d).set d2)
                  · cases h2
                · cases h
              · cases h1
            · cases h
          · exact p'.elim
/-- o[i] = e -/
theorem ds_setIx (hu : X.A.units + 1 < cLine) {o i : Expr} {fo fi : AE → MM AV} {tpos : Pos} (ho : PE X o (TE1 (gsOf X g) W fo)) (hi : PE X i (TE1 (gsOf X g) W fi)) (he : PE X e (TE1 (gsOf X g) W fa))
    (ha : ∀ v, assign (.Subscript o i tpos) X.env v = (do
      let ov ← holding [v] (eval o X.env)
      let iv ← holding [v, ov] (eval i X.env)
      standAt tpos
      holding [v, ov, iv] (setItem ov iv v)
      release [v, ov, iv] []))
    (hs : swapsWithSole [.Subscript o i tpos] e pos.line X.env = pure false) (hw : swappedStores [.Subscript o i tpos] e X.env = pure none) (h1 : (assignEach [.Subscript o i tpos] X.env).map (·.2) = [assign (.Subscript o i tpos) X.env]) :
    PS X (.Assign [.Subscript o i tpos] e pos) (TS1 (gsOf X g) W fun ρ s => sBind ρ (MM.bind (fa ρ) fun v => MM.bind (fo ρ) fun x => MM.bind (fi ρ) fun y => setIxM x y v) (fun _ s' => .next ρ s') s) := by
  refine PS.weak (ps_asg he (pg_sub ho hi (set_ok (g := g) hu) ha) hs hw h1) fun D σ H ⟨B, F, ι, ρ, s, R, ev, p⟩ => ?_
  have p' : Po (gsOf X g) B (fun c d H => W c d σ H) F ι s (fun _ _ (_ : Unit) (_ : Unit) => True) ((MM.bind (fa ρ) fun v => MM.bind (fo ρ) fun x => MM.bind (fi ρ) fun y => setIxM x y v) s) (fun _ H => D.nx σ H) := by
    dsimp only at p
    unfold sBind at p
    revert p
    cases (MM.bind (fa ρ) fun v => MM.bind (fo ρ) fun x => MM.bind (fi ρ) fun y => setIxM x y v) s with
    | ok a s1 => exact fun p v H1 F1 ι1 st R1 _ => p σ H1 F1 ι1 st R1 (ev.stp st)
    | exc x s1 => exact fun p c d H1 F1 ι1 st R1 e => p c d σ H1 F1 ι1 st R1 (ev.stp st) e
    | stuck => exact fun p => p
  refine Tv.seq R ev p' fun v H1 F1 ι1 a s1 st R1 ev1 d p1 => ?_
  refine Tv.seq R1 ev1 p1 fun v2 H2 F2 ι2 a2 s2 st2 R2 ev2 d2 p2 => ?_
  refine Tv.seq R2 ev2 p2 fun v3 H3 F3 ι3 a3 s3 st3 R3 ev3 d3 p3 => ?_
  exact ⟨B, _, F3, ι3, s3, a2, a3, a, R3, d2.stp st3, d3, d.stp (st2.trans st3), p3⟩

/-! ### blocks -/
variable {st : Stmt} {rest : List Stmt} {f1 : AE → AS → SRs} {f2 : AE → AS → SRs}
theorem dss_nil : PSs X [] (TS1 (gsOf X g) W fun ρ s => .next ρ s) :=
  PSs.weak pss_nil fun D σ H ⟨B, F, ι, ρ, s, R, ev, p⟩ => p σ H F ι Stp.refl R ev
theorem dss_cons (h1 : PS X st (TS1 (gsOf X g) W f1)) (h2 : PSs X rest (TS1 (gsOf X g) W f2)) : PSs X (st :: rest) (TS1 (gsOf X g) W fun ρ s => sSeq (f1 ρ s) f2) := by
  refine PSs.weak (pss_cons h1 h2) fun D σ H ⟨B, F, ι, ρ, s, R, ev, p⟩ => ?_
  refine ⟨B, F, ι, ρ, s, R, ev, ?_⟩
  dsimp only at p
  unfold sSeq at p
  revert p
  cases f1 ρ s with
  | next ρ1 s1 => exact fun p σ1 H1 F1 ι1 st R1 ev1 => ⟨B, F1, ι1, ρ1, s1, R1, ev1, PoS.base st p⟩
  | ret a s1 => exact id
  | brk ρ1 s1 => exact id
  | cont ρ1 s1 => exact id
  | exc x ρ1 s1 => exact id
  | stuck => exact id
theorem ds_if {c : Expr} {a b : List Stmt} {tc : AE → MM Bool} (hc : PT X c (TT1 (gsOf X g) W tc)) (ha : PSs X a (TS1 (gsOf X g) W f1)) (hb : PSs X b (TS1 (gsOf X g) W f2)) :
    PS X (.If c a b pos) (TS1 (gsOf X g) W fun ρ s => sBind ρ (tc ρ) (fun t s' => if t = true then f1 ρ s' else f2 ρ s') s) := by
  refine PS.weak (ps_if hc ha hb) fun D σ H ⟨B, F, ι, ρ, s, R, ev, p⟩ => ?_
  refine TS1.first R ev p fun v H1 F1 ι1 a s1 st R1 ev1 d p1 => ?_
  cases d
  cases v with
  | true => rw [if_pos rfl] at p1 ⊢; exact ⟨B, F1, ι1, ρ, s1, R1, ev1, p1⟩
  | false => rw [if_neg (by decide)] at p1 ⊢; exact ⟨B, F1, ι1, ρ, s1, R1, ev1, p1⟩

/-! ### for -/
/-- what is left of a for's loop at turn i -/
def forR (turn : AV → AE → AS → SRs) (src : Src) (i : Nat) : AE → AS → SRs := match src with
  | .items xs => forL turn (xs.drop i)
  | .cell k n => forC turn k (n - i) i
def afterT (r : SRs) (f : AE → AS → SRs) : SRs := match r with
  | .next ρ' s' => f ρ' s'
  | .cont ρ' s' => f ρ' s'
  | .brk ρ' s' => .next ρ' s'
  | o => o
theorem forR_turn {G : GS} {B : Hp} {D : Ends} {F : Hp} {ι : List Addr} {s : AS} {turn : AV → AE → AS → SRs} {src : Src} {i : Nat} {ρ : AE} (hi : i ≤ srcN src) (h : PoS G B W D F ι s (forR turn src i ρ s)) :
    (srcAt s src i = some none ∧ PoS G B W D F ι s (.next ρ s)) ∨
    ∃ x, i < srcN src ∧ srcAt s src i = some (some x) ∧ PoS G B W D F ι s (afterT (turn x ρ s) (forR turn src (i + 1))) := by
  cases src with
  | items xs =>
    show _ ∨ ∃ x, i < xs.length ∧ _
    have h : PoS G B W D F ι s (forL turn (xs.drop i) ρ s) := h
    by_cases hlt : i < xs.length
    · rw [List.drop_eq_getElem_cons hlt, forL] at h
      refine .inr ⟨xs[i], hlt, by simp [srcAt, hlt], ?_⟩
      unfold afterT
      revert h
      cases turn xs[i] ρ s <;> exact id
    · have e : xs.drop i = [] := List.drop_eq_nil_of_le (by omega)
      rw [e] at h
      exact .inl ⟨by simp [srcAt]; omega, h⟩
  | cell k n =>
    show _ ∨ ∃ x, i < n ∧ _
    have hi : i ≤ n := hi
    have h : PoS G B W D F ι s (forC turn k (n - i) i ρ s) := h
    by_cases hlt : i < n
    · have e1 : n - i = (n - (i + 1)) + 1 := by omega
      rw [e1, forC, itemAt] at h
      cases hc : s.cells[k]? with
      | none => rw [hc] at h; exact h.elim
      | some o =>
        rw [hc] at h
        cases o with
        | lst xs =>
          simp only at h
          cases hx : xs[i]? with
          | none => rw [hx] at h; exact .inl ⟨by simp [srcAt, hc, hx], h⟩
          | some x =>
            rw [hx] at h
            refine .inr ⟨x, hlt, by simp [srcAt, hc, hx], ?_⟩
            unfold afterT
            simp only at h
            revert h
            cases turn x ρ s <;> exact id
        | dct _ => exact h.elim
        | ins _ _ => exact h.elim
        | frz _ => exact h.elim
    · have e1 : n - i = 0 := by omega
      rw [e1, forC, itemAt] at h
      cases hc : s.cells[k]? with
      | none => rw [hc] at h; exact h.elim
      | some o =>
        rw [hc] at h
        cases o with
        | lst xs =>
          simp only at h
          cases hx : xs[i]? with
          | none => rw [hx] at h; exact .inl ⟨by simp [srcAt, hc, hx], h⟩
          | some x => rw [hx] at h; exact h.elim
        | dct _ => exact h.elim
        | ins _ _ => exact h.elim
        | frz _ => exact h.elim
theorem ds_for {tg it : Expr} {body : List Stmt} {fi : AE → MM Src} {fg : AS → AV → AE → Option AE} {inn : List Nat → Bool} {fb : AE → AS → SRs} (hp : PassesOwn (model X.prog X.w) X.A X.env X.xe) (hc : X.calm = true) (hi : PI X tg it (TI1 (gsOf X g) W fi))
    (hg : PG X tg (TG1 (gsOf X g) fg inn)) (hb : PSs X body (TS1 (gsOf X g) W fb)) (hs : ∀ x, foldedSetIterable it X.env x = pure x) :
    PS X (.For tg it body [] pos) (TS1 (gsOf X g) W fun ρ s => sBind ρ (fi ρ) (fun src s' => forR (fun x ρ' s1 => match fg s1 x ρ' with | some ρ2 => fb ρ2 s1 | none => .stuck) src 0 ρ s') s) := by
  refine PS.weak (ps_for hp hc hi hg hb hs) fun D σ H ⟨B, F, ι, ρ, s, R, ev, p⟩ => ?_
  refine TS1.first R ev p fun J H1 F1 ι1 src s1 st1 R1 ev1 d1 p1 => ?_
  refine ⟨fun i m σ2 H2 => m = srcN src - i ∧ i ≤ srcN src ∧ ∃ F2 ι2 ρ2 s2, Stp (gsOf X g) F1 ι1 s1 F2 ι2 s2 ∧ Rel (gsOf X g) B F2 ι2 H2 s2 ∧ EnvR (gsOf X g) F2 ι2 σ2 ρ2 ∧
      PoS (gsOf X g) B W D F2 ι2 s2 (forR (fun x ρ' s1 => match fg s1 x ρ' with | some ρ2 => fb ρ2 s1 | none => .stuck) src i ρ2 s2),
    ⟨srcN src - 0, rfl, Nat.zero_le _, F1, ι1, ρ, s1, Stp.refl, R1, ev1, p1⟩, ?_⟩
  rintro i m σ2 H2 ⟨rfl, hi, F2, ι2, ρ2, s2, st2, R2, ev2, p2⟩
  obtain ⟨hs1, hs2⟩ := d1.step st2.sm st2.pre R2 i
  rcases forR_turn hi p2 with ⟨e, p3⟩ | ⟨x, hlt, e, p3⟩
  · exact .inl ⟨hs1 e, p3 σ2 H2 F2 ι2 Stp.refl R2 ev2⟩
  · obtain ⟨go, yl⟩ := hs2 x e
    refine .inr ⟨go, fun σ3 H3 => i + 1 ≤ srcN src ∧ ∃ F2 ι2 ρ2 s2, Stp (gsOf X g) F1 ι1 s1 F2 ι2 s2 ∧ Rel (gsOf X g) B F2 ι2 H3 s2 ∧ EnvR (gsOf X g) F2 ι2 σ3 ρ2 ∧
      PoS (gsOf X g) B W D F2 ι2 s2 (forR (fun x ρ' s1 => match fg s1 x ρ' with | some ρ2 => fb ρ2 s1 | none => .stuck) src (i + 1) ρ2 s2), fun σ3 H3 hH => ⟨_, ?_, rfl, hH⟩, fun y H3 hy => ?_⟩
    · omega
    · obtain ⟨F3, st3, R3, d3⟩ := yl y H3 hy
      have p4 := PoS.base st3 p3
      have ev3 := ev2.stp st3
      cases hfg : fg s2 x ρ2 with
      | none => simp only [hfg] at p4; exact p4.elim
      | some ρ3 =>
        simp only [hfg] at p4
        refine ⟨B, F3, ι2, ρ2, s2, x, ρ3, R3, ev3, d3, hfg, fun σ4 ev4 _ => ?_⟩
        refine ⟨B, F3, ι2, ρ3, s2, R3, ev4, ?_⟩
        unfold afterT at p4
        revert p4
        have st23 := st2.trans st3
        cases fb ρ3 s2 with
        | next ρ5 s5 => exact fun p4 σ5 H5 F5 ι5 st5 R5 ev5 => ⟨hlt, F5, ι5, ρ5, s5, st23.trans st5, R5, ev5, PoS.base st5 p4⟩
        | cont ρ5 s5 => exact fun p4 σ5 H5 F5 ι5 st5 R5 ev5 => ⟨hlt, F5, ι5, ρ5, s5, st23.trans st5, R5, ev5, PoS.base st5 p4⟩
        | brk ρ5 s5 => exact id
        | ret a s5 => exact id
        | exc x ρ5 s5 => exact id
        | stuck => exact id
/-! ### while -/
theorem ds_while {c : Expr} {body : List Stmt} {tc : AE → MM Bool} {fb : AE → AS → SRs} {n : Nat} (hp : PassesOwn (model X.prog X.w) X.A X.env X.xe) (hc : PT X c (TT1 (gsOf X g) W tc)) (hb : PSs X body (TS1 (gsOf X g) W fb)) :
    PS X (.While c body [] pos) (TS1 (gsOf X g) W fun ρ s => whileL tc fb n ρ s) := by
  refine PS.weak (ps_while hp hc hb) fun D σ H ⟨B, F, ι, ρ, s, R, ev, p⟩ => ?_
  refine ⟨fun m σ H => ∃ F ι ρ s, Rel (gsOf X g) B F ι H s ∧ EnvR (gsOf X g) F ι σ ρ ∧ PoS (gsOf X g) B W D F ι s (whileL tc fb m ρ s), ⟨n, F, ι, ρ, s, R, ev, p⟩, ?_⟩
  rintro m σ2 H2 ⟨F2, ι2, ρ2, s2, R2, ev2, p2⟩
  cases m with
  | zero => exact p2.elim
  | succ m =>
    refine TS1.first R2 ev2 p2 fun v H3 F3 ι3 b s3 st3 R3 ev3 d3 p3 => ?_
    cases d3
    cases v with
    | false => rw [if_neg (by decide)] at p3 ⊢; exact p3 σ2 H3 F3 ι3 Stp.refl R3 ev3
    | true =>
      rw [if_pos rfl] at p3 ⊢
      refine ⟨fun σ H => ∃ F ι ρ s, Rel (gsOf X g) B F ι H s ∧ EnvR (gsOf X g) F ι σ ρ ∧ PoS (gsOf X g) B W D F ι s (whileL tc fb m ρ s), fun σ' H' h => ⟨m, Nat.lt_succ_self m, h⟩, B, F3, ι3, ρ2, s3, R3, ev3, ?_⟩
      revert p3
      cases fb ρ2 s3 with
      | next ρ5 s5 => exact fun p3 σ5 H5 F5 ι5 st5 R5 ev5 => ⟨F5, ι5, ρ5, s5, R5, ev5, PoS.base st5 p3⟩
      | cont ρ5 s5 => exact fun p3 σ5 H5 F5 ι5 st5 R5 ev5 => ⟨F5, ι5, ρ5, s5, R5, ev5, PoS.base st5 p3⟩
      | brk ρ5 s5 => exact id
      | ret a s5 => exact id
      | exc x ρ5 s5 => exact id
      | stuck => exact id
end
end Ev

set_option linter.all false
set_option maxRecDepth 100000
set_option maxHeartbeats 1000000
/-! EvH: a def left; calls. Own work. -/
namespace Ev
open PySem PySem.Spec PyProof.Rows L2

/-! ### cells forgotten -/
section
variable {G : GS} {F F' : Hp} {ι ι' : List Addr}
theorem kA_noRef {j : Nat} {k : Key} (r : RefIn j (kA k)) : False := by cases k <;> cases r
theorem DctH.noRef {o : HO} {as : List AV} {vs : List V} (h : DctH o as vs) {a : AV} {j : Nat} (m : a ∈ as) (r : RefIn j a) : False := by
  rcases h with ⟨ks, _, rfl, _⟩ | ⟨ks, _, rfl, _⟩
  · obtain ⟨q, _, rfl⟩ := List.mem_map.mp m
    exact kA_noRef r
  · obtain ⟨q, _, rfl⟩ := List.mem_map.mp m
    cases r with
    | tup hm r =>
      obtain ⟨k, _, rfl⟩ := List.mem_map.mp hm
      exact kA_noRef r
mutual
theorem Den.lt : ∀ {v : V} {x : AV}, Den G F ι v x → ∀ j, RefIn j x → j < ι.length
  | _, _, .ref h => fun j r => by cases r; exact (List.getElem?_eq_some_iff.mp h).1
  | _, _, .tup _ d => fun j r => by
    have h := DenAll.lt d
    cases r with | tup hm r => exact h _ hm j r
  | _, _, .lst _ d => fun j r => by
    have h := DenAll.lt d
    cases r with | lst hm r => exact h _ hm j r
  | _, _, .dctK _ hk d => fun j r => by
    have h := DenAll.lt d
    cases r with
    | @dctK p _ hm r =>
      have h1 : p.1 ∈ _ := List.mem_map_of_mem (f := Prod.fst) hm
      exact (DctH.noRef hk h1 r).elim
    | dctV hm r => exact h _ (List.mem_map_of_mem (f := Prod.snd) hm) j r
  | _, _, .ins _ _ _ d => fun j r => by
    have h := DenAll.lt d
    cases r with | ins hm r => exact h _ (List.mem_map_of_mem (f := Prod.snd) hm) j r
  | _, _, .exc _ _ _ _ d => fun j r => by
    have h := DenAll.lt d
    cases r with | exc hm r => exact h _ (List.mem_map_of_mem (f := Prod.snd) hm) j r
  | _, _, .non => fun j r => by cases r
  | _, _, .bl _ => fun j r => by cases r
  | _, _, .int _ => fun j r => by cases r
  | _, _, .str _ => fun j r => by cases r
  | _, _, .fn _ => fun j r => by cases r
theorem DenAll.lt : ∀ {vs : List V} {xs : List AV}, DenAll G F ι vs xs → ∀ x ∈ xs, ∀ j, RefIn j x → j < ι.length
  | _, _, .nil => fun x hm => by cases hm
  | _, _, .cons d r => fun x hm j rf => by
    have h1 := Den.lt d
    have h2 := DenAll.lt r
    rcases List.mem_cons.mp hm with e | hm
    · rw [e] at rf; exact h1 j rf
    · exact h2 x hm j rf
end
theorem pre_back {n : Nat} {a : Addr} (p : ι <+: ι') (hn : n < ι.length) (h : ι'[n]? = some a) : ι[n]? = some a := by
  obtain ⟨t, rfl⟩ := p
  rw [List.getElem?_append_left hn] at h
  exact h
mutual
theorem Den.back (sm : Same F F') (p : ι <+: ι') : ∀ {v : V} {x : AV}, Den G F ι' v x → (∀ (j : Nat), RefIn j x → j < ι.length) → Den G F' ι v x
  | _, _, .non, _ => .non
  | _, _, .bl b, _ => .bl b
  | _, _, .int i, _ => .int i
  | _, _, .str x, _ => .str x
  | _, _, .fn h, _ => .fn h
  | _, _, .tup h r, k => .tup (sqX_mono sm h) (DenAll.back sm p r fun j x hx hj => k j (.tup hx hj))
  | _, _, .lst h r, k => .lst (sqL_mono sm h) (DenAll.back sm p r fun j x hx hj => k j (.lst hx hj))
  | _, _, .dctK h e r, k => .dctK (sm _ _ h) e (DenAll.back sm p r fun j x hx hj => by
      obtain ⟨q, hq, e⟩ := List.mem_map.mp hx
      exact k j (.dctV hq (by rw [e]; exact hj)))
  | _, _, .ins c h e r, k => .ins c (sm _ _ h) e (DenAll.back sm p r fun j x hx hj => by
      obtain ⟨q, hq, e⟩ := List.mem_map.mp hx
      exact k j (.ins hq (by rw [e]; exact hj)))
  | _, _, .exc c h1 h2 e r, k => .exc c (sm _ _ h1) (sm _ _ h2) e (DenAll.back sm p r fun j x hx hj => by
      obtain ⟨q, hq, e⟩ := List.mem_map.mp hx
      exact k j (.exc hq (by rw [e]; exact hj)))
  | _, _, .ref h, k => .ref (pre_back p (k _ .ref) h)
theorem DenAll.back (sm : Same F F') (p : ι <+: ι') : ∀ {vs : List V} {xs : List AV}, DenAll G F ι' vs xs → (∀ (j : Nat) (x : AV), x ∈ xs → RefIn j x → j < ι.length) → DenAll G F' ι vs xs
  | _, _, .nil, _ => .nil
  | _, _, .cons d r, k => .cons (Den.back sm p d fun j hj => k j _ List.mem_cons_self hj) (DenAll.back sm p r fun j x hx hj => k j x (List.mem_cons_of_mem _ hx) hj)
end
end
theorem mapO_length {α β : Type} {f : α → Option β} : ∀ {xs : List α} {ys : List β}, mapO f xs = some ys → ys.length = xs.length
  | [], _, e => by simp [mapO] at e; subst e; rfl
  | x :: xs, _, e => by
    unfold mapO at e
    cases e1 : f x with
    | none => rw [e1] at e; cases e
    | some y =>
      rw [e1] at e
      cases e2 : mapO f xs with
      | none => rw [e2] at e; cases e
      | some ys => rw [e2] at e; cases e; simp [mapO_length e2]
/-- what is a value from now on -/
def frozen (F : Hp) (l : List Addr) (H : Hp) : Hp := fun a => match F a with
  | some o => some o
  | none => if a ∈ l then H a else none
section
variable {G : GS} {B : Hp} {F F' : Hp} {ι ι' : List Addr} {H : Hp} {s s' : AS}
theorem frozen_same {l : List Addr} : Same F (frozen F l H) := fun a o e => by unfold frozen; rw [e]
theorem frz_all {n k : Nat} (ih : ∀ {v x w}, Den G F' ι' v x → frzV s'.cells k n x = some w → Den G (frozen F' (ι'.drop k) H) (ι'.take k) v w) : ∀ {vs : List V} {xs ys : List AV}, DenAll G F' ι' vs xs → mapO (frzV s'.cells k n) xs = some ys →
    DenAll G (frozen F' (ι'.drop k) H) (ι'.take k) vs ys
  | _, _, _, .nil, e => by simp [mapO] at e; subst e; exact .nil
  | _, _, _, .cons (x := x) (xs := xs) d r, e => by
    unfold mapO at e
    cases e1 : frzV s'.cells k n x with
    | none => rw [e1] at e; cases e
    | some y =>
      rw [e1] at e
      cases e2 : mapO (frzV s'.cells k n) xs with
      | none => rw [e2] at e; cases e
      | some ys =>
        rw [e2] at e
        cases e
        exact .cons (ih d e1) (frz_all ih r e2)
theorem zip_fst {α β : Type} : ∀ {xs : List α} {ys : List β}, xs.length = ys.length → (xs.zip ys).map (·.1) = xs
  | [], [], _ => rfl
  | x :: xs, y :: ys, h => by
    show x :: (xs.zip ys).map (·.1) = _
    rw [zip_fst (by simpa using h)]
  | [], _ :: _, h => by simp at h
  | _ :: _, [], h => by simp at h
theorem zip_snd {α β : Type} : ∀ {xs : List α} {ys : List β}, xs.length = ys.length → (xs.zip ys).map (·.2) = ys
  | [], [], _ => rfl
  | x :: xs, y :: ys, h => by
    show y :: (xs.zip ys).map (·.2) = _
    rw [zip_snd (by simpa using h)]
  | [], _ :: _, h => by simp at h
  | _ :: _, [], h => by simp at h
theorem zip_len {α β : Type} {kvs : List (α × β)} {f : β → Option AV} {ys : List AV} (h : mapO f (kvs.map (·.2)) = some ys) : (kvs.map (·.1)).length = ys.length := by
  have := mapO_length h
  simp at this ⊢
  exact this.symm
theorem frozen_none {F : Hp} {l : List Addr} {H : Hp} {a : Addr} (hF : F a = none) (h : a ∉ l) : frozen F l H a = none := by
  unfold frozen
  rw [hF]
  show (if a ∈ l then H a else none) = none
  rw [if_neg h]
theorem frozen_at {F : Hp} {ι : List Addr} {H : Hp} {j k : Nat} {a : Addr} {o : HO} (hlt : ¬ j < k) (hj : ι[j]? = some a) (hF : F a = none) (hH : H a = some o) : frozen F (ι.drop k) H a = some o := by
  unfold frozen
  rw [hF]
  have : a ∈ ι.drop k := by
    have h1 : (ι.drop k)[j - k]? = some a := by
      rw [List.getElem?_drop, show k + (j - k) = j by omega]; exact hj
    exact List.mem_of_getElem? h1
  show (if a ∈ ι.drop k then H a else none) = _
  rw [if_pos this]; exact hH
theorem frz_ok (R : Rel G B F' ι' H s') {k : Nat} : ∀ (n : Nat) {v : V} {x w : AV}, Den G F' ι' v x → frzV s'.cells k n x = some w → Den G (frozen F' (ι'.drop k) H) (ι'.take k) v w
  | 0, _, _, _, _, e => by simp [frzV] at e
  | n + 1, v, x, w, d, e => by
    have ih := @frz_ok R k n
    cases d with
    | non => simp [frzV] at e; subst e; exact .non
    | bl b => simp [frzV] at e; subst e; exact .bl b
    | int i => simp [frzV] at e; subst e; exact .int i
    | str z => simp [frzV] at e; subst e; exact .str z
    | fn h => simp [frzV] at e; subst e; exact .fn h
    | exc _ _ _ _ _ => simp [frzV] at e
    | @tup a vs xs h r =>
      simp only [frzV] at e
      cases e2 : mapO (frzV s'.cells k n) xs with
      | none => rw [e2] at e; cases e
      | some ys => rw [e2] at e; cases e; exact .tup (sqX_mono frozen_same h) (frz_all ih r e2)
    | @lst a vs xs h r =>
      simp only [frzV] at e
      cases e2 : mapO (frzV s'.cells k n) xs with
      | none => rw [e2] at e; cases e
      | some ys => rw [e2] at e; cases e; exact .lst (sqL_mono frozen_same h) (frz_all ih r e2)
    | @dctK a o vs kvs h hk r =>
      simp only [frzV] at e
      cases e2 : mapO (frzV s'.cells k n) (kvs.map (·.2)) with
      | none => rw [e2] at e; cases e
      | some ys =>
        rw [e2] at e; cases e
        have hl := zip_len e2
        exact .dctK (frozen_same _ _ h) (by rw [zip_fst hl]; exact hk) (by rw [zip_snd hl]; exact frz_all ih r e2)
    | @ins a C dx c vfs fs hc h hk r =>
      simp only [frzV] at e
      cases e2 : mapO (frzV s'.cells k n) (fs.map (·.2)) with
      | none => rw [e2] at e; cases e
      | some ys =>
        rw [e2] at e; cases e
        have hl := zip_len e2
        exact .ins hc (frozen_same _ _ h) (by rw [zip_fst hl]; exact hk) (by rw [zip_snd hl]; exact frz_all ih r e2)
    | @ref j a hj =>
      simp only [frzV] at e
      split at e
      · rename_i hlt
        cases e
        exact .ref (by rw [List.getElem?_take_of_lt hlt]; exact hj)
      · rename_i hlt
        cases hc : s'.cells[j]? with
        | none => rw [hc] at e; cases e
        | some o =>
          rw [hc] at e
          have ok := R.cell j a o hj hc
          cases o with
          | lst xs =>
            simp only at e
            cases e2 : mapO (frzV s'.cells k n) xs with
            | none => rw [e2] at e; cases e
            | some ys =>
              rw [e2] at e; cases e
              obtain ⟨hF, vs, hH, r⟩ := ok
              exact .lst (SqL.of (frozen_at hlt hj hF hH)) (frz_all ih r e2)
          | frz w => exact ih ok e
          | dct kvs =>
            simp only at e
            cases e2 : mapO (frzV s'.cells k n) (kvs.map (·.2)) with
            | none => rw [e2] at e; cases e
            | some ys =>
              rw [e2] at e; cases e
              obtain ⟨hF, _, _, hH, hk, r⟩ := ok
              have hl := zip_len e2
              exact .dctK (frozen_at hlt hj hF hH) (by rw [zip_fst hl]; exact hk) (by rw [zip_snd hl]; exact frz_all ih r e2)
          | ins c fs =>
            simp only at e
            cases e2 : mapO (frzV s'.cells k n) (fs.map (·.2)) with
            | none => rw [e2] at e; cases e
            | some ys =>
              rw [e2] at e; cases e
              obtain ⟨hF, C, dx, vfs, hH, hc, hk, r⟩ := ok
              have hl := zip_len e2
              exact .ins hc (frozen_at hlt hj hF hH) (by rw [zip_fst hl]; exact hk) (by rw [zip_snd hl]; exact frz_all ih r e2)
/-- the cells behind k forgotten -/
theorem Rel.cut (R0 : ∀ (n : Nat) a o, ι[n]? = some a → s.cells[n]? = some o → ∀ j, RefO j o → j < ι.length) (hl : ι.length = s.cells.length) (st : Stp G F ι { cells := s.cells, opn := false } F' ι' s') (R : Rel G B F' ι' H s') (ho : s'.opn = false) :
    Stp G F ι s (frozen F' (ι'.drop s.cells.length) H) ι { cells := s'.cells.take s.cells.length, opn := s.opn } ∧ Rel G B (frozen F' (ι'.drop s.cells.length) H) ι H { cells := s'.cells.take s.cells.length, opn := s.opn } := by
  have hlen : s.cells.length ≤ s'.cells.length := st.clo.len
  have refs : ∀ n o', n < s.cells.length → s'.cells[n]? = some o' → ∀ j, RefO j o' → j < ι.length := fun n o' hn ho' j hj => by
    rcases st.clo.old ho n hn o' ho' j hj with h | ⟨o, h1, h2⟩
    · rw [hl]; exact Nat.lt_of_le_of_lt h hn
    · obtain ⟨a, ha⟩ : ∃ a, ι[n]? = some a := ⟨ι[n]'(by omega), by simp [show n < ι.length by omega]⟩
      exact R0 n a o ha h1 j h2
  have nin : ∀ {n : Nat} {a : Addr}, n < s.cells.length → ι'[n]? = some a → a ∉ ι'.drop s.cells.length := fun {n a} hn ha hm => by
    obtain ⟨i, hi, e⟩ := List.getElem_of_mem hm
    rw [List.getElem_drop] at e
    obtain ⟨h1, e1⟩ := List.getElem?_eq_some_iff.mp ha
    have hi' : s.cells.length + i < ι'.length := by simpa using by (rw [List.length_drop] at hi; omega)
    have := (List.getElem_inj R.nd (h₀ := h1) (h₁ := hi')).mp (e1.trans e.symm)
    omega
  refine ⟨⟨st.sm.trans frozen_same, List.prefix_refl _, ⟨by simp; omega, id, fun h n hn o' ho' j hj => ?_⟩⟩, ⟨fun a o e => ?_, fun a o e => ?_, by simp; omega, ?_, fun a ha => ?_, fun n a o hn ho' => ?_, ⟨R.tab.ok, fun q hq => frozen_none (R.tab.nf q hq) fun z => R.tab.ni q hq (List.mem_of_mem_drop z), R.tab.nb, fun q hq z => R.tab.ni q hq (st.pre.subset z)⟩⟩⟩
  · rw [List.getElem?_take_of_lt hn] at ho'
    exact st.clo.old ho n hn o' ho' j hj
  · unfold frozen at e
    cases h : F' a with
    | some u => rw [h] at e; cases e; exact R.sub _ _ h
    | none =>
      rw [h] at e
      simp only at e
      split at e
      · exact e
      · cases e
  · obtain ⟨h1, h2, h3⟩ := R.out a o e
    refine ⟨h1, ?_, fun hm => h3 (st.pre.subset hm)⟩
    unfold frozen
    rw [h2]
    show (if a ∈ ι'.drop s.cells.length then H a else none) = none
    rw [if_neg fun hm => h3 (List.mem_of_mem_drop hm)]
  · exact R.nd.sublist st.pre.sublist
  · exact R.here a (st.pre.subset ha)
  · have hlt : n < s.cells.length := by
      have := (List.getElem?_eq_some_iff.mp hn).1
      omega
    rw [List.getElem?_take_of_lt hlt] at ho'
    have hn' := pre_get st.pre hn
    have ok := R.cell n a o hn' ho'
    have rf := refs n o hlt ho'
    cases o with
    | lst xs =>
      obtain ⟨hF, vs, hH, r⟩ := ok
      exact ⟨frozen_none hF (nin hlt hn'), vs, hH, DenAll.back frozen_same st.pre r fun j x hx hj => rf j ⟨x, hx, hj⟩⟩
    | dct kvs =>
      obtain ⟨hF, ks, vs, hH, hk, r⟩ := ok
      refine ⟨frozen_none hF (nin hlt hn'), ks, vs, hH, hk, DenAll.back frozen_same st.pre r fun j x hx hj => ?_⟩
      obtain ⟨q, hq, e⟩ := List.mem_map.mp hx
      exact rf j ⟨q, hq, .inr (by rw [e]; exact hj)⟩
    | ins c fs =>
      obtain ⟨hF, C, dx, vfs, hH, hc, hk, r⟩ := ok
      refine ⟨frozen_none hF (nin hlt hn'), C, dx, vfs, hH, hc, hk, DenAll.back frozen_same st.pre r fun j x hx hj => ?_⟩
      obtain ⟨q, hq, e⟩ := List.mem_map.mp hx
      exact rf j ⟨q, hq, by rw [e]; exact hj⟩
    | frz w => exact Den.back frozen_same st.pre ok rf
theorem Rel.refs (R : Rel G B F ι H s) : ∀ (n : Nat) a o, ι[n]? = some a → s.cells[n]? = some o → ∀ j, RefO j o → j < ι.length := fun n a o hn ho j hj => by
  have ok := R.cell n a o hn ho
  cases o with
  | lst xs => obtain ⟨_, vs, _, r⟩ := ok; obtain ⟨x, hx, hj⟩ := hj; exact DenAll.lt r x hx j hj
  | dct kvs =>
    obtain ⟨_, _, _, _, hk, r⟩ := ok
    obtain ⟨x, hx, hj⟩ := hj
    rcases hj with hj | hj
    · have h1 : x.1 ∈ kvs.map (·.1) := List.mem_map_of_mem (f := Prod.fst) hx
      exact (DctH.noRef hk h1 hj).elim
    · exact DenAll.lt r _ (List.mem_map_of_mem (f := Prod.snd) hx) j hj
  | ins c fs => obtain ⟨_, C, dx, vfs, _, _, _, r⟩ := ok; obtain ⟨x, hx, hj⟩ := hj; exact DenAll.lt r _ (List.mem_map_of_mem (f := Prod.snd) hx) j hj
  | frz w => exact Den.lt (show Den G F ι (.ref a) w from ok) j hj
theorem stp_open (st : Stp G F ι { cells := s.cells, opn := false } F' ι' s') : Stp G F ι s F' ι' { cells := s'.cells, opn := s.opn || s'.opn } :=
  ⟨st.sm, st.pre, ⟨st.clo.len, fun h => by simp [h], fun h n hn o' ho' j hj => by
    have h : (s.opn || s'.opn) = false := h
    rw [Bool.or_eq_false_iff] at h
    exact st.clo.old h.2 n hn o' ho' j hj⟩⟩
theorem rel_open {b : Bool} {H' : Hp} (R : Rel G B F' ι' H' s') : Rel G B F' ι' H' { cells := s'.cells, opn := b } := ⟨R.sub, R.out, R.len, R.nd, R.here, R.cell, R.tab⟩
/-- an exception left -/
theorem leaveX_ok {E : XK} {α β : Type} {D : Hp → List Addr → β → α → Prop} {Q : β → Hp → Prop} {keep : Bool} (hl : ι.length = s.cells.length) (R0 : ∀ (n : Nat) a o, ι[n]? = some a → s.cells[n]? = some o → ∀ j, RefO j o → j < ι.length) {x : AV} {s' : AS} {cls : Value} {d : Option Addr} {H' : Hp} {F' : Hp} {ι' : List Addr}
    (p : ∀ y s2, leaveX s keep x s' = .exc y s2 → ∀ cls d H' F' ι', Stp G F ι s F' ι' s2 → Rel G B F' ι' H' s2 → ExD G F' ι' cls d y → E cls d H') (st : Stp G F ι { cells := s.cells, opn := false } F' ι' s') (R : Rel G B F' ι' H' s') (ed : ExD G F' ι' cls d x) : E cls d H' := by
  unfold leaveX at p
  split at p
  · exact p _ _ rfl cls d H' F' ι' (stp_open st) (rel_open R) ed
  · rename_i hk
    split at p
    · rename_i y hy
      have ho : s'.opn = false := by
        cases e : s'.opn with
        | false => rfl
        | true => exact absurd (.inr (.inl e)) hk
      obtain ⟨st2, R2⟩ := Rel.cut R0 hl st R ho
      have e : ι'.take s.cells.length = ι := by
        obtain ⟨t, ht⟩ := st.pre
        rw [← ht, ← hl, List.take_left']
        rfl
      cases x with
      | exc c fs =>
        simp only [frzX] at hy
        cases e2 : mapO (frzV s'.cells s.cells.length DPT) (fs.map (·.2)) with
        | none => rw [e2] at hy; cases hy
        | some ys =>
          rw [e2] at hy; cases hy
          obtain ⟨C, h1, h2, dx, vfs, h3, h4, h5, h6⟩ := ed
          have hz := zip_len e2
          have d2 := frz_all (frz_ok R DPT) h6 e2
          rw [e] at d2
          exact p _ _ rfl cls d H' _ ι st2 R2 ⟨C, h1, h2, dx, vfs, h3, frozen_same _ _ h4, by rw [zip_fst hz]; exact h5, by rw [zip_snd hz]; exact d2⟩
      | _ => simp [frzX] at hy
    · exact p _ _ rfl cls d H' F' ι' (stp_open st) (rel_open R) ed
theorem leaveX_exc {s0 s : AS} {keep : Bool} {x : AV} : ∃ y s2, leaveX s0 keep x s = .exc y s2 := by
  unfold leaveX
  split
  · exact ⟨_, _, rfl⟩
  · split <;> exact ⟨_, _, rfl⟩
theorem Po.leaveX {E : XK} {α β : Type} {D : Hp → List Addr → β → AV → Prop} {Q : β → Hp → Prop} {keep : Bool} {x : AV} {s' : AS} (p : Po G B E F ι s D (leaveX s keep x s') Q) :
    ∀ y s2, Ev.leaveX s keep x s' = .exc y s2 → ∀ cls d H' F' ι', Stp G F ι s F' ι' s2 → Rel G B F' ι' H' s2 → ExD G F' ι' cls d y → E cls d H' := fun y s2 e => by
  rw [e] at p; exact p
/-- a value left -/
theorem leaveV_ok {E : XK} {Q : VK} {keep : Bool} (hl : ι.length = s.cells.length) (R0 : ∀ (n : Nat) a o, ι[n]? = some a → s.cells[n]? = some o → ∀ j, RefO j o → j < ι.length) {a : AV} {s' : AS} {v : V} {H' : Hp} {F' : Hp} {ι' : List Addr}
    (p : Po G B E F ι s (Den G) (leaveV s keep a s') Q) (st : Stp G F ι { cells := s.cells, opn := false } F' ι' s') (R : Rel G B F' ι' H' s') (d : Den G F' ι' v a) : Q v H' := by
  unfold leaveV at p
  split at p
  · rename_i h
    refine p v H' F' ι' ⟨st.sm, st.pre, ⟨st.clo.len, fun h => by simp [h], fun h n hn o' ho' j hj => ?_⟩⟩ ⟨R.sub, R.out, R.len, R.nd, R.here, R.cell, R.tab⟩ d
    have h2 : s'.opn = false := by
      cases e : s'.opn with
      | false => rfl
      | true => simp [e] at h
    exact st.clo.old h2 n hn o' ho' j hj
  · rename_i hk
    split at p
    · rename_i w hw
      have ho : s'.opn = false := by
        cases e : s'.opn with
        | false => rfl
        | true => exact absurd (.inr (.inl e)) hk
      obtain ⟨st2, R2⟩ := Rel.cut R0 hl st R ho
      have e : ι'.take s.cells.length = ι := by
        obtain ⟨t, ht⟩ := st.pre
        rw [← ht, ← hl, List.take_left']
        rfl
      have d2 := frz_ok R DPT d hw
      rw [e] at d2
      exact p v H' _ ι st2 R2 d2
    · exact p.elim
/-- a def left: what the caller wants of what the body does -/
theorem leave_ok {E : XK} {Q : VK} {keep : Bool} {r : SRs} (hl : ι.length = s.cells.length) (R0 : ∀ (n : Nat) a o, ι[n]? = some a → s.cells[n]? = some o → ∀ j, RefO j o → j < ι.length) (p : Po G B E F ι s (Den G) (leaveF s keep r) Q) :
    PoS G B (fun c d _ H => E c d H) { nx := fun _ H' => Q .non H', rt := Q } F ι { cells := s.cells, opn := false } r := by
  cases r with
  | next ρ s' => exact fun σ' H' F' ι' st R ev => leaveV_ok (v := .non) hl R0 p st R .non
  | ret a s' => exact fun v H' F' ι' st R d => leaveV_ok hl R0 p st R d
  | brk ρ s' => exact p.elim
  | cont ρ s' => exact p.elim
  | exc x ρ s' => exact fun c d σ' H' F' ι' st R ev ed => leaveX_ok (D := Den G) (Q := Q) hl R0 (Po.leaveX (α := AV) p) st R ed
  | stuck => exact p.elim
end

/-! ### just the first cells seen -/
theorem topsO_le {α : Type} {f : α → Option Nat} : ∀ {xs : List α} {q : Nat}, topsO f xs = some q → ∀ x ∈ xs, ∃ a, f x = some a ∧ a ≤ q
  | [], _, _, x, hx => by cases hx
  | y :: ys, q, e, x, hx => by
    unfold topsO at e
    cases e1 : f y with
    | none => rw [e1] at e; cases e
    | some a =>
      rw [e1] at e
      cases e2 : topsO f ys with
      | none => rw [e2] at e; cases e
      | some b =>
        rw [e2] at e
        cases e
        rcases List.mem_cons.mp hx with z | hx
        · subst z; exact ⟨a, e1, Nat.le_max_left _ _⟩
        · obtain ⟨c, h1, h2⟩ := topsO_le e2 x hx
          exact ⟨c, h1, Nat.le_trans h2 (Nat.le_max_right _ _)⟩
theorem topsO2 {kvs : List (AV × AV)} {f : AV → Option Nat} {q : Nat} (e : (match topsO f (kvs.map (·.1)) with
    | none => none
    | some a => match topsO f (kvs.map (·.2)) with
      | none => none
      | some b => some (max a b)) = some q) : ∀ p ∈ kvs, (∃ a, f p.1 = some a ∧ a ≤ q) ∧ ∃ a, f p.2 = some a ∧ a ≤ q := by
  cases e1 : topsO f (kvs.map (·.1)) with
  | none => rw [e1] at e; cases e
  | some a =>
    rw [e1] at e
    cases e2 : topsO f (kvs.map (·.2)) with
    | none => rw [e2] at e; cases e
    | some b =>
      rw [e2] at e
      cases e
      intro p hp
      obtain ⟨x, h1, h2⟩ := topsO_le e1 p.1 (List.mem_map_of_mem (f := Prod.fst) hp)
      obtain ⟨y, h3, h4⟩ := topsO_le e2 p.2 (List.mem_map_of_mem (f := Prod.snd) hp)
      exact ⟨⟨x, h1, Nat.le_trans h2 (Nat.le_max_left _ _)⟩, ⟨y, h3, Nat.le_trans h4 (Nat.le_max_right _ _)⟩⟩
theorem topV_lt : ∀ (n : Nat) {v : AV} {q : Nat}, topV n v = some q → ∀ j, RefIn j v → j < q
  | 0, _, _, e, _, _ => by simp [topV] at e
  | n + 1, v, q, e, j, r => by
    cases r with
    | ref => simp [topV] at e; omega
    | tup hm r =>
      simp only [topV] at e
      obtain ⟨a, h1, h2⟩ := topsO_le e _ hm
      exact Nat.lt_of_lt_of_le (topV_lt n h1 j r) h2
    | lst hm r =>
      simp only [topV] at e
      obtain ⟨a, h1, h2⟩ := topsO_le e _ hm
      exact Nat.lt_of_lt_of_le (topV_lt n h1 j r) h2
    | dctK hm r =>
      simp only [topV] at e
      obtain ⟨⟨a, h1, h2⟩, _⟩ := topsO2 e _ hm
      exact Nat.lt_of_lt_of_le (topV_lt n h1 j r) h2
    | dctV hm r =>
      simp only [topV] at e
      obtain ⟨_, a, h1, h2⟩ := topsO2 e _ hm
      exact Nat.lt_of_lt_of_le (topV_lt n h1 j r) h2
    | ins hm r =>
      simp only [topV] at e
      obtain ⟨a, h1, h2⟩ := topsO_le e _ (List.mem_map_of_mem (f := Prod.snd) hm)
      exact Nat.lt_of_lt_of_le (topV_lt n h1 j r) h2
    | exc hm r =>
      simp only [topV] at e
      obtain ⟨a, h1, h2⟩ := topsO_le e _ (List.mem_map_of_mem (f := Prod.snd) hm)
      exact Nat.lt_of_lt_of_le (topV_lt n h1 j r) h2
theorem topO_lt {o : AO} {q : Nat} (e : topO o = some q) : ∀ j, RefO j o → j < q := fun j r => by
  cases o with
  | lst xs =>
    obtain ⟨x, hx, r⟩ := r
    obtain ⟨a, h1, h2⟩ := topsO_le e x hx
    exact Nat.lt_of_lt_of_le (topV_lt _ h1 j r) h2
  | dct kvs =>
    obtain ⟨x, hx, r⟩ := r
    obtain ⟨⟨a, h1, h2⟩, b, h3, h4⟩ := topsO2 e x hx
    rcases r with r | r
    · exact Nat.lt_of_lt_of_le (topV_lt _ h1 j r) h2
    · exact Nat.lt_of_lt_of_le (topV_lt _ h3 j r) h4
  | ins c fs =>
    obtain ⟨x, hx, r⟩ := r
    obtain ⟨a, h1, h2⟩ := topsO_le e _ (List.mem_map_of_mem (f := Prod.snd) hx)
    exact Nat.lt_of_lt_of_le (topV_lt _ h1 j r) h2
  | frz v => exact topV_lt _ e j r
theorem closedC_lt {q : Nat} {cs : List AO} (h : closedC q cs = true) {o : AO} (ho : o ∈ cs) : ∀ j, RefO j o → j < q := fun j r => by
  have := List.all_eq_true.mp h o ho
  cases e : topO o with
  | none => simp only [e] at this; cases this
  | some a =>
    simp only [e] at this
    exact Nat.lt_of_lt_of_le (topO_lt e j r) (of_decide_eq_true this)
theorem topsO_lt {xs : List AV} {q : Nat} (e : topsO (topV DPT) xs = some q) : ∀ j x, x ∈ xs → RefIn j x → j < q := fun j x hx r => by
  obtain ⟨a, h1, h2⟩ := topsO_le e x hx
  exact Nat.lt_of_lt_of_le (topV_lt _ h1 j r) h2
/-- the cells behind the first q are held meanwhile -/
def heldB (B F H : Hp) (l : List Addr) : Hp := fun a => match B a with
  | some o => some o
  | none => if a ∈ l ∧ F a = none then H a else none
section
variable {G : GS} {B : Hp} {F : Hp} {ι : List Addr} {H : Hp} {s : AS}
theorem heldB_in {l : List Addr} {a : Addr} (h0 : B a = none) (h1 : a ∈ l) (h2 : F a = none) : heldB B F H l a = H a := by
  unfold heldB
  rw [h0]
  show (if a ∈ l ∧ F a = none then H a else none) = _
  rw [if_pos ⟨h1, h2⟩]
theorem heldB_old {l : List Addr} {a : Addr} {o : HO} (h0 : B a = some o) : heldB B F H l a = some o := by
  unfold heldB
  rw [h0]
theorem heldB_out {l : List Addr} {a : Addr} {o : HO} (h : heldB B F H l a = some o) : B a = some o ∨ (a ∈ l ∧ F a = none ∧ H a = some o) := by
  unfold heldB at h
  cases e : B a with
  | some u => rw [e] at h; exact .inl h
  | none =>
    rw [e] at h
    simp only at h
    split at h
    · rename_i c; exact .inr ⟨c.1, c.2, h⟩
    · cases h
theorem take_drop_nin {q n : Nat} {a : Addr} (nd : ι.Nodup) (hn : n < q) (h : ι[n]? = some a) : a ∉ ι.drop q := fun hm => by
  obtain ⟨i, hi, e⟩ := List.getElem_of_mem hm
  rw [List.getElem_drop] at e
  obtain ⟨h1, e1⟩ := List.getElem?_eq_some_iff.mp h
  have hi' : q + i < ι.length := by simp at hi; omega
  have := (List.getElem_inj nd (h₀ := h1) (h₁ := hi')).mp (e1.trans e.symm)
  omega
theorem Rel.narrow (R : Rel G B F ι H s) {q : Nat} (hq : q ≤ s.cells.length) (hc : closedC q (s.cells.take q) = true) : Rel G (heldB B F H (ι.drop q)) F (ι.take q) H { cells := s.cells.take q, opn := false } := by
  have hlen : (ι.take q).length = q := by rw [List.length_take, R.len]; omega
  refine ⟨R.sub, fun a o h => ?_, by simp [R.len], R.nd.sublist (List.take_sublist _ _), fun a ha => R.here a (List.mem_of_mem_take ha), fun n a o hn ho => ?_, R.tab.ok, R.tab.nf, fun p hp => ?_, fun p hp z => R.tab.ni p hp (List.mem_of_mem_take z)⟩
  · rcases heldB_out h with h | ⟨h1, h2, h3⟩
    · obtain ⟨g1, g2, g3⟩ := R.out a o h
      exact ⟨g1, g2, fun z => g3 (List.mem_of_mem_take z)⟩
    · refine ⟨h3, h2, fun z => ?_⟩
      obtain ⟨i, hi, e⟩ := List.getElem_of_mem z
      have hi2 : i < q := by rw [hlen] at hi; exact hi
      exact take_drop_nin R.nd hi2 (by rw [← List.getElem?_take_of_lt hi2, List.getElem?_eq_getElem hi, e]) h1
  · have hlt : n < q := by
      have := (List.getElem?_eq_some_iff.mp hn).1
      omega
    rw [List.getElem?_take_of_lt hlt] at hn ho
    have ho' : o ∈ s.cells.take q := List.mem_of_getElem? (i := n) (by rw [List.getElem?_take_of_lt hlt]; exact ho)
    have rf := closedC_lt hc ho'
    have ok := R.cell n a o hn ho
    have pre : ι.take q <+: ι := List.take_prefix _ _
    cases o with
    | lst xs =>
      obtain ⟨hF, vs, hH, r⟩ := ok
      exact ⟨hF, vs, hH, DenAll.back (Same.refl _) pre r fun j x hx hj => by rw [hlen]; exact rf j ⟨x, hx, hj⟩⟩
    | dct kvs =>
      obtain ⟨hF, ks, vs, hH, hk, r⟩ := ok
      refine ⟨hF, ks, vs, hH, hk, DenAll.back (Same.refl _) pre r fun j x hx hj => ?_⟩
      obtain ⟨p, hp, e⟩ := List.mem_map.mp hx
      rw [hlen]
      exact rf j ⟨p, hp, .inr (by rw [e]; exact hj)⟩
    | ins c fs =>
      obtain ⟨hF, C, dx, vfs, hH, hcc, hk, r⟩ := ok
      refine ⟨hF, C, dx, vfs, hH, hcc, hk, DenAll.back (Same.refl _) pre r fun j x hx hj => ?_⟩
      obtain ⟨p, hp, e⟩ := List.mem_map.mp hx
      rw [hlen]
      exact rf j ⟨p, hp, by rw [e]; exact hj⟩
    | frz w => exact Den.back (Same.refl _) pre ok fun j hj => by rw [hlen]; exact rf j hj
  · cases e : heldB B F H (ι.drop q) p.1 with
    | none => rfl
    | some o =>
      rcases heldB_out e with h | ⟨h1, _, _⟩
      · rw [R.tab.nb p hp] at h; cases h
      · exact absurd (List.mem_of_mem_drop h1) (R.tab.ni p hp)
/-- .. and back -/
theorem Rel.widen {F' H' : Hp} {s2 : AS} (R : Rel G B F ι H s) {q : Nat} (hq : q ≤ s.cells.length) (st : Stp G F (ι.take q) { cells := s.cells.take q, opn := false } F' (ι.take q) s2) (R2 : Rel G (heldB B F H (ι.drop q)) F' (ι.take q) H' s2) (hl : s2.cells.length = q) (ho : s2.opn = false) :
    Stp G F ι s F' ι ⟨s2.cells ++ s.cells.drop q, s.opn⟩ ∧ Rel G B F' ι H' ⟨s2.cells ++ s.cells.drop q, s.opn⟩ := by
  have hlen : (ι.take q).length = q := by rw [List.length_take, R.len]; omega
  have pre : ι.take q <+: ι := List.take_prefix _ _
  -- what is held stays
  have live : ∀ a, a ∈ ι.drop q → F a = none → H' a = H a ∧ F' a = none := fun a ha hF => by
    obtain ⟨o, e⟩ := R.here a (List.mem_of_mem_drop ha)
    have hb : B a = none := by
      cases eb : B a with
      | none => rfl
      | some u => exact absurd (List.mem_of_mem_drop ha) (R.out a u eb).2.2
    have := R2.out a o (by rw [heldB_in hb ha hF]; exact e)
    exact ⟨this.1.trans e.symm, this.2.1⟩
  refine ⟨⟨st.sm, List.prefix_refl _, ⟨by simp; omega, id, fun h n hn o' ho' j hj => ?_⟩⟩, ⟨R2.sub, fun a o e => ?_, by simp [R.len, hl]; omega, R.nd, fun a ha => ?_, fun n a o hn ho' => ?_, R2.tab.ok, R2.tab.nf, R.tab.nb, R.tab.ni⟩⟩
  · by_cases hlt : n < q
    · have ho2 : s2.cells[n]? = some o' := by rw [← ho']; exact (List.getElem?_append_left (by omega)).symm
      rcases st.clo.old ho n (by simp; omega) o' ho2 j hj with z | ⟨o, h1, h2⟩
      · exact .inl z
      · exact .inr ⟨o, by rw [← h1]; exact (List.getElem?_take_of_lt hlt).symm, h2⟩
    · refine .inr ⟨o', ?_, hj⟩
      have ho2 : (s2.cells ++ s.cells.drop q)[n]? = some o' := ho'
      rw [List.getElem?_append_right (by omega), List.getElem?_drop, hl, show q + (n - q) = n by omega] at ho2
      exact ho2
  · have h := R2.out a o (heldB_old e)
    exact ⟨h.1, h.2.1, (R.out a o e).2.2⟩
  · by_cases hd : a ∈ ι.drop q
    · cases hF : F a with
      | none =>
        obtain ⟨o, e⟩ := R.here a ha
        exact ⟨o, (live a hd hF).1.trans e⟩
      | some u => exact ⟨u, R2.sub _ _ (st.sm _ _ hF)⟩
    · have : a ∈ ι.take q := by
        rw [← List.take_append_drop q ι] at ha
        rcases List.mem_append.mp ha with h | h
        · exact h
        · exact absurd h hd
      exact R2.here a this
  · by_cases hlt : n < q
    · have ho2 : s2.cells[n]? = some o := by rw [← ho']; exact (List.getElem?_append_left (by omega)).symm
      have ok := R2.cell n a o (by rw [List.getElem?_take_of_lt hlt]; exact hn) ho2
      exact ok.mono (Same.refl _) pre id fun _ h => h
    · have ho2 : (s2.cells ++ s.cells.drop q)[n]? = some o := ho'
      rw [List.getElem?_append_right (by omega), List.getElem?_drop, hl, show q + (n - q) = n by omega] at ho2
      have ok := R.cell n a o hn ho2
      have ha : a ∈ ι.drop q := List.mem_of_getElem? (i := n - q) (by rw [List.getElem?_drop, show q + (n - q) = n by omega]; exact hn)
      cases o with
      | lst xs =>
        obtain ⟨hF, vs, hH, r⟩ := ok
        obtain ⟨l1, l2⟩ := live a ha hF
        exact ⟨l2, vs, l1.trans hH, r.mono st.sm (List.prefix_refl _)⟩
      | dct kvs =>
        obtain ⟨hF, ks, vs, hH, hk, r⟩ := ok
        obtain ⟨l1, l2⟩ := live a ha hF
        exact ⟨l2, ks, vs, l1.trans hH, hk, r.mono st.sm (List.prefix_refl _)⟩
      | ins c fs =>
        obtain ⟨hF, C, dx, vfs, hH, hcc, hk, r⟩ := ok
        obtain ⟨l1, l2⟩ := live a ha hF
        exact ⟨l2, C, dx, vfs, l1.trans hH, hcc, hk, r.mono st.sm (List.prefix_refl _)⟩
      | frz w => exact Den.mono st.sm (List.prefix_refl _) (show Den G F ι (.ref a) w from ok)
theorem ExD.mono {F' : Hp} {ι' : List Addr} {cls : Value} {d : Option Addr} {x : AV} (sm : Same F F') (p : ι <+: ι') (h : ExD G F ι cls d x) : ExD G F' ι' cls d x := by
  cases x with
  | exc c fs =>
    obtain ⟨C, h1, h2, dx, vfs, h3, h4, h5, h6⟩ := h
    exact ⟨C, h1, h2, dx, vfs, h3, sm _ _ h4, h5, h6.mono sm p⟩
  | _ => exact h.elim
/-- what is wanted of a framed run, of the run -/
theorem Po.unframe {E : XK} {Q : VK} {m : MM AV} {as : List AV} {vs : List V} (R : Rel G B F ι H s) (d : DenAll G F ι vs as) (p : Po G B E F ι s (Den G) (frameM (topsO (topV DPT) as) m s) Q) :
    ∃ B1 ι1 s1, Rel G B1 F ι1 H s1 ∧ DenAll G F ι1 vs as ∧ Po G B1 E F ι1 s1 (Den G) (m s1) Q := by
  have plain : Po G B E F ι s (Den G) (m s) Q → ∃ B1 ι1 s1, Rel G B1 F ι1 H s1 ∧ DenAll G F ι1 vs as ∧ Po G B1 E F ι1 s1 (Den G) (m s1) Q := fun p => ⟨B, ι, s, R, d, p⟩
  unfold frameM at p
  cases e : topsO (topV DPT) as with
  | none => rw [e] at p; exact plain p
  | some q =>
    rw [e] at p
    simp only at p
    split at p
    · rename_i hc
      obtain ⟨hq, hc⟩ := hc
      have hlen : (ι.take q).length = q := by rw [List.length_take, R.len]; omega
      have R1 := R.narrow hq hc
      have d1 : DenAll G F (ι.take q) vs as := DenAll.back (Same.refl _) (List.take_prefix _ _) d fun j x hx hj => by rw [hlen]; exact topsO_lt e j x hx hj
      have same : ∀ {ι' : List Addr} {F' : Hp} {s2 : AS}, ι.take q <+: ι' → ι'.length = s2.cells.length → s2.cells.length = q → ι' = ι.take q := fun {ι' F' s2} h1 h2 h3 => (h1.eq_of_length (by rw [hlen, h2, h3])).symm
      cases em : m ⟨s.cells.take q, false⟩ with
      | ok v s2 =>
        rw [em] at p
        simp only at p
        split at p
        · rename_i hg
          refine ⟨_, _, _, R1, d1, ?_⟩
          rw [em]
          intro w H' F' ι' st R2 dv
          obtain rfl := same (F' := F') (s2 := s2) st.pre R2.len hg.1
          obtain ⟨st3, R3⟩ := R.widen hq st R2 hg.1 hg.2
          exact p w H' F' ι st3 R3 (dv.mono (Same.refl _) (List.take_prefix _ _))
        · exact plain p
      | exc x s2 =>
        rw [em] at p
        simp only at p
        split at p
        · rename_i hg
          refine ⟨_, _, _, R1, d1, ?_⟩
          rw [em]
          intro c dd H' F' ι' st R2 ed
          obtain rfl := same (F' := F') (s2 := s2) st.pre R2.len hg.1
          obtain ⟨st3, R3⟩ := R.widen hq st R2 hg.1 hg.2
          exact p c dd H' F' ι st3 R3 (ed.mono (Same.refl _) (List.take_prefix _ _))
        · exact plain p
      | stuck =>
        rw [em] at p
        exact plain p
    · exact plain p
end
end Ev

set_option linter.all false
set_option maxRecDepth 100000
set_option maxHeartbeats 1000000
/-! EvI: calls of the program's own defs, isinstance, methods of what is built in. Own work. -/
namespace Ev
open PySem PySem.Spec PyProof.Rows L2

/-- a def's promise where nothing is being shown -/
structure FnG (P : Program) (w : World) (K : PySem.W.Frag) (mg : Str → Option Value) (base : Heap) (k : Nat) (f : Addr) (fd : FuncData) (ps : List Str) (sp : Sp) : Prop where
  len : ∀ vs H Q E, sp vs H Q E → vs.length = ps.length
  run : ∀ (A : Around) (outer : List Env) (s : Shared) (H : Hp) (args : Args) (us : List Value) (vs : List V) (Q : VK) (E : XK), Room k A → A.guards = some [] → Env0 P w K mg base A outer s H → BindsTo s fd args (ps.zip us) → Vals vs us → sp vs H Q E →
    codeAny (model P w) A (.call (.ref f) args) (CR (L2.CX P w) outer P w H s Q E) s

section
variable {X : Cx} {g : GN} {W : WX}
theorem run_fnG {k : Nat} {f : Addr} {fd : FuncData} {ps : List Str} {sp : Sp} {E : XK} {pins : List (Addr × Obj)} {σ : L2.St} {H : Hp} {s : Shared} {Q : VK} {us : List Value} {kw : List (Str × Value)} {us' : List Value} {vs : List V}
    (F : FnG X.prog X.w X.K X.mg X.base k f fd ps sp) (hr : Room k X.A) (hg : X.A.guards = some []) (hx : Passes (L2.CX X.prog X.w) X E) (I : Inv X pins σ H s) (hb : BindsTo s fd ⟨us, kw⟩ (ps.zip us')) (r : Vals vs us') (h : sp vs H Q E) :
    wpAny (model X.prog X.w) X.A (call (.ref f) us kw) (EP X pins σ Q) X.xe s := by
  refine wpAny_call (codeAny_mono (F.run X.A X.stack s H ⟨us, kw⟩ us' vs Q E hr hg I.env0 hb r h) fun r s' hq => ?_)
  cases r with
  | error e => exact hx pins σ H s e s' I hq
  | ok fl =>
    cases fl with
    | ret u => exact I.after hq
    | next => exact False.elim hq
    | brk => exact False.elim hq
    | cont => exact False.elim hq
/-- .. where what is raised is wished for at the slots -/
theorem run_fnS {k : Nat} {f : Addr} {fd : FuncData} {ps : List Str} {sp : Sp} {pins : List (Addr × Obj)} {σ : L2.St} {H : Hp} {s : Shared} {Q : VK} {us : List Value} {kw : List (Str × Value)} {us' : List Value} {vs : List V}
    (F : FnG X.prog X.w X.K X.mg X.base k f fd ps sp) (hr : Room k X.A) (hg : X.A.guards = some []) (tk : Takes X W) (I : Inv X pins σ H s) (hb : BindsTo s fd ⟨us, kw⟩ (ps.zip us')) (r : Vals vs us') (h : sp vs H Q (fun c d H => W c d σ H)) :
    wpAny (model X.prog X.w) X.A (call (.ref f) us kw) (EP X pins σ Q) X.xe s := by
  refine wpAny_call (codeAny_mono (F.run X.A X.stack s H ⟨us, kw⟩ us' vs Q _ hr hg I.env0 hb r h) fun r s' hq => ?_)
  cases r with
  | error e => exact passAt tk σ pins H s e s' I hq
  | ok fl =>
    cases fl with
    | ret u => exact I.after hq
    | next => exact False.elim hq
    | brk => exact False.elim hq
    | cont => exact False.elim hq

/-! ### how arguments come to parameters -/
/-- a parameter's value -/
inductive PermV (zs : List Value) : List PArg → List Value → Prop
  | nil : PermV zs [] []
  | at {j : Nat} {u : Value} {ps : List PArg} {us : List Value} : zs[j]? = some u → PermV zs ps us → PermV zs (.at j :: ps) (u :: us)
  | dv {a : AV} {v : V} {u : Value} {ps : List PArg} {us : List Value} : RelV v u → (∀ G F ι, Den G F ι v a) → PermV zs ps us → PermV zs (.dv a :: ps) (u :: us)
theorem PermV.den {G : GS} {F : Hp} {ι : List Addr} {zs : List Value} {vs : List V} {as : List AV} (r : Vals vs zs) (d : DenAll G F ι vs as) : ∀ {perm : List PArg} {us : List Value} {args : List AV}, PermV zs perm us → mapO (argOf as) perm = some args →
    ∃ vs', Vals vs' us ∧ DenAll G F ι vs' args
  | _, _, _, .nil, e => by simp [mapO] at e; subst e; exact ⟨[], .nil, .nil⟩
  | _, _, _, .at (j := j) (ps := ps) hj t, e => by
    unfold mapO at e
    have e0 : argOf as (.at j) = as[j]? := rfl
    rw [e0] at e
    cases e1 : as[j]? with
    | none => rw [e1] at e; cases e
    | some a =>
      rw [e1] at e
      cases e2 : mapO (argOf as) ps with
      | none => rw [e2] at e; cases e
      | some r2 =>
        rw [e2] at e
        cases e
        obtain ⟨v, hv, hd⟩ := d.get e1
        obtain ⟨u', hu', rv⟩ := r.get hv
        rw [hj] at hu'; cases hu'
        obtain ⟨vs', r', d'⟩ := PermV.den r d t e2
        exact ⟨v :: vs', .cons rv r', .cons hd d'⟩
  | _, _, _, .dv (a := a) (ps := ps) rv hd t, e => by
    unfold mapO at e
    have e0 : argOf as (.dv a) = some a := rfl
    rw [e0] at e
    cases e2 : mapO (argOf as) ps with
    | none => rw [e2] at e; cases e
    | some r2 =>
      rw [e2] at e
      cases e
      obtain ⟨vs', r', d'⟩ := PermV.den r d t e2
      exact ⟨_ :: vs', .cons rv r', .cons (hd G F ι) d'⟩
/-- a way of writing a call's arguments: np of them by place, ks by name -/
def SiteOk (K : PySem.W.Frag) (fd : FuncData) (ps : List Str) (np : Nat) (ks : List Str) (perm : List PArg) : Prop :=
  ∀ (s : Shared) (us ws : List Value), K.In s.heap → us.length = np → ws.length = ks.length → ∃ us', PermV (us ++ ws) perm us' ∧ BindsTo s fd ⟨us, ks.zip ws⟩ (ps.zip us')

/-! ### keywords -/
theorem kw_names {env : Env} {pos : Pos} : ∀ kws : List Keyword, (backToKw pos (keywordEach kws env)).map (·.1) = kws.map fun k => k.arg
  | [] => rfl
  | ⟨n, v, p⟩ :: r => by
    show n :: (backToKw pos (keywordEach r env)).map (·.1) = n :: _
    rw [kw_names r]
theorem kw_all {env : Env} {pos : Pos} {kws : List Keyword} {ks : List Str} (h : kws.map (fun k => k.arg) = ks.map some) : (backToKw pos (keywordEach kws env)).all (·.1.isSome) = true ∧ (backToKw pos (keywordEach kws env)).any (·.1.isNone) = false ∧ (backToKw pos (keywordEach kws env)).filterMap (·.1) = ks := by
  have e := kw_names (env := env) (pos := pos) kws
  rw [h] at e
  generalize backToKw pos (keywordEach kws env) = l at e
  clear h
  induction l generalizing ks with
  | nil => cases ks with
    | nil => exact ⟨rfl, rfl, rfl⟩
    | cons _ _ => simp at e
  | cons x l ih => cases ks with
    | nil => simp at e
    | cons k ks =>
      simp only [List.map_cons, List.cons.injEq] at e
      obtain ⟨h1, h2, h3⟩ := ih e.2
      refine ⟨by simp [e.1, h1], by simp [e.1, h2], by simp [e.1, h3]⟩
def notStar : Expr → Bool
  | .Starred _ _ => false
  | _ => true
theorem star_cons {e : Expr} {es : List Expr} {env : Env} (h : notStar e = true) : starEach (e :: es) env = (false, eval e env) :: starEach es env := by
  cases e <;> first | rfl | (simp [notStar] at h)
theorem star_any {env : Env} {pos : Pos} : ∀ {es : List Expr}, es.all notStar = true → (backTo pos (starEach es env)).any (·.1) = false
  | [], _ => rfl
  | e :: es, h => by
    rw [List.all_cons, Bool.and_eq_true] at h
    rw [star_cons h.1]
    show (false || (backTo pos (starEach es env)).any (·.1)) = false
    rw [star_any h.2]; rfl

/-! ### a call -/
theorem Tv.append {fs gs : AE → MM (List AV)} {f : List AV → MM AV} {ρ : AE} : MM.bind (MM.bind (fs ρ) fun v1 => MM.bind (gs ρ) fun v2 => MM.pure (v1 ++ v2)) f = MM.bind (fs ρ) fun v1 => MM.bind (gs ρ) fun v2 => f (v1 ++ v2) := by
  simp only [MM.assoc, MM.pure_bind]
theorem de_call {d : Nat} {f : Addr} {fd : FuncData} {ps : List Str} {x : Str} {p pos : Pos} {es : List Expr} {kws : List Keyword} {fs gs : AE → MM (List AV)} {c : List AV → MM AV} {np : Nat} {ks : List Str} {perm : List PArg} {sp : Sp}
    (F : FnG X.prog X.w X.K X.mg X.base d f fd ps sp) (hsp : ∀ B E F ι s vs as H Q, Rel (gsOf X g) B F ι H s → vs.length = ps.length → DenAll (gsOf X g) F ι vs as → Po (gsOf X g) B E F ι s (Den (gsOf X g)) (c as s) Q → sp vs H Q E)
    (hc : ∀ as s, as.length ≠ ps.length → c as s = .stuck)
    (hr : Room d X.A) (ft : Fit X) (tk : Takes X W) (hg : Gl X x) (hm : X.mg x = some (.ref f)) (hk : PySem.W.keepIn X.K (.ref f) = true) (hdb : (x == ("__debug__" : Str)) = false) (site : SiteOk X.K fd ps np ks perm)
    (hes : es.all notStar = true) (hnp : es.length = np) (hks : kws.map (fun k => k.arg) = ks.map some)
    (ha : PA X es (TA1 (gsOf X g) W fs)) (he0 : es = [] → ∀ ρ, fs ρ = MM.pure []) (hla : ∀ ρ s vs s', fs ρ s = .ok vs s' → vs.length = np) (hkw : PK X kws (TA1 (gsOf X g) W gs)) (hk0 : kws = [] → ∀ ρ, gs ρ = MM.pure []) (hlk : ∀ ρ s vs s', gs ρ s = .ok vs s' → vs.length = ks.length) :
    PE X (.Call (.Name x p) es kws pos) (TE1 (gsOf X g) W fun ρ => MM.bind (fs ρ) fun v1 => MM.bind (gs ρ) fun v2 => match mapO (argOf (v1 ++ v2)) perm with | some args => c args | none => stuck) := by
  refine ⟨fun pins s σ H Q I h => ?_⟩
  obtain ⟨B, F0, ι, ρ, st, R, ev, po⟩ := h
  dsimp only at po
  obtain ⟨hall, hany, hfm⟩ := kw_all (env := X.env) (pos := pos) hks
  -- the run behind the arguments
  have fin : ∀ {s2 : Shared} {us ws : List Value} {vs zs : List V} {H2 : Hp} {F2 ι2 st2} {as bs : List AV}, Inv X pins σ H2 s2 → Vals vs us → Vals zs ws → vs.length = np → zs.length = ks.length → Rel (gsOf X g) B F2 ι2 H2 st2 → DenAll (gsOf X g) F2 ι2 vs as → DenAll (gsOf X g) F2 ι2 zs bs →
      Po (gsOf X g) B (fun c d H => W c d σ H) F2 ι2 st2 (Den (gsOf X g)) ((match mapO (argOf (as ++ bs)) perm with | some args => c args | none => stuck) st2) Q →
      wpAny (model X.prog X.w) X.A (call (.ref f) us (ks.zip ws)) (EP X pins σ Q) X.xe s2 := fun {s2 us ws vs zs H2 F2 ι2 st2 as bs} I2 r1 r2 l1 l2 R2 d1 d2 p2 => by
    obtain ⟨us', pv, hb⟩ := site s2 us ws I2.kIn (r1.length.symm.trans l1) (r2.length.symm.trans l2)
    cases hm2 : mapO (argOf (as ++ bs)) perm with
    | none => rw [hm2] at p2; exact p2.elim
    | some args =>
      rw [hm2] at p2
      obtain ⟨vs', r', d'⟩ := PermV.den (r1.append r2) (d1.append d2) pv hm2
      have hlen : vs'.length = ps.length := by
        rw [d'.length]
        by_cases e : args.length = ps.length
        · exact e
        · have p3 : Po (gsOf X g) B (fun c d H => W c d σ H) F2 ι2 st2 (Den (gsOf X g)) (c args st2) Q := p2
          rw [hc args st2 e] at p3
          exact p3.elim
      exact run_fnS F hr ft.gd tk I2 hb r' (hsp B _ F2 ι2 st2 vs' args H2 Q R2 hlen d' p2)
  refine wpAny_Call_Name_kw (ld_glob I hg hm ?_ hdb)
  -- behind the arguments by place
  have step2 : ∀ {s1 : Shared} {us : List Value} {vs : List V} {H1 : Hp} {F1 ι1 st1} {as : List AV}, Inv X pins σ H1 s1 → Vals vs us → vs.length = np → Rel (gsOf X g) B F1 ι1 H1 st1 → EnvR (gsOf X g) F1 ι1 σ ρ → DenAll (gsOf X g) F1 ι1 vs as →
      Po (gsOf X g) B (fun c d H => W c d σ H) F1 ι1 st1 (Den (gsOf X g)) (MM.bind (gs ρ) (fun v2 => match mapO (argOf (as ++ v2)) perm with | some args => c args | none => stuck) st1) Q →
      (kws = [] → wpAny (model X.prog X.w) X.A (call (.ref f) us) (EP X pins σ Q) X.xe s1) ∧
      (kws ≠ [] → wpAny (model X.prog X.w) X.A (evalAll ((backToKw pos (keywordEach kws X.env)).map (·.2))) (fun ks2 s₂ => X.K.In s₂.heap ∧ wpAny (model X.prog X.w) X.A (call (.ref f) us (((backToKw pos (keywordEach kws X.env)).filterMap (·.1)).zip ks2)) (EP X pins σ Q) X.xe s₂) X.xe s1) := fun {s1 us vs H1 F1 ι1 st1 as} I1 r1 l1 R1 ev1 d1 p1 => by
    refine ⟨fun e => ?_, fun _ => ?_⟩
    · have hks0 : ks = [] := by
        subst e
        cases ks with
        | nil => rfl
        | cons _ _ => simp at hks
      rw [hk0 e ρ] at p1
      have := fin (us := us) (ws := []) I1 r1 .nil l1 (by rw [hks0]; rfl) R1 d1 .nil p1
      rw [hks0] at this
      exact this
    · have hT : TA1 (gsOf X g) W gs σ H1 fun zs H2 => ∃ F2 ι2 st2 bs, zs.length = ks.length ∧ Rel (gsOf X g) B F2 ι2 H2 st2 ∧ DenAll (gsOf X g) F2 ι2 vs as ∧ DenAll (gsOf X g) F2 ι2 zs bs ∧
          Po (gsOf X g) B (fun c d H => W c d σ H) F2 ι2 st2 (Den (gsOf X g)) ((match mapO (argOf (as ++ bs)) perm with | some args => c args | none => stuck) st2) Q :=
        ⟨B, F1, ι1, ρ, st1, R1, ev1, Po.firstE p1 fun v2 H2 F2 ι2 a2 s2 e2 st2 R2 d2 p2 => ⟨F2, ι2, s2, a2, by rw [d2.length, hlk _ _ _ _ e2], R2, d1.stp st2, d2, p2⟩⟩
      refine thn (hkw.run pos pins s1 σ H1 _ I1 hT) fun ws s2 ⟨zs, H2, I2, r2, F2, ι2, st2, bs, l2, R2, da, db, p2⟩ => ⟨I2.kIn, ?_⟩
      rw [hfm]
      exact fin I2 r1 r2 l1 l2 R2 da db p2
  cases hes0 : es with
  | nil =>
    subst hes0
    rw [he0 rfl ρ] at po
    have hs2 := step2 (us := []) I .nil (by simpa using hnp) R ev .nil po
    cases hkw0 : kws with
    | nil => subst hkw0; exact PySem.W.callWith_K0 I.kIn hk (hs2.1 rfl)
    | cons k kws' =>
      subst hkw0
      exact PySem.W.callWith_KW0 (h₀ := X.base) I.ok.mod.kin hk hall (hs2.2 (by simp)) (by rw [hany]; rfl)
  | cons e es' =>
    subst hes0
    rw [List.all_cons, Bool.and_eq_true] at hes
    have hT : TA1 (gsOf X g) W fs σ H fun vs H1 => ∃ F1 ι1 st1 as, vs.length = np ∧ Rel (gsOf X g) B F1 ι1 H1 st1 ∧ EnvR (gsOf X g) F1 ι1 σ ρ ∧ DenAll (gsOf X g) F1 ι1 vs as ∧
        Po (gsOf X g) B (fun c d H => W c d σ H) F1 ι1 st1 (Den (gsOf X g)) (MM.bind (gs ρ) (fun v2 => match mapO (argOf (as ++ v2)) perm with | some args => c args | none => stuck) st1) Q :=
      ⟨B, F0, ι, ρ, st, R, ev, Po.firstE po fun v H1 F1 ι1 a s1 e1 st1 R1 d1 p1 => ⟨F1, ι1, s1, a, by rw [d1.length, hla _ _ _ _ e1], R1, ev.stp st1, d1, p1⟩⟩
    cases hkw0 : kws with
    | nil =>
      subst hkw0
      refine PySem.W.callWith_K (h₀ := X.base) I.ok.mod.kin hk (thn (ha.run pos pins s σ H _ I hT) fun us s1 ⟨vs, H1, I1, r1, F1, ι1, st1, as, l1, R1, ev1, d1, p1⟩ => ⟨I1.kIn, ?_⟩) (star_cons hes.1) (star_any hes.2)
      exact (step2 I1 r1 l1 R1 ev1 d1 p1).1 rfl
    | cons k kws' =>
      subst hkw0
      refine PySem.W.callWith_KW (h₀ := X.base) I.ok.mod.kin hk hall (thn (ha.run pos pins s σ H _ I hT) fun us s1 ⟨vs, H1, I1, r1, F1, ι1, st1, as, l1, R1, ev1, d1, p1⟩ => ?_) ?_ (star_cons hes.1)
      · exact (step2 I1 r1 l1 R1 ev1 d1 p1).2 (by simp)
      · rw [hany, star_cons hes.1]
        show ((false || (backTo pos (starEach es' X.env)).any (·.1)) || false) = false
        rw [star_any hes.2]; rfl

/-! ### keywords' values -/
theorem dk_nil : PK X [] (TA1 (gsOf X g) W fun _ => MM.pure []) :=
  ⟨fun pos pins s σ H Q I ⟨B, F, ι, ρ, st, R, e, p⟩ => pk_nil.run pos pins s σ H Q I (p.pure R .nil)⟩
theorem dk_cons {e : Expr} {kws : List Keyword} {nm : Option Str} {kpos : Pos} {fa : AE → MM AV} {fs : AE → MM (List AV)} (ha : PE X e (TE1 (gsOf X g) W fa)) (hr : PK X kws (TA1 (gsOf X g) W fs)) :
    PK X (⟨nm, e, kpos⟩ :: kws) (TA1 (gsOf X g) W fun ρ => MM.bind (fa ρ) fun v => MM.bind (fs ρ) fun vs => MM.pure (v :: vs)) := by
  refine ⟨fun pos pins s σ H Q I h => (pk_cons ha hr).run pos pins s σ H Q I ?_⟩
  obtain ⟨B, F, ι, ρ, st, R, e, p⟩ := h
  refine Tv.seq R e p fun v H1 F1 ι1 a s1 st R1 e1 d p1 => ?_
  refine Tv.seq R1 e1 p1 fun w H2 F2 ι2 b s2 st2 R2 e2 d2 p2 => ?_
  exact p2.pure R2 (.cons (d.stp st2) d2)

/-! ### isinstance -/
variable {e : Expr} {fa : AE → MM AV} {pos : Pos}
theorem pa_types : ∀ {ts : List String} {es : List Expr}, Paired (fun (t : String) (e : Expr) => ∃ p, e = .Name (Str.ofString t) p ∧ PE X e (tC (.ty t))) ts es → PA X es (fun σ H Q => Q (ts.map V.ty) H)
  | _, _, .nil => pa_nil
  | _, _, .cons ⟨p, e1, h⟩ r => by
    refine PA.weak (pa_cons h (pa_types r) (by subst e1; rfl)) fun σ H Q q => ?_
    exact q
theorem de_isi1 {t : String} {p p2 : Pos} (hg : Gl X "isinstance") (hm : X.mg "isinstance" = none) (ht : PE X (.Name (Str.ofString t) p2) (tC (.ty t))) (ha : PE X e (TE1 (gsOf X g) W fa)) (hns : notStar e = true) :
    PE X (.Call (.Name "isinstance" p) [e, .Name (Str.ofString t) p2] [] pos) (TE1 (gsOf X g) W fun ρ => MM.bind (fa ρ) fun x => isiM x [t]) := by
  refine PE.weak (pe_callB (isi_ok (g := g) t) hg hm (by decide +kernel) (pa_cons ha (pa_cons ht pa_nil) (star_cons hns)) (by decide) (by decide) (star_cons hns) rfl) fun σ H Q ⟨B, F, ι, ρ, s, R, ev, po⟩ => ?_
  exact Tv.seq R ev po fun v H1 F1 ι1 a s1 st R1 e1 d p1 => ⟨B, _, F1, ι1, s1, v, a, rfl, R1, d, p1⟩
theorem de_isiN {ts : List String} {es : List Expr} {p : Pos} {k : Nat} {pt : Pos} (hg : Gl X "isinstance") (hm : X.mg "isinstance" = none) (hts : Paired (fun (t : String) (e : Expr) => ∃ p, e = .Name (Str.ofString t) p ∧ PE X e (tC (.ty t))) ts es) (hz : ts.length ≤ sizeLine)
    (ha : PE X e (TE1 (gsOf X g) W fa)) (hns : notStar e = true) :
    PE X (.Call (.Name "isinstance" p) [e, .Tuple es k pt] [] pos) (TE1 (gsOf X g) W fun ρ => MM.bind (fa ρ) fun x => isiM x ts) := by
  refine PE.weak (pe_callB (isiN_ok (g := g) ts) hg hm (by decide +kernel) (pa_cons ha (pa_cons (pe_tup (pa_types hts)) pa_nil) (star_cons hns)) (by decide) (by decide) (star_cons hns) rfl) fun σ H Q ⟨B, F, ι, ρ, s, R, ev, po⟩ => ?_
  refine Tv.seq R ev po fun v H1 F1 ι1 a s1 st R1 e1 d p1 => ?_
  refine ⟨by simpa using hz, fun q hq => ?_⟩
  obtain ⟨st2, R2⟩ := R1.fresh (.tup (ts.map V.ty)) hq
  exact ⟨B, _, _, _, s1, v, a, q, rfl, upd_same, R2, d.stp st2, p1.base st2⟩

/-! ### methods of what is built in -/
def bmName : BM → Str
  | .get => "get" | .join => "join" | .append => "append" | .pop => "pop" | .extend => "extend" | .insert => "insert"
theorem bmChk_join {a : AV} {f : Unit → MM AV} {G : GS} {B : Hp} {E : XK} {F : Hp} {ι : List Addr} {s : AS} {Q : VK} (h : Po G B E F ι s (Den G) (MM.bind (bmChk .join a) f s) Q) : (∃ x, a = .str x) ∧ Po G B E F ι s (Den G) (f () s) Q := by
  unfold MM.bind bmChk at h
  cases a with
  | str x => exact ⟨⟨x, rfl⟩, h⟩
  | _ => exact h.elim
theorem de_join {o a : Expr} {es : List Expr} {fo : AE → MM AV} {fs : AE → MM (List AV)} {apos cpos : Pos} (ho : PE X o (TE1 (gsOf X g) W fo)) (ha : PA X (a :: es) (TA1 (gsOf X g) W fs))
    (hbase : attributeBase o "join" X.env (eval o X.env) = eval o X.env)
    (hfew : ((backTo cpos (starEach (a :: es) X.env)).all (fun x => !x.1) && (backToKw cpos (keywordEach [] X.env)).all (fun x => x.1.isSome)
      && decide ((a :: es).length + ([] : List Keyword).length + (if ([] : List Keyword).isEmpty then 0 else 1) < 30)) = true)
    (hline : (apos.endLine == cpos.line) = true) (hs : starEach (a :: es) X.env = (false, eval a X.env) :: starEach es X.env) (hplain : (backTo cpos (starEach es X.env)).any (·.1) = false) :
    PE X (.Call (.Attribute o "join" apos) (a :: es) [] cpos) (TE1 (gsOf X g) W fun ρ => MM.bind (fo ρ) fun x => MM.bind (bmChk .join x) fun _ => MM.bind (fs ρ) fun vs => bmM .join x vs) := by
  refine PE.weak (pe_bm PySem.F.plainAttrs_str PySem.F.slot_str_join PySem.F.type_str_join (bm_ok (g := g) .join (by decide)) ho ha hbase hfew hline hs hplain) fun σ H Q ⟨B, F, ι, ρ, s, R, ev, po⟩ => ?_
  refine Tv.seq R ev po fun v H1 F1 ι1 a s1 st R1 ev1 d p1 => ?_
  obtain ⟨⟨z, rfl⟩, p1⟩ := bmChk_join p1
  cases d
  refine ⟨rfl, Tv.seq R1 ev1 p1 fun vs H2 F2 ι2 as s2 st2 R2 ev2 d2 p2 => ?_⟩
  exact ⟨B, _, F2, ι2, s2, _, as, R2, .str z, d2, p2⟩
end
end Ev

set_option linter.all false
set_option maxRecDepth 100000
set_option maxHeartbeats 1000000
/-! EvO: exceptions of the text's own classes over the hand layer: made, raised, caught and kept, asked. Own work. -/
namespace Ev
open PySem PySem.Spec PyProof.Rows L2

/-! ### a method's call, where all stands on one row -/
theorem call_form {env : Env} {o : Expr} {name : Str} {apos pos : Pos} {args : List Expr} {kws : List Keyword} (hb : attributeBase o name env (eval o env) = eval o env)
    (hf : methodCallForm (args.length + kws.length) (backTo pos (starEach args env)) (backToKw pos (keywordEach kws env)) = true) (hl : (apos.endLine == pos.line) = true) :
    eval (.Call (.Attribute o name apos) args kws pos) env = (do
      let ov ← eval o env
      standAt apos.atName
      let (f, first) ← holding [ov] (getMethod ov name (do return (← importBound o env).getD true))
      callWith pos f first (backTo pos (starEach args env)) (backToKw pos (keywordEach kws env))) := by
  rw [arm_eval_Call, hb]
  unfold methodCall calleeOf methodCallPos
  rw [hf, hl]
  rfl

/-! ### the base class's __init__, called by name -/
structure BaseAt (K : PySem.W.Frag) (S : Addr) : Prop where
  rd : PySem.W.readsIn K S (.type "type") = true
  ga : PySem.W.specialIn K (.ref S) "__getattribute__" = some (some (.builtin "type.__getattribute__"))
  fc : PySem.W.findCls K (.ref S) (.type "type") "__init__" = some (.val (.builtin "ValueError.__init__"))
section
variable {X : Cx} {S : Addr} {x : Str} {e : Expr} {es : List Expr} {ta : TA} {p1 p2 pos : Pos}
theorem pe_sinit {pl : Sem Bool} (b : BaseAt X.K S) (hg : Gl X x) (hm : X.mg x = some (.ref S)) (hdb : (x == ("__debug__" : Str)) = false) (ha : PA X (e :: es) ta)
    (hc : eval (.Call (.Attribute (.Name x p1) "__init__" p2) (e :: es) [] pos) X.env = (do
      let ov ← eval (.Name x p1) X.env
      standAt p2.atName
      let (f, first) ← holding [ov] (getMethod ov "__init__" pl)
      callWith pos f first (backTo pos (starEach (e :: es) X.env)) (backToKw pos (keywordEach [] X.env))) := by rfl)
    (he : starEach (e :: es) X.env = (false, eval e X.env) :: starEach es X.env := by rfl) (hpl : (backTo pos (starEach es X.env)).any (·.1) = false := by rfl) :
    PE X (.Call (.Attribute (.Name x p1) "__init__" p2) (e :: es) [] pos) (tVeI X.K ta) := by
  constructor
  intro pins s σ H Q I h
  refine PySem.W.methodCall_KW (ld_glob I hg hm ?_ hdb) hc
  refine PySem.W.method_cls I.kIn b.ga (PySem.W.cls_value I.kIn b.rd b.fc (by decide +kernel) ?_)
  have run := ha.run pos pins _ σ H _ (I.tok (s.toks + 1)) h
  refine PyProof.Rows.callWith_method1 (thn run fun us s1 y => ?_) he hpl
  obtain ⟨vs, H1, J, r, a, C, ws, rfl, hl, T, ea, q⟩ := y
  cases r with
  | cons ra rw' =>
    cases ra
    have z : (_ : List Value).length ≤ sizeLine := Nat.le_trans (Nat.le_of_eq (Paired.length rw').symm) (by rw [sizeLine_eq]; omega)
    exact oinit_ok T J ea z fun s' J2 => ⟨.non, H1, J2, rfl, q⟩
end

/-! ### __init__ of an exception class: the base's, then its fields -/
def isSelf : Expr → Bool
  | .Name x _ => x == ("self" : Str)
  | _ => false
/-- self.f = f, for each field -/
def chkSets : List Stmt → List Str → Bool
  | [], [] => true
  | .Assign [.Attribute (.Name x _) f _] (.Name y _) _ :: r, g :: fs => x == ("self" : Str) && f == g && y == g && chkSets r fs
  | _, _ => false
def chkInit (S : Str) : List Stmt → List Str → Bool
  | .Expr (.Call (.Attribute (.Name x _) m q) [.Name y _, .Constant (.str _) _ _] [] p) _ :: r, fs => q.endLine == p.line && x == S && m == ("__init__" : Str) && y == ("self" : Str) && chkSets r fs
  | _, _ => false
section
variable {X : Cx}
/-- the fields behind the first one -/
def tSets (K : PySem.W.Frag) (i : Nat) (fs : List Str) : TS := fun D σ H => ∃ (a C dx : Addr) (acc : List (Str × V)) (vs : List V), σ[0]? = some (some (.ref a)) ∧ OexC K C ∧ H a = some (exo a C (some dx)) ∧ H dx = some (exd dx acc) ∧ dx ≠ a ∧ acc.length + fs.length ≤ 900 ∧
  vs.length = fs.length ∧ (∀ j v, vs[j]? = some v → σ[i + j]? = some (some v)) ∧ (∀ f ∈ fs, PySem.W.findIn K (.ref C) f = some none) ∧
  ∀ H2, H2 a = some (exo a C (some dx)) → H2 dx = some (exd dx (revZ fs vs acc)) → (∀ b, b ≠ a → b ≠ dx → H2 b = H b) → D.nx σ H2
def NamesOk (X : Cx) (i : Nat) (fs : List Str) : Prop := ∀ j f, fs[j]? = some f → X.N[i + j]? = some f ∧ Vis X.env.scope f ∧ (f == ("__debug__" : Str)) = false ∧ (f == ("__classdict__" : Str)) = false
theorem NamesOk.tail {i : Nat} {f : Str} {fs : List Str} (h : NamesOk X i (f :: fs)) : NamesOk X (i + 1) fs := fun j g e => by
  have := h (j + 1) g (by simpa using e)
  rwa [show i + (j + 1) = i + 1 + j by omega] at this
theorem set_one {i : Nat} {f : Str} {p q r pos : Pos} (h0 : X.N[0]? = some ("self" : Str)) (v0 : Vis X.env.scope "self") (hN : X.N[i]? = some f ∧ Vis X.env.scope f ∧ (f == ("__debug__" : Str)) = false ∧ (f == ("__classdict__" : Str)) = false) :
    PS X (.Assign [.Attribute (.Name "self" p) f q] (.Name f r) pos) (tOst X.K f (fun σ H Q => ∃ v, σ[0]? = some (some v) ∧ Q v H) (fun σ H Q => ∃ v, σ[i]? = some (some v) ∧ Q v H)) :=
  ps_ost (pe_var h0 v0 (by decide +kernel) (by decide +kernel)) (pe_var hN.1 hN.2.1 hN.2.2.1 hN.2.2.2)
theorem sets_ok : ∀ (fs : List Str) (i : Nat) (st : List Stmt), chkSets st fs = true → X.N[0]? = some ("self" : Str) → Vis X.env.scope "self" → NamesOk X i fs → PSs X st (tSets X.K i fs)
  | [], i, st, h, _, _, _ => by
    cases st with
    | cons _ _ => simp [chkSets] at h
    | nil =>
      refine ⟨fun pins s σ H D I q => pss_nil.run pins s σ H D I ?_⟩
      obtain ⟨a, C, dx, acc, vs, h1, T, ha, hd, ne, hl, hv, hs, hf, k⟩ := q
      cases vs with
      | cons _ _ => simp at hv
      | nil => exact k H ha hd fun _ _ _ => rfl
  | g :: fs, i, st, h, h0, v0, hN => by
    unfold chkSets at h
    split at h
    · rename_i e; cases e
    · rename_i x p f q y r pos rest g' fs' e
      cases e
      simp only [Bool.and_eq_true] at h
      obtain ⟨⟨⟨h1, h2⟩, h3⟩, h4⟩ := h
      have e1 := eq_of_beq h1
      have e2 := eq_of_beq h2
      have e3 := eq_of_beq h3
      subst e1; subst e2; subst e3
      have s1 := set_one (i := i) (p := p) (q := q) (r := r) (pos := pos) h0 v0 (by have := hN 0 _ rfl; simpa using this)
      refine ⟨fun pins s σ H D I w => (pss_cons s1 (sets_ok fs (i + 1) rest h4 h0 v0 hN.tail)).run pins s σ H D I ?_⟩
      obtain ⟨a, C, dx, acc, vs, h1, T, ha, hd, ne, hl, hv, hs, hf, k⟩ := w
      cases vs with
      | nil => simp at hv
      | cons v vs =>
        have hz : acc.length + fs.length + 1 ≤ 900 := by simpa [Nat.add_assoc] using hl
        refine ⟨v, by simpa using hs 0 v rfl, .ref a, h1, a, C, rfl, T, hf _ List.mem_cons_self, .inr ⟨dx, acc, ha, hd, by omega, ?_⟩⟩
        refine ⟨a, C, dx, (y, v) :: acc, vs, h1, T, by rw [upd_ne (Ne.symm ne)]; exact ha, upd_same, ne, by simp; omega, by simpa using hv, fun j w e => ?_, fun f hm => hf f (List.mem_cons_of_mem _ hm), fun H2 k1 k2 k3 => ?_⟩
        · have := hs (j + 1) w (by simpa using e)
          rwa [show i + (j + 1) = i + 1 + j by omega] at this
        · exact k H2 k1 k2 fun b b1 b2 => by rw [k3 b b1 b2, upd_ne b2]
    · cases h
/-- what an exception's __init__ promises -/
def spInit (K : PySem.W.Frag) (C : Addr) (fs : List Str) : Sp := fun ws H Q _ => ∃ (a : Addr) (vs : List V), ws = .ref a :: vs ∧ vs.length = fs.length ∧ H a = some (exo a C none) ∧
  ∀ H2 dx, H dx = none → dx ≠ a → H2 a = some (exo a C (some dx)) → H2 dx = some (exd dx (revZ fs vs [])) → (∀ b, b ≠ a → b ≠ dx → H2 b = H b) → Q .non H2
theorem init_body {S C : Addr} {x f : Str} {fs : List Str} {st : List Stmt} {D : Ends} {a : Addr} {v : V} {vs : List V} {σ : L2.St} {H : Hp} (h : chkInit x st (f :: fs) = true) (b : BaseAt X.K S) (hg : Gl X x) (hm : X.mg x = some (.ref S)) (hdb : (x == ("__debug__" : Str)) = false)
    (h0 : X.N[0]? = some ("self" : Str)) (v0 : Vis X.env.scope "self") (hN : NamesOk X 1 (f :: fs)) (T : OexC X.K C) (hf : ∀ g ∈ f :: fs, PySem.W.findIn X.K (.ref C) g = some none) (hl : fs.length ≤ 800)
    (hσ : σ[0]? = some (some (.ref a))) (hvs : vs.length = fs.length) (hs : ∀ j w, (v :: vs)[j]? = some w → σ[1 + j]? = some (some w)) (ha : H a = some (exo a C none))
    (k : ∀ H2 dx, H dx = none → dx ≠ a → H2 a = some (exo a C (some dx)) → H2 dx = some (exd dx (revZ (f :: fs) (v :: vs) [])) → (∀ b, b ≠ a → b ≠ dx → H2 b = H b) → D.nx σ H2) :
    ∃ t, PSs X st t ∧ t D σ H := by
  unfold chkInit at h
  split at h
  · rename_i hx
    simp only [Bool.and_eq_true] at h
    obtain ⟨⟨⟨⟨h00, h1⟩, h2⟩, h3⟩, h4⟩ := h
    have e1 := eq_of_beq h1
    have e2 := eq_of_beq h2
    have e3 := eq_of_beq h3
    subst e1; subst e2; subst e3
    unfold chkSets at h4
    split at h4
    · rename_i e; cases e
    · rename_i e
      cases e
      simp only [Bool.and_eq_true] at h4
      obtain ⟨⟨⟨k1, k2⟩, k3⟩, k4⟩ := h4
      have e1 := eq_of_beq k1
      have e2 := eq_of_beq k2
      have e3 := eq_of_beq k3
      subst e1; subst e2; subst e3
      refine ⟨_, pss_cons (ps_expr (pe_sinit b hg hm hdb (pa_cons (pe_var h0 v0 (by decide +kernel) (by decide +kernel)) (pa_cons pe_str pa_nil)) (call_form rfl rfl h00))) (pss_cons (set_one (i := 1) h0 v0 (by have := hN 0 _ rfl; simpa using this)) (sets_ok fs 2 _ k4 h0 v0 hN.tail)), ?_⟩
      refine ⟨.ref a, hσ, ⟨a, C, [.str _], rfl, by simp, T, ha, ?_⟩⟩
      refine ⟨v, by simpa using hs 0 v rfl, .ref a, hσ, a, C, rfl, T, hf _ List.mem_cons_self, .inl ⟨ha, fun dx hd ne => ?_⟩⟩
      refine ⟨a, C, dx, [(_, v)], vs, hσ, T, upd_same, by rw [upd_ne ne, upd_same], ne, by simp; omega, hvs, fun j w e => ?_, fun g hm => hf g (List.mem_cons_of_mem _ hm), fun H2 j1 j2 j3 => ?_⟩
      · have := hs (j + 1) w (by simpa using e)
        rwa [show 1 + (j + 1) = 2 + j by omega] at this
      · exact k H2 dx hd ne j1 j2 fun b b1 b2 => by rw [j3 b b1 b2, upd_ne b1, upd_ne b2]
    · cases h4
  · cases h
end

/-! ### a class of exceptions -/
def plainNm (x : Str) : Bool := !(x == ("__debug__" : Str)) && !(x == ("__classdict__" : Str))
def locK : Option NameKind → Bool
  | some .local => true | _ => false
def glbK : Option NameKind → Bool
  | some .globalImplicit => true | _ => false
def fnK : ScopeKind → Bool
  | .function => true | _ => false
/-- the text of an exception's __init__ -/
def chkExc (x : Str) (st : Stmt) (fs : List Str) : Bool :=
  fnK (defScope st).kind && !(defScope st).isCoroutine && !(defScope st).isGenerator && decide (("self" : Str) :: fs).Nodup && decide (fs.length ≤ 800) && !fs.isEmpty &&
    ((("self" : Str) :: fs).all fun y => locK ((defScope st).names.lookup y)) && ((defScope st).names.all fun y => !(y.2 == .free)) && glbK ((defScope st).names.lookup x) && plainNm x && (fs.all plainNm) &&
    chkInit x (defBody st) fs
structure ExAt (K : PySem.W.Frag) (mg : Str → Option Value) (C : Addr) (nm : Str) (fs : List Str) : Prop where
  gC : mg nm = some (.ref C)
  T : OexC K C
  hf : ∀ f ∈ fs, PySem.W.findIn K (.ref C) f = some none
  init : ∃ (S fI : Addr) (x qual : Str) (st : Stmt) (fd : FuncData), mg x = some (.ref S) ∧ BaseAt K S ∧ PySem.W.findIn K (.ref C) "__init__" = some (some (.ref fI)) ∧ PySem.W.typeIn K (.ref fI) = some (.type "function") ∧
    L2.Fun K "__init__" qual st fI fd ∧ chkExc x st fs = true ∧ Binds K fd (("self" : Str) :: fs) []
theorem locK_of {o : Option NameKind} (h : locK o = true) : o = some .local := by
  unfold locK at h
  split at h <;> simp_all
theorem glbK_of {o : Option NameKind} (h : glbK o = true) : o = some .globalImplicit := by
  unfold glbK at h
  split at h <;> simp_all
theorem fnK_of {k : ScopeKind} (h : fnK k = true) : k = .function := by
  unfold fnK at h
  split at h
  · rfl
  · cases h
section
variable {P : Program} {w : World} {K : PySem.W.Frag} {mg : Str → Option Value} {base : Heap} {C : Addr} {nm : Str} {fs : List Str}
theorem init_fn {S fI : Addr} {x qual : Str} {st : Stmt} {fd : FuncData} (T : OexC K C) (hf : ∀ f ∈ fs, PySem.W.findIn K (.ref C) f = some none) (hm : mg x = some (.ref S)) (b : BaseAt K S) (F : L2.Fun K "__init__" qual st fI fd) (hc : chkExc x st fs = true) :
    FnOk P w K mg base CX0 1 fI fd (("self" : Str) :: fs) (spInit K C fs) := by
  unfold chkExc at hc
  simp only [Bool.and_eq_true, Bool.not_eq_true'] at hc
  obtain ⟨⟨⟨⟨⟨⟨⟨⟨⟨⟨⟨h1, h2⟩, h3⟩, h4⟩, h5⟩, h6⟩, h7⟩, h8⟩, h9⟩, h10⟩, h11⟩, h12⟩ := hc
  cases fs with
  | nil => simp at h6
  | cons f fs =>
  have loc : ∀ y ∈ (("self" : Str) :: f :: fs), (defScope st).names.lookup y = some .local := fun y hy => locK_of (List.all_eq_true.mp h7 y hy)
  have sc : FnScope (("self" : Str) :: f :: fs) (("self" : Str) :: f :: fs) (defScope st) :=
    ⟨fnK_of h1, h2, h3, of_decide_eq_true h4, by rw [List.take_length], fun y hy => .inl (loc y hy), fun y hy e => by
      have := List.all_eq_true.mp h8 y hy
      rw [e] at this
      exact absurd this (by decide)⟩
  refine Fun.ok (k := 0) F sc (fun vs H Q E ⟨a, us, e, hl, _⟩ => by rw [e]; simp [hl]) fun cdv A outer s H ws Q E hr ⟨a, vs, e, hl, ha, k⟩ => ?_
  subst e
  cases vs with
  | nil => simp at hl
  | cons v vs =>
  have hdb : plainNm x = true := h10
  have hdb' : (x == ("__debug__" : Str)) = false := by
    unfold plainNm at hdb
    simp at hdb
    simp [hdb.1]
  refine init_body (X := (cxOf CX0 P w K mg base _ qual (defScope st) fI cdv A outer s H E).nox) (C := C) (a := a) (v := v) (vs := vs) h12 b (glbK_of h9) hm hdb' rfl (.inl (loc _ List.mem_cons_self)) (fun j g e => ?_) T hf (by have := of_decide_eq_true h5; simp at this; omega) rfl (by simpa using hl) (fun j w e => ?_) ha
    fun H2 dx hd ne h1 h2 h3 => k H2 dx hd ne h1 h2 h3
  · have hm : g ∈ f :: fs := List.mem_of_getElem? e
    have hp := List.all_eq_true.mp h11 g hm
    unfold plainNm at hp
    simp only [Bool.and_eq_true, Bool.not_eq_true'] at hp
    refine ⟨?_, .inl (loc g (List.mem_cons_of_mem _ hm)), hp.1, hp.2⟩
    show ((("self" : Str) :: f :: fs))[1 + j]? = some g
    rw [Nat.add_comm, List.getElem?_cons_succ]
    exact e
  · have hlt : j < (v :: vs).length := (List.getElem?_eq_some_iff.mp e).1
    show (L2.start _ (V.ref a :: v :: vs))[1 + j]? = _
    unfold L2.start
    rw [List.getElem?_append_left (by simp at hlt ⊢; omega), List.getElem?_map, Nat.add_comm, List.getElem?_cons_succ, e]
    rfl
end
section
variable {X : Cx} {C : Addr} {nm : Str} {fs : List Str} {p pos : Pos} {e : Expr} {es : List Expr} {ta : TA}
/-- C(e, ..), about to be raised -/
theorem pmk_ev (hr : Room 2 X.A) (T : ExAt X.K X.mg C nm fs) (hg : Gl X nm) (hdb : (nm == ("__debug__" : Str)) = false) (ha : PA X (e :: es) ta) (he : starEach (e :: es) X.env = (false, eval e X.env) :: starEach es X.env) (hpl : (backTo pos (starEach es X.env)).any (·.1) = false) :
    PMk X (.Call (.Name nm p) (e :: es) [] pos) (tMkO C (spInit X.K C fs) [] ta) := by
  obtain ⟨S, fI, x, qual, st, fd, i1, i2, i3, i4, i5, i6, i7⟩ := T.init
  have F := init_fn (P := X.prog) (w := X.w) (base := X.base) T.T T.hf i1 i2 i5 i6
  exact pmk_oex (ds := []) (dvs := []) T.T i3 i4 F hr i7 .nil pass0 hg T.gC ha hdb he hpl (p := p) (pos := pos)
theorem mk_args {K : PySem.W.Frag} {C : Addr} {fs : List Str} {vs : List V} {H1 : Hp} {Q : XK} (hl : vs.length = fs.length) (h8 : fs.length ≤ 800) (k : ∀ d, H1 d = none → Q (.ref C) (some d) (upd H1 d (.xd (revZ fs vs [])))) :
    vs.length ≤ 1000 ∧ ∀ a, H1 a = none → spInit K C fs (.ref a :: (vs ++ [])) (upd H1 a (exo a C none))
      (fun v H2 => v = .non ∧ ∃ (d : Addr) (fs : List (Str × V)), H2 a = some (exo a C (some d)) ∧ H2 d = some (exd d fs) ∧ H1 d = none ∧ Q (.ref C) (some d) (upd (L2.del H2 a) d (.xd fs))) (fun _ _ _ => False) := by
  refine ⟨by omega, fun a ha => ⟨a, vs, by simp, hl, upd_same, fun H2 dx hd ne h1 h2 h3 => ?_⟩⟩
  have hd1 : H1 dx = none := by rw [upd_ne ne] at hd; exact hd
  refine ⟨rfl, dx, _, h1, h2, hd1, ?_⟩
  have e : upd (L2.del H2 a) dx (.xd (revZ fs vs [])) = upd H1 dx (.xd (revZ fs vs [])) := by
    funext b
    by_cases hb : b = dx
    · subst hb; rw [upd_same, upd_same]
    · rw [upd_ne hb, upd_ne hb]
      by_cases hc : b = a
      · subst hc; rw [del_same, ha]
      · rw [del_ne hc, h3 b hc hb, upd_ne hc]
  rw [e]
  exact k dx hd1
end

/-! ### a caught exception, kept -/
theorem exT_ok {P : Program} {w : World} {H : Hp} {h : Heap} {C dx a : Addr} {oe : Obj} {vs : Array Value} (e : h.get? a = some oe) (z : Zc (.ref C) (some dx) oe) (d : oe.data = .fields vs) : ObjOk P w H h a (exT C dx a) :=
  ⟨⟨oe, vs, e, z, d⟩, ⟨oe, e⟩, fun _ _ ⟨o, v, q, r⟩ k => ⟨o, v, k o q, r⟩⟩
theorem exT_at {P : Program} {w : World} {H : Hp} {h : Heap} {C dx a : Addr} (hok : HOk P w H h) (e : H a = some (exT C dx a)) : ∃ (oe : Obj) (vs : Array Value), h.get? a = some oe ∧ Zc (.ref C) (some dx) oe ∧ oe.data = .fields vs := (hok a _ e).1
section
variable {X : Cx} {pins : List (Addr × Obj)} {σ : L2.St} {H : Hp} {s : Shared}
/-- a pinned object of ours, new in this def, is tracked from now on -/
theorem inv_track {a : Addr} {oe : Obj} {vs : Array Value} {φ : Heap → Prop} (I : Inv X ((a, oe) :: pins) σ H s) (h0 : X.s_0.heap.get? a = none) (hp : ∀ p ∈ X.pn ++ pins, p.1 ≠ a) (hd : oe.data = .fields vs) (new : ObjOk X.prog X.w (upd H a (.ext φ)) s.heap a (.ext φ)) :
    Inv X pins σ (upd H a (.ext φ)) s := by
  obtain ⟨ha, na, nL, nF, nc⟩ := I.pin (a, oe) (List.mem_append_right _ List.mem_cons_self)
  have n0 : ∀ b o, X.s_0.heap.get? b = some o → b ≠ a := fun b o e z => by rw [z, h0] at e; cases e
  have nH : ∀ b u, H b = some u → b ≠ a := fun b u e z => by rw [z, na] at e; cases e
  refine ⟨I.ok, I.os, I.bare, ⟨I.base.keep, I.base.slot, fun b o e n hx => ?_, I.base.there, fun b xs e => ?_, fun b o u e => ?_, fun b ps e => ?_⟩, I.loc, I.cell, ?_, fun x c e => ?_, fun p hm => ?_, ?_, I.len⟩
  · rw [upd_ne (n0 b o e)]; exact I.base.free b o e n hx
  · have q := I.base.tups b xs e
    rw [upd_ne (nH b _ q)]; exact q
  · have q := I.base.frzs b o u e
    rw [upd_ne (nH b _ q)]; exact q
  · obtain ⟨m, q⟩ := I.base.tbls b ps e
    exact ⟨m, by rw [upd_ne (nH b _ q)]; exact q⟩
  · rw [upd_ne (Ne.symm nL)]; exact I.free
  · obtain ⟨v, o, ho, hc⟩ := I.cell x c e
    have : c ≠ a := fun z => by
      rw [z, ha] at ho; cases ho
      exact nc _ hc
    rw [upd_ne this]; exact I.freeC x c e
  · obtain ⟨q1, q2, q3⟩ := I.pin p (by
      rcases List.mem_append.mp hm with h | h
      · exact List.mem_append_left _ h
      · exact List.mem_append_right _ (List.mem_cons_of_mem _ h))
    exact ⟨q1, by rw [upd_ne (hp p hm)]; exact q2, q3⟩
  · exact I.hok.laidN (fun _ _ e => e) na new
end
/-- what the clause 'except x as n: m = n' wishes: slot i is n's, j is m's -/
def wKeep (K : PySem.W.Frag) (c : Value) (i j : Nat) (Wout : WX) (D : Ends) : WX := fun cls d σ H =>
  ∃ b, PySem.W.exmOne K cls c = some b ∧ (b = true → ∃ C dx, cls = .ref C ∧ d = some dx ∧ ∀ a, H a = none → D.nx (((σ.set i (some (.ref a))).set j (some (.ref a))).set i none) (upd H a (exT C dx a))) ∧ (b = false → Wout cls d σ H)
section
variable {X : Cx} {x n m : Str} {c : Value} {i j : Nat} {body : List Stmt} {np p1 p2 p3 pos pos' : Pos} {tb : WX → TS} {Wout : WX}
theorem ps_tryK (hs : X.stack = X.env :: X.outer) (hf : X.env.frame = some X.env.locals) (hex : X.ex = []) (hN : X.N.Nodup) (hi : X.N[i]? = some n) (hln : X.env.kindOf n = some .local) (hj : X.N[j]? = some m) (hlm : X.env.scope.names.lookup m = some .local) (hln2 : X.env.scope.names.lookup n = some .local)
    (hdn : (n == ("__debug__" : Str)) = false) (hcn : (n == ("__classdict__" : Str)) = false) (hil : i < X.N.length) (hc : Names X x c) (tk : Takes X Wout)
    (hb : ∀ (W : WX) (pn : List (Addr × Obj)) (xe : Value → Shared → Prop), Takes (X.tr pn xe) W → PassesOwn (model X.prog X.w) X.A X.env xe → PSs (X.tr pn xe) body (tb W)) :
    PS X (.Try body [.ExceptHandler (some (.Name x np)) (some n) [.Assign [.Name m p1] (.Name n p2) p3] pos'] [] [] pos) (fun D σ H => tb (wKeep X.K c i j Wout D) D σ H) := by
  constructor
  intro pins s σ H D I h
  have ok := I.ok
  have hfr : X.A.frames = some (X.env :: X.outer) := by rw [ok.frames, hs]
  have hloc : L2.Loc X.env.scope n := .inl hln
  refine wpAny_Try_except ?_
  have run := (hb (wKeep X.K c i j Wout D) (X.pn ++ pins) (fun e t => wpAny (model X.prog X.w) X.A (noteFrame e X.env) (fun _ t2 => wpAny (model X.prog X.w) X.A (setFlight e none) (fun _ t3 =>
    wpAny (model X.prog X.w) X.A (handleBy e X.env [.ExceptHandler (some (.Name x np)) (some n) [.Assign [.Name m p1] (.Name n p2) p3] pos']) (SP X pins D) X.xe t3) X.xe t2) X.xe t) (fun u s' xx => ?_) PassesOwn.looking).run [] s σ H D (I.toTry _) h
  · refine wpAny_mono run (fun f s1 hsp => ?_) fun e s1 he => he
    cases f with
    | next =>
      obtain ⟨σ', H', J, q⟩ := hsp
      exact wpAny_execs_nil ⟨σ', H', J.ofTry ok, q⟩
    | brk =>
      obtain ⟨σ', H', J, q⟩ := hsp
      exact ⟨σ', H', J.ofTry ok, q⟩
    | cont =>
      obtain ⟨σ', H', J, q⟩ := hsp
      exact ⟨σ', H', J.ofTry ok, q⟩
    | ret u =>
      obtain ⟨v, σ', H', J, r, q⟩ := hsp
      exact ⟨v, σ', H', J.ofTry ok, r, q⟩
  · obtain ⟨a, B, sI, pins', σ', H', cls, d, rfl, J0, nb, up, sky, na, os, ag, b, hb1, hyes, hno⟩ := xx
    have J : Inv X pins σ' H' sI := J0.ofTry ok
    rw [show (X.tr _ _).stack = X.env :: X.outer from hs] at sky
    show wpAny (model X.prog X.w) X.A (noteFrame (.ref a) X.env) _ _ _
    refine Sky.land Zc.steady hfr hf sky fun g3 fl3 up3 => ?_
    have J3 : Inv X pins σ' H' { s' with heap := g3 } := J.landed nb fl3.1 (up.trans up3) os ag
    obtain ⟨oe3, vs3, he3, hz3, hd3⟩ := fl3.there
    have notF : a ∉ frs (X.env :: X.outer) := fun hm => by
      obtain ⟨_, o', e', hnf⟩ := fl3.2.2.1.mem hm
      rw [he3] at e'; cases e'
      exact hnf _ hd3
    have nL : a ≠ X.env.locals := fun z => notF (List.mem_filterMap.mpr ⟨X.env, List.mem_cons_self, by rw [hf, z]⟩)
    have nF : a ∉ X.fs := fun hm => by
      obtain ⟨e, he, q⟩ := List.mem_filterMap.mp hm
      exact notF (List.mem_filterMap.mpr ⟨e, List.mem_cons_of_mem _ he, q⟩)
    have nI : sI.heap.get? a = none := by
      cases e : sI.heap.get? a with
      | none => rfl
      | some o =>
        have z := nb a o e (by rw [show (X.tr _ _).stack = X.env :: X.outer from hs]; exact notF)
        rw [fl3.2.1] at z; cases z
    have n0 : X.s_0.heap.get? a = none := by
      cases e : X.s_0.heap.get? a with
      | none => rfl
      | some o =>
        obtain ⟨o', z⟩ := J.base.there a o e (by rw [hex]; exact fun z => nomatch z)
        rw [nI] at z; cases z
    have hpn : ∀ p ∈ X.pn ++ pins, p.1 ≠ a := fun p hp z => by
      have q := (J.pin p hp).1
      rw [z, nI] at q; cases q
    have S3 := J3.suite he3 hd3 na nL nF
    refine wpAny_handleBy_cons (codeAny_handlers_test ?_) (by intro q; cases q)
    have LT : PySem.W.Looks (model X.prog X.w) g3 (typeOf (.ref a)) cls := fun A Q E s k q => wpAny_typeOf_ref (k _ _ he3) (by rw [hz3.1]; exact q)
    have LM := PySem.W.exm_one (M := model X.prog X.w) (J3.kIn) LT hb1
    have test : ∀ {Q : Value → Shared → Prop} {E : Value → Shared → Prop}, Q c { s' with heap := g3 } → wpAny (model X.prog X.w) (X.A.mark (some (.ref a))) (eval (.Name x np) X.env) Q E { s' with heap := g3 } := fun {Q E} q => by
      obtain ⟨hg, hdbg, hm | ⟨hm, hv, hnn⟩⟩ := hc
      · exact ld_glob (X := X.suite a ((a, oe3) :: (X.pn ++ pins))) S3 hg hm q hdbg
      · exact ld_blt (X := X.suite a ((a, oe3) :: (X.pn ++ pins))) S3 hg hm hv q hnn hdbg
    refine test (LM.here ?_)
    cases b with
    | true =>
      refine codeAny_handlers_suite_as ?_
      refine HandSPX.lands_againZ fl3 fun g4 fl4 up4 => ?_
      have J4 : Inv X pins σ' H' { s' with heap := g4 } := J.landed nb fl4.1 ((up.trans up3).trans up4) os ag
      obtain ⟨oe4, vs4, he4, hz4, hd4⟩ := fl4.there
      have S4 := J4.suite he4 hd4 na nL nF
      refine store_ok (X := X.suite a ((a, oe4) :: (X.pn ++ pins))) (v := .ref a) S4 hN hi hloc rfl (fun s5 S5 => ?_) (.inr hln)
      have one := pss_one (ps_set (X := X.suite a ((a, oe4) :: (X.pn ++ pins))) (i := j) (x := m) (pos := p3) (pos' := p1) hN hj (.inl hlm) (pe_var (pos := p2) hi (.inl hln2) hdn hcn) rfl (.inr hlm))
      have lσ : i < σ'.length := by rw [J.len]; exact hil
      refine wpAny_mono (one.run [] s5 _ H' { nx := fun σ6 H6 => σ6 = (σ'.set i (some (.ref a))).set j (some (.ref a)) ∧ H6 = H', rt := fun _ _ => False } S5 ⟨.ref a, List.getElem?_set_self lσ, rfl, rfl⟩) (fun f s6 hsp => ?_) fun _ _ z => False.elim z
      cases f with
      | next =>
        obtain ⟨σ6, H6, S6, rfl, rfl⟩ := hsp
        have J6 : Inv X ((a, oe4) :: pins) ((σ'.set i (some (.ref a))).set j (some (.ref a))) H6 s6 := ⟨ok, S6.os, S6.bare, S6.base, S6.loc, S6.cell, S6.free, S6.freeC, fun p hp => S6.pin p (by
          rw [List.append_nil]
          rcases List.mem_append.mp hp with h | h
          · exact List.mem_cons_of_mem _ (List.mem_append_left _ h)
          · rcases List.mem_cons.mp h with h | h
            · rw [h]; exact List.mem_cons_self
            · exact List.mem_cons_of_mem _ (List.mem_append_right _ h)), S6.hok, S6.len⟩
        refine gone_ok J6 hN hi hln fun s7 J7 => ?_
        obtain ⟨C, dx, rfl, rfl, q⟩ := hyes rfl
        have h7 := (J7.pin (a, oe4) (List.mem_append_right _ List.mem_cons_self)).1
        exact ⟨_, _, inv_track J7 n0 hpn hd4 (exT_ok h7 hz4 hd4), q a na⟩
      | brk => obtain ⟨_, _, _, z⟩ := hsp; exact z.elim
      | cont => obtain ⟨_, _, _, z⟩ := hsp; exact z.elim
      | ret u => obtain ⟨_, _, _, _, _, z⟩ := hsp; exact z.elim
    | false =>
      show wpAny _ X.A (handleBy (.ref a) X.env []) _ _ _
      refine wpAny_handleBy_nil ?_
      obtain ⟨k1, k2, k3, oe, vs, T, oT, ts', he, hz, hd, h1, hr⟩ := id fl3
      unfold PySem.passOn
      refine wpAny_bind (wpAny_field he hd h1 ?_)
      rw [if_neg (show ¬ ((Value.ref T == Value.none) = true) from by simp)]
      have fin : wpAny (model X.prog X.w) X.A (setFlight (.ref a) X.env.frame) (fun _ s4 => wpAny (model X.prog X.w) X.A (throw (.ref a) : Sem Flow) (SP X pins D) X.xe s4) X.xe { s' with heap := g3 } := by
        rw [hf]
        refine HandSPX.setFlight_upZ fl3 fun g4 hh4 up4 => wpAny_throw (tk _ _ ?_)
        exact ⟨a, B, sI, pins, σ', H', cls, d, rfl, J, nb, (up.trans up3).trans up4, .inr (.inr (by rw [hs]; exact hh4)), na, os, ag, hno rfl⟩
      first
        | exact wpAny_bind (wpAny_pure (wpAny_bind fin))
        | exact wpAny_bind fin
end
end Ev

set_option linter.all false
set_option maxRecDepth 100000
set_option maxHeartbeats 1000000
/-! EvP: a kept exception asked: its class, its fields. Own work. -/
namespace Ev
open PySem PySem.Spec PyProof.Rows L2
structure ExIs (K : PySem.W.Frag) (C : Addr) : Prop where
  hcl : (PySem.W.clsIn K C).isSome = true
  ga : PySem.W.findIn K (.ref C) "__getattribute__" = some (some (.builtin "BaseException.__getattribute__"))
  gg : PySem.W.findIn K (.ref C) "__getattr__" = some none
  sb : PySem.W.subIn K (.ref C) (.type "BaseException") = some true
  ca : PySem.W.findIn K (.ref C) "__class__" = some (some (.builtin "object.__class__"))
  mo : PySem.W.mroIn K C (.type "object") = some true
  hd : PySem.W.hasDictIn K C = true
theorem cls_get {K : PySem.W.Frag} : PySem.W.specialIn K (.builtin "object.__class__") "__get__" = some (some (.builtin "getset_descriptor.__get__")) := by kernel_rfl
theorem cls_takes {K : PySem.W.Frag} : PySem.W.takesIn K (.builtin "object.__class__") = some true := by kernel_rfl
section
variable {X : Cx} {pins : List (Addr × Obj)} {σ : L2.St} {H : Hp} {s : Shared} {C dx a : Addr} {fs : List (Str × V)}
theorem exc_inst (I : Inv X pins σ H s) (ha : H a = some (exT C dx a)) (hd : H dx = some (.xd fs)) :
    ∃ (oe od : Obj) (mA : Str → Option Value), PySem.W.InstAt s.heap a oe C (some od) ∧ (∀ f, PySem.W.lookIn f od = some (mA f)) ∧ ∀ f, RelO (fs.lookup f) (mA f) := by
  obtain ⟨oe, vs, he, hz, hf⟩ := exT_at I.hok ha
  obtain ⟨mA, hns, hr⟩ := (show ObjOk X.prog X.w H s.heap dx (.xd fs) from I.hok dx _ hd)
  obtain ⟨od, ho, hl⟩ := lookIn_ns hns
  exact ⟨oe, od, mA, ⟨he, hz.1, by unfold PySem.W.notCls; rw [hf] <;> rfl, by rw [hz.2]; exact ho⟩, hl, hr⟩
theorem isi_exc (E : ExIs X.K C) : CallR X (.builtin "isinstance") (fun xs H Q => ∃ (a dx : Addr) (fs : List (Str × V)) (c : V) (cv : Value) (b : Bool), xs = [.ref a, c] ∧ H a = some (exT C dx a) ∧ H dx = some (.xd fs) ∧ ClsV c cv ∧ PySem.W.kitOne X.K (.ref C) cv = some b ∧ Q (.bl b) H) := by
  intro pins s σ H xs us Q I r h
  obtain ⟨a, dx, fs, c, cv, b, rfl, ha, hd, k, e, q⟩ := h
  obtain ⟨u1, u2, rfl, r1, r2⟩ := vals2 r
  have e2 := k.eq r2
  subst e2
  cases r1
  obtain ⟨oe, od, mA, J, _, _⟩ := exc_inst I ha hd
  exact PySem.W.kia_one (PySem.W.kitx_exc E.hcl E.ga E.gg E.sb E.ca cls_get cls_takes E.mo) I.kIn J e (fun z => nomatch z) fun tk => ⟨.bl b, H, I.tok tk, rfl, q⟩
theorem pe_xattr {e : Expr} {f : Str} {te : TE} {pos : Pos} (he : PE X e te) (hb : attributeBase e f X.env (eval e X.env) = eval e X.env) :
    PE X (.Attribute e f pos) (fun σ H Q => te σ H fun x H1 => ∃ (a C dx : Addr) (fs : List (Str × V)) (v : V), x = .ref a ∧ ExIs X.K C ∧ PySem.W.findIn X.K (.ref C) f = some none ∧ H1 a = some (exT C dx a) ∧ H1 dx = some (.xd fs) ∧ fs.lookup f = some v ∧ Q v H1) := by
  constructor
  intro pins s σ H Q I h
  refine attr_of hb (thn (he.run pins s σ H _ I h) fun u s1 y => ?_)
  obtain ⟨x, H1, I1, rx, a, C, dx, fs, v, rfl, E, hn, ha, hd, l, q⟩ := y
  cases rx
  obtain ⟨oe, od, mA, J, hl, hr⟩ := exc_inst I1 ha hd
  obtain ⟨u, hu, ru⟩ := RelO.some_of (v := v) (o := mA f) (by rw [← l]; exact hr f)
  exact HandSPX.exc_get I1.kIn J E.ga E.gg E.sb (PySem.W.findObj_own E.hd hn rfl (by rw [hl, hu])) (handed_of ru) ⟨v, H1, I1.tok _, ru, q⟩
end
end Ev

set_option linter.all false
set_option maxRecDepth 100000
set_option maxHeartbeats 1000000
/-! EvQ: raise, try, what is asked of a kept exception. Own work. -/
namespace Ev
open PySem PySem.Spec PyProof.Rows L2
theorem revZ_den {G : GS} {F : Hp} {ι : List Addr} : ∀ {fs : List Str} {vs : List V} {xs : List AV} {a1 : List (Str × V)} {a2 : List (Str × AV)}, DenAll G F ι vs xs → a1.map (·.1) = a2.map (·.1) → DenAll G F ι (a1.map (·.2)) (a2.map (·.2)) →
    (revZ fs vs a1).map (·.1) = (revZ fs xs a2).map (·.1) ∧ DenAll G F ι ((revZ fs vs a1).map (·.2)) ((revZ fs xs a2).map (·.2))
  | [], _, _, _, _, _, h1, h2 => by unfold revZ; exact ⟨h1, h2⟩
  | f :: fs, _, _, _, _, .nil, h1, h2 => by unfold revZ; exact ⟨h1, h2⟩
  | f :: fs, _, _, _, _, .cons d r, h1, h2 => by
    unfold revZ
    exact revZ_den r (by simp [h1]) (.cons d h2)
section
variable {X : Cx} {g : GN} {W : WX} {C : Addr} {c : Nat} {nm : Str} {fn : List Str} {p pos pos' : Pos} {e : Expr} {es : List Expr} {fs : AE → MM (List AV)}
theorem ds_raise (hc : X.calm = true) (tk : Takes X W) (hr : Room 2 X.A) (T : ExAt X.K X.mg C nm fn) (hC : g.exA c = some C) (h8 : fn.length ≤ 800) (hg : Gl X nm) (hdb : (nm == ("__debug__" : Str)) = false) (ha : PA X (e :: es) (TA1 (gsOf X g) W fs))
    (he : starEach (e :: es) X.env = (false, eval e X.env) :: starEach es X.env) (hpl : (backTo pos (starEach es X.env)).any (·.1) = false) :
    PS X (.Raise (some (.Call (.Name nm p) (e :: es) [] pos)) none pos') (TS1 (gsOf X g) W fun ρ s => sBind ρ (fs ρ) (fun vs s' => if vs.length = fn.length then .exc (.exc c (revZ fn vs [])) ρ s' else .stuck) s) := by
  refine PS.weak (ps_raise hc tk (pmk_ev hr T hg hdb ha he hpl)) fun D σ H ⟨B, F, ι, ρ, s, R, ev, p⟩ => ?_
  refine TS1.first R ev p fun vs H1 F1 ι1 as s1 st R1 ev1 d p1 => ?_
  split at p1
  · rename_i hl
    refine mk_args (K := X.K) (C := C) (Q := fun cls d H' => W cls d σ H') (by rw [d.length, hl]) h8 fun d0 hd0 => ?_
    obtain ⟨st2, R2⟩ := R1.fresh (.xd (revZ fn vs [])) hd0
    have dd := d.stp st2
    obtain ⟨k1, k2⟩ := revZ_den (fs := fn) (a1 := []) (a2 := []) dd rfl .nil
    exact p1 (.ref C) (some d0) σ _ _ _ st2 R2 (ev1.stp st2) ⟨C, hC, rfl, d0, _, rfl, upd_same, k1, k2⟩
  · exact p1.elim
theorem ds_tryK {x n m : Str} {cv : Value} {i j : Nat} {body : List Stmt} {np p1 p2 p3 pos pos' : Pos} {fb : AE → AS → SRs} {Wout : WX}
    (hs : X.stack = X.env :: X.outer) (hf : X.env.frame = some X.env.locals) (hex : X.ex = []) (hN : X.N.Nodup) (hi : X.N[i]? = some n) (hln : X.env.kindOf n = some .local) (hj : X.N[j]? = some m) (hlm : X.env.scope.names.lookup m = some .local) (hln2 : X.env.scope.names.lookup n = some .local)
    (hdn : (n == ("__debug__" : Str)) = false) (hcn : (n == ("__classdict__" : Str)) = false) (hc : Names X x cv) (tk : Takes X Wout) (hx : ∀ c C, g.exA c = some C → PySem.W.exmOne X.K (.ref C) cv = some true)
    (hb : ∀ (W : WX) (pn : List (Addr × Obj)) (xe : Value → Shared → Prop), Takes (X.tr pn xe) W → PassesOwn (model X.prog X.w) X.A X.env xe → PSs (X.tr pn xe) body (TS1 (gsOf X g) W fb)) :
    PS X (.Try body [.ExceptHandler (some (.Name x np)) (some n) [.Assign [.Name m p1] (.Name n p2) p3] pos'] [] [] pos) (TS1 (gsOf X g) Wout fun ρ s => tryR i j (fb ρ s)) := by
  refine PS.weak (ps_tryK hs hf hex hN hi hln hj hlm hln2 hdn hcn (List.getElem?_eq_some_iff.mp hi).1 hc tk (tb := fun W => TS1 (gsOf X g) W fb) hb) fun D σ H ⟨B, F, ι, ρ, s, R, ev, p⟩ => ?_
  refine ⟨B, F, ι, ρ, s, R, ev, ?_⟩
  revert p
  show PoS _ _ _ _ _ _ _ (tryR i j (fb ρ s)) → _
  cases fb ρ s with
  | next ρ5 s5 => exact id
  | cont ρ5 s5 => exact id
  | brk ρ5 s5 => exact id
  | ret a s5 => exact id
  | stuck => exact id
  | exc v ρ5 s5 =>
    intro p cls d σ5 H5 F5 ι5 st R5 ev5 ed
    have p : PoS (gsOf X g) B Wout D F ι s (if i < ρ5.length ∧ j < ρ5.length then .next (((ρ5.set i (some v)).set j (some v)).set i none) s5 else .stuck) := p
    by_cases hlt : i < ρ5.length ∧ j < ρ5.length
    · rw [if_pos hlt] at p
      cases v with
      | exc c fs =>
        obtain ⟨C, hC, rfl, dx, vfs, rfl, hdx, hk, dd⟩ := ed
        refine ⟨true, hx c C hC, fun _ => ⟨C, dx, rfl, rfl, fun a ha => ?_⟩, fun z => nomatch z⟩
        obtain ⟨st2, R2⟩ := R5.fresh (exT C dx a) ha
        have ne : dx ≠ a := fun z => by
          have := R5.sub _ _ hdx
          rw [z, ha] at this; cases this
        have dn : Den (gsOf X g) (upd F5 a (exT C dx a)) ι5 (.ref a) (.exc c fs) := .exc hC upd_same (by rw [upd_ne ne]; exact hdx) hk (dd.stp st2)
        exact p _ _ _ _ (st.trans st2) R2 ((((ev5.stp st2).set dn).set dn).none)
      | _ => exact ed.elim
    · rw [if_neg hlt] at p
      exact (show False from p).elim
end
end Ev

set_option linter.all false
set_option maxRecDepth 100000
set_option maxHeartbeats 1000000
/-! EvLa: a lambda, perhaps with one default, made and called; a def that hears what it raises. Own work. -/
namespace Ev
open PySem PySem.Spec PyProof.Rows L2

/-- the lambda's object -/
abbrev lamO (q : Str) (prm : Arguments) (bd : Expr) (sc : Scope) (cl : List (Str × Addr)) (dV doc pm : Value) (c' : Addr) (ct : Value) : Obj := PySem.W.kdv_obj "<lambda>" q prm (.expr bd) sc cl dV doc pm c' ct
/-- its names: captured ones, globals, and such as the def around does not have -/
structure LamN (N : List Str) (out sc : Scope) : Prop where
  fn : sc.kind = .function
  noco : sc.isCoroutine = false
  nogen : sc.isGenerator = false
  nocell : ∀ z ∈ sc.names, z.2 ≠ .cell
  mine : ∀ z ∈ sc.names, z.2 = .local → z.1 ∉ N
  capt : ∀ z ∈ sc.names, z.2 = .free → out.names.lookup z.1 = some .cell ∨ out.names.lookup z.1 = some .free
def lamNB (N : List Str) (out sc : Scope) : Bool := decide (sc.kind = .function) && !sc.isCoroutine && !sc.isGenerator &&
  sc.names.all fun z => !decide (z.2 = .cell) && (!decide (z.2 = .local) || !N.contains z.1) && (!decide (z.2 = .free) || decide (out.names.lookup z.1 = some .cell) || decide (out.names.lookup z.1 = some .free))
theorem lamN_of {N : List Str} {out sc : Scope} (h : lamNB N out sc = true) : LamN N out sc := by
  unfold lamNB at h
  simp only [Bool.and_eq_true, Bool.or_eq_true, Bool.not_eq_true', decide_eq_true_eq, decide_eq_false_iff_not, List.all_eq_true] at h
  obtain ⟨⟨⟨a, b⟩, c⟩, d⟩ := h
  refine ⟨a, b, c, fun z hz => (d z hz).1.1, fun z hz e m => ?_, fun z hz e => ?_⟩
  · rcases (d z hz).1.2 with k | k
    · exact k e
    · rw [List.contains_iff_mem.mpr m] at k; cases k
  · rcases (d z hz).2 with (k | k) | k
    · exact absurd e k
    · exact .inl k
    · exact .inr k
theorem LamN.has {X : Cx} {sc : Scope} (L : LamN X.N X.env.scope sc) (ok : X.Ok) : ∀ z ∈ sc.names, z.2 = .free → ∃ c, X.env.cells.lookup z.1 = some c :=
  fun z hz e => ok.has z.1 (L.capt z hz e)

section
variable {X : Cx} {pins : List (Addr × Obj)} {σ : L2.St} {H : Hp} {s : Shared}
/-- all but the table at P stays -/
def Kept (P : Addr) (H H' : Hp) : Prop := ∀ b u, b ≠ P → H b = some u → H' b = some u
/-- the lambda is made -/
theorem lam_tail {T : List (Addr × Str)} {c P : Addr} {prm : Arguments} {bd : Expr} {sc : Scope} {pos : Pos} {dV : Value} {E Q : Value → Shared → Prop} (I : Inv X pins σ H s) (TB : LamX.TabB X.base X.mg c P) (hcode : X.env.code = .ref c)
    (hm : (P, X.env.qual ++ "<lambda>") ∈ T) (hu : ∀ p ∈ T, p.1 = P → p.2 = X.env.qual ++ "<lambda>") (hT : LamX.Tabs T H) (hfree : ∀ z ∈ sc.names, z.2 = .free → ∃ c, X.env.cells.lookup z.1 = some c)
    (k : ∀ (f c' : Addr) (doc pm ct : Value) (H1 : Hp) (s' : Shared), Inv X pins σ H1 s' → Kept P H H1 → LamX.Tabs T H1 → (∀ b o, b ≠ P → s.heap.get? b = some o → s'.heap.get? b = some o) → (∀ b, s.heap.get? b ≠ none → H b = none → H1 b = none) →
      s'.heap.get? f = some (lamO (X.env.qual ++ "<lambda>") prm bd sc (cloFrom X.env.cells sc.names []) dV doc pm c' ct) → H1 f = none → f ∉ frs X.stack → H1 c' = some (LamX.CodeO c' (X.env.qual ++ "<lambda>")) → Q (.ref f) s') :
    wpAny (model X.prog X.w) X.A (makeTail "<lambda>" (X.env.qual ++ "<lambda>") prm (.expr bd) sc X.env dV .none none pos pos.line) Q E s := by
  obtain ⟨ps, hP, tri, am⟩ := hT _ hm
  have bP := TB.bm.keeps I.bk
  have hPh : s.heap.get? P = some { cls := .none, data := .fields ps } := I.hok P _ hP
  have far : ∀ b, s.heap.objs.size ≤ b → b ∉ frs X.stack := fun b hb z => by
    rcases List.mem_cons.mp (I.stkSub _ z) with e | e
    · have lt := I.lt
      exact absurd (Nat.lt_of_lt_of_le lt hb) (by rw [e]; exact Nat.lt_irrefl _)
    · exact I.nofs hb e
  cases hcd : codeAmong pos ps.toList with
  | some cv =>
    obtain ⟨c', rfl, hco⟩ := am pos cv hcd
    refine PySem.W.kdv_makeTailHit (mg := X.mg) (c := c) (P := P) (ps := ps) (closure_ok hfree) I.ok.glob (I.mod.glob.keeps I.bk) hcode (TB.code.keeps I.bk) hPh tri hcd bP fun ct doc h' tk hx hsz => ?_
    have I1 := Inv.kept (h' := h'.push (lamO (X.env.qual ++ "<lambda>") prm bd sc (cloFrom X.env.cells sc.names []) dV doc ((X.mg "__name__").getD .none) c' ct)) (t' := tk) I fun b o e => Heap.get?_push_of_some _ (hx b o e)
    exact k _ c' doc _ ct H _ I1 (fun _ _ _ e => e) hT (fun b o _ e => Heap.get?_push_of_some _ (hx b o e)) (fun _ _ e => e) (Heap.get?_push_size _ rfl) (I.hok.fresh hsz) (far _ hsz) hco
  | none =>
    refine PySem.W.kdv_makeTail (mg := X.mg) (c := c) (P := P) (ps := ps) (closure_ok hfree) I.ok.glob (I.mod.glob.keeps I.bk) hcode (TB.code.keeps I.bk) hPh tri hcd TB.gP bP fun c' ct doc h' tk hx hge hlt hrec htb => ?_
    obtain ⟨_, oc, vs, t, e2, hoc, hd, hv⟩ := hrec
    cases e2
    have nC : H c' = none := I.hok.fresh hge
    have nPc : P ≠ c' := ne_of_none hP nC
    have I1 := LamX.inv_table (t' := tk) (more := #[rawInt pos.line, rawInt pos.col, .ref c']) (h' := h'.push (lamO (X.env.qual ++ "<lambda>") prm bd sc (cloFrom X.env.cells sc.names []) dV doc ((X.mg "__name__").getD .none) c' ct)) I hP
      (fun b o hb e => Heap.get?_push_of_some _ (hx b o hb e)) (Heap.get?_push_of_some _ htb) hge ⟨oc, vs, t, Heap.get?_push_of_some _ hoc, hd, hv⟩
    have kp : Kept P H (upd (upd H P (.tbl (ps ++ #[rawInt pos.line, rawInt pos.col, .ref c']))) c' (LamX.CodeO c' (X.env.qual ++ "<lambda>"))) := fun b u hb e => by
      rw [upd_ne (ne_of_none e nC), upd_ne hb]; exact e
    have tl : (ps ++ #[rawInt pos.line, rawInt pos.col, .ref c']).toList = ps.toList ++ [rawInt pos.line, rawInt pos.col, .ref c'] := by simp
    have code_ne : ∀ {c0 : Addr}, H c0 = some (LamX.CodeO c0 (X.env.qual ++ "<lambda>")) → c0 ≠ P := fun {c0} e z => by
      rw [z, hP] at e
      exact LamX.codeO_ne _ (Option.some.inj e).symm
    have szle : s.heap.objs.size ≤ h'.objs.size := by omega
    refine k h'.objs.size c' doc _ ct _ _ I1 kp (fun p hp => ?_) (fun b o hb e => Heap.get?_push_of_some _ (hx b o hb e)) (fun b hb e => ?_) (Heap.get?_push_size _ rfl) ?_ (far _ szle) upd_same
    · by_cases hb : p.1 = P
      · rw [hu p hp hb, hb]
        refine ⟨_, by rw [upd_ne nPc, upd_same], by rw [tl]; exact PySem.TriplesOk_snoc _ _ _ _ tri, fun p2 cv hcv => ?_⟩
        rw [tl] at hcv
        rcases LamX.among_app _ tri hcv with z | z
        · obtain ⟨c0, e1, e2⟩ := am p2 cv z
          exact ⟨c0, e1, kp _ _ (code_ne e2) e2⟩
        · exact ⟨c', z, upd_same⟩
      · obtain ⟨qs, a1, a2, a3⟩ := hT p hp
        refine ⟨qs, kp _ _ hb a1, a2, fun p2 cv hcv => ?_⟩
        obtain ⟨c0, e1, e2⟩ := a3 p2 cv hcv
        refine ⟨c0, e1, kp _ _ (fun z => ?_) e2⟩
        rw [z, hP] at e2
        exact LamX.codeO_ne _ (Option.some.inj e2).symm
    · have b1 : b ≠ c' := fun z => by
        subst z
        have : s.heap.get? b = none := Heap.get?_none_of_le hge
        exact hb this
      have b2 : b ≠ P := fun z => by rw [z, hP] at e; cases e
      rw [upd_ne b1, upd_ne b2]; exact e
    · have n1 : h'.objs.size ≠ c' := Nat.ne_of_gt hlt
      have n2 : h'.objs.size ≠ P := Nat.ne_of_gt (Nat.lt_of_lt_of_le (Heap.lt_size hPh) szle)
      rw [upd_ne n1, upd_ne n2]
      exact I.hok.fresh szle
/-- its default, if it has one -/
def DflH (X : Cx) (prm : Arguments) (dV : Value) (H : Hp) (s : Shared) : Prop :=
  (prm.defaults = [] ∧ dV = .none) ∨ ∃ (e : Expr) (T0 : Addr) (v : Value), prm.defaults = [e] ∧ dV = .ref T0 ∧ s.heap.get? T0 = some (PySem.W.kdv_tup [v]) ∧ H T0 = none ∧ T0 ∉ frs X.stack
/-- no default, or one that is an integer -/
def dflI (prm : Arguments) : Bool := (match prm.kw_defaults with | [] => true | _ => false) && match prm.defaults with
  | [] => true
  | [.Constant (.int _) _ _] => true
  | _ => false
theorem lam_ev {T : List (Addr × Str)} {c P : Addr} {prm : Arguments} {bd : Expr} {sc : Scope} {pos : Pos} {E Q : Value → Shared → Prop} (I : Inv X pins σ H s) (TB : LamX.TabB X.base X.mg c P) (hcode : X.env.code = .ref c)
    (hm : (P, X.env.qual ++ "<lambda>") ∈ T) (hu : ∀ p ∈ T, p.1 = P → p.2 = X.env.qual ++ "<lambda>") (hT : LamX.Tabs T H) (hfree : ∀ z ∈ sc.names, z.2 = .free → ∃ c, X.env.cells.lookup z.1 = some c) (hd : dflI prm = true)
    (k : ∀ (f c' : Addr) (dV doc pm ct : Value) (H1 : Hp) (s' : Shared), Inv X pins σ H1 s' → Kept P H H1 → LamX.Tabs T H1 → DflH X prm dV H1 s' →
      s'.heap.get? f = some (lamO (X.env.qual ++ "<lambda>") prm bd sc (cloFrom X.env.cells sc.names []) dV doc pm c' ct) → H1 f = none → f ∉ frs X.stack → H1 c' = some (LamX.CodeO c' (X.env.qual ++ "<lambda>")) → Q (.ref f) s') :
    wpAny (model X.prog X.w) X.A (eval (.Lambda prm bd sc pos) X.env) Q E s := by
  unfold dflI at hd
  rw [Bool.and_eq_true] at hd
  obtain ⟨hk0, hd⟩ := hd
  have hkd : prm.kw_defaults = [] := by
    split at hk0
    · assumption
    · cases hk0
  split at hd
  · rename_i hd0
    refine PySem.W.kla_eval (by obtain ⟨a1, a2, a3, a4, a5, a6, a7⟩ := prm; simp only at hkd hd0; subst hkd; subst hd0; rfl) ?_
    rw [makeFunction_eq]
    simp only [List.zip_nil_right, List.filterMap_nil, List.isEmpty_nil, if_true, pure_bind]
    exact lam_tail I TB hcode hm hu hT hfree fun f c' doc pm ct H1 s' I1 kp T1 _ _ h1 h2 h3 h4 => k f c' .none doc pm ct H1 s' I1 kp T1 (.inl ⟨hd0, rfl⟩) h1 h2 h3 h4
  · rename_i i j p hd0
    refine PySem.W.kdv_lam (by rw [hd0]; rfl) hkd ?_
    rw [hd0]
    refine PySem.W.kdv_all1 (thn ((pe_int (X := X) (i := i) (j := j) (pos := p)).run pins s σ H (fun _ H1 => H1 = H) I rfl) fun u s1 ⟨v, H1, I1, _, e⟩ => ?_)
    subst e
    refine PySem.W.kdv_all0 ?_
    rw [makeFunction_eq]
    simp only [List.zip_nil_right, List.filterMap_nil, List.isEmpty_nil, List.isEmpty_cons, Bool.false_eq_true, if_false, if_true, pure_bind]
    refine wpAny_bind (wpAny_newTextTuple ?_)
    have I2 := Inv.kept (h' := s1.heap.push (PySem.W.kdv_tup [u])) (t' := s1.toks) I1 fun b o e => Heap.get?_push_of_some _ e
    have g0 : (s1.heap.push (PySem.W.kdv_tup [u])).get? s1.heap.objs.size = some (PySem.W.kdv_tup [u]) := Heap.get?_push_size _ rfl
    have n0 : H1 s1.heap.objs.size = none := I1.hok.fresh (Nat.le_refl _)
    have nfr : s1.heap.objs.size ∉ frs X.stack := fun z => by
      rcases List.mem_cons.mp (I1.stkSub _ z) with e | e
      · have lt := I1.lt
        rw [← e] at lt
        exact Nat.lt_irrefl _ lt
      · exact I1.nofs (Nat.le_refl _) e
    refine lam_tail I2 TB hcode hm hu hT hfree fun f c' doc pm ct H2 s' I3 kp T1 hp hn h1 h2 h3 h4 => k f c' _ doc pm ct H2 s' I3 kp T1 (.inr ⟨_, _, u, hd0, rfl, ?_, hn _ (by rw [g0]; exact fun z => nomatch z) n0, nfr⟩) h1 h2 h3 h4
    refine hp _ _ (fun z => ?_) g0
    obtain ⟨ps, hP, _⟩ := hT _ hm
    rw [← z] at hP
    rw [n0] at hP
    cases hP
  · cases hd
end

/-! ### the lambda's body -/
section
variable {X : Cx} {pins : List (Addr × Obj)} {σ : L2.St} {H HZ : Hp} {s s1 : Shared}
theorem lam_begin {A : Around} {outer : List Env} {E : XK} {sc : Scope} {f c' : Addr} {h1 : Heap} {tk : Nat} {m : Str → Option Value} (I : Inv X pins σ H s) (L : LamN X.N X.env.scope sc) (e0 : Env0 X.prog X.w X.K X.mg X.base A outer s1 HZ) (hd : A.handled = none)
    (un : Un (frs X.stack) [] H HZ s.heap s1.heap) (ns : h1.Ns s1.heap.objs.size m) (kp : ∀ b o, s1.heap.get? b = some o → h1.get? b = some o) :
    Inv (LamX.lamCx X A outer s1 HZ E sc f c') [] σ HZ { s1 with heap := h1, toks := tk } := by
  have hfree := L.has I.ok
  have back : ∀ {y : Str} {c : Addr}, (cloFrom X.env.cells sc.names []).lookup y = some c → X.env.cells.lookup y = some c := fun {y c} e => by
    rcases cloFrom_mem (PySem.mem_of_lookup e) with h | ⟨h, q⟩
    · cases h
    · obtain ⟨c1, hc⟩ := hfree (y, .free) h rfl
      have hc' : X.env.cells.lookup y = some c1 := hc
      rw [hc'] at q
      rw [hc', q]; rfl
  have forth : ∀ {y : Str}, sc.names.lookup y = some .free → ∃ c, (cloFrom X.env.cells sc.names []).lookup y = some c := fun {y} hl => mem_lookup (cloFrom_has (PySem.mem_of_lookup hl))
  have cellK : ∀ {c : Addr} {v : Option Value}, H c = none → s.heap.IsCell c v → h1.IsCell c v := fun {c v} n ⟨o, ho, hd⟩ => by
    obtain ⟨sl, q⟩ := un.any ho n (fun z => nomatch z)
    exact ⟨_, kp _ _ q, hd⟩
  have noA : ∀ b : Addr, b ∉ (LamX.lamCx X A outer s1 HZ E sc f c').ex := fun b z => nomatch (show b ∈ ([] : List Addr) from z)
  have nocell : ∀ {y : Str}, sc.names.lookup y ≠ some .cell := fun hy => L.nocell _ (PySem.mem_of_lookup hy) rfl
  have ok : (LamX.lamCx X A outer s1 HZ E sc f c').Ok := {
    mod := e0.mod
    kind := L.fn
    glob := rfl
    blt := rfl
    above := Nat.le_refl _
    inj := fun y z c e1 e2 => I.ok.inj y z c (back e1) (back e2)
    has := fun y hy => hy.elim (fun k => absurd k nocell) forth
    cab := fun y c z _ => nomatch (show false = true from z)
    hd := fun _ => hd
    frames := Around.frames_deeper e0.frames
    stk := .inr ⟨rfl, rfl⟩
    exf := fun b z => absurd z (noA b)
    bs := e0.bs
    bsz := e0.bsz
    noex := fun b _ _ => noA b
    exfs := fun b z => absurd z (noA b)
    funs := e0.funs
    frf := e0.frf }
  refine ⟨ok, rfl, e0.bare, Un.kept kp, ⟨_, ns, fun i y v e1 e2 vis => ?_⟩, fun y c e => ?_, e0.hok.fresh (Nat.le_refl _), fun y c e => ?_, (fun q hq => nomatch (show q ∈ ([] : List (Addr × Obj)) from hq)), e0.hok.kept kp, I.len⟩
  · rcases (show Vis sc y from vis) with k | k | k
    · exact absurd (List.mem_of_getElem? e1) (L.mine _ (PySem.mem_of_lookup k) rfl)
    · exact absurd k nocell
    · have cap := L.capt _ (PySem.mem_of_lookup k) rfl
      obtain ⟨m0, _, hl⟩ := I.loc
      obtain ⟨w, r, q⟩ := hl i y v e1 e2 (cap.elim (fun z => .inr (.inl z)) fun z => .inr (.inr z))
      obtain ⟨c2, h2⟩ := forth k
      refine ⟨w, r, .inr ⟨.inr k, c2, h2, ?_⟩⟩
      rcases q with ⟨lc, _⟩ | ⟨_, c3, e3, z⟩
      · have lc : X.env.scope.names.lookup y = some .local := lc
        rcases cap with k2 | k2 <;> rw [show X.env.scope.names.lookup y = _ from k2] at lc <;> cases lc
      · rw [back h2] at e3
        cases e3
        exact cellK (I.freeC y _ (back h2)) z
  · obtain ⟨v, z⟩ := I.cell y c (back e)
    exact ⟨v, cellK (I.freeC y c (back e)) z⟩
  · obtain ⟨v, o, ho, _⟩ := I.cell y c (back e)
    exact un.free c o ho (I.freeC y c (back e)) (fun z => nomatch z)
/-- how its parameters come to be: none, or one by its default -/
def BindL (prm : Arguments) (N : List Str) (sc : Scope) : Prop :=
  (prm.defaults = [] ∧ ∀ fd : FuncData, fd.params = prm → fd.defaults = .none → bindArgs fd ⟨[], []⟩ = pure []) ∨
  ∃ (e : Expr) (y : Str), prm.defaults = [e] ∧ sc.names.lookup y = some .local ∧ ∀ (fd : FuncData) (T0 : Addr), fd.params = prm → fd.defaults = .ref T0 → ∃ k, bindArgs fd ⟨[], []⟩ = seqItems? (.ref T0) >>= k ∧ ∀ v : Value, k (some #[v]) = pure [(y, v)]
/-- x() in the def that got the lambda -/
theorem act_ok {CXg : CXT} {Eg : XK} {Ng : List Str} {qg : Str} {sg : Scope} {g f c' : Addr} {cdg dV doc pm ct : Value} {prm : Arguments} {bd : Expr} {sc : Scope} {k i : Nat} {a : Str} {pn : List (Addr × Obj)} {xe : Value → Shared → Prop} {W : WX} {tb : XK → TE} {p1 p2 : Pos}
    (I : Inv X pins σ H s) (L : LamN X.N X.env.scope sc) (hf : s.heap.get? f = some (lamO (X.env.qual ++ "<lambda>") prm bd sc (cloFrom X.env.cells sc.names []) dV doc pm c' ct)) (hfn : H f = none) (hfr : f ∉ frs X.stack)
    (hD : DflH X prm dV H s) (hB : BindL prm X.N sc)
    (tk : Takes ((cxOf CXg X.prog X.w X.K X.mg X.base Ng qg sg g cdg X.A X.stack s H Eg).tr pn xe) W) (hr : Room (k + 1) (X.A.deeper (envOfC qg sg s.heap.objs.size g cdg)))
    (hbody : ∀ (A : Around) (outer : List Env) (s2 : Shared) (H2 : Hp) (E : XK), A = X.A.deeper (envOfC qg sg s.heap.objs.size g cdg) → Room k (A.deeper (LamX.lamEnv X sc s2.heap.objs.size f c')) → PE (LamX.lamCx X A outer s2 H2 E sc f c') bd (tb E))
    (hN : Ng[i]? = some a) (hv : Vis sg a) (hd : (a == ("__debug__" : Str)) = false) (hcd : (a == ("__classdict__" : Str)) = false) :
    PE ((cxOf CXg X.prog X.w X.K X.mg X.base Ng qg sg g cdg X.A X.stack s H Eg).tr pn xe) (.Call (.Name a p1) [] [] p2)
      (fun σZ HZ Q => σZ[i]? = some (some (.ref f)) ∧ HZ c' = some (LamX.CodeO c' (X.env.qual ++ "<lambda>")) ∧ tb (fun cls d H' => W cls d σZ H') σ HZ Q) := by
  constructor
  intro pinsZ sZ σZ HZ Q IZ hh
  obtain ⟨hs, hc, ht⟩ := hh
  have nm := (pe_var (X := (cxOf CXg X.prog X.w X.K X.mg X.base Ng qg sg g cdg X.A X.stack s H Eg).tr pn xe) (pos := p1) (i := i) hN hv hd hcd).run pinsZ sZ σZ HZ (fun v H1 => v = .ref f ∧ H1 = HZ) IZ ⟨.ref f, hs, rfl, rfl⟩
  refine wpAny_Call_Name_kw (thn nm fun u s1 ⟨v, H1, I1, r1, q1⟩ => ?_)
  obtain ⟨rfl, rfl⟩ := q1
  cases r1
  have stays : ∀ b o, s.heap.get? b = some o → H b = none → b ∉ frs X.stack → s1.heap.get? b = some o := fun b o e n nf => I1.base.keep b o e n nf (fun z => nomatch (show b ∈ ([] : List Addr) from z))
  have of1 := stays f _ hf hfn hfr
  have un : Un (frs X.stack) [] H H1 s.heap s1.heap := I1.base
  obtain ⟨⟨oc, vs, t, hoc, hdc, hvc⟩, _, _⟩ := I1.hok c' _ hc
  have bnd : ∃ bs : List (Str × Value), BindsTo s1 (PySem.W.kdv_fn "<lambda>" (X.env.qual ++ "<lambda>") prm (.expr bd) sc (cloFrom X.env.cells sc.names []) dV doc pm (.ref c') ct) ⟨[], []⟩ bs ∧ ∀ y ∈ bs, sc.names.lookup y.1 = some .local := by
    rcases hD with ⟨d0, rfl⟩ | ⟨e, T0, v, d1, rfl, g1, n1, f1⟩
    · rcases hB with ⟨_, hb⟩ | ⟨_, _, d2, _⟩
      · exact ⟨[], .of_eq (hb _ rfl rfl), fun y hy => nomatch hy⟩
      · rw [d0] at d2; cases d2
    · rcases hB with ⟨d2, _⟩ | ⟨_, y, d2, hy, hb⟩
      · rw [d1] at d2; cases d2
      · obtain ⟨k, e1, e2⟩ := hb (PySem.W.kdv_fn "<lambda>" (X.env.qual ++ "<lambda>") prm (.expr bd) sc (cloFrom X.env.cells sc.names []) (.ref T0) doc pm (.ref c') ct) T0 rfl rfl
        refine ⟨[(y, v)], .of_defaults rfl (stays T0 _ g1 n1 f1) rfl e1 (e2 v), fun z hz => ?_⟩
        simp at hz
        subst hz
        exact hy
  obtain ⟨bs, hbs, hloc⟩ := bnd
  have rc : codeAny (model X.prog X.w) (X.A.deeper (envOfC qg sg s.heap.objs.size g cdg)) (.call (.ref f) ⟨[], []⟩) (CR (L2.CX X.prog X.w) (envOfC qg sg s.heap.objs.size g cdg :: X.stack) X.prog X.w H1 s1 Q (fun cls d H' => W cls d σZ H')) s1 := by
    refine PySem.W.kla_callFunE hr.depth of1 rfl L.noco L.nogen rfl ⟨c', oc, vs, t, rfl, hoc, hdc, hvc⟩ (hbs _ _ _ _ ?_)
    refine wpAny_newFunctionEnv L.nocell hloc (fun h1 ns sb => ⟨I1.nolimit.fresh _ sb, ?_⟩) L.fn
    have kp : ∀ b o, s1.heap.get? b = some o → h1.get? b = some o := fun b o e => sb.extBut b o (Nat.ne_of_lt (Heap.lt_size e)) (Heap.get?_push_of_some _ e)
    have J := lam_begin (A := X.A.deeper (envOfC qg sg s.heap.objs.size g cdg)) (outer := envOfC qg sg s.heap.objs.size g cdg :: X.stack) (E := fun cls d H' => W cls d σZ H') (f := f) (c' := c') (tk := s1.toks + bs.length) I L I1.env0 hr.hd un ns kp
    refine PySem.W.kla_codeExpr (wpAny_mono ((hbody _ _ s1 H1 _ rfl (hr.deeper _)).run [] _ _ H1 Q J ht) (fun v s' hq => ?_) fun e s' hq => hq)
    obtain ⟨w', H', J', rv, q⟩ := hq
    exact ⟨w', H', J'.os, J'.bare, J'.base, J'.hok, rv, q⟩
  refine PySem.W.callWith_F0 ⟨_, _, _, _, of1⟩ (wpAny_call (codeAny_mono rc fun r s' hq => ?_))
  cases r with
  | error e => exact passAt tk σZ pinsZ H1 s1 e s' I1 hq
  | ok fl =>
    cases fl with
    | ret u => exact I1.after hq
    | next => exact False.elim hq
    | brk => exact False.elim hq
    | cont => exact False.elim hq
end

/-! ### a def that hears -/
theorem Rel.kept {G : GS} {B F : Hp} {ι : List Addr} {H H1 : Hp} {s : AS} {P : Addr} {q : Str} (R : Rel G B F ι H s) (hP : (P, q) ∈ G.T) (kp : Kept P H H1) (T1 : LamX.Tabs G.T H1) : Rel G B F ι H1 s := by
  have nF : ∀ {b : Addr} {u : HO}, F b = some u → b ≠ P := fun {b u} e z => by
    have := R.tab.nf _ hP
    rw [← z] at this
    rw [this] at e; cases e
  have nB : ∀ {b : Addr} {u : HO}, B b = some u → b ≠ P := fun {b u} e z => by
    have := R.tab.nb _ hP
    rw [← z] at this
    rw [this] at e; cases e
  have ni : ∀ {b : Addr}, b ∈ ι → b ≠ P := fun {b} hb z => R.tab.ni _ hP (by rw [← z]; exact hb)
  refine ⟨fun b u e => kp b u (nF e) (R.sub b u e), fun b u e => ?_, R.len, R.nd, fun a ha => ?_, fun n a o hn hc => ?_, ⟨T1, R.tab.nf, R.tab.nb, R.tab.ni⟩⟩
  · obtain ⟨h1, h2, h3⟩ := R.out b u e
    exact ⟨kp b u (nB e) h1, h2, h3⟩
  · obtain ⟨u, hu⟩ := R.here a ha
    exact ⟨u, kp a u (ni ha) hu⟩
  · exact (R.cell n a o hn hc).mono (Same.refl _) (List.prefix_refl _) id fun u hu => kp a u (ni (List.mem_of_getElem? hn)) hu
/-- the slots of a def that hears: what it asks, what it caught, the clause's name, .. -/
def hearE (n : Nat) (x : AV) : AE := none :: some x :: List.replicate (n - 2) none
section
variable {X : Cx} {g : GN} {W : WX}
theorem de_heard {T0 : Unit} {x a m e xb : Str} {gA c P S0 : Addr} {prm pg : Arguments} {bd : Expr} {sc sg : Scope} {dV kV doc pm cdv ct oc : Value} {an od : Option Addr} {osl : Array (Option Value)} {Nr : List Str} {rest : List Stmt} {k : Nat}
    {p lpos pos q1 q2 q3 q4 q5 q6 q7 q8 q9 q10 q11 q12 : Pos} {j : Nat} {fE : AE → MM AV} {fR : AE → AS → SRs}
    (hg : Gl X x) (hm : X.mg x = some (.ref gA)) (hk : PySem.W.keepIn X.K (.ref gA) = true) (hdb : (x == ("__debug__" : Str)) = false) (tk : Takes X W)
    (lk : X.K.lookup gA = some ⟨oc, od, .func (PySem.W.fnOf x x pg (.Assign [.Name m q1] (.Constant .none j q2) q3 :: .Try [.Expr (.Call (.Name a q4) [] [] q5) q6] [.ExceptHandler (some (.Name xb q7)) (some e) [.Assign [.Name m q8] (.Name e q9) q10] q11] [] [] q12 :: rest) sg dV kV doc pm an cdv ct), osl⟩)
    (hcg : PySem.W.codeIn X.K cdv x = true)
    (hb : Binds X.K (PySem.W.fnOf x x pg (.Assign [.Name m q1] (.Constant .none j q2) q3 :: .Try [.Expr (.Call (.Name a q4) [] [] q5) q6] [.ExceptHandler (some (.Name xb q7)) (some e) [.Assign [.Name m q8] (.Name e q9) q10] q11] [] [] q12 :: rest) sg dV kV doc pm an cdv ct) [a] [])
    (Sg : FnScope (a :: m :: e :: Nr) [a] sg) (hva : Vis sg a) (hda : (a == ("__debug__" : Str)) = false ∧ (a == ("__classdict__" : Str)) = false) (hlm : sg.names.lookup m = some .local) (hle : sg.names.lookup e = some .local)
    (hde : (e == ("__debug__" : Str)) = false ∧ (e == ("__classdict__" : Str)) = false) (hgx : sg.names.lookup xb = some .globalImplicit) (hdx : (xb == ("__debug__" : Str)) = false) (hmx : X.mg xb = some (.ref S0)) (hx : ∀ c C, g.exA c = some C → PySem.W.exmOne X.K (.ref C) (.ref S0) = some true)
    (TB : LamX.TabB X.base X.mg c P) (hcode : X.env.code = .ref c) (hmT : (P, X.env.qual ++ "<lambda>") ∈ g.T) (hu : ∀ p ∈ g.T, p.1 = P → p.2 = X.env.qual ++ "<lambda>")
    (L : LamN X.N X.env.scope sc) (hd : dflI prm = true) (hB : BindL prm X.N sc) (hr : Room (k + 2) X.A)
    (hE : ∀ (A : Around) (outer : List Env) (s2 : Shared) (H2 : Hp) (E : XK) (f c' : Addr) (env : Env), A = X.A.deeper env → Room k (A.deeper (LamX.lamEnv X sc s2.heap.objs.size f c')) → PE (LamX.lamCx X A outer s2 H2 E sc f c') bd (TE1 (gsOf X g) (fun cls d _ H => E cls d H) fE))
    (hR : ∀ (s2 : Shared) (H2 : Hp) (E : XK), Room (k + 1) (X.A.deeper (envOfC x sg s2.heap.objs.size gA cdv)) → PSs (cxOf (L2.CX X.prog X.w) X.prog X.w X.K X.mg X.base (a :: m :: e :: Nr) x sg gA cdv X.A X.stack s2 H2 E) rest (TS1 (gsOf X g) (fun cls d _ H => E cls d H) fR)) :
    PE X (.Call (.Name x p) [.Lambda prm bd sc lpos] [] pos) (TE1 (gsOf X g) W fun ρ s => heardR (fE ρ s) fun y s1 => leaveF s1 false (fR (hearE (a :: m :: e :: Nr).length y) { cells := s1.cells, opn := false })) := by
  constructor
  intro pins s σ H Q I hh
  obtain ⟨B, F, ι, ρ, st, R, ev, po⟩ := hh
  dsimp only at po
  refine wpAny_Call_Name_kw (ld_glob I hg hm ?_ hdb)
  refine PySem.W.callWith_K (h₀ := X.base) I.ok.mod.kin hk ?_ rfl rfl
  refine Calls.spliced_cons (lam_ev (bd := bd) (pos := lpos) I TB hcode hmT hu R.tab.ok (L.has I.ok) hd fun f c' dV' doc' pm' ct' H1 s' I1 kp T1 hD hf hfn hfr hco => ?_)
  refine Calls.spliced_nil ⟨I1.kIn, ?_⟩
  have R1 := R.kept hmT kp T1
  have rc : codeAny (model X.prog X.w) X.A (.call (.ref gA) ⟨[.ref f], []⟩) (CR (L2.CX X.prog X.w) X.stack X.prog X.w H1 s' Q (fun c d H => W c d σ H)) s' := by
    refine LamX.run_ofS (N := a :: m :: e :: Nr) (ps := [a]) (us := [.ref f]) (vs := [.ref f]) lk hcg Sg hr I1.env0 (hb s' [.ref f] I1.kIn rfl) (.cons rfl .nil) rfl fun hr' => ?_
    have tkZ : Takes (cxOf (L2.CX X.prog X.w) X.prog X.w X.K X.mg X.base (a :: m :: e :: Nr) x sg gA cdv X.A X.stack s' H1 (fun c d H => W c d σ H)) (fun cls d _ H => W cls d σ H) := L2.takes_of (E := fun c d H => W c d σ H) rfl rfl rfl rfl
    have one := ps_set (X := cxOf (L2.CX X.prog X.w) X.prog X.w X.K X.mg X.base (a :: m :: e :: Nr) x sg gA cdv X.A X.stack s' H1 (fun c d H => W c d σ H)) (i := 1) (x := m) (pos := q3) (pos' := q1) Sg.nd rfl (.inl hlm) (pe_non (j := j) (pos := q2)) rfl (.inl rfl)
    have two := ps_tryK (X := cxOf (L2.CX X.prog X.w) X.prog X.w X.K X.mg X.base (a :: m :: e :: Nr) x sg gA cdv X.A X.stack s' H1 (fun c d H => W c d σ H)) (x := xb) (n := e) (m := m) (c := .ref S0) (i := 2) (j := 1) (body := [.Expr (.Call (.Name a q4) [] [] q5) q6]) (np := q7) (p1 := q8) (p2 := q9) (p3 := q10) (pos := q12) (pos' := q11)
      (tb := fun W' D σZ HZ => σZ[0]? = some (some (.ref f)) ∧ HZ c' = some (LamX.CodeO c' (X.env.qual ++ "<lambda>")) ∧ TE1 (gsOf X g) (fun cls d _ H' => W' cls d σZ H') fE σ HZ (fun _ H2 => D.nx σZ H2))
      rfl rfl rfl Sg.nd rfl hle rfl hlm hle hde.1 hde.2 (by show 2 < (a :: m :: e :: Nr).length; simp) ⟨hgx, hdx, .inl hmx⟩ tkZ
      (fun W' pn xe tk' own => pss_one (ps_expr (act_ok (tb := fun E => TE1 (gsOf X g) (fun cls d _ H => E cls d H) fE) I1 L hf hfn hfr hD hB tk' hr' (fun A outer s2 H2 E hA rm => hE A outer s2 H2 E f c' _ hA rm) rfl hva hda.1 hda.2) rfl))
    have three := hR s' H1 (fun c d H => W c d σ H) hr'
    refine ⟨_, pss_cons one (pss_cons two three), ?_⟩
    have len0 : ((L2.start (a :: m :: e :: Nr) [V.ref f]).set 1 (some V.non)).length = (a :: m :: e :: Nr).length := by simp [L2.start]
    have envOf : ∀ {F' : Hp} {ι' : List Addr} {w : V} {y : AV} {σ5 : L2.St}, σ5.length = (a :: m :: e :: Nr).length → σ5[1]? = some (some w) → Den (gsOf X g) F' ι' w y → EnvR (gsOf X g) F' ι' σ5 (hearE (a :: m :: e :: Nr).length y) := fun {F' ι' w y σ5} hl h1 dn => by
      refine ⟨by rw [hl]; simp [hearE], fun i z hi => ?_⟩
      match i, hi with
      | 0, hi => cases hi
      | 1, hi => cases hi; exact ⟨w, h1, dn⟩
      | i + 2, hi =>
        have : (List.replicate ((a :: m :: e :: Nr).length - 2) (none : Option AV))[i]? = some (some z) := hi
        rw [List.getElem?_replicate] at this
        split at this <;> cases this
    show (_ ∧ _ ∧ TE1 (gsOf X g) _ fE σ H1 _)
    refine ⟨rfl, hco, B, F, ι, ρ, st, R1, ev, ?_⟩
    revert po
    unfold heardR
    cases fE ρ st with
    | stuck => exact fun po => po.elim
    | ok v0 s1 =>
      intro po v H' F' ι' stp R' dn
      exact ⟨B, F', ι', _, _, rel_open R', envOf (w := .non) len0 rfl .non, leave_ok R'.len R'.refs (keep := false) (Po.base stp po)⟩
    | exc y s1 =>
      intro po cls d H' F' ι' stp R' ed
      cases y with
      | exc cc fs =>
        obtain ⟨C, hC, rfl, dx, vfs, rfl, hdx, hkk, dd⟩ := ed
        refine ⟨true, hx cc C hC, fun _ => ⟨C, dx, rfl, rfl, fun z hz => ?_⟩, fun z => nomatch z⟩
        obtain ⟨st2, R2⟩ := R'.fresh (exT C dx z) hz
        have ne : dx ≠ z := fun h => by
          have := R'.sub _ _ hdx
          rw [h, hz] at this; cases this
        have dn : Den (gsOf X g) (upd F' z (exT C dx z)) ι' (.ref z) (.exc cc fs) := .exc hC upd_same (by rw [upd_ne ne]; exact hdx) hkk (dd.stp st2)
        exact ⟨B, _, ι', _, _, rel_open R2, envOf (by simp [L2.start]) (by simp [L2.start]) dn, leave_ok R2.len R2.refs (keep := false) (Po.base (stp.trans st2) po)⟩
      | _ => exact ed.elim
  refine wpAny_call (codeAny_mono rc fun r s2 hq => ?_)
  cases r with
  | error e => exact passAt tk σ pins H1 s' e s2 I1 hq
  | ok fl =>
    cases fl with
    | ret u => exact I1.after hq
    | next => exact False.elim hq
    | brk => exact False.elim hq
    | cont => exact False.elim hq
end
end Ev

set_option linter.all false
set_option maxRecDepth 100000
set_option maxHeartbeats 1000000
/-! EvT: instances, sorted sets, chains: expressions and statements. Own work. -/
namespace Ev
open PySem PySem.Spec PyProof.Rows L2

/-! ### instances read -/
section
variable {G : GS} {B : Hp} {F : Hp} {ι : List Addr} {H : Hp} {s : AS}
theorem Rel.insR (R : Rel G B F ι H s) {v : V} {x : AV} {c : Nat} {fs : List (Str × AV)} (d : Den G F ι v x) (e : insOf s.cells x = some (c, fs)) :
    ∃ a C dx vfs, v = .ref a ∧ G.clA c = some C ∧ H a = some (.ins C dx vfs) ∧ vfs.map (·.1) = fs.map (·.1) ∧ DenAll G F ι (vfs.map (·.2)) (fs.map (·.2)) := by
  cases d with
  | non => simp [insOf] at e
  | bl b => simp [insOf] at e
  | int i => simp [insOf] at e
  | str z => simp [insOf] at e
  | fn _ => simp [insOf] at e
  | exc _ _ _ _ _ => simp [insOf] at e
  | tup _ _ => simp [insOf] at e
  | lst _ _ => simp [insOf] at e
  | dctK _ _ _ => simp [insOf] at e
  | ins hc h hk r =>
    simp [insOf] at e
    obtain ⟨rfl, rfl⟩ := e
    exact ⟨_, _, _, _, rfl, hc, R.sub _ _ h, hk, r⟩
  | @ref k a hk =>
    simp only [insOf] at e
    cases ec : s.cells[k]? with
    | none => rw [ec] at e; cases e
    | some o =>
      obtain ⟨a', ha', ok⟩ := R.cellOf ec
      rw [hk] at ha'; cases ha'
      rw [ec] at e
      cases o with
      | ins c' fs' =>
        simp only [Option.some.injEq, Prod.mk.injEq] at e
        obtain ⟨rfl, rfl⟩ := e
        obtain ⟨_, C, dx, vfs, h1, h2, h3, h4⟩ := ok
        exact ⟨a, C, dx, vfs, rfl, h2, h1, h3, h4⟩
      | frz w =>
        cases w with
        | ins c' fs' =>
          simp only [Option.some.injEq, Prod.mk.injEq] at e
          obtain ⟨rfl, rfl⟩ := e
          cases (show Den G F ι (.ref a) (.ins c' fs') from ok) with
          | ins hc h hk r => exact ⟨_, _, _, _, rfl, hc, R.sub _ _ h, hk, r⟩
        | _ => simp at e
      | lst _ => simp at e
      | dct _ => simp at e
theorem den_lookup {f : Str} : ∀ {vfs : List (Str × V)} {fs : List (Str × AV)} {x : AV}, vfs.map (·.1) = fs.map (·.1) → DenAll G F ι (vfs.map (·.2)) (fs.map (·.2)) → fs.lookup f = some x → ∃ v, vfs.lookup f = some v ∧ Den G F ι v x
  | [], [], _, _, _, e => by simp at e
  | (a, v) :: vfs, (b, y) :: fs, x, hk, hd, e => by
    simp only [List.map_cons, List.cons.injEq] at hk
    rw [List.map_cons, List.map_cons] at hd
    cases hd with
    | cons d r =>
      obtain ⟨h1, h2⟩ := hk
      subst h1
      simp only [List.lookup_cons] at e ⊢
      cases hb : f == a with
      | true => rw [hb] at e; cases e; exact ⟨v, rfl, d⟩
      | false => rw [hb] at e; exact den_lookup h2 r e
  | [], _ :: _, _, h, _, _ => by simp at h
  | _ :: _, [], _, h, _, _ => by simp at h
theorem put_names {f : Str} {w : V} {y : AV} : ∀ {vfs : List (Str × V)} {fs : List (Str × AV)}, vfs.map (·.1) = fs.map (·.1) → (putF f w vfs).map (·.1) = (putFA f y fs).map (·.1)
  | [], [], _ => rfl
  | (a, v) :: vfs, (b, x) :: fs, h => by
    simp only [List.map_cons, List.cons.injEq] at h
    obtain ⟨h1, h2⟩ := h
    have h1' : a = b := h1
    subst h1'
    unfold putF putFA
    by_cases e : a = f
    · rw [if_pos e, if_pos e]; simp [h2]
    · rw [if_neg e, if_neg e]; simp only [List.map_cons]; rw [put_names h2]
  | [], _ :: _, h => by simp at h
  | _ :: _, [], h => by simp at h
theorem put_den {f : Str} {w : V} {y : AV} (dw : Den G F ι w y) : ∀ {vfs : List (Str × V)} {fs : List (Str × AV)}, vfs.map (·.1) = fs.map (·.1) → DenAll G F ι (vfs.map (·.2)) (fs.map (·.2)) → DenAll G F ι ((putF f w vfs).map (·.2)) ((putFA f y fs).map (·.2))
  | [], [], _, _ => .cons dw .nil
  | (a, v) :: vfs, (b, x) :: fs, h, hd => by
    simp only [List.map_cons, List.cons.injEq] at h
    obtain ⟨h1, h2⟩ := h
    have h1' : a = b := h1
    subst h1'
    rw [List.map_cons, List.map_cons] at hd
    cases hd with
    | cons d r =>
      unfold putF putFA
      by_cases e : a = f
      · rw [if_pos e, if_pos e]; exact .cons dw r
      · rw [if_neg e, if_neg e]; exact .cons d (put_den dw h2 r)
  | [], _ :: _, h, _ => by simp at h
  | _ :: _, [], h, _ => by simp at h
end

/-! ### == and != by an own __eq__ -/
section
variable {prog : Program} {w : World} {A : Around} {E : Value → Shared → Prop} {s : Shared} {K : PySem.W.Frag} {x C f L : Addr} {h₀ : Heap} {m : Str → Option Value} {ox : Obj} {od : Option Obj} {b tb : Value}
theorem ne_bound {args : List Value} {Q : Option Value → Shared → Prop} {M : Model} (X : K.In s.heap) (I : PySem.W.InstAt s.heap x ox C od) (hs : PySem.W.findIn K (.ref C) "__ne__" = some (some (.builtin "object.__ne__")))
    (h : wpAny M A (call (.builtin "object.__ne__") (.ref x :: args)) (fun v => Q (some v)) E s) : wpAny M A (callSpecialIfBound? (.ref x) "__ne__" args) Q E s := by
  simp only [callSpecialIfBound?, bindSpecialIfBound?]
  have fin : wpAny M A (call (.builtin "object.__ne__") ([.ref x] ++ args) >>= fun v => pure (some v)) Q E s := wpAny_bind (wpAny_mono h (fun v s' z => wpAny_pure z) fun _ _ z => z)
  refine wpAny_holding (wpAny_bind (wpAny_bind (wpAny_bind (I.type.here ((PySem.W.looks_findIn X hs).here ?_)))))
  refine wpAny_bind (wpAny_askSetting (wpAny_ite ?_))
  split
  · exact wpAny_bind (wpAny_of_eq (F.cmp_object.ne.bind _) (wpAny_pure (by exact fin)))
  · exact wpAny_tryCatch (wpAny_bind (wpAny_of_eq (F.cmp_object.ne.bind _) (wpAny_pure (by exact fin))))
theorem ne_K {Q : Value → Shared → Prop} (hu : A.units + 1 < cLine) (F0 : Fr h₀ L s.heap m) (X₀ : K.In h₀) (I : PySem.W.InstAt s.heap x ox C od) (hb : PySem.W.Looks (model prog w) s.heap (typeOf b) tb) (hn : PySem.W.notFirst K C tb = true)
    (hs : PySem.W.findIn K (.ref C) "__eq__" = some (some (.ref f))) (hf : PySem.W.isFn K (.ref f) = true) (hne : PySem.W.findIn K (.ref C) "__ne__" = some (some (.builtin "object.__ne__"))) (hm : PySem.W.mroIn K C (.type "object") = some true)
    (h : wpAny (model prog w) A.in1 (call (.ref f) [.ref x, b]) (fun v s' => ∃ k, v = .bool k ∧ Q (.bool (!k)) s') E s) : wpAny (model prog w) A (richCompare .NotEq (.ref x) b) Q E s := by
  have X := X₀.keeps F0.keep
  have entry : wpAny (model prog w) A.in1 (Builtin.«object.__ne__» ⟨[.ref x, b], []⟩) (fun fin s' => ∃ k, fin = .done (.ret (.bool (!k))) ∧ Q (.bool (!k)) s') E s := by
    unfold Builtin.«object.__ne__»
    have inner : ∀ {R : Fin → Shared → Prop}, (∀ k s', Q (.bool (!k)) s' → R (.done (.ret (.bool (!k)))) s') → wpAny (model prog w) A.in1 (callSpecialIfBound? (.ref x) "__eq__" [b]) (fun r s' => wpAny (model prog w) A.in1 (match r with
      | some .notImplemented | none => ret .notImplemented
      | some r => do ret (.bool (!(← truthy r)))) R E s') E s := fun {R} hR => PySem.W.ifBound_K X I hs hf (wpAny_mono h (fun r s' hr => by
        obtain ⟨k, rfl, hq⟩ := hr
        exact wpAny_bind (m := truthy (.bool k)) (wpAny_truthy_bool (wpAny_pure (hR k s' hq)))) fun _ _ e => e)
    repeat (first
      | with_reducible refine wpAny_cRoomFor hu ?_
      | exact wpAny_bind (m := callSpecialIfBound? (.ref x) (Str.ofString "__eq__") [b]) (inner fun k s' hq => ⟨k, rfl, hq⟩)
      | wp_step)
  have one : wpAny (model prog w) A (tryCompare (.ref x) "__ne__" b) (fun r s' => ∃ v, r = some v ∧ Q v s') E s := by
    unfold tryCompare
    refine wpAny_bind (ne_bound X I hne (wpAny_call (codeAny_call_builtin F.cmp_object.ne.plain F.cmpEntry_ne (PySem.W.check_slot F.cmpKind_ne F.cmpSplit_ne (I.type.andThen (PySem.W.looks_mroIn X hm)) (F.cmpArgs_ne _ _) (wpAny_mono entry (fun fin s' z => ?_) fun _ _ e => e)))))
    obtain ⟨k, rfl, hq⟩ := z
    first
      | exact wpAny_pure ⟨_, rfl, hq⟩
      | exact ⟨_, rfl, hq⟩
  unfold richCompare
  simp only [oneThing_ref]
  refine wpAny_holding (wpAny_bind (wpAny_cRoomFor (by omega) ?_))
  refine wpAny_bind (I.type.here (wpAny_bind (hb.here ?_)))
  split
  · rename_i q
    have e : PySem.W.subIn K tb (.ref C) = some false := by
      rcases Bool.or_eq_true_iff.mp hn with e | e
      · rw [beq_iff_eq.mp e] at q; simp at q
      · exact beq_iff_eq.mp e
    refine wpAny_bind ((PySem.W.looks_subIn X e).here ?_)
    simp only [Bool.false_eq_true, if_false]
    refine wpAny_bind (wpAny_mono one (fun r s' z => ?_) fun _ _ e => e)
    obtain ⟨v, rfl, hq⟩ := z
    exact wpAny_pure hq
  · refine wpAny_bind (wpAny_pure ?_)
    simp only [Bool.false_eq_true, if_false]
    refine wpAny_bind (wpAny_mono one (fun r s' z => ?_) fun _ _ e => e)
    obtain ⟨v, rfl, hq⟩ := z
    exact wpAny_pure hq
end
end Ev

set_option linter.all false
set_option maxRecDepth 100000
set_option maxHeartbeats 1000000
/-! EvU: rules of the new expressions and statements. Own work. -/
namespace Ev
open PySem PySem.Spec PyProof.Rows L2

/-- what the written part says of a class -/
structure ClOk (K : PySem.W.Frag) (mg : Str → Option Value) (nm : Str) (C : Addr) (fs : List Str) : Prop where
  gC : mg nm = some (.ref C)
  cl : L2.Cls K C
  na : ∀ f ∈ fs, NoAttr K C f
  ca : PySem.W.findIn K (.ref C) "__class__" = some (some (.builtin "object.__class__"))
  mo : PySem.W.mroIn K C (.type "object") = some true
  makes : PySem.W.makesIn K C = true
  kp : PySem.W.keepIn K (.ref C) = true
def isTys : List String := ["NoneType", "bool", "int", "str", "tuple", "list", "dict"]
/-- its own == is the def at f -/
structure EqOk (K : PySem.W.Frag) (C f : Addr) : Prop where
  eq : PySem.W.findIn K (.ref C) "__eq__" = some (some (.ref f))
  fn : PySem.W.isFn K (.ref f) = true
  ne : PySem.W.findIn K (.ref C) "__ne__" = some (some (.builtin "object.__ne__"))
  nf : ∀ T ∈ isTys, PySem.W.notFirst K C (.type T) = true
theorem ocls_get {K : PySem.W.Frag} : PySem.W.specialIn K (.builtin "object.__class__") "__get__" = some (some (.builtin "getset_descriptor.__get__")) := by kernel_rfl
theorem ocls_takes {K : PySem.W.Frag} : PySem.W.takesIn K (.builtin "object.__class__") = some true := by kernel_rfl

section
variable {prog : Program} {w : World} {A : Around} {E : Value → Shared → Prop} {s : Shared}
theorem fm_congr {α β : Type} {f g : α → Option β} : ∀ {l : List α}, (∀ x ∈ l, f x = g x) → l.filterMap f = l.filterMap g
  | [], _ => rfl
  | x :: l, h => by
    rw [List.filterMap_cons, List.filterMap_cons, h x List.mem_cons_self, fm_congr fun y hy => h y (List.mem_cons_of_mem _ hy)]
theorem rev_pick (xs : Array Value) : ((List.range xs.size).filterMap fun (k : Nat) => xs[(((xs.size : Nat) : Int) - 1 + (k : Int) * (-1)).toNat]?).toArray = xs.toList.reverse.toArray := by
  congr 1
  rw [fm_congr (g := some ∘ fun k => xs.toList.getD (xs.size - 1 - k) .none) fun k hk => ?_]
  · rw [List.filterMap_eq_map]
    refine List.ext_getElem (by simp) fun i h1 h2 => ?_
    rw [List.getElem_reverse]
    simp at h1 ⊢
    rw [Array.getElem?_eq_getElem (by omega)]
    rfl
  · have hk := List.mem_range.mp hk
    have e1 : (((xs.size : Nat) : Int) - 1 + (k : Int) * (-1)).toNat = xs.size - 1 - k := by omega
    show _ = some (xs.toList.getD (xs.size - 1 - k) .none)
    rw [e1, List.getD_eq_getElem?_getD, Array.getElem?_toList, Array.getElem?_eq_getElem (by omega)]
    rfl
/-- t[::-1] -/
theorem getItem_tuple_rev {t sl : Addr} {xs : Array Value} {k : Tok} {Q : Value → Shared → Prop} (ht : IsTup s.heap t xs) (hs : s.heap.IsSliceOf sl .none .none (.int (-1) k)) (hz : xs.size ≤ sizeLine)
    (h : Q (.ref s.heap.objs.size) { s with heap := s.heap.push { cls := .type "tuple", data := .seq xs.toList.reverse.toArray } }) : wpAny (model prog w) A (getItem (.ref t) (.ref sl)) Q E s := by
  obtain ⟨os, hos, hcs, hds⟩ := id hs
  unfold getItem
  try with_reducible refine wpAny_holding ?_
  first | refine wpAny_bind (wpAny_pure ?_) | skip
  refine wpAny_bind (wpAny_sequenceKey ht.typeIs (by decide) (wpAny_bind (wpAny_callSpecial?_slot (name := Str.ofString "__getitem__") ht.typeIs PyProof.Rows.slot_tuple_getitem (wpAny_call_entry PyProof.Rows.slot_tuple_getitem ht.typeIs PyProof.Rows.entry_tuple_getitem (?_) (args_tuple_getitem _ _)))))
  refine (?_ : wpAny _ _ (Builtin.Tuple.tupleItemsOf (.ref t) >>= _) _ _ s)
  refine wpAny_bind (tupleItemsOf_ ht (wpAny_bind (wpAny_typeOf (T := "slice") ⟨os, hos, hcs⟩ ?_)))
  rw [if_pos (by decide)]
  have ap : ∀ {Q : Int × Int × Nat → Shared → Prop}, Q (((xs.size : Nat) : Int) - 1, -1, xs.size) s → wpAny (model prog w) A.in1 (Builtin.Slice.sliceApplied (.ref sl) (pure ((xs.size : Nat) : Int))) Q E s := fun {Q} q => by
    unfold Builtin.Slice.sliceApplied Builtin.Slice.sliceFields
    refine wpAny_bind (wpAny_bind (wpAny_field hos hds (x := .none) rfl (wpAny_bind (wpAny_field hos hds (x := .none) rfl ?_))))
    refine wpAny_bind (wpAny_field hos hds (x := .int (-1) k) rfl (wpAny_pure ?_))
    refine wpAny_bind (HT.slicePart_ (.int (-1) k) ?_)
    refine (?_ : wpAny _ _ (if ((-1 : Int) == 0) = true then _ else _) _ _ s)
    rw [if_neg (by decide)]
    refine wpAny_bind (HT.slicePart_ .none (wpAny_bind (HT.slicePart_ .none (wpAny_bind (wpAny_pure (wpAny_pure ?_))))))
    have e1 : Builtin.Slice.sliceAdjust none none (-1) ((xs.size : Nat) : Int) = (((xs.size : Nat) : Int) - 1, -1) := by unfold Builtin.Slice.sliceAdjust; rfl
    have e2 : Builtin.Slice.slicePlaces (((xs.size : Nat) : Int) - 1) (-1) (-1) = xs.size := by
      unfold Builtin.Slice.slicePlaces
      rw [if_neg (by decide)]
      split
      · have e3 : (-(-1 : Int)) = 1 := by decide
        rw [e3, Int.ediv_one]
        omega
      · omega
    show Q ((Builtin.Slice.sliceAdjust none none (-1) ((xs.size : Nat) : Int)).1, -1, Builtin.Slice.slicePlaces (Builtin.Slice.sliceAdjust none none (-1) ((xs.size : Nat) : Int)).1 (Builtin.Slice.sliceAdjust none none (-1) ((xs.size : Nat) : Int)).2 (-1)) s
    rw [e1, e2]
    exact q
  refine wpAny_bind (ap ?_)
  refine (?_ : wpAny _ _ (if ((((xs.size : Nat) : Int) - 1 == 0 && (-1 : Int) == 1 && xs.size == xs.size) = true) then _ else _) _ _ s)
  rw [if_neg (by rw [show ((-1 : Int) == 1) = false from rfl]; simp), rev_pick]
  have big : sizeOk (.seq xs.toList.reverse.toArray) := by
    show xs.toList.reverse.toArray.size ≤ sizeLine
    simpa using hz
  first
    | exact wpAny_bind (m := Builtin.Tuple.tupleExact _) (wpAny_newObj_type (wpAny_pure ⟨_, rfl, wpAny_pure h⟩) big)
    | exact wpAny_bind (wpAny_bind (m := Builtin.Tuple.tupleExact _) (wpAny_newObj_type (wpAny_pure (wpAny_pure ⟨_, rfl, wpAny_pure h⟩)) big))
    | exact wpAny_bind (wpAny_bind (m := Builtin.Tuple.tupleExact _) (wpAny_newObj_type (wpAny_pure ⟨_, rfl, wpAny_pure h⟩) big))
end
section
variable {X : Cx} {g : GN} {W : WX} {a : Expr} {fa : AE → MM AV} {pos : Pos}
def tRevX (K : PySem.W.Frag) (te : TE) : TE := fun σ H Q => te σ H fun x H1 => ∃ a xs, x = .ref a ∧ ((SqL K H1 a xs ∧ ∀ p, H1 p = none → Q (.ref p) (upd H1 p (.lst xs.reverse))) ∨ (SqT K H1 a xs ∧ ∀ p, H1 p = none → Q (.ref p) (upd H1 p (.tup xs.reverse))))
theorem pe_revX {te : TE} {k : Nat} {p1 p2 p3 : Pos} (he : PE X a te) : PE X (.Subscript a (.Slice none none (some (.UnaryOp .USub (.Constant (.int 1) k p1) p2)) p3) pos) (tRevX X.K te) := by
  refine ⟨fun pins s σ H Q I h => Subscript_ (thn (he.run pins s σ H _ I h) fun v s1 ⟨x, H1, I1, r1, b, xs, ex, q⟩ => ?_)⟩
  subst ex
  cases r1
  have step : PO X (some (.UnaryOp .USub (.Constant (.int 1) k p1) p2)) (tPart (tUn (rU fun i => .int (-i)) (tC (.int 1)))) := po_some (pe_un un_neg pe_int)
  refine wpAny_Slice (thn (po_none.run pins s1 σ H1 (fun o H2 => o = none ∧ H2 = H1) I1 ⟨rfl, rfl⟩) fun vl s2 ⟨l, H2, I2, pl, el, e2⟩ => ?_)
  subst el e2
  refine thn (po_none.run pins s2 σ H2 (fun o H3 => o = none ∧ H3 = H2) I2 ⟨rfl, rfl⟩) fun vu s3 ⟨u, H3, I3, pu, eu, e3⟩ => thn (step.run pins s3 σ H3 (fun o H4 => o = some (-1) ∧ H4 = H3) I3 ⟨1, rfl, -1, rfl, rfl, rfl⟩) fun vs s4 ⟨o, H4, I4, ps, eo, e4⟩ => ?_
  subst eu e3 eo e4
  cases pl
  cases pu
  obtain ⟨kk, rfl⟩ : ∃ kk, vs = .int (-1) kk := by cases ps with | int i t => exact ⟨t, rfl⟩
  have I5 : Inv X pins σ H4 { s4 with heap := s4.heap.push { cls := .type "slice", data := .fields #[.none, .none, .int (-1) kk] } } := I4.kept (t' := s4.toks) fun b ob q => Heap.get?_push_of_some _ q
  refine (?_ : wpAny (model X.prog X.w) X.A (subscriptTail a (.Slice none none (some (.UnaryOp .USub (.Constant (.int 1) k p1) p2)) p3) (.ref b) (.ref s4.heap.objs.size)) (EP X pins σ Q) X.xe { s4 with heap := s4.heap.push { cls := .type "slice", data := .fields #[.none, .none, .int (-1) kk] } })
  rcases q with ⟨hx, q⟩ | ⟨hx, q⟩
  · obtain ⟨its, r, ht, hz⟩ := I5.list hx
    have len := r.length
    refine tail_any (ops := [.ref b, .ref s4.heap.objs.size]) ht.isList.typeIs (PySem.slot_list_getitem.lookup) (wpAny_getItem_list_slice ht.isList (Heap.IsSliceOf.new _ _ _ _) .none .none (.int (-1) kk) (by decide) ?_ (by rw [List.size_toArray]; omega)) (by with_unfolding_all rfl)
    rw [PySem.W.krv_pick]
    exact ⟨.ref _, _, I5.laid (t' := s4.toks) (o := .lst xs.reverse) (fun b ob q => Heap.get?_push_of_some _ q) (Nat.le_refl _) ⟨by simpa using hz, _, 0, r.reverse, Heap.get?_push_size _ rfl⟩, rfl, q _ (I5.hok.fresh (Nat.le_refl _))⟩
  · obtain ⟨its, r, ht, hz⟩ := I5.tuple hx
    have len := r.length
    refine tail_any (ops := [.ref b, .ref s4.heap.objs.size]) ht.typeIs (PyProof.Rows.slot_tuple_getitem.lookup) (getItem_tuple_rev ht (Heap.IsSliceOf.new _ _ _ _) (by rw [List.size_toArray]; omega) ?_) (by with_unfolding_all rfl)
    exact ⟨.ref _, _, I5.laid (t' := s4.toks) (o := .tup xs.reverse) (fun b ob q => Heap.get?_push_of_some _ q) (Nat.le_refl _) ⟨by simpa using hz, _, r.reverse, IsTup.new _ _⟩, rfl, q _ (I5.hok.fresh (Nat.le_refl _))⟩
theorem DenAll.rev {G : GS} {F : Hp} {ι : List Addr} : ∀ {vs : List V} {xs : List AV}, DenAll G F ι vs xs → DenAll G F ι vs.reverse xs.reverse
  | _, _, .nil => .nil
  | _, _, .cons d r => by rw [List.reverse_cons, List.reverse_cons]; exact (DenAll.rev r).append (.cons d .nil)
theorem de_rev {k : Nat} {p1 p2 p3 : Pos} (ha : PE X a (TE1 (gsOf X g) W fa)) : PE X (.Subscript a (.Slice none none (some (.UnaryOp .USub (.Constant (.int 1) k p1) p2)) p3) pos)
    (TE1 (gsOf X g) W fun ρ => MM.bind (fa ρ) fun x => fun s => match seqOf s.cells x with | some (false, xs) => .ok (.lst xs.reverse) s | some (true, xs) => .ok (.tup xs.reverse) s | _ => .stuck) := by
  refine PE.weak (pe_revX ha) fun σ H Q ⟨B, F, ι, ρ, s, R, e, p⟩ => ?_
  refine Tv.seq R e p fun v H1 F1 ι1 a s1 st R1 e1 d p1 => ?_
  split at p1
  · rename_i xs hq
    obtain ⟨q, vs, rfl, r1, l1, l2⟩ := R1.seq d hq
    exact ⟨q, vs, rfl, .inl ⟨l2 rfl, fun z hz => Po.newL (al := false) (xs := xs.reverse) R1 r1.rev p1 hz⟩⟩
  · rename_i xs hq
    obtain ⟨q, vs, rfl, r1, l1, l2⟩ := R1.seq d hq
    exact ⟨q, vs, rfl, .inr ⟨R1.sqT (l1 rfl), fun z hz => Po.newT R1 r1.rev p1 hz⟩⟩
  · exact p1.elim
end
section
variable {X : Cx} {g : GN} {W : WX} {a b c : Expr} {fa fb fc : AE → MM AV} {pos : Pos}
theorem de_glob {x : Str} {av : AV} (hg : Gl X x) (hdb : (x == ("__debug__" : Str)) = false) (h : ∃ v u, X.mg x = some u ∧ RelV v u ∧ ∀ G F ι, Den G F ι v av) : PE X (.Name x pos) (TE1 (gsOf X g) W fun _ => MM.pure av) := by
  obtain ⟨v, u, hm, r, d⟩ := h
  exact PE.weak (pe_glob hg hm r hdb) fun σ H Q ⟨B, F, ι, ρ, s, R, e, p⟩ => p.pure R (d _ _ _)
theorem de_lrng {al : Bool} {p p2 q : Pos} (ft : Fit X) (hg : Gl X "list") (hm : X.mg "list" = none) (hg2 : Gl X "range") (hm2 : X.mg "range" = none) (ha : PE X a (TE1 (gsOf X g) W fa)) (hns : notStar a = true) :
    PE X (.Call (.Name "list" p) [.Call (.Name "range" p2) [a] [] q] [] pos) (TE1 (gsOf X g) W fun ρ => MM.bind (MM.bind (fa ρ) fun v => MM.pure [v]) fun vs => lrngM al vs) := by
  refine PE.weak (pe_listRg ft.calm hg hm (prg_1 hg2 hm2 ha (star_cons hns))) fun σ H Q ⟨B, F, ι, ρ, s, R, e, p⟩ => ?_
  simp only [MM.assoc, MM.pure_bind] at p
  refine Tv.seq R e p fun v H1 F1 ι1 a s1 st R1 e1 d p1 => ?_
  cases d with
  | int i =>
    simp only [lrngM] at p1
    split at p1
    · rename_i hc
      refine ⟨i, rfl, ⟨by decide, by decide, by omega, by omega, by omega⟩, fun z hz => ?_⟩
      refine Po.newL R1 (xs := (List.range i.toNat).map fun i => AV.int (i : Nat)) ?_ p1 hz
      unfold rgV
      have e : ((List.range (i - 0).toNat).map fun k => V.int (0 + (k : Nat))) = ((List.range i.toNat).map fun k => V.int (k : Nat)) := by simp
      rw [e]
      generalize List.range i.toNat = l
      induction l with
      | nil => exact .nil
      | cons n l ih => exact .cons (.int _) ih
    · exact p1.elim
  | _ => exact p1.elim
/-! ### chains -/
def intC : COp → Bool
  | .lt | .le | .gt | .ge => true
  | _ => false
theorem chain_marks {o1 o2 : COp} (h2 : intC o2 = true) : lastMarks [copOf o1, copOf o2] [b, c] = false := by
  show behindInMarks (copOf o2) c = false
  exact nobehind c (by cases o2 <;> simp_all [copOf, intC]) (by cases o2 <;> simp_all [copOf, intC])
theorem chain_seq {o1 o2 : COp} {σ : L2.St} {H : Hp} {Q : VK}
    (h : TE1 (gsOf X g) W (fun ρ => MM.bind (fa ρ) fun x => MM.bind (fb ρ) fun y => MM.bind (cmpM o1 x y) fun t => MM.bind (isBlM t) fun k => if k = true then MM.bind (fc ρ) fun z => cmpM o2 y z else MM.pure (.bl false)) σ H Q) :
    tChain (rCmp (gsOf X g) o1) (rCmp (gsOf X g) o2) (TE1 (gsOf X g) W fa) (TE1 (gsOf X g) W fb) (TE1 (gsOf X g) W fc) σ H Q := by
  obtain ⟨B, F, ι, ρ, s, R, e, p⟩ := h
  refine Tv.seq R e p fun v H1 F1 ι1 a s1 st R1 e1 d p1 => ?_
  refine Tv.seq R1 e1 p1 fun w H2 F2 ι2 b s2 st2 R2 e2 d2 p2 => ?_
  refine ⟨B, fun c d H => W c d σ H, F2, ι2, s2, a, b, R2, d.stp st2, d2, ?_⟩
  refine Po.first p2 fun t H3 F3 ι3 tv s3 st3 R3 d3 p3 => ?_
  cases d3 with
  | bl k =>
    refine ⟨k, rfl, ?_⟩
    have p4 : Po (gsOf X g) B (fun c d H => W c d σ H) F3 ι3 s3 (Den (gsOf X g)) ((if k = true then MM.bind (fc ρ) fun z => cmpM o2 b z else MM.pure (.bl false)) s3) Q := p3
    cases k with
    | true =>
      rw [if_pos rfl] at p4 ⊢
      refine Tv.seq R3 (e2.stp st3) p4 fun z H4 F4 ι4 c s4 st4 R4 e4 d4 p5 => ?_
      exact ⟨B, _, F4, ι4, s4, b, c, R4, d2.stp (st3.trans st4), d4, p5⟩
    | false =>
      rw [if_neg (by decide)] at p4 ⊢
      exact p4.pure R3 (.bl false)
  | _ => exact p3.elim
theorem de_chain (ft : Fit X) (o1 o2 : COp) (h2 : intC o2 = true) (ha : PE X a (TE1 (gsOf X g) W fa)) (hb : PE X b (TE1 (gsOf X g) W fb)) (hc : PE X c (TE1 (gsOf X g) W fc)) :
    PE X (.Compare a [copOf o1, copOf o2] [b, c] pos) (TE1 (gsOf X g) W fun ρ => MM.bind (fa ρ) fun x => MM.bind (fb ρ) fun y => MM.bind (cmpM o1 x y) fun t => MM.bind (isBlM t) fun k => if k = true then MM.bind (fc ρ) fun z => cmpM o2 y z else MM.pure (.bl false)) := by
  have hu := ft.un
  exact PE.weak (pe_chain (cmp_ok (g := g) o1 (by omega)) (cmp_ok (g := g) o2 (by omega)) ha hb hc (chain_marks h2)) fun σ H Q h => chain_seq h
theorem bind_ok {α β : Type} {m : MM α} {f : α → MM β} {s s' : AS} {v : β} (h : MM.bind m f s = .ok v s') : ∃ a s1, m s = .ok a s1 ∧ f a s1 = .ok v s' := by
  unfold MM.bind at h
  cases e : m s with
  | ok a s1 => rw [e] at h; exact ⟨a, s1, rfl, h⟩
  | exc x s1 => rw [e] at h; cases h
  | stuck => rw [e] at h; cases h
theorem cmp_bl {o : COp} (h : intC o = true) {x y v : AV} {s s' : AS} (e : cmpM o x y s = .ok v s') : ∃ k, v = .bl k := by
  cases o <;> simp only [intC] at h <;> first | cases h | skip
  all_goals (unfold cmpM at e; simp only at e; split at e <;> first | (cases e; exact ⟨_, rfl⟩) | cases e)
theorem dt_chain (ft : Fit X) (o1 o2 : COp) (h2 : intC o2 = true) (ha : PE X a (TE1 (gsOf X g) W fa)) (hb : PE X b (TE1 (gsOf X g) W fb)) (hc : PE X c (TE1 (gsOf X g) W fc)) :
    PT X (.Compare a [copOf o1, copOf o2] [b, c] pos) (TT1 (gsOf X g) W fun ρ => MM.bind (MM.bind (fa ρ) fun x => MM.bind (fb ρ) fun y => MM.bind (cmpM o1 x y) fun t => MM.bind (isBlM t) fun k => if k = true then MM.bind (fc ρ) fun z => cmpM o2 y z else MM.pure (.bl false)) truM) := by
  have hu := ft.un
  refine PT.weak (pt_chain (cmp_ok (g := g) o1 (by omega)) (cmp_ok (g := g) o2 (by omega)) ha hb hc (chain_marks h2)) fun σ H Q ⟨B, F, ι, ρ, s, R, e, p⟩ => ?_
  refine chain_seq ⟨B, F, ι, ρ, s, R, e, Po.firstE p fun v H1 F1 ι1 a s1 e1 st R1 d p1 => ?_⟩
  obtain ⟨x, s2, _, e2⟩ := bind_ok e1
  obtain ⟨y, s3, _, e3⟩ := bind_ok e2
  obtain ⟨t, s4, _, e4⟩ := bind_ok e3
  obtain ⟨k, s5, _, e5⟩ := bind_ok e4
  have hb : ∃ k, a = .bl k := by
    cases k with
    | true =>
      rw [if_pos rfl] at e5
      obtain ⟨z, s6, _, e6⟩ := bind_ok e5
      exact cmp_bl h2 e6
    | false =>
      rw [if_neg (by decide)] at e5
      cases e5
      exact ⟨_, rfl⟩
  obtain ⟨k, rfl⟩ := hb
  cases d
  exact ⟨k, rfl, p1 _ _ _ _ Stp.refl R1 rfl⟩
/-! ### a list so many times -/
theorem de_rep {es : List Expr} {fs : AE → MM (List AV)} {p2 : Pos} (hz : es.length ≤ sizeLine) (hl : ∀ ρ s vs s', fs ρ s = .ok vs s' → vs.length = es.length) (h : PA X es (TA1 (gsOf X g) W fs)) (hb : PE X b (TE1 (gsOf X g) W fb)) :
    PE X (.BinOp (.List es p2) .Mult b pos) (TE1 (gsOf X g) W fun ρ => MM.bind (fs ρ) fun vs => MM.bind (fb ρ) fun y => repM vs y) := by
  refine PE.weak (pe_op op_rep (pe_lst h) hb) fun σ H Q ⟨B, F, ι, ρ, s, R, e, p⟩ => ?_
  refine ⟨B, F, ι, ρ, s, R, e, Po.firstE p fun vs H1 F1 ι1 as s1 e1 st R1 d p1 => ⟨by rw [d.length, hl _ _ _ _ e1]; exact hz, fun l hl => ?_⟩⟩
  obtain ⟨st2, R2⟩ := R1.fresh (.lst vs) hl
  refine Tv.seq R2 (e.stp (st.trans st2)) (p1.base st2) fun y H3 F3 ι3 yv s3 st3 R3 e3 d3 p3 => ?_
  cases d3 with
  | int j =>
    simp only [repM] at p3
    split at p3
    · rename_i hc
      have hH : H3 l = some (.lst vs) := R3.sub _ _ (st3.sm _ _ upd_same)
      have da := d.stp (st2.trans st3)
      refine ⟨l, j, vs, rfl, rfl, hH, by omega, by omega, ?_, fun z hz => ?_⟩
      · rw [da.length, ← LIM_eq]; exact hc.2.2
      · refine Po.newL (al := false) R3 ?_ p3 hz
        generalize j.toNat = n
        induction n with
        | zero => exact .nil
        | succ n ih => rw [List.replicate_succ, List.replicate_succ, List.flatten_cons, List.flatten_cons]; exact da.append ih
    · exact p3.elim
  | _ => exact p3.elim
/-! ### fields -/
theorem de_attr {f : Str} (hb : attributeBase a f X.env (eval a X.env) = eval a X.env) (hcl : ∀ c C, g.clA c = some C → L2.Cls X.K C) (hna : ∀ c C, g.clA c = some C → NoAttr X.K C f) (ha : PE X a (TE1 (gsOf X g) W fa)) :
    PE X (.Attribute a f pos) (TE1 (gsOf X g) W fun ρ => MM.bind (fa ρ) fun x => attrM x f) := by
  refine PE.weak (pe_fld ha hb) fun σ H Q ⟨B, F, ι, ρ, s, R, e, p⟩ => ?_
  refine Tv.seq R e p fun v H1 F1 ι1 a s1 st R1 e1 d p1 => ?_
  unfold attrM at p1
  split at p1
  · rename_i c fs hi
    split at p1
    · rename_i y hy
      obtain ⟨ad, C, dx, vfs, rfl, hC, hH, hk, r⟩ := R1.insR d hi
      obtain ⟨w, hw, dw⟩ := den_lookup hk r hy
      exact ⟨ad, C, dx, vfs, w, rfl, hH, hcl c C hC, hna c C hC, hw, p1 _ _ _ _ Stp.refl R1 dw⟩
    · exact p1.elim
  · exact p1.elim

/-! ### isinstance of an own class -/
theorem tyName_in {cs : List AO} {x : AV} {T : String} (h : tyName cs x = some T) : T ∈ isTys := by
  unfold tyName at h
  split at h <;> first | (cases h; decide) | skip
  · split at h <;> first | (cases h; decide) | cases h
  · cases h
/-- what is known of a class that is asked for: what is built in is none of it, own classes are as subs tells -/
structure IsAt (K : PySem.W.Frag) (mg : Str → Option Value) (g : GN) (nm : Str) (D : Addr) (subs : List Nat) : Prop where
  gD : mg nm = some (.ref D)
  blt : ∀ t ∈ isTys, PySem.W.kitOne K (.type t) (.ref D) = some false
  own : ∀ c C, g.clA c = some C → (∃ n fs, ClOk K mg n C fs) ∧ PySem.W.kitOne K (.ref C) (.ref D) = some (subs.contains c)
def rIsc (G : GS) (subs : List Nat) (D : Addr) : List V → Hp → VK → Prop := fun vs H Q => ∃ B E F ι s x a, vs = [x, .ref D] ∧ Rel G B F ι H s ∧ Den G F ι x a ∧ Po G B E F ι s (Den G) (iscM a subs s) Q
theorem isc_ok {nm : Str} {D : Addr} {subs : List Nat} (O : IsAt X.K X.mg g nm D subs) : CallR X (.builtin "isinstance") (rIsc (gsOf X g) subs D) := by
  intro pins s σ H vs us Q I r h
  obtain ⟨B, E, F, ι, st, x, a, rfl, R, da, h⟩ := h
  unfold iscM at h
  split at h
  · rename_i c fs' hi
    obtain ⟨ad, C', dx, vfs, rfl, hC, hH, hk, r1⟩ := R.insR da hi
    obtain ⟨⟨n, fs, O'⟩, kit⟩ := O.own c C' hC
    exact call_isi pins s σ H _ us Q I r ⟨.ref ad, .ref D, _, _, _, rfl, .own D, .base (.ins hH O'.cl O'.ca ocls_get ocls_takes O'.mo), kit, h _ _ _ _ Stp.refl R (.bl _)⟩
  · split at h
    · rename_i T hT
      exact call_isi pins s σ H _ us Q I r ⟨x, .ref D, _, _, false, rfl, .own D, ty_of R da hT, O.blt T (tyName_in hT), h _ _ _ _ Stp.refl R (.bl _)⟩
    · exact h.elim
theorem de_isc {nm : Str} {D : Addr} {subs : List Nat} {p p2 : Pos} (O : IsAt X.K X.mg g nm D subs) (hg : Gl X "isinstance") (hm : X.mg "isinstance" = none) (hg2 : Gl X nm) (hdb : (nm == ("__debug__" : Str)) = false) (ha : PE X a (TE1 (gsOf X g) W fa)) (hns : notStar a = true) :
    PE X (.Call (.Name "isinstance" p) [a, .Name nm p2] [] pos) (TE1 (gsOf X g) W fun ρ => MM.bind (fa ρ) fun x => iscM x subs) := by
  refine PE.weak (pe_callB (isc_ok (g := g) O) hg hm (by decide +kernel) (pa_cons ha (pa_cons (pe_glob (v := .ref D) hg2 O.gD rfl hdb) pa_nil) (star_cons hns)) (by decide) (by decide) (star_cons hns) rfl) fun σ H Q ⟨B, F, ι, ρ, s, R, ev, po⟩ => ?_
  exact Tv.seq R ev po fun v H1 F1 ι1 a s1 st R1 e1 d p1 => ⟨B, _, F1, ι1, s1, v, a, rfl, R1, d, p1⟩
/-! ### a field stored -/
theorem Rel.setI {G : GS} {B : Hp} {F : Hp} {ι : List Addr} {H : Hp} {s : AS} {k : Nat} {a : Addr} {c : Nat} {fs : List (Str × AV)} {f : Str} {w : V} {y : AV} (R : Rel G B F ι H s) (hk : ι[k]? = some a) (hc : s.cells[k]? = some (.ins c fs)) (d : Den G F ι w y) :
    ∃ C dx vfs, H a = some (.ins C dx vfs) ∧ G.clA c = some C ∧ vfs.length = fs.length ∧ Stp G F ι s F ι { cells := s.cells.set k (.ins c (putFA f y fs)), opn := s.opn || newer k 12 y } ∧
      Rel G B F ι (upd H a (.ins C dx (putF f w vfs))) { cells := s.cells.set k (.ins c (putFA f y fs)), opn := s.opn || newer k 12 y } := by
  obtain ⟨hF, C, dx, vfs, hH, hC, hn, r⟩ := R.cell k a _ hk hc
  have hkl : k < s.cells.length := (List.getElem?_eq_some_iff.mp hc).1
  have hlen : vfs.length = fs.length := by
    have := congrArg List.length hn
    simpa using this
  have mem : ∀ {fs : List (Str × AV)} {p : Str × AV}, p ∈ putFA f y fs → p.2 = y ∨ p ∈ fs := by
    intro fs
    induction fs with
    | nil => intro p hp; simp [putFA] at hp; subst hp; exact .inl rfl
    | cons q fs ih =>
      intro p hp
      unfold putFA at hp
      split at hp
      · rcases List.mem_cons.mp hp with e | e
        · subst e; exact .inl rfl
        · exact .inr (List.mem_cons_of_mem _ e)
      · rcases List.mem_cons.mp hp with e | e
        · subst e; exact .inr List.mem_cons_self
        · rcases ih e with h | h
          · exact .inl h
          · exact .inr (List.mem_cons_of_mem _ h)
  refine ⟨C, dx, vfs, hH, hC, hlen, ⟨Same.refl _, List.prefix_refl _, ⟨by simp, fun z => by show (s.opn || _) = true; rw [z]; rfl, fun h n hn' o' ho' j hj => ?_⟩⟩, ⟨fun b u e => ?_, fun b u e => ?_, by simp [R.len], R.nd, fun b hb => ?_, fun n b o hn' ho' => ?_, R.tab.put fun u e => by rw [hH] at e; cases e; exact trivial⟩⟩
  · by_cases e : k = n
    · subst e
      simp only [List.getElem?_set_self hkl] at ho'
      cases ho'
      obtain ⟨p, hp, hj⟩ := hj
      rcases mem hp with e | e
      · rw [e] at hj
        have h' : (s.opn || newer k 12 y) = false := h
        rw [Bool.or_eq_false_iff] at h'
        exact .inl (newer_le 12 h'.2 j hj)
      · exact .inr ⟨_, hc, p, e, hj⟩
    · simp only [List.getElem?_set_ne e] at ho'
      exact .inr ⟨o', ho', hj⟩
  · have ne : b ≠ a := fun z => by rw [z, hF] at e; cases e
    rw [upd_ne ne]
    exact R.sub _ _ e
  · obtain ⟨h1, h2, h3⟩ := R.out b u e
    have ne : b ≠ a := fun z => h3 (z ▸ List.mem_of_getElem? hk)
    exact ⟨by rw [upd_ne ne]; exact h1, h2, h3⟩
  · by_cases e : b = a
    · subst e; exact ⟨_, upd_same⟩
    · obtain ⟨u, hu⟩ := R.here b hb
      exact ⟨u, by rw [upd_ne e]; exact hu⟩
  · by_cases e : k = n
    · subst e
      rw [hk] at hn'; cases hn'
      simp only [List.getElem?_set_self hkl] at ho'
      cases ho'
      exact ⟨hF, C, dx, _, upd_same, hC, put_names hn, put_den d hn r⟩
    · simp only [List.getElem?_set_ne e] at ho'
      have ne : b ≠ a := fun z => by
        subst z
        obtain ⟨h1, e1⟩ := List.getElem?_eq_some_iff.mp hn'
        obtain ⟨h2, e2⟩ := List.getElem?_eq_some_iff.mp hk
        exact e ((List.getElem_inj R.nd).mp (e2.trans e1.symm))
      exact (R.cell n b o hn' ho').mono (Same.refl _) (List.prefix_refl _) id fun u h => by rw [upd_ne ne]; exact h
theorem ds_setAt {f : Str} {e : Expr} {fe : AE → MM AV} {p' : Pos} (hcl : ∀ c C, g.clA c = some C → L2.Cls X.K C) (hna : ∀ c C, g.clA c = some C → NoAttr X.K C f) (ha : PE X a (TE1 (gsOf X g) W fa)) (he : PE X e (TE1 (gsOf X g) W fe)) (hs : swapsWith e (some (.Attribute a f p')) pos.line X.env = pure false) :
    PS X (.Assign [.Attribute a f p'] e pos) (TS1 (gsOf X g) W fun ρ s => sBind ρ (MM.bind (fe ρ) fun v => MM.bind (fa ρ) fun x => setAtM x f v) (fun _ s' => .next ρ s') s) := by
  refine PS.weak (ps_fld ha he hs) fun D σ H ⟨B, F, ι, ρ, s, R, ev, p⟩ => ?_
  have p' : Po (gsOf X g) B (fun c d H => W c d σ H) F ι s (fun _ _ (_ : Unit) (_ : Unit) => True) ((MM.bind (fe ρ) fun v => MM.bind (fa ρ) fun x => setAtM x f v) s) (fun _ H => D.nx σ H) := by
    dsimp only at p
    unfold sBind at p
    revert p
    cases (MM.bind (fe ρ) fun v => MM.bind (fa ρ) fun x => setAtM x f v) s with
    | ok a s1 => exact fun p v H1 F1 ι1 st R1 _ => p σ H1 F1 ι1 st R1 (ev.stp st)
    | exc x s1 => exact fun p c d H1 F1 ι1 st R1 e => p c d σ H1 F1 ι1 st R1 (ev.stp st) e
    | stuck => exact fun p => p
  refine Tv.seq R ev p' fun v H1 F1 ι1 a s1 st R1 ev1 d p1 => ?_
  refine Tv.seq R1 ev1 p1 fun x H2 F2 ι2 xa s2 st2 R2 ev2 d2 p2 => ?_
  unfold setAtM at p2
  split at p2
  · rename_i k
    split at p2
    · rename_i c fs hc
      split at p2
      · rename_i hz
        cases d2 with
        | ref hk =>
          obtain ⟨C, dx, vfs, hH, hC, hlen, st3, R3⟩ := R2.setI (f := f) hk hc (d.stp st2)
          exact ⟨_, C, dx, vfs, rfl, hH, hcl c C hC, hna c C hC, by omega, p2 () _ _ _ st3 R3 trivial⟩
      · exact p2.elim
    · exact p2.elim
  · exact p2.elim
/-- a statement that is never reached -/
theorem ds_never {st : Stmt} : PS X st (TS1 (gsOf X g) W fun _ _ => .stuck) :=
  ⟨fun _ _ _ _ _ _ ⟨_, _, _, _, _, _, _, p⟩ => p.elim⟩
end
end Ev

set_option linter.all false
set_option maxRecDepth 100000
set_option maxHeartbeats 1000000
/-! EvR: what is asked of a kept exception: its class, its fields. Own work. -/
namespace Ev
open PySem PySem.Spec PyProof.Rows L2
section
variable {X : Cx} {g : GN} {W : WX} {a : Expr} {fa : AE → MM AV} {pos : Pos}
def rIsx (G : GS) (k : Nat) (D : Addr) : List V → Hp → VK → Prop := fun vs H Q => ∃ B E F ι s x a, vs = [x, .ref D] ∧ Rel G B F ι H s ∧ Den G F ι x a ∧ Po G B E F ι s (Den G) (isxM a k s) Q
theorem isx_ok {k : Nat} {D : Addr} (hE : ∀ c C, g.exA c = some C → ExIs X.K C) (hkit : ∀ c C, g.exA c = some C → PySem.W.kitOne X.K (.ref C) (.ref D) = some (decide (c = k))) (hnon : PySem.W.kitOne X.K (.type "NoneType") (.ref D) = some false) : CallR X (.builtin "isinstance") (rIsx (gsOf X g) k D) := by
  intro pins s σ H vs us Q I r h
  obtain ⟨B, E, F, ι, st, x, a, rfl, R, da, h⟩ := h
  cases a with
  | non =>
    cases da
    exact call_isi pins s σ H _ us Q I r ⟨.non, .ref D, _, _, false, rfl, .own D, .base .non, hnon, h _ _ _ _ Stp.refl R (.bl _)⟩
  | exc c fs =>
    cases da with
    | exc hC h1 h2 hk dd =>
      exact isi_exc (hE _ _ hC) pins s σ H _ us Q I r ⟨_, _, _, .ref D, _, _, rfl, R.sub _ _ h1, R.sub _ _ h2, .own D, hkit _ _ hC, h _ _ _ _ Stp.refl R (.bl _)⟩
  | _ => exact h.elim
theorem de_isx {nm : Str} {k : Nat} {D : Addr} {p p2 : Pos} (hE : ∀ c C, g.exA c = some C → ExIs X.K C) (hkit : ∀ c C, g.exA c = some C → PySem.W.kitOne X.K (.ref C) (.ref D) = some (decide (c = k))) (hnon : PySem.W.kitOne X.K (.type "NoneType") (.ref D) = some false)
    (gC : X.mg nm = some (.ref D)) (hg : Gl X "isinstance") (hm : X.mg "isinstance" = none) (hg2 : Gl X nm) (hdb : (nm == ("__debug__" : Str)) = false) (ha : PE X a (TE1 (gsOf X g) W fa)) (hns : notStar a = true) :
    PE X (.Call (.Name "isinstance" p) [a, .Name nm p2] [] pos) (TE1 (gsOf X g) W fun ρ => MM.bind (fa ρ) fun x => isxM x k) := by
  refine PE.weak (pe_callB (isx_ok (g := g) hE hkit hnon) hg hm (by decide +kernel) (pa_cons ha (pa_cons (pe_glob (v := .ref D) hg2 gC rfl hdb) pa_nil) (star_cons hns)) (by decide) (by decide) (star_cons hns) rfl) fun σ H Q ⟨B, F, ι, ρ, s, R, ev, po⟩ => ?_
  exact Tv.seq R ev po fun v H1 F1 ι1 a s1 st R1 e1 d p1 => ⟨B, _, F1, ι1, s1, v, a, rfl, R1, d, p1⟩
theorem de_xattr {f : Str} (hb : attributeBase a f X.env (eval a X.env) = eval a X.env) (hE : ∀ c C, g.exA c = some C → ExIs X.K C) (hna : ∀ c C, g.exA c = some C → PySem.W.findIn X.K (.ref C) f = some none) (ha : PE X a (TE1 (gsOf X g) W fa)) :
    PE X (.Attribute a f pos) (TE1 (gsOf X g) W fun ρ => MM.bind (fa ρ) fun x => xattrM x f) := by
  refine PE.weak (pe_xattr ha hb) fun σ H Q ⟨B, F, ι, ρ, s, R, e, p⟩ => ?_
  refine Tv.seq R e p fun v H1 F1 ι1 a s1 st R1 e1 d p1 => ?_
  cases a with
  | exc c fs =>
    cases d with
    | exc hC h1 h2 hk dd =>
      simp only [xattrM] at p1
      split at p1
      · rename_i y hy
        obtain ⟨w, hw, dw⟩ := den_lookup hk dd hy
        exact ⟨_, _, _, _, w, rfl, hE _ _ hC, hna _ _ hC, R1.sub _ _ h1, R1.sub _ _ h2, hw, p1 _ _ _ _ Stp.refl R1 dw⟩
      · exact p1.elim
  | _ => exact p1.elim
end
end Ev

set_option linter.all false
set_option maxRecDepth 100000
set_option maxHeartbeats 1000000
/-! EvV: new instances; own == ; methods of lists; sorted sets. Own work. -/
namespace Ev
open PySem PySem.Spec PyProof.Rows L2
section
variable {X : Cx} {g : GN} {W : WX} {a b e : Expr} {fa fb : AE → MM AV} {pos : Pos}

/-! ### own == -/
def eqOp (neg : Bool) : CmpOp := if neg = true then .NotEq else .Eq
def rEqi (G : GS) (neg : Bool) (c : Nat) (fc : List AV → MM AV) : R2 := fun x y H Q => ∃ B E F ι s a b, Rel G B F ι H s ∧ Den G F ι x a ∧ Den G F ι y b ∧
  Po G B E F ι s (Den G) (MM.bind (bothM c a b) (fun _ => MM.bind (nox (fc [a, b])) (negM neg)) s) Q
theorem eqi_ok {d : Nat} {C f : Addr} {fd : FuncData} {ps : List Str} {sp : Sp} {nm : Str} {fs : List Str} {cc : Nat} {fc : List AV → MM AV} (neg : Bool) (hC : g.clA cc = some C) (O : ClOk X.K X.mg nm C fs) (Q0 : EqOk X.K C f)
    (F : FnG X.prog X.w X.K X.mg X.base d f fd ps sp) (hsp : ∀ B E F ι s vs as H Q, Rel (gsOf X g) B F ι H s → vs.length = ps.length → DenAll (gsOf X g) F ι vs as → Po (gsOf X g) B E F ι s (Den (gsOf X g)) (fc as s) Q → sp vs H Q E) (hps : ps.length = 2)
    (site : SiteOk X.K fd ps 2 [] [.at 0, .at 1]) (hr : Room (d + 1) X.A) (ft : Fit X) : OpR X (compareOp (eqOp neg)) (rEqi (gsOf X g) neg cc fc) := by
  intro pins s σ H x y v u Q I rx ry h
  obtain ⟨B, E, F0, ι, st, a, b, R, da, db, po⟩ := h
  unfold MM.bind bothM at po
  cases h1 : insOf st.cells a with
  | none => rw [h1] at po; exact po.elim
  | some p1 =>
    obtain ⟨c1, fs1⟩ := p1
    rw [h1] at po
    by_cases hcc : c1 = cc
    · subst hcc
      dsimp only at po
      rw [if_pos rfl] at po
      obtain ⟨ax, Cx', dx, vfs, rfl, hCx, hHx, _, _⟩ := R.insR da h1
      rw [show (gsOf X g).clA = g.clA from rfl, hC] at hCx
      cases hCx
      cases rx
      obtain ⟨mA, J, _⟩ := ins_get I.hok hHx
      obtain ⟨od, J, _⟩ := J.look
      obtain ⟨m, hF⟩ := I.fr
      -- the other one's type
      have other : (∃ tb, PySem.W.Looks (model X.prog X.w) s.heap (typeOf u) tb ∧ PySem.W.notFirst X.K C tb = true) ∧ Po (gsOf X g) B E F0 ι st (Den (gsOf X g)) (MM.bind (nox (fc [a, b])) (negM neg) st) Q := by
        cases h2 : insOf st.cells b with
        | some p2 =>
          obtain ⟨c2, fs2⟩ := p2
          rw [h2] at po
          dsimp only at po
          by_cases hc2 : c2 = c1
          · subst hc2
            rw [if_pos rfl] at po
            obtain ⟨ay, Cy', dy, wfs, rfl, hCy, hHy, _, _⟩ := R.insR db h2
            rw [show (gsOf X g).clA = g.clA from rfl, hC] at hCy
            cases hCy
            cases ry
            obtain ⟨mB, J', _⟩ := ins_get I.hok hHy
            obtain ⟨od', J', _⟩ := J'.look
            exact ⟨⟨.ref C, J'.type, by simp [PySem.W.notFirst]⟩, po⟩
          · rw [if_neg hc2] at po
            exact po.elim
        | none =>
          rw [h2] at po
          dsimp only at po
          cases hT : tyName st.cells b with
          | none => rw [hT] at po; exact po.elim
          | some T =>
            rw [hT] at po
            obtain ⟨PP, kx, hp, _⟩ := kit_of I ry (ty_of R db hT)
            exact ⟨⟨.type T, kx.ty _ _ I.kIn hp, Q0.nf T (tyName_in hT)⟩, po⟩
      obtain ⟨⟨tb, hb0, hnf⟩, po⟩ := other
      -- the call of __eq__
      have po2 : Po (gsOf X g) B E F0 ι st (Den (gsOf X g)) (MM.bind (nox (fc [a, b])) (negM neg) st) Q := po
      have hsp2 : sp [.ref ax, y] H (fun v H1 => ∃ k, v = .bl k ∧ Q (.bl (if neg = true then !k else k)) H1) (fun _ _ _ => False) := by
        refine hsp B _ F0 ι st _ [a, b] H _ R (by rw [hps]; rfl) (.cons da (.cons db .nil)) ?_
        unfold MM.bind Ev.nox at po2
        revert po2
        cases fc [a, b] st with
        | ok z s1 =>
          intro po2 v H1 F1 ι1 st1 R1 d1
          cases d1 with
          | bl k => exact ⟨k, rfl, po2 _ H1 F1 ι1 st1 R1 (.bl _)⟩
          | _ => exact po2.elim
        | exc z s1 => exact fun po2 => po2.elim
        | stuck => exact fun po2 => po2.elim
      obtain ⟨us', pv, hb⟩ := site s [.ref ax, u] [] I.kIn rfl rfl
      have e0 : us' = [.ref ax, u] := by
        cases pv with
        | «at» h1 h2 => cases h2 with
          | «at» h2 h3 => cases h3; cases h1; cases h2; rfl
      subst e0
      have run : ∀ (A : Around), Room d A → A.guards = some [] → A.frames = X.A.frames → wpAny (model X.prog X.w) A (call (.ref f) [.ref ax, u]) (fun u s' => ∃ k, u = .bool k ∧ EP X pins σ Q (.bool (if neg = true then !k else k)) s') X.xe s := fun A rm gd fr => by
        have e0 : Env0 X.prog X.w X.K X.mg X.base A X.stack s H := by
          have e := I.env0
          exact ⟨by rw [fr]; exact e.frames, e.mod, e.bs, e.bsz, e.funs, e.frf, e.hok, e.bare⟩
        refine wpAny_call (codeAny_mono (F.run A X.stack s H ⟨[.ref ax, u], []⟩ [.ref ax, u] [.ref ax, y] _ _ rm gd e0 hb (.cons rfl (.cons ry .nil)) hsp2) fun r s' hq => ?_)
        cases r with
        | error e => exact passL pins σ H s e s' I hq
        | ok fl =>
          cases fl with
          | ret w =>
            obtain ⟨z, H', I', rz, k, ez, q⟩ := I.after hq
            subst ez
            cases rz
            exact ⟨k, rfl, .bl _, H', I', rfl, q⟩
          | next => exact False.elim hq
          | brk => exact False.elim hq
          | cont => exact False.elim hq
      have hu := ft.un
      cases neg with
      | false =>
        refine PySem.W.cmp_K (op := .Eq) (tb := tb) (by omega) hF I.ok.mod.kin J hb0 hnf Q0.eq Q0.fn ?_
        refine wpAny_mono (run X.A (hr.mono (by omega)) ft.gd rfl) (fun u s' z => ?_) fun _ _ z => z
        obtain ⟨k, rfl, z⟩ := z
        exact z
      | true =>
        refine ne_K (tb := tb) (by omega) hF I.ok.mod.kin J hb0 hnf Q0.eq Q0.fn Q0.ne O.mo ?_
        refine wpAny_mono (run X.A.in1 hr.in1 ft.gd rfl) (fun u s' z => ?_) fun _ _ z => z
        obtain ⟨k, rfl, z⟩ := z
        exact ⟨k, rfl, z⟩
    · dsimp only at po
      rw [if_neg hcc] at po
      exact po.elim
theorem de_eqi {d : Nat} {C f : Addr} {fd : FuncData} {ps : List Str} {sp : Sp} {nm : Str} {fs : List Str} {cc : Nat} {fc : List AV → MM AV} (neg : Bool) (hC : g.clA cc = some C) (O : ClOk X.K X.mg nm C fs) (Q0 : EqOk X.K C f)
    (F : FnG X.prog X.w X.K X.mg X.base d f fd ps sp) (hsp : ∀ B E F ι s vs as H Q, Rel (gsOf X g) B F ι H s → vs.length = ps.length → DenAll (gsOf X g) F ι vs as → Po (gsOf X g) B E F ι s (Den (gsOf X g)) (fc as s) Q → sp vs H Q E) (hps : ps.length = 2)
    (site : SiteOk X.K fd ps 2 [] [.at 0, .at 1]) (hr : Room (d + 1) X.A) (ft : Fit X) (ha : PE X a (TE1 (gsOf X g) W fa)) (hb : PE X b (TE1 (gsOf X g) W fb)) :
    PE X (.Compare a [eqOp neg] [b] pos) (TE1 (gsOf X g) W fun ρ => MM.bind (fa ρ) fun x => MM.bind (fb ρ) fun y => MM.bind (bothM cc x y) fun _ => MM.bind (nox (fc [x, y])) (negM neg)) := by
  have hm : behindInMarks (eqOp neg) b = false := nobehind b (by cases neg <;> simp [eqOp]) (by cases neg <;> simp [eqOp])
  refine PE.weak (pe_cmpR (eqi_ok (g := g) neg hC O Q0 F hsp hps site hr ft) ha hb hm) fun σ H Q h => op_seq (r := rEqi (gsOf X g) neg cc fc) (fun B E F ι s x y a b H Q R d1 d2 p => ⟨B, E, F, ι, s, a, b, R, d1, d2, p⟩) h
theorem dt_eqi {d : Nat} {C f : Addr} {fd : FuncData} {ps : List Str} {sp : Sp} {nm : Str} {fs : List Str} {cc : Nat} {fc : List AV → MM AV} (neg : Bool) (hC : g.clA cc = some C) (O : ClOk X.K X.mg nm C fs) (Q0 : EqOk X.K C f)
    (F : FnG X.prog X.w X.K X.mg X.base d f fd ps sp) (hsp : ∀ B E F ι s vs as H Q, Rel (gsOf X g) B F ι H s → vs.length = ps.length → DenAll (gsOf X g) F ι vs as → Po (gsOf X g) B E F ι s (Den (gsOf X g)) (fc as s) Q → sp vs H Q E) (hps : ps.length = 2)
    (site : SiteOk X.K fd ps 2 [] [.at 0, .at 1]) (hr : Room (d + 1) X.A) (ft : Fit X) (ha : PE X a (TE1 (gsOf X g) W fa)) (hb : PE X b (TE1 (gsOf X g) W fb)) :
    PT X (.Compare a [eqOp neg] [b] pos) (TT1 (gsOf X g) W fun ρ => MM.bind (MM.bind (fa ρ) fun x => MM.bind (fb ρ) fun y => MM.bind (bothM cc x y) fun _ => MM.bind (nox (fc [x, y])) (negM neg)) truM) := by
  have hm : behindInMarks (eqOp neg) b = false := nobehind b (by cases neg <;> simp [eqOp]) (by cases neg <;> simp [eqOp])
  refine PT.weak (pt_cmpR (eqi_ok (g := g) neg hC O Q0 F hsp hps site hr ft) ha hb hm) fun σ H Q ⟨B, F0, ι, ρ, s, R, e, p⟩ => ?_
  have key : tOp (rEqi (gsOf X g) neg cc fc) (TE1 (gsOf X g) W fa) (TE1 (gsOf X g) W fb) σ H (fun x H' => ∃ k, x = .bl k ∧ Q k H') := by
    refine op_seq (r := rEqi (gsOf X g) neg cc fc) (fun B E F ι s x y a b H Q R d1 d2 p => ⟨B, E, F, ι, s, a, b, R, d1, d2, p⟩) ⟨B, F0, ι, ρ, s, R, e, Po.firstE p fun v H1 F1 ι1 a s1 e1 st R1 d p1 => ?_⟩
    obtain ⟨x, s2, _, e2⟩ := bind_ok e1
    obtain ⟨y, s3, _, e3⟩ := bind_ok e2
    obtain ⟨_, s4, _, e4⟩ := bind_ok e3
    obtain ⟨t, s5, _, e5⟩ := bind_ok e4
    cases t with
    | bl k => cases e5; cases d; exact ⟨_, rfl, p1 _ _ _ _ Stp.refl R1 rfl⟩
    | _ => cases e5
  exact key

/-! ### a new instance -/
theorem DenAll.split {G : GS} {F : Hp} {ι : List Addr} : ∀ {vs ws : List V} {xs ys : List AV}, vs.length = xs.length → DenAll G F ι (vs ++ ws) (xs ++ ys) → DenAll G F ι vs xs ∧ DenAll G F ι ws ys
  | [], _, [], _, _, d => ⟨.nil, d⟩
  | _ :: _, _, _ :: _, _, h, .cons d r => ⟨.cons d (DenAll.split (by simpa using h) r).1, (DenAll.split (by simpa using h) r).2⟩
  | [], _, _ :: _, _, h, _ => by simp at h
  | _ :: _, _, [], _, h, _ => by simp at h
theorem de_new {d : Nat} {C fI : Addr} {fd : FuncData} {ps : List Str} {nm : Str} {fs' : List Str} {cc : Nat} {p : Pos} {es : List Expr} {kws : List Keyword} {fs gs : AE → MM (List AV)} {fc : List AV → MM AV} {np : Nat} {ks : List Str} {perm : List PArg} {sp : Sp} {al : Bool}
    (hC : g.clA cc = some C) (O : ClOk X.K X.mg nm C fs') (hI : PySem.W.findIn X.K (.ref C) "__init__" = some (some (.ref fI))) (hF : PySem.W.isFn X.K (.ref fI) = true)
    (F : FnG X.prog X.w X.K X.mg X.base d fI fd ps sp) (hsp : ∀ B E F ι s vs as H Q, Rel (gsOf X g) B F ι H s → vs.length = ps.length → DenAll (gsOf X g) F ι vs as → Po (gsOf X g) B E F ι s (Den (gsOf X g)) (fc as s) Q → sp vs H Q E)
    (hcl : ∀ as s, as.length ≠ ps.length → fc as s = .stuck)
    (hr : Room (d + 1) X.A) (ft : Fit X) (tk : Takes X W) (hg : Gl X nm) (hdb : (nm == ("__debug__" : Str)) = false) (site : SiteOk X.K fd ps (np + 1) ks perm)
    (hes : es.all notStar = true) (hnp : es.length = np) (hks : kws.map (fun k => k.arg) = ks.map some)
    (ha : PA X es (TA1 (gsOf X g) W fs)) (he0 : es = [] → ∀ ρ, fs ρ = MM.pure []) (hla : ∀ ρ s vs s', fs ρ s = .ok vs s' → vs.length = np) (hkw : PK X kws (TA1 (gsOf X g) W gs)) (hk0 : kws = [] → ∀ ρ, gs ρ = MM.pure []) (hlk : ∀ ρ s vs s', gs ρ s = .ok vs s' → vs.length = ks.length) :
    PE X (.Call (.Name nm p) es kws pos) (TE1 (gsOf X g) W fun ρ => MM.bind (fs ρ) fun v1 => MM.bind (gs ρ) fun v2 => newM (fun _ as _ => fc as) al cc 0 (v1 ++ v2) perm) := by
  refine ⟨fun pins s σ H Q I h => ?_⟩
  obtain ⟨B, F0, ι, ρ, st, R, ev, po⟩ := h
  dsimp only at po
  obtain ⟨hall, hany, hfm⟩ := kw_all (env := X.env) (pos := pos) hks
  have finP : ∀ {B : Hp} {s2 : Shared} {us ws : List Value} {vs zs : List V} {H2 : Hp} {F2 ι2 st2} {as bs : List AV}, Inv X pins σ H2 s2 → Vals vs us → Vals zs ws → vs.length = np → zs.length = ks.length → Rel (gsOf X g) B F2 ι2 H2 st2 → DenAll (gsOf X g) F2 ι2 vs as → DenAll (gsOf X g) F2 ι2 zs bs →
      Po (gsOf X g) B (fun c d H => W c d σ H) F2 ι2 st2 (Den (gsOf X g)) (newP (fun _ as _ => fc as) al cc 0 (as ++ bs) perm st2) Q →
      wpAny (model X.prog X.w) X.A (call (.ref C) us (ks.zip ws)) (EP X pins σ Q) X.xe s2 := fun {B s2 us ws vs zs H2 F2 ι2 st2 as bs} I2 r1 r2 l1 l2 R2 d1 d2 p2 => by
    have n1 : H2 s2.heap.objs.size = none := I2.hok.fresh (Nat.le_refl _)
    have n2 : H2 (s2.heap.objs.size + 1) = none := I2.hok.fresh (Nat.le_succ _)
    have I3 := Inv.made (C := C) I2
    generalize hx : s2.heap.objs.size + 1 = x at I3 n2
    generalize hdx : s2.heap.objs.size = dx at I3 n1
    have nxd : x ≠ dx := by omega
    obtain ⟨sa, Ra⟩ := R2.fresh (.own x) n1
    obtain ⟨sb, Rb⟩ := Ra.newCell (ho := .ins C dx []) (ob0 := .ins cc []) (p := x) (by rw [upd_ne nxd]; exact n2) fun hF => ⟨hF, C, dx, [], upd_same, hC, rfl, .nil⟩
    have hix : (ι2 ++ [x])[st2.cells.length]? = some x := by
      rw [← R2.len, List.getElem?_append_right (Nat.le_refl _)]
      simp
    have Rc : Rel (gsOf X g) B (upd F2 dx (.own x)) (ι2 ++ [x]) (upd (upd H2 dx (.own x)) x (.ins C dx [])) { cells := st2.cells ++ [.ins cc []], opn := false } := ⟨Rb.sub, Rb.out, Rb.len, Rb.nd, Rb.here, Rb.cell, Rb.tab⟩
    have sc : Stp (gsOf X g) F2 ι2 { cells := st2.cells, opn := false } (upd F2 dx (.own x)) (ι2 ++ [x]) { cells := st2.cells ++ [.ins cc []], opn := false } := ⟨sa.sm, ⟨[x], rfl⟩, Clo.keep ⟨_, rfl⟩ rfl⟩
    have rself : Vals (V.ref x :: vs) (Value.ref x :: us) := .cons rfl r1
    obtain ⟨us', pv, hb⟩ := site { s2 with heap := (s2.heap.push PySem.W.emptyDict).push (PySem.W.instObj C dx) } (.ref x :: us) ws I3.kIn (by rw [List.length_cons, ← r1.length, l1]) (r2.length.symm.trans l2)
    unfold newP at p2
    cases hm2 : mapO (argOf (.ref st2.cells.length :: (as ++ bs))) perm with
    | none => rw [hm2] at p2; exact p2.elim
    | some args =>
      rw [hm2] at p2
      have dself : DenAll (gsOf X g) (upd F2 dx (.own x)) (ι2 ++ [x]) (V.ref x :: vs ++ zs) (AV.ref st2.cells.length :: as ++ bs) := .cons (.ref hix) ((d1.append d2).stp sc)
      obtain ⟨vs', r', d'⟩ := PermV.den (rself.append r2) dself pv hm2
      have hlen : vs'.length = ps.length := by
        rw [d'.length]
        by_cases e : args.length = ps.length
        · exact e
        · have p3 := p2
          simp only [hcl args _ e] at p3
          exact p3.elim
      have hsp2 : sp vs' (upd (upd H2 dx (.own x)) x (.ins C dx [])) (fun v H3 => v = .non ∧ Q (.ref x) H3) (fun c d H => W c d σ H) := by
        refine hsp B _ _ _ _ vs' args _ _ Rc hlen d' ?_
        revert p2
        simp only
        cases fc args { cells := st2.cells ++ [.ins cc []], opn := false } with
        | ok z s4 =>
          intro p2 v H4 F4 ι4 st4 R4 d4
          cases z with
          | non =>
            cases d4
            have hx4 : ι4[st2.cells.length]? = some x := pre_get st4.pre hix
            exact ⟨rfl, leaveV_ok R2.len R2.refs p2 (sc.trans st4) R4 (.ref hx4)⟩
          | _ => exact p2.elim
        | exc z s4 => exact fun p2 cls d4 H4 F4 ι4 st4 R4 ed => leaveX_ok (D := Den (gsOf X g)) (Q := Q) R2.len R2.refs (Po.leaveX (α := AV) p2) (sc.trans st4) R4 ed
        | stuck => exact fun p2 => p2.elim
      subst hx; subst hdx
      refine wpAny_call (make_map (f := fI) I2.kIn O.makes hI (beq_iff_eq.mp hF) (codeAny_mono (F.run _ X.stack _ _ ⟨Value.ref (s2.heap.objs.size + 1) :: us, ks.zip ws⟩ us' vs' _ _ (hr.make C us (ks.zip ws)) ft.gd
        (I3.env0.make C us (ks.zip ws)) hb r' hsp2) fun r s' hq' => ?_))
      cases r with
      | error e => exact passAt tk σ pins _ _ e s' I3 hq'
      | ok fl =>
        cases fl with
        | ret u =>
          obtain ⟨v, H', I4, rv, ev, q3⟩ := I3.after hq'
          subst ev
          exact ⟨rv, ⟨V.ref (s2.heap.objs.size + 1), H', I4, rfl, q3⟩⟩
        | next => exact False.elim hq'
        | brk => exact False.elim hq'
        | cont => exact False.elim hq'
  have fin : ∀ {s2 : Shared} {us ws : List Value} {vs zs : List V} {H2 : Hp} {F2 ι2 st2} {as bs : List AV}, Inv X pins σ H2 s2 → Vals vs us → Vals zs ws → vs.length = np → zs.length = ks.length → Rel (gsOf X g) B F2 ι2 H2 st2 → DenAll (gsOf X g) F2 ι2 vs as → DenAll (gsOf X g) F2 ι2 zs bs →
      Po (gsOf X g) B (fun c d H => W c d σ H) F2 ι2 st2 (Den (gsOf X g)) (newM (fun _ as _ => fc as) al cc 0 (as ++ bs) perm st2) Q →
      wpAny (model X.prog X.w) X.A (call (.ref C) us (ks.zip ws)) (EP X pins σ Q) X.xe s2 := fun {s2 us ws vs zs H2 F2 ι2 st2 as bs} I2 r1 r2 l1 l2 R2 d1 d2 p2 => by
    cases al with
    | true => exact finP I2 r1 r2 l1 l2 R2 d1 d2 p2
    | false =>
      obtain ⟨B1, ι3, s3, R3, d3, p3⟩ := Po.unframe R2 (d1.append d2) p2
      obtain ⟨d4, d5⟩ := DenAll.split d1.length d3
      exact finP I2 r1 r2 l1 l2 R3 d4 d5 p3
  refine wpAny_Call_Name_kw (ld_glob I hg O.gC ?_ hdb)
  have step2 : ∀ {s1 : Shared} {us : List Value} {vs : List V} {H1 : Hp} {F1 ι1 st1} {as : List AV}, Inv X pins σ H1 s1 → Vals vs us → vs.length = np → Rel (gsOf X g) B F1 ι1 H1 st1 → EnvR (gsOf X g) F1 ι1 σ ρ → DenAll (gsOf X g) F1 ι1 vs as →
      Po (gsOf X g) B (fun c d H => W c d σ H) F1 ι1 st1 (Den (gsOf X g)) (MM.bind (gs ρ) (fun v2 => newM (fun _ as _ => fc as) al cc 0 (as ++ v2) perm) st1) Q →
      (kws = [] → wpAny (model X.prog X.w) X.A (call (.ref C) us) (EP X pins σ Q) X.xe s1) ∧
      (kws ≠ [] → wpAny (model X.prog X.w) X.A (evalAll ((backToKw pos (keywordEach kws X.env)).map (·.2))) (fun ks2 s₂ => X.K.In s₂.heap ∧ wpAny (model X.prog X.w) X.A (call (.ref C) us (((backToKw pos (keywordEach kws X.env)).filterMap (·.1)).zip ks2)) (EP X pins σ Q) X.xe s₂) X.xe s1) := fun {s1 us vs H1 F1 ι1 st1 as} I1 r1 l1 R1 ev1 d1 p1 => by
    refine ⟨fun e => ?_, fun _ => ?_⟩
    · have hks0 : ks = [] := by
        subst e
        cases ks with
        | nil => rfl
        | cons _ _ => simp at hks
      rw [hk0 e ρ] at p1
      have := fin (us := us) (ws := []) I1 r1 .nil l1 (by rw [hks0]; rfl) R1 d1 .nil p1
      rw [hks0] at this
      exact this
    · have hT : TA1 (gsOf X g) W gs σ H1 fun zs H2 => ∃ F2 ι2 st2 bs, zs.length = ks.length ∧ Rel (gsOf X g) B F2 ι2 H2 st2 ∧ DenAll (gsOf X g) F2 ι2 vs as ∧ DenAll (gsOf X g) F2 ι2 zs bs ∧
          Po (gsOf X g) B (fun c d H => W c d σ H) F2 ι2 st2 (Den (gsOf X g)) (newM (fun _ as _ => fc as) al cc 0 (as ++ bs) perm st2) Q :=
        ⟨B, F1, ι1, ρ, st1, R1, ev1, Po.firstE p1 fun v2 H2 F2 ι2 a2 s2 e2 st2 R2 d2 p2 => ⟨F2, ι2, s2, a2, by rw [d2.length, hlk _ _ _ _ e2], R2, d1.stp st2, d2, p2⟩⟩
      refine thn (hkw.run pos pins s1 σ H1 _ I1 hT) fun ws s2 ⟨zs, H2, I2, r2, F2, ι2, st2, bs, l2, R2, da, db, p2⟩ => ⟨I2.kIn, ?_⟩
      rw [hfm]
      exact fin I2 r1 r2 l1 l2 R2 da db p2
  cases hes0 : es with
  | nil =>
    subst hes0
    rw [he0 rfl ρ] at po
    have hs2 := step2 (us := []) I .nil (by simpa using hnp) R ev .nil po
    cases hkw0 : kws with
    | nil => subst hkw0; exact PySem.W.callWith_K0 I.kIn O.kp (hs2.1 rfl)
    | cons k kws' =>
      subst hkw0
      exact PySem.W.callWith_KW0 (h₀ := X.base) I.ok.mod.kin O.kp hall (hs2.2 (by simp)) (by rw [hany]; rfl)
  | cons e es' =>
    subst hes0
    rw [List.all_cons, Bool.and_eq_true] at hes
    have hT : TA1 (gsOf X g) W fs σ H fun vs H1 => ∃ F1 ι1 st1 as, vs.length = np ∧ Rel (gsOf X g) B F1 ι1 H1 st1 ∧ EnvR (gsOf X g) F1 ι1 σ ρ ∧ DenAll (gsOf X g) F1 ι1 vs as ∧
        Po (gsOf X g) B (fun c d H => W c d σ H) F1 ι1 st1 (Den (gsOf X g)) (MM.bind (gs ρ) (fun v2 => newM (fun _ as _ => fc as) al cc 0 (as ++ v2) perm) st1) Q :=
      ⟨B, F0, ι, ρ, st, R, ev, Po.firstE po fun v H1 F1 ι1 a s1 e1 st1 R1 d1 p1 => ⟨F1, ι1, s1, a, by rw [d1.length, hla _ _ _ _ e1], R1, ev.stp st1, d1, p1⟩⟩
    cases hkw0 : kws with
    | nil =>
      subst hkw0
      refine PySem.W.callWith_K (h₀ := X.base) I.ok.mod.kin O.kp (thn (ha.run pos pins s σ H _ I hT) fun us s1 ⟨vs, H1, I1, r1, F1, ι1, st1, as, l1, R1, ev1, d1, p1⟩ => ⟨I1.kIn, ?_⟩) (star_cons hes.1) (star_any hes.2)
      exact (step2 I1 r1 l1 R1 ev1 d1 p1).1 rfl
    | cons k kws' =>
      subst hkw0
      refine PySem.W.callWith_KW (h₀ := X.base) I.ok.mod.kin O.kp hall (thn (ha.run pos pins s σ H _ I hT) fun us s1 ⟨vs, H1, I1, r1, F1, ι1, st1, as, l1, R1, ev1, d1, p1⟩ => ?_) ?_ (star_cons hes.1)
      · exact (step2 I1 r1 l1 R1 ev1 d1 p1).2 (by simp)
      · rw [hany, star_cons hes.1]
        show ((false || (backTo pos (starEach es' X.env)).any (·.1)) || false) = false
        rw [star_any hes.2]; rfl
end
end Ev

set_option linter.all false
set_option maxRecDepth 100000
set_option maxHeartbeats 1000000
/-! EvMe: methods of own instances called; str of them. Own work. -/
namespace Ev
open PySem PySem.Spec PyProof.Rows L2
theorem den_lookupN {f : Str} : ∀ {vfs : List (Str × V)} {fs : List (Str × AV)}, vfs.map (·.1) = fs.map (·.1) → fs.lookup f = none → vfs.lookup f = none
  | [], [], _, _ => rfl
  | (a, v) :: vfs, (b, y) :: fs, hk, e => by
    simp only [List.map_cons, List.cons.injEq] at hk
    obtain ⟨rfl, hk⟩ := hk
    rw [List.lookup_cons] at e ⊢
    cases hb : f == a with
    | true => rw [hb] at e; cases e
    | false => rw [hb] at e; exact den_lookupN hk e
  | [], _ :: _, hk, _ => by simp at hk
  | _ :: _, [], hk, _ => by simp at hk
section
variable {X : Cx} {g : GN} {W : WX} {o : Expr} {fo : AE → MM AV} {pos : Pos}
/-- behind the callee: the arguments, then the run -/
theorem callRest {d : Nat} {f : Addr} {fd : FuncData} {ps : List Str} {es : List Expr} {kws : List Keyword} {fs gs : AE → MM (List AV)} {c : List AV → MM AV} {np : Nat} {ks : List Str} {perm : List PArg} {sp : Sp}
    (F : FnG X.prog X.w X.K X.mg X.base d f fd ps sp) (hsp : ∀ B E F ι s vs as H Q, Rel (gsOf X g) B F ι H s → vs.length = ps.length → DenAll (gsOf X g) F ι vs as → Po (gsOf X g) B E F ι s (Den (gsOf X g)) (c as s) Q → sp vs H Q E)
    (hc : ∀ as s, as.length ≠ ps.length → c as s = .stuck)
    (hr : Room d X.A) (ft : Fit X) (tk : Takes X W) (hk : PySem.W.keepIn X.K (.ref f) = true) (site : SiteOk X.K fd ps np ks perm)
    (hes : es.all notStar = true) (hks : kws.map (fun k => k.arg) = ks.map some)
    (ha : PA X es (TA1 (gsOf X g) W fs)) (he0 : es = [] → ∀ ρ, fs ρ = MM.pure []) (hla : ∀ ρ s vs s', fs ρ s = .ok vs s' → vs.length = es.length) (hkw : PK X kws (TA1 (gsOf X g) W gs)) (hk0 : kws = [] → ∀ ρ, gs ρ = MM.pure []) (hlk : ∀ ρ s vs s', gs ρ s = .ok vs s' → vs.length = ks.length)
    {pins : List (Addr × Obj)} {s : Shared} {σ : L2.St} {H : Hp} {Q : VK} {us0 : List Value} {vs0 : List V} {as0 : List AV} {B F0 : Hp} {ι : List Addr} {ρ : AE} {st : AS} (hnp : us0.length + es.length = np) (r0 : Vals vs0 us0) (d0 : DenAll (gsOf X g) F0 ι vs0 as0)
    (I : Inv X pins σ H s) (R : Rel (gsOf X g) B F0 ι H st) (ev : EnvR (gsOf X g) F0 ι σ ρ)
    (po : Po (gsOf X g) B (fun c d H => W c d σ H) F0 ι st (Den (gsOf X g)) (MM.bind (fs ρ) (fun v1 => MM.bind (gs ρ) fun v2 => match mapO (argOf (as0 ++ (v1 ++ v2))) perm with | some args => c args | none => stuck) st) Q) :
    wpAny (model X.prog X.w) X.A (callWith pos (.ref f) us0 (backTo pos (starEach es X.env)) (backToKw pos (keywordEach kws X.env))) (EP X pins σ Q) X.xe s := by
  obtain ⟨hall, hany, hfm⟩ := kw_all (env := X.env) (pos := pos) hks
  have fin : ∀ {s2 : Shared} {us ws : List Value} {vs zs : List V} {H2 : Hp} {F2 ι2 st2} {as bs : List AV}, Inv X pins σ H2 s2 → Vals vs us → Vals zs ws → vs.length = es.length → zs.length = ks.length → Rel (gsOf X g) B F2 ι2 H2 st2 → DenAll (gsOf X g) F2 ι2 vs0 as0 → DenAll (gsOf X g) F2 ι2 vs as → DenAll (gsOf X g) F2 ι2 zs bs →
      Po (gsOf X g) B (fun c d H => W c d σ H) F2 ι2 st2 (Den (gsOf X g)) ((match mapO (argOf (as0 ++ (as ++ bs))) perm with | some args => c args | none => stuck) st2) Q →
      wpAny (model X.prog X.w) X.A (call (.ref f) (us0 ++ us) (ks.zip ws)) (EP X pins σ Q) X.xe s2 := fun {s2 us ws vs zs H2 F2 ι2 st2 as bs} I2 r1 r2 l1 l2 R2 d0' d1 d2 p2 => by
    obtain ⟨us', pv, hb⟩ := site s2 (us0 ++ us) ws I2.kIn (by rw [List.length_append, ← r1.length, l1, hnp]) (r2.length.symm.trans l2)
    cases hm2 : mapO (argOf (as0 ++ (as ++ bs))) perm with
    | none => rw [hm2] at p2; exact p2.elim
    | some args =>
      rw [hm2] at p2
      have rr : Vals (vs0 ++ vs ++ zs) (us0 ++ us ++ ws) := (r0.append r1).append r2
      have dd : DenAll (gsOf X g) F2 ι2 (vs0 ++ vs ++ zs) (as0 ++ (as ++ bs)) := by
        rw [← List.append_assoc]
        exact (d0'.append d1).append d2
      obtain ⟨vs', r', d'⟩ := PermV.den rr dd pv hm2
      have hlen : vs'.length = ps.length := by
        rw [d'.length]
        by_cases e : args.length = ps.length
        · exact e
        · have p3 : Po (gsOf X g) B (fun c d H => W c d σ H) F2 ι2 st2 (Den (gsOf X g)) (c args st2) Q := p2
          rw [hc args st2 e] at p3
          exact p3.elim
      exact run_fnS F hr ft.gd tk I2 hb r' (hsp B _ F2 ι2 st2 vs' args H2 Q R2 hlen d' p2)
  have step2 : ∀ {s1 : Shared} {us : List Value} {vs : List V} {H1 : Hp} {F1 ι1 st1} {as : List AV}, Inv X pins σ H1 s1 → Vals vs us → vs.length = es.length → Rel (gsOf X g) B F1 ι1 H1 st1 → EnvR (gsOf X g) F1 ι1 σ ρ → DenAll (gsOf X g) F1 ι1 vs0 as0 → DenAll (gsOf X g) F1 ι1 vs as →
      Po (gsOf X g) B (fun c d H => W c d σ H) F1 ι1 st1 (Den (gsOf X g)) (MM.bind (gs ρ) (fun v2 => match mapO (argOf (as0 ++ (as ++ v2))) perm with | some args => c args | none => stuck) st1) Q →
      (kws = [] → wpAny (model X.prog X.w) X.A (call (.ref f) (us0 ++ us)) (EP X pins σ Q) X.xe s1) ∧
      (kws ≠ [] → wpAny (model X.prog X.w) X.A (evalAll ((backToKw pos (keywordEach kws X.env)).map (·.2))) (fun ks2 s₂ => X.K.In s₂.heap ∧ wpAny (model X.prog X.w) X.A (call (.ref f) (us0 ++ us) (((backToKw pos (keywordEach kws X.env)).filterMap (·.1)).zip ks2)) (EP X pins σ Q) X.xe s₂) X.xe s1) := fun {s1 us vs H1 F1 ι1 st1 as} I1 r1 l1 R1 ev1 d0' d1 p1 => by
    refine ⟨fun e => ?_, fun _ => ?_⟩
    · have hks0 : ks = [] := by
        subst e
        cases ks with
        | nil => rfl
        | cons _ _ => simp at hks
      rw [hk0 e ρ] at p1
      have := fin (us := us) (ws := []) I1 r1 .nil l1 (by rw [hks0]; rfl) R1 d0' d1 .nil p1
      rw [hks0] at this
      exact this
    · have hT : TA1 (gsOf X g) W gs σ H1 fun zs H2 => ∃ F2 ι2 st2 bs, zs.length = ks.length ∧ Rel (gsOf X g) B F2 ι2 H2 st2 ∧ DenAll (gsOf X g) F2 ι2 vs0 as0 ∧ DenAll (gsOf X g) F2 ι2 vs as ∧ DenAll (gsOf X g) F2 ι2 zs bs ∧
          Po (gsOf X g) B (fun c d H => W c d σ H) F2 ι2 st2 (Den (gsOf X g)) ((match mapO (argOf (as0 ++ (as ++ bs))) perm with | some args => c args | none => stuck) st2) Q :=
        ⟨B, F1, ι1, ρ, st1, R1, ev1, Po.firstE p1 fun v2 H2 F2 ι2 a2 s2 e2 st2 R2 d2 p2 => ⟨F2, ι2, s2, a2, by rw [d2.length, hlk _ _ _ _ e2], R2, d0'.stp st2, d1.stp st2, d2, p2⟩⟩
      refine thn (hkw.run pos pins s1 σ H1 _ I1 hT) fun ws s2 ⟨zs, H2, I2, r2, F2, ι2, st2, bs, l2, R2, d0', da, db, p2⟩ => ⟨I2.kIn, ?_⟩
      rw [hfm]
      exact fin I2 r1 r2 l1 l2 R2 d0' da db p2
  cases hes0 : es with
  | nil =>
    subst hes0
    rw [he0 rfl ρ] at po
    have hs2 := step2 (us := []) I .nil rfl R ev d0 .nil po
    cases hkw0 : kws with
    | nil => subst hkw0; exact PySem.W.callWith_K0 I.kIn hk (hs2.1 rfl)
    | cons k kws' =>
      subst hkw0
      exact PySem.W.callWith_KW0 (h₀ := X.base) I.ok.mod.kin hk hall (hs2.2 (by simp)) (by rw [hany]; rfl)
  | cons e es' =>
    subst hes0
    rw [List.all_cons, Bool.and_eq_true] at hes
    have hT : TA1 (gsOf X g) W fs σ H fun vs H1 => ∃ F1 ι1 st1 as, vs.length = (e :: es').length ∧ Rel (gsOf X g) B F1 ι1 H1 st1 ∧ EnvR (gsOf X g) F1 ι1 σ ρ ∧ DenAll (gsOf X g) F1 ι1 vs0 as0 ∧ DenAll (gsOf X g) F1 ι1 vs as ∧
        Po (gsOf X g) B (fun c d H => W c d σ H) F1 ι1 st1 (Den (gsOf X g)) (MM.bind (gs ρ) (fun v2 => match mapO (argOf (as0 ++ (as ++ v2))) perm with | some args => c args | none => stuck) st1) Q :=
      ⟨B, F0, ι, ρ, st, R, ev, Po.firstE po fun v H1 F1 ι1 a s1 e1 st1 R1 d1 p1 => ⟨F1, ι1, s1, a, by rw [d1.length, hla _ _ _ _ e1], R1, ev.stp st1, d0.stp st1, d1, p1⟩⟩
    cases hkw0 : kws with
    | nil =>
      subst hkw0
      refine PySem.W.callWith_K (h₀ := X.base) I.ok.mod.kin hk (thn (ha.run pos pins s σ H _ I hT) fun us s1 ⟨vs, H1, I1, r1, F1, ι1, st1, as, l1, R1, ev1, d0', d1, p1⟩ => ⟨I1.kIn, ?_⟩) (star_cons hes.1) (star_any hes.2)
      exact (step2 I1 r1 l1 R1 ev1 d0' d1 p1).1 rfl
    | cons k kws' =>
      subst hkw0
      refine PySem.W.callWith_KW (h₀ := X.base) I.ok.mod.kin hk hall (thn (ha.run pos pins s σ H _ I hT) fun us s1 ⟨vs, H1, I1, r1, F1, ι1, st1, as, l1, R1, ev1, d0', d1, p1⟩ => ?_) ?_ (star_cons hes.1)
      · exact (step2 I1 r1 l1 R1 ev1 d0' d1 p1).2 (by simp)
      · rw [hany, star_cons hes.1]
        show ((false || (backTo pos (starEach es' X.env)).any (·.1)) || false) = false
        rw [star_any hes.2]; rfl
/-- o.m(..) -/
theorem de_meth {d : Nat} {f : Addr} {fd : FuncData} {ps : List Str} {m : Str} {apos : Pos} {es : List Expr} {kws : List Keyword} {fs gs : AE → MM (List AV)} {c : List AV → MM AV} {np : Nat} {ks : List Str} {perm : List PArg} {sp : Sp} {cs : List Nat}
    (hC : ∀ i C, cs.contains i = true → g.clA i = some C → Cls X.K C ∧ Meth X.K C m f)
    (F : FnG X.prog X.w X.K X.mg X.base d f fd ps sp) (hsp : ∀ B E F ι s vs as H Q, Rel (gsOf X g) B F ι H s → vs.length = ps.length → DenAll (gsOf X g) F ι vs as → Po (gsOf X g) B E F ι s (Den (gsOf X g)) (c as s) Q → sp vs H Q E)
    (hc : ∀ as s, as.length ≠ ps.length → c as s = .stuck) (hr : Room d X.A) (ft : Fit X) (tk : Takes X W) (site : SiteOk X.K fd ps np ks perm)
    (ho : PE X o (TE1 (gsOf X g) W fo)) (hbase : attributeBase o m X.env (eval o X.env) = eval o X.env)
    (hfew : methodCallForm (es.length + kws.length) (backTo pos (starEach es X.env)) (backToKw pos (keywordEach kws X.env)) = true) (hline : (apos.endLine == pos.line) = true)
    (hes : es.all notStar = true) (hnp : es.length + 1 = np) (hks : kws.map (fun k => k.arg) = ks.map some)
    (ha : PA X es (TA1 (gsOf X g) W fs)) (he0 : es = [] → ∀ ρ, fs ρ = MM.pure []) (hla : ∀ ρ s vs s', fs ρ s = .ok vs s' → vs.length = es.length) (hkw : PK X kws (TA1 (gsOf X g) W gs)) (hk0 : kws = [] → ∀ ρ, gs ρ = MM.pure []) (hlk : ∀ ρ s vs s', gs ρ s = .ok vs s' → vs.length = ks.length) :
    PE X (.Call (.Attribute o m apos) es kws pos) (TE1 (gsOf X g) W fun ρ => MM.bind (fo ρ) fun x => MM.bind (mthChk cs m x) fun _ => MM.bind (fs ρ) fun v1 => MM.bind (gs ρ) fun v2 => match mapO (argOf (x :: (v1 ++ v2))) perm with | some args => c args | none => stuck) := by
  refine ⟨fun pins s σ H Q I h => ?_⟩
  obtain ⟨B, F0, ι, ρ, st, R, ev, po⟩ := h
  have h1 := Tv.seq (W := W) R ev po fun v H1 F1 ι1 a s1 st1 R1 e1 d1 p1 => (⟨F1, ι1, s1, a, R1, e1, d1, p1⟩ : (fun v H1 => ∃ F1 ι1 s1 a, Rel (gsOf X g) B F1 ι1 H1 s1 ∧ EnvR (gsOf X g) F1 ι1 σ ρ ∧ Den (gsOf X g) F1 ι1 v a ∧
    Po (gsOf X g) B (fun c d H => W c d σ H) F1 ι1 s1 (Den (gsOf X g)) (MM.bind (mthChk cs m a) (fun _ => MM.bind (fs ρ) fun v1 => MM.bind (gs ρ) fun v2 => match mapO (argOf (a :: (v1 ++ v2))) perm with | some args => c args | none => stuck) s1) Q) v H1)
  refine PySem.W.methodCall_KW (thn (ho.run pins s σ H _ I h1) fun u s1 ⟨x, H1, I1, rx, F1, ι1, st1, a, R1, e1, d1, p1⟩ => ?_) (call_form hbase hfew hline)
  unfold MM.bind mthChk at p1
  cases hi : insOf st1.cells a with
  | none => rw [hi] at p1; exact p1.elim
  | some q =>
    obtain ⟨i, vfs⟩ := q
    rw [hi] at p1
    dsimp only at p1
    by_cases hcs : cs.contains i = true ∧ vfs.lookup m = none
    · rw [if_pos hcs] at p1
      obtain ⟨ad, C, dx, wfs, rfl, hCl, hH, hkk, dd⟩ := R1.insR d1 hi
      cases rx
      obtain ⟨cl, mt⟩ := hC i C hcs.1 hCl
      refine getmeth_ok I1 hH cl mt (den_lookupN hkk hcs.2) ?_
      exact callRest (us0 := [.ref ad]) (vs0 := [.ref ad]) (as0 := [a]) F hsp hc hr ft tk mt.kp site hes hks ha he0 hla hkw hk0 hlk (by simp; omega) (.cons rfl .nil) (.cons d1 .nil) I1 R1 e1 p1
    · rw [if_neg hcs] at p1
      exact p1.elim
/-! ### str of an instance -/
def rStrc (G : GS) (cs : List Nat) (fc : List AV → MM AV) : List V → Hp → VK → Prop := fun vs H Q => ∃ B E F ι s x a, vs = [x] ∧ Rel G B F ι H s ∧ Den G F ι x a ∧ Po G B E F ι s (Den G) (strcM (fun _ as _ => fc as) cs 0 a s) Q
theorem strc_ok {d : Nat} {f : Addr} {fd : FuncData} {ps : List Str} {sp : Sp} {cs : List Nat} {fc : List AV → MM AV}
    (hC : ∀ i C, cs.contains i = true → g.clA i = some C → Meth X.K C "__str__" f)
    (F : FnG X.prog X.w X.K X.mg X.base d f fd ps sp) (hsp : ∀ B E F ι s vs as H Q, Rel (gsOf X g) B F ι H s → vs.length = ps.length → DenAll (gsOf X g) F ι vs as → Po (gsOf X g) B E F ι s (Den (gsOf X g)) (fc as s) Q → sp vs H Q E) (hps : ps.length = 1)
    (site : SiteOk X.K fd ps 1 [] [.at 0]) (hr : Room (d + 2) X.A) (ft : Fit X) : CallR X (.type "str") (rStrc (gsOf X g) cs fc) := by
  intro pins s σ H vs us Q I r h
  obtain ⟨B, E, F0, ι, st, x, a, rfl, R, da, po⟩ := h
  unfold strcM at po
  cases hi : insOf st.cells a with
  | none => rw [hi] at po; exact po.elim
  | some q =>
    obtain ⟨i, vfs⟩ := q
    rw [hi] at po
    dsimp only at po
    by_cases hcs : cs.contains i = true
    · rw [if_pos hcs] at po
      obtain ⟨ad, C, dx, wfs, rfl, hCl, hH, hkk, dd⟩ := R.insR da hi
      have mt := hC i C hcs hCl
      cases r with
      | cons rx rr =>
        cases rr
        cases rx
        obtain ⟨mA, J, _⟩ := ins_get I.hok hH
        obtain ⟨od, J, _⟩ := J.look
        have hsp2 : sp [.ref ad] H (fun v H1 => ∃ z, v = .str z ∧ Q (.str z) H1) (fun _ _ _ => False) := by
          refine hsp B _ F0 ι st _ [a] H _ R (by rw [hps]; rfl) (.cons da .nil) ?_
          revert po
          cases fc [a] st with
          | ok z s1 =>
            intro po v H1 F1 ι1 st1 R1 d1
            cases d1 with
            | str z => exact ⟨z, rfl, po _ H1 F1 ι1 st1 R1 (.str _)⟩
            | _ => exact po.elim
          | exc z s1 => exact fun po => po.elim
          | stuck => exact fun po => po.elim
        obtain ⟨us', pv, hb⟩ := site s [.ref ad] [] I.kIn rfl rfl
        have e0 : us' = [.ref ad] := by
          cases pv with
          | «at» h1 h2 => cases h2; cases h1; rfl
        subst e0
        have e0 : Env0 X.prog X.w X.K X.mg X.base X.A.in1.in1 X.stack s H := by
          have e := I.env0
          exact ⟨e.frames, e.mod, e.bs, e.bsz, e.funs, e.frf, e.hok, e.bare⟩
        have hu := ft.un
        refine PySem.W.kso_call (by show X.A.units + 1 + 1 < cLine; omega) I.kIn J mt.at_ mt.fn ?_
        refine wpAny_call (codeAny_mono (F.run X.A.in1.in1 X.stack s H ⟨[.ref ad], []⟩ [.ref ad] [.ref ad] _ _ hr.in1.in1 ft.gd e0 hb (.cons rfl .nil) hsp2) fun r s' hq => ?_)
        cases r with
        | error e => exact passL pins σ H s e s' I hq
        | ok fl =>
          cases fl with
          | ret w =>
            obtain ⟨z, H', I', rz, k, ez, q⟩ := I.after hq
            subst ez
            obtain ⟨tk, rfl⟩ := rz
            exact ⟨.str k, H', I', ⟨tk, rfl⟩, q⟩
          | next => exact False.elim hq
          | brk => exact False.elim hq
          | cont => exact False.elim hq
    · rw [if_neg hcs] at po
      exact po.elim
theorem de_strc {d : Nat} {f : Addr} {fd : FuncData} {ps : List Str} {sp : Sp} {cs : List Nat} {fc : List AV → MM AV} {a : Expr} {fa : AE → MM AV} {p : Pos}
    (hC : ∀ i C, cs.contains i = true → g.clA i = some C → Meth X.K C "__str__" f)
    (F : FnG X.prog X.w X.K X.mg X.base d f fd ps sp) (hsp : ∀ B E F ι s vs as H Q, Rel (gsOf X g) B F ι H s → vs.length = ps.length → DenAll (gsOf X g) F ι vs as → Po (gsOf X g) B E F ι s (Den (gsOf X g)) (fc as s) Q → sp vs H Q E) (hps : ps.length = 1)
    (site : SiteOk X.K fd ps 1 [] [.at 0]) (hr : Room (d + 2) X.A) (ft : Fit X) (hg : Gl X "str") (hm : X.mg "str" = none) (ha : PE X a (TE1 (gsOf X g) W fa)) (hns : notStar a = true) :
    PE X (.Call (.Name "str" p) [a] [] pos) (TE1 (gsOf X g) W fun ρ => MM.bind (fa ρ) fun x => strcM (fun _ as _ => fc as) cs 0 x) := by
  refine PE.weak (pe_callTy (strc_ok (g := g) hC F hsp hps site hr ft) hg hm (by decide +kernel) (pa_cons ha pa_nil (star_cons hns)) (by decide) (by decide) (star_cons hns) rfl) fun σ H Q ⟨B, F, ι, ρ, s, R, ev, po⟩ => ?_
  exact Tv.seq R ev po fun v H1 F1 ι1 a s1 st R1 e1 d p1 => ⟨B, _, F1, ι1, s1, v, a, rfl, R1, d, p1⟩
end
end Ev

set_option linter.all false
set_option maxRecDepth 100000
set_option maxHeartbeats 1000000
/-! EvY: methods of lists; sorted sets. Own work. -/
namespace Ev
open PySem PySem.Spec PyProof.Rows L2
section
variable {X : Cx} {g : GN} {W : WX} {a b e : Expr} {fa fb : AE → MM AV} {pos : Pos}
/-- the receiver is a list cell -/
theorem bmChk_list {m : BM} (hm : m ≠ .join) (hg : m ≠ .get) {a : AV} {v : V} {f : Unit → MM AV} {G : GS} {B : Hp} {E : XK} {F : Hp} {ι : List Addr} {s : AS} {H : Hp} {Q : VK} (R : Rel G B F ι H s) (d : Den G F ι v a) (h : Po G B E F ι s (Den G) (MM.bind (bmChk m a) f s) Q) :
    tyV G.K "list" v H ∧ Po G B E F ι s (Den G) (f () s) Q := by
  have key : ∀ {k : Nat}, a = .ref k → (∃ xs, s.cells[k]? = some (.lst xs)) → tyV G.K "list" v H := fun {k} ea ⟨xs, hc⟩ => by
    subst ea
    cases d with
    | ref hk =>
      obtain ⟨_, vs, hH, _⟩ := R.cell _ _ _ hk hc
      exact .inl ⟨rfl, vs, .inl (.inl hH)⟩
  unfold MM.bind at h
  cases a with
  | ref k =>
    cases m with
    | join => exact (hm rfl).elim
    | get => exact (hg rfl).elim
    | _ =>
      simp only [bmChk] at h
      cases hc : s.cells[k]? with
      | none => rw [hc] at h; exact h.elim
      | some o =>
        rw [hc] at h
        cases o with
        | lst xs => exact ⟨key rfl ⟨xs, hc⟩, h⟩
        | _ => exact h.elim
  | _ =>
    cases m with
    | join => exact (hm rfl).elim
    | get => exact (hg rfl).elim
    | _ => exact h.elim
theorem de_append {o : Expr} {es : List Expr} {fo : AE → MM AV} {fs : AE → MM (List AV)} {apos cpos : Pos} (ho : PE X o (TE1 (gsOf X g) W fo)) (ha : PA X (a :: es) (TA1 (gsOf X g) W fs))
    (hbase : attributeBase o "append" X.env (eval o X.env) = eval o X.env)
    (hfew : ((backTo cpos (starEach (a :: es) X.env)).all (fun x => !x.1) && (backToKw cpos (keywordEach [] X.env)).all (fun x => x.1.isSome)
      && decide ((a :: es).length + ([] : List Keyword).length + (if ([] : List Keyword).isEmpty then 0 else 1) < 30)) = true)
    (hline : (apos.endLine == cpos.line) = true) (hs : starEach (a :: es) X.env = (false, eval a X.env) :: starEach es X.env) (hplain : (backTo cpos (starEach es X.env)).any (·.1) = false) :
    PE X (.Call (.Attribute o "append" apos) (a :: es) [] cpos) (TE1 (gsOf X g) W fun ρ => MM.bind (fo ρ) fun x => MM.bind (bmChk .append x) fun _ => MM.bind (fs ρ) fun vs => bmM .append x vs) := by
  refine PE.weak (pe_bm PySem.F.plainAttrs_list PySem.F.slot_list_append PySem.F.type_list_append (bm_ok (g := g) .append (by decide)) ho ha hbase hfew hline hs hplain) fun σ H Q ⟨B, F, ι, ρ, s, R, ev, po⟩ => ?_
  refine Tv.seq R ev po fun v H1 F1 ι1 a s1 st R1 ev1 d p1 => ?_
  obtain ⟨ty, p1⟩ := bmChk_list (m := _) (by intro z; cases z) (by intro z; cases z) R1 d p1
  refine ⟨ty, Tv.seq R1 ev1 p1 fun vs H2 F2 ι2 as s2 st2 R2 ev2 d2 p2 => ?_⟩
  exact ⟨B, _, F2, ι2, s2, _, as, R2, d.stp st2, d2, p2⟩

theorem de_get (hu : X.A.units + 1 < cLine) {o : Expr} {es : List Expr} {fo : AE → MM AV} {fs : AE → MM (List AV)} {apos cpos : Pos} (ho : PE X o (TE1 (gsOf X g) W fo)) (ha : PA X (a :: es) (TA1 (gsOf X g) W fs))
    (hbase : attributeBase o "get" X.env (eval o X.env) = eval o X.env)
    (hfew : ((backTo cpos (starEach (a :: es) X.env)).all (fun x => !x.1) && (backToKw cpos (keywordEach [] X.env)).all (fun x => x.1.isSome)
      && decide ((a :: es).length + ([] : List Keyword).length + (if ([] : List Keyword).isEmpty then 0 else 1) < 30)) = true)
    (hline : (apos.endLine == cpos.line) = true) (hs : starEach (a :: es) X.env = (false, eval a X.env) :: starEach es X.env) (hplain : (backTo cpos (starEach es X.env)).any (·.1) = false) :
    PE X (.Call (.Attribute o "get" apos) (a :: es) [] cpos) (TE1 (gsOf X g) W fun ρ => MM.bind (fo ρ) fun x => MM.bind (bmChk .get x) fun _ => MM.bind (fs ρ) fun vs => bmM .get x vs) := by
  refine PE.weak (pe_bm PySem.F.plainAttrs_dict PySem.F.slot_dict_get PySem.F.type_dict_get (get_ok (g := g) hu) ho ha hbase hfew hline hs hplain) fun σ H Q ⟨B, F, ι, ρ, s, R, ev, po⟩ => ?_
  refine Tv.seq R ev po fun v H1 F1 ι1 a s1 st R1 ev1 d p1 => ?_
  have ty : tyV X.K "dict" v H1 ∧ Po (gsOf X g) B (fun c d H => W c d σ H) F1 ι1 s1 (Den (gsOf X g)) ((MM.bind (fs ρ) fun vs => bmM .get a vs) s1) Q := by
    unfold MM.bind bmChk at p1
    simp only at p1
    cases ek : dctOf s1.cells a with
    | none => rw [ek] at p1; exact p1.elim
    | some kvs =>
      rw [ek] at p1
      obtain ⟨p, o, vs, rfl, ho, hd, _⟩ := R1.dct d ek
      refine ⟨.inr (.inr (.inl ⟨rfl, ?_⟩)), p1⟩
      rcases hd with ⟨ks, rfl, _⟩ | ⟨ks, rfl, _⟩
      · exact .inl ⟨ks, ho⟩
      · exact .inr ⟨ks, ho⟩
  refine ⟨ty.1, Tv.seq R1 ev1 ty.2 fun vs H2 F2 ι2 as s2 st2 R2 ev2 d2 p2 => ?_⟩
  exact ⟨B, _, F2, ι2, s2, _, as, R2, d.stp st2, d2, p2⟩
theorem de_pop {o : Expr} {es : List Expr} {fo : AE → MM AV} {fs : AE → MM (List AV)} {apos cpos : Pos} (ho : PE X o (TE1 (gsOf X g) W fo)) (ha : PA X (a :: es) (TA1 (gsOf X g) W fs))
    (hbase : attributeBase o "pop" X.env (eval o X.env) = eval o X.env)
    (hfew : ((backTo cpos (starEach (a :: es) X.env)).all (fun x => !x.1) && (backToKw cpos (keywordEach [] X.env)).all (fun x => x.1.isSome)
      && decide ((a :: es).length + ([] : List Keyword).length + (if ([] : List Keyword).isEmpty then 0 else 1) < 30)) = true)
    (hline : (apos.endLine == cpos.line) = true) (hs : starEach (a :: es) X.env = (false, eval a X.env) :: starEach es X.env) (hplain : (backTo cpos (starEach es X.env)).any (·.1) = false) :
    PE X (.Call (.Attribute o "pop" apos) (a :: es) [] cpos) (TE1 (gsOf X g) W fun ρ => MM.bind (fo ρ) fun x => MM.bind (bmChk .pop x) fun _ => MM.bind (fs ρ) fun vs => bmM .pop x vs) := by
  refine PE.weak (pe_bm PySem.F.plainAttrs_list PySem.F.slot_list_pop PySem.F.type_list_pop (bm_ok (g := g) .pop (by decide)) ho ha hbase hfew hline hs hplain) fun σ H Q ⟨B, F, ι, ρ, s, R, ev, po⟩ => ?_
  refine Tv.seq R ev po fun v H1 F1 ι1 a s1 st R1 ev1 d p1 => ?_
  obtain ⟨ty, p1⟩ := bmChk_list (m := _) (by intro z; cases z) (by intro z; cases z) R1 d p1
  refine ⟨ty, Tv.seq R1 ev1 p1 fun vs H2 F2 ι2 as s2 st2 R2 ev2 d2 p2 => ?_⟩
  exact ⟨B, _, F2, ι2, s2, _, as, R2, d.stp st2, d2, p2⟩

theorem de_extend {o : Expr} {es : List Expr} {fo : AE → MM AV} {fs : AE → MM (List AV)} {apos cpos : Pos} (ho : PE X o (TE1 (gsOf X g) W fo)) (ha : PA X (a :: es) (TA1 (gsOf X g) W fs))
    (hbase : attributeBase o "extend" X.env (eval o X.env) = eval o X.env)
    (hfew : ((backTo cpos (starEach (a :: es) X.env)).all (fun x => !x.1) && (backToKw cpos (keywordEach [] X.env)).all (fun x => x.1.isSome)
      && decide ((a :: es).length + ([] : List Keyword).length + (if ([] : List Keyword).isEmpty then 0 else 1) < 30)) = true)
    (hline : (apos.endLine == cpos.line) = true) (hs : starEach (a :: es) X.env = (false, eval a X.env) :: starEach es X.env) (hplain : (backTo cpos (starEach es X.env)).any (·.1) = false) :
    PE X (.Call (.Attribute o "extend" apos) (a :: es) [] cpos) (TE1 (gsOf X g) W fun ρ => MM.bind (fo ρ) fun x => MM.bind (bmChk .extend x) fun _ => MM.bind (fs ρ) fun vs => bmM .extend x vs) := by
  refine PE.weak (pe_bm PySem.F.plainAttrs_list PySem.F.slot_list_extend PySem.F.type_list_extend (bm_ok (g := g) .extend (by decide)) ho ha hbase hfew hline hs hplain) fun σ H Q ⟨B, F, ι, ρ, s, R, ev, po⟩ => ?_
  refine Tv.seq R ev po fun v H1 F1 ι1 a s1 st R1 ev1 d p1 => ?_
  obtain ⟨ty, p1⟩ := bmChk_list (m := _) (by intro z; cases z) (by intro z; cases z) R1 d p1
  refine ⟨ty, Tv.seq R1 ev1 p1 fun vs H2 F2 ι2 as s2 st2 R2 ev2 d2 p2 => ?_⟩
  exact ⟨B, _, F2, ι2, s2, _, as, R2, d.stp st2, d2, p2⟩

theorem de_insert {o : Expr} {es : List Expr} {fo : AE → MM AV} {fs : AE → MM (List AV)} {apos cpos : Pos} (ho : PE X o (TE1 (gsOf X g) W fo)) (ha : PA X (a :: es) (TA1 (gsOf X g) W fs))
    (hbase : attributeBase o "insert" X.env (eval o X.env) = eval o X.env)
    (hfew : ((backTo cpos (starEach (a :: es) X.env)).all (fun x => !x.1) && (backToKw cpos (keywordEach [] X.env)).all (fun x => x.1.isSome)
      && decide ((a :: es).length + ([] : List Keyword).length + (if ([] : List Keyword).isEmpty then 0 else 1) < 30)) = true)
    (hline : (apos.endLine == cpos.line) = true) (hs : starEach (a :: es) X.env = (false, eval a X.env) :: starEach es X.env) (hplain : (backTo cpos (starEach es X.env)).any (·.1) = false) :
    PE X (.Call (.Attribute o "insert" apos) (a :: es) [] cpos) (TE1 (gsOf X g) W fun ρ => MM.bind (fo ρ) fun x => MM.bind (bmChk .insert x) fun _ => MM.bind (fs ρ) fun vs => bmM .insert x vs) := by
  refine PE.weak (pe_bm PySem.F.plainAttrs_list PySem.F.slot_list_insert PySem.F.type_list_insert (bm_ok (g := g) .insert (by decide)) ho ha hbase hfew hline hs hplain) fun σ H Q ⟨B, F, ι, ρ, s, R, ev, po⟩ => ?_
  refine Tv.seq R ev po fun v H1 F1 ι1 a s1 st R1 ev1 d p1 => ?_
  obtain ⟨ty, p1⟩ := bmChk_list (m := _) (by intro z; cases z) (by intro z; cases z) R1 d p1
  refine ⟨ty, Tv.seq R1 ev1 p1 fun vs H2 F2 ι2 as s2 st2 R2 ev2 d2 p2 => ?_⟩
  exact ⟨B, _, F2, ι2, s2, _, as, R2, d.stp st2, d2, p2⟩

/-! ### sets -/
theorem star1 (hns : notStar a = true) : starEach [a] X.env = (false, eval a X.env) :: starEach [] X.env := star_cons hns
theorem mem_ddup {α : Type} [DecidableEq α] {x : α} : ∀ {xs : List α}, x ∈ ddup xs ↔ x ∈ xs
  | [] => Iff.rfl
  | y :: ys => by
    unfold ddup
    split
    · rename_i h
      rw [mem_ddup, List.mem_cons]
      exact ⟨.inr, fun z => z.elim (fun e => by rw [e]; exact mem_ddup.mp h) id⟩
    · rw [List.mem_cons, List.mem_cons, mem_ddup]
theorem nd_ddup {α : Type} [DecidableEq α] : ∀ {xs : List α}, (ddup xs).Nodup
  | [] => List.nodup_nil
  | y :: ys => by
    unfold ddup
    split
    · exact nd_ddup
    · rename_i h
      exact List.nodup_cons.mpr ⟨h, nd_ddup⟩
theorem ddup_nd {α : Type} [DecidableEq α] : ∀ {xs : List α}, xs.Nodup → ddup xs = xs
  | [], _ => rfl
  | y :: ys, h => by
    have h := List.nodup_cons.mp h
    unfold ddup
    rw [ddup_nd h.2, if_neg h.1]
theorem ddup_len {α : Type} [DecidableEq α] {ks ns : List α} (nd : ks.Nodup) (h : ∀ k, k ∈ ks ↔ k ∈ ns) : ks.length = (ddup ns).length :=
  ((List.perm_ext_iff_of_nodup nd nd_ddup).mpr fun k => (h k).trans mem_ddup.symm).length_eq
theorem firstMet_nd (val : Nat → Int) : ∀ i, (firstMet val i).Nodup
  | 0 => List.nodup_nil
  | i + 1 => by
    rw [firstMet_succ]
    unfold step_dedup
    split
    · exact firstMet_nd val i
    · rename_i h
      refine List.nodup_append.mpr ⟨firstMet_nd val i, by simp, fun a ha b hb e => h ?_⟩
      rw [List.mem_singleton] at hb
      exact List.any_eq_true.mpr ⟨a, ha, by rw [e, hb]; exact beq_self_eq_true _⟩
theorem firstMet_len (ns : List Int) : (firstMet (fun i => ns.getD i 0) ns.length).length = (ddup ns).length := by
  refine ddup_len (firstMet_nd _ _) fun k => ?_
  have h := firstMet_any (fun i => ns.getD i 0) ns.length k
  have e : (List.range ns.length).map (fun i => ns.getD i 0) = ns := List.ext_getElem (by simp) fun i h1 h2 => by simp [h2]
  rw [e] at h
  have m : ∀ l : List Int, k ∈ l ↔ l.any (· == k) = true := fun l => by
    rw [List.any_eq_true]
    exact ⟨fun z => ⟨k, z, beq_self_eq_true _⟩, fun ⟨x, hx, e⟩ => by rw [← eq_of_beq e]; exact hx⟩
  rw [m, m, h]
def tLenSI (K : PySem.W.Frag) (ta : TE) : TE := fun σ H Q => ta σ H fun x H1 => ∃ (l : Addr) (ns : List Int), x = V.ref l ∧ (SqL K H1 l (ns.map V.int) ∨ SqT K H1 l (ns.map V.int)) ∧ ns.length < 64 ∧ Q (.int (ddup ns).length) H1
theorem pe_lenSI {ta : TE} {p p2 q pos : Pos} (hc : X.calm = true) (hg : Gl X "len") (hm : X.mg "len" = none) (hg2 : Gl X "set") (hm2 : X.mg "set" = none) (ha : PE X a ta)
    (na : starEach [a] X.env = (false, eval a X.env) :: starEach [] X.env := by rfl) : PE X (.Call (.Name "len" p) [.Call (.Name "set" p2) [a] [] q] [] pos) (tLenSI X.K ta) := by
  refine ⟨fun pins s σ H Q I h => ?_⟩
  refine Call_ (ld_blt I hg hm PySem.boot_len ?_)
  refine PyProof.Rows.callWith_builtin1 (PyProof.Rows.args_cons ?_ rfl) rfl rfl
  refine Call_ (ld_blt I hg2 hm2 PyProof.Rows.boot_set ?_)
  refine PyProof.Rows.callWith_type1 (PyProof.Rows.args_cons (thn (ha.run pins s σ H _ I h) fun v s1 ⟨x, H1, I1, r1, q1⟩ => PyProof.Rows.args_nil ?_) na) na rfl
  obtain ⟨l, ns, rfl, hq, h1, q1⟩ := q1
  cases r1
  rcases hq with hq | hq
  · obtain ⟨its, r, pl, hz⟩ := I1.list hq
    have hl : its.toArray.size = ns.length := by rw [List.size_toArray, ← r.length, List.length_map]
    refine call_set_list (I1.ok.hd hc) pl.isList (ns := ns) (by simpa using r.ints) (by unfold scanBound; omega) fun h' tk hS hk => ?_
    rw [hl] at hS
    refine PyProof.Rows.args_nil ?_
    obtain ⟨o, es, ep, t, ho, hex, hd, _, _, hb, hf, hn⟩ := hS
    have I2 : Inv X pins σ H1 { s1 with heap := h', toks := tk } := I1.kept fun b o e => hk b o (Heap.lt_size e) e
    refine call_len_set ho hex hd hf (by unfold scanBound at hb; omega) ⟨.int (ddup ns).length, H1, I2.tok _, ⟨_, by rw [hn, firstMet_len]⟩, q1⟩
  · obtain ⟨its, r, pl, hz⟩ := I1.tuple hq
    refine call_set_tupI ns (I1.ok.hd hc) pl (by simpa using r.ints) (by unfold scanBound; omega) fun h' tk c hS hc hk => ?_
    refine PyProof.Rows.args_nil ?_
    obtain ⟨o, es, ep, t, ho, hex, hd, g, nd, hm', hb, hf, hn, _⟩ := hS
    have I2 : Inv X pins σ H1 { s1 with heap := h', toks := tk } := I1.kept fun b o e => hk b o e
    have e2 : es.size = (ddup ns).length := by
      have := ddup_len nd fun k => (hm' k).symm.trans decide_eq_true_iff
      simpa using this
    refine call_len_set ho hex hd hf (by unfold scanBound at hb; omega) ⟨.int (ddup ns).length, H1, I2.tok _, ⟨_, by rw [e2]⟩, q1⟩
theorem de_lenI {p p2 q : Pos} (ft : Fit X) (hg : Gl X "len") (hm : X.mg "len" = none) (hg2 : Gl X "set") (hm2 : X.mg "set" = none) (ha : PE X a (TE1 (gsOf X g) W fa)) (hns : notStar a = true) :
    PE X (.Call (.Name "len" p) [.Call (.Name "set" p2) [a] [] q] [] pos) (TE1 (gsOf X g) W fun ρ => MM.bind (fa ρ) fun v => blcM .lenI v) := by
  refine PE.weak (pe_lenSI ft.calm hg hm hg2 hm2 ha (star1 hns)) fun σ H Q ⟨B, F, ι, ρ, s, R, ev, po⟩ => ?_
  refine Tv.seq R ev po fun v H1 F1 ι1 a s1 st R1 ev1 d p1 => ?_
  unfold blcM at p1
  simp only at p1
  split at p1
  · rename_i b xs hq
    split at p1
    · rename_i ns hn
      split at p1
      · rename_i hc
        obtain ⟨l, vs, rfl, r1, l1, l2⟩ := R1.seq d hq
        have e := ints_map hn
        subst e
        have e := den_intsV r1
        subst e
        refine ⟨l, ns, rfl, ?_, hc, p1 _ _ _ _ Stp.refl R1 (.int _)⟩
        cases b with
        | false => exact .inl (l2 rfl)
        | true => exact .inr (R1.sqT (l1 rfl))
      · exact p1.elim
    · exact p1.elim
  · exact p1.elim
/-- len of a set of tuples -/
theorem cr_lenT : CallR X (.builtin "len") (fun xs H Q => ∃ (a : Addr) (L : List (Addr × List Int)), xs = [V.ref a] ∧ H a = some (SetTO X.prog X.w a L) ∧ (∀ p ∈ L, SqT X.K H p.1 (p.2.map V.int)) ∧ ((L.map (·.2)).Nodup → Q (.int L.length) H)) := by
  intro pins s σ H xs us Q I r h
  obtain ⟨a, L, rfl, ha, hk, q⟩ := h
  have R0 : SetT0 X.prog X.w s.heap a L := (I.hok a _ ha).1
  obtain ⟨es, ep, t, R⟩ := R0.full fun p hp => I.isT (hk p hp)
  rw [Vals.ref1 r]
  obtain ⟨_, _, _, _, _, _, hnd, _, _, _, hlt⟩ := R0.ex
  have hsz : es.size = L.length := by
    have := congrArg List.length R.rows
    simpa [rowsOf] using this
  obtain ⟨o, ho, hex, hd⟩ := R.ob
  refine PySem.call_len_set ho hex hd R.fits (by rw [hsz]; omega) ⟨.int L.length, H, I.tok _, ⟨_, by rw [hsz]⟩, q hnd⟩
theorem setT_all {F : Hp} {ι : List Addr} {H : Hp} {B : Hp} {s : AS} {l : Addr} {vs : List V} {ts : List (List Int)} (R : Rel (gsOf X g) B F ι H s) (r1 : DenAll (gsOf X g) F ι vs (ts.map ofTup)) (hl : SqL X.K H l vs) :
    ∃ ks : List (Addr × List Int), SqL X.K H l (ks.map fun p => V.ref p.1) ∧ ks.map (·.2) = ts ∧ (∀ p ∈ ks, SqX X.K F p.1 (p.2.map V.int)) ∧ ks.length = ts.length := by
  obtain ⟨ks, e1, e2, e3⟩ := tups_at r1
  refine ⟨ks, by rw [← e1]; exact hl, e2, e3, by rw [← e2]; simp⟩
theorem de_sortset {p p2 q : Pos} (ft : Fit X) (hg : Gl X "sorted") (hm : X.mg "sorted" = none) (hg2 : Gl X "set") (hm2 : X.mg "set" = none) (ha : PE X a (TE1 (gsOf X g) W fa)) (hns : notStar a = true) :
    PE X (.Call (.Name "sorted" p) [.Call (.Name "set" p2) [a] [] q] [] pos) (TE1 (gsOf X g) W fun ρ => MM.bind (fa ρ) fun v => blcM .sortset v) := by
  have hu := ft.un
  have st1 := star1 (X := X) hns
  have inner := pe_callTy (cr_setOfT (X := X) ft.calm (by omega)) hg2 hm2 (by decide +kernel) (pa_cons ha pa_nil st1) (by decide) (by decide) st1 rfl (p := p2) (pos := q)
  refine PE.weak (pe_callB (cr_sortedT (X := X) ft.calm) hg hm (by decide +kernel) (pa_cons inner pa_nil rfl) (by decide) (by decide) rfl rfl) fun σ H Q ⟨B, F, ι, ρ, s, R, ev, po⟩ => ?_
  refine Tv.seq R ev po fun v H1 F1 ι1 a s1 st R1 ev1 d p1 => ?_
  unfold blcM at p1
  simp only at p1
  split at p1
  · rename_i xs hq
    split at p1
    · rename_i ts ht
      split at p1
      · rename_i hc
        obtain ⟨l, vs, rfl, r1, l1, l2⟩ := R1.seq d hq
        have e := tups_map ht
        subst e
        obtain ⟨ks, k1, k2, k3, k4⟩ := setT_all R1 r1 (l2 rfl)
        refine ⟨l, ks, rfl, k1, fun p hp => R1.sq (k3 p hp), by omega, fun z L hz hL1 hL2 => ?_⟩
        obtain ⟨stz, Rz⟩ := R1.fresh (SetTO X.prog X.w z L) hz
        obtain ⟨dd, hd, hlen⟩ := len_of hc.1
        have bd := bd_of hc.1
        have mem : ∀ p ∈ ks, p.2 ∈ ts := fun p hp => by rw [← k2]; exact List.mem_map_of_mem (f := Prod.snd) hp
        have hsq : ∀ p ∈ L, SqX X.K (upd F1 z (SetTO X.prog X.w z L)) p.1 (p.2.map V.int) := fun p hp => sqX_mono stz.sm (k3 p (hL1 p hp))
        refine ⟨z, L, dd, bdOf ts, rfl, upd_same, fun p hp => Rz.sq (hsq p hp), hd, fun p hp => ⟨hlen _ (mem p (hL1 p hp)), bd _ (mem p (hL1 p hp))⟩, fun L' y pm nd h64 pw hy => ?_⟩
        have memL : ∀ p ∈ L', p ∈ ks := fun p hp => hL1 p (pm.mem_iff.mp hp)
        have e : L'.map (·.2) = setT ts := by
          refine setT_uniq nd (fun u => ⟨fun hu => ?_, fun hu => ?_⟩) ?_
          · obtain ⟨p, hp, rfl⟩ := List.mem_map.mp hu
            exact mem p (memL p hp)
          · rw [← k2] at hu
            obtain ⟨p, hp, rfl⟩ := List.mem_map.mp hu
            obtain ⟨r, hr, e⟩ := List.mem_map.mp (hL2 p hp)
            rw [← e]
            exact List.mem_map_of_mem (f := Prod.snd) (pm.mem_iff.mpr hr)
          · rw [List.pairwise_map]
            refine pw.imp_of_mem fun {n m} hn hm hnm => ?_
            have h1 := mem n (memL n hn)
            have h2 := mem m (memL m hm)
            exact lex_of_code ((hlen _ h1).trans (hlen _ h2).symm) (bd _ h1) (bd _ h2) hnm
        have dn := tups_back (G := gsOf X g) (ι := ι1) (F := upd F1 z (SetTO X.prog X.w z L)) fun p hp => hsq p (pm.mem_iff.mp hp)
        rw [e] at dn
        exact Po.newL (al := false) Rz dn (p1.base stz) hy
      · exact p1.elim
    · exact p1.elim
  · exact p1.elim
theorem de_lenT {p p2 q : Pos} (ft : Fit X) (hg : Gl X "len") (hm : X.mg "len" = none) (hg2 : Gl X "set") (hm2 : X.mg "set" = none) (ha : PE X a (TE1 (gsOf X g) W fa)) (hns : notStar a = true) :
    PE X (.Call (.Name "len" p) [.Call (.Name "set" p2) [a] [] q] [] pos) (TE1 (gsOf X g) W fun ρ => MM.bind (fa ρ) fun v => blcM .lenT v) := by
  have hu := ft.un
  have st1 := star1 (X := X) hns
  have inner := pe_callTy (cr_setOfT (X := X) ft.calm (by omega)) hg2 hm2 (by decide +kernel) (pa_cons ha pa_nil st1) (by decide) (by decide) st1 rfl (p := p2) (pos := q)
  refine PE.weak (pe_callB (cr_lenT (X := X)) hg hm PySem.boot_len (pa_cons inner pa_nil rfl) (by decide) (by decide) rfl rfl) fun σ H Q ⟨B, F, ι, ρ, s, R, ev, po⟩ => ?_
  refine Tv.seq R ev po fun v H1 F1 ι1 a s1 st R1 ev1 d p1 => ?_
  unfold blcM at p1
  simp only at p1
  split at p1
  · rename_i xs hq
    split at p1
    · rename_i ts ht
      split at p1
      · rename_i hc
        obtain ⟨l, vs, rfl, r1, l1, l2⟩ := R1.seq d hq
        have e := tups_map ht
        subst e
        obtain ⟨ks, k1, k2, k3, k4⟩ := setT_all R1 r1 (l2 rfl)
        refine ⟨l, ks, rfl, k1, fun p hp => R1.sq (k3 p hp), by omega, fun z L hz hL1 hL2 => ?_⟩
        obtain ⟨stz, Rz⟩ := R1.fresh (SetTO X.prog X.w z L) hz
        refine ⟨z, L, rfl, upd_same, fun p hp => Rz.sq (sqX_mono stz.sm (k3 p (hL1 p hp))), fun nd => ?_⟩
        have hl : L.length = (ddup ts).length := by
          have := ddup_len (ks := L.map (·.2)) (ns := ts) nd fun u => ⟨fun hu => by
            obtain ⟨p, hp, rfl⟩ := List.mem_map.mp hu
            rw [← k2]
            exact List.mem_map_of_mem (f := Prod.snd) (hL1 p hp), fun hu => by
            rw [← k2] at hu
            obtain ⟨p, hp, rfl⟩ := List.mem_map.mp hu
            exact hL2 p hp⟩
          simpa using this
        rw [hl]
        exact p1 _ _ _ _ stz Rz (.int _)
      · exact p1.elim
    · exact p1.elim
  · exact p1.elim
end
end Ev

set_option linter.all false
set_option maxRecDepth 100000
set_option maxHeartbeats 4000000
/-! EvJ: a core text is held against the syntax tree; then it says what the tree does. Own work. -/
namespace Ev
open PySem PySem.Spec PyProof.Rows L2

/-- where names stand -/
structure SC where
  N : List Str
  sc : Scope
  fnB : Str → Bool
  lam : Bool := false
/-- a def as the text has it, beside its core -/
structure FnS where
  d : FnD
  N : List Str
  st : Stmt
  q : Option Str := none
  cn : Str := Str.empty
  dfl : List He.Dv := []
  lam : Bool := false
/-- a class of the text: its name, its __init__, its own ==, the fields' names -/
structure ClS where
  name : Str
  ini : Nat
  eqf : Option Nat
  fs : List Str
/-- an exception's class: its name, its fields as passed -/
structure ExS where
  name : Str
  fs : List Str
  st : Stmt := .Pass ⟨0, 0, 0, 0⟩
structure Sites where
  at' : List (Nat × Nat × List Str × List PArg)
  cl : List ClS
  co : List (Str × AV)
  ex : List ExS := []
  xb : Str := "SayError"
  xf : List Str := []
  sb : List (Nat × Nat) := []
  mt : List (Nat × Str × Nat) := []

def isVis : Option NameKind → Bool
  | some .local => true | some .cell => true | some .free => true | _ => false
def isLoc : Option NameKind → Bool
  | some .local => true | _ => false
def isCell : Option NameKind → Bool
  | some .cell => true | _ => false
def isGlb : Option NameKind → Bool
  | some .globalImplicit => true | _ => false
def plainN (x : Str) : Bool := !(x == ("__debug__" : Str)) && !(x == ("__classdict__" : Str))
def SC.at (c : SC) (i : Nat) (x : Str) : Bool := match c.N[i]? with | some y => x == y | none => false
def SC.kind (c : SC) (x : Str) : Option NameKind := c.sc.names.lookup x
def opIs : BOp → Operator → Bool
  | .add, .Add => true | .sub, .Sub => true | .mul, .Mult => true | .div, .FloorDiv => true | .mod, .Mod => true | .pow, .Pow => true | .cat, .Add => true | _, _ => false
def copIs : COp → CmpOp → Bool
  | .lt, .Lt => true | .le, .LtE => true | .gt, .Gt => true | .ge, .GtE => true | .eq, .Eq => true | .ne, .NotEq => true | .isB, .Is => true | .nisB, .IsNot => true | .inn, .In => true | .nin, .NotIn => true | _, _ => false
def noSet : Expr → Bool
  | .Set .. => false
  | _ => true
/-- what a field is read of -/
def baseB : Expr → Bool
  | .Name .. => true | .Attribute .. => true | .Subscript .. => true | .Call _ (_ :: _) _ _ => true | .Call _ [] (_ :: _) _ => true | _ => false
def avEq : AV → AV → Bool
  | .int i, .int j => i == j
  | .str x, .str y => x == y
  | .bl a, .bl b => a == b
  | _, _ => false
def isTrueC : Expr → Bool
  | .Constant (.bool _) _ _ => true
  | _ => false
def isNoStar : CE → Bool
  | .star _ => false
  | _ => true
def chkL (f : Expr → CE → Bool) : List Expr → List CE → Bool
  | [], [] => true
  | e :: es, c :: cs => notStar e && f e c && chkL f es cs
  | _, _ => false
def chkS1 (f : Expr → CE → Bool) (e : Expr) (c : CE) : Bool := match c with
  | .star c => (match e with | .Starred e _ => f e c | _ => false)
  | c => notStar e && f e c
def chkLs (f : Expr → CE → Bool) : List Expr → List CE → Bool
  | [], [] => true
  | e :: es, c :: cs => chkS1 f e c && chkLs f es cs
  | _, _ => false
def chkKw (f : Expr → CE → Bool) : List Keyword → List Str → List CE → Bool
  | [], [], [] => true
  | ⟨some n, e, _⟩ :: es, k :: ks, c :: cs => n == k && f e c && chkKw f es ks cs
  | _, _, _ => false
def chkPs (f : Expr → CE → Bool) : List (Option Expr) → List Expr → List CE → List CE → Bool
  | [], [], [], [] => true
  | some k :: ks, v :: vs, c :: cs, d :: ds => f k c && f v d && chkPs f ks vs cs ds
  | _, _, _, _ => false
def chkO (f : Expr → CE → Bool) : Option Expr → Option CE → Bool
  | none, none => true
  | some e, some c => f e c
  | _, _ => false
def pargEq : PArg → PArg → Bool
  | .at i, .at j => i == j
  | .dv .non, .dv .non => true
  | .dv (.int i), .dv (.int j) => i == j
  | .dv (.bl a), .dv (.bl b) => a == b
  | .dv (.str x), .dv (.str y) => x == y
  | _, _ => false
def pargsEq : List PArg → List PArg → Bool
  | [], [] => true
  | p :: ps, q :: qs => pargEq p q && pargsEq ps qs
  | _, _ => false
def isTupE : Expr → Bool
  | .Tuple _ _ _ => true
  | _ => false
mutual
def chkT (c : SC) : Expr → Tg → Bool
  | .Name x _, .var i => c.at i x && (isLoc (c.kind x) || (isCell (c.kind x) && c.fnB x))
  | .Tuple es _ _, .tup ts => chkTs c es ts
  | _, _ => false
def chkTs (c : SC) : List Expr → List Tg → Bool
  | [], [] => true
  | e :: es, t :: ts => notStar e && chkT c e t && chkTs c es ts
  | _, _ => false
end
def nameIs (x : Str) : Expr → Bool
  | .Name y _ => x == y
  | _ => false
def chkTy (c : SC) : List Expr → List String → Bool
  | [], [] => true
  | .Name x _ :: es, t :: ts => x == Str.ofString t && (match bootBuiltins (Str.ofString t) with | some (.type t') => t' == t | _ => false) && isGlb (c.kind x) && plainN x && !(x == ("__name__" : Str)) && chkTy c es ts
  | _, _ => false
def plainIx : Expr → Bool
  | .Slice .. => false
  | _ => true
def SC.blk (c : SC) (scope : Scope) : SC := ⟨c.N, relS scope c.sc, fun x => scope.names.lookup x == some .cell, false⟩
/-- a lambda's names -/
def SC.inLam (c : SC) (scope : Scope) : SC := ⟨c.N, scope, fun _ => false, false⟩
def ownOf (N : List Str) (ws : List Nat) : List (Str × Nat) := ws.map fun i => ((N[i]?).getD Str.empty, i)
/-- names of types that are used -/
def tyNames : List String := ["int", "bool", "list", "tuple", "str", "dict"]

def bindLB (sc : Scope) : Arguments → Bool
  | ⟨[], [], none, [], [], none, []⟩ => true
  | ⟨[], [⟨y, _, _⟩], none, [], [], none, [_]⟩ => decide (sc.names.lookup y = some .local)
  | _ => false
def isFnK : ScopeKind → Bool
  | .function => true
  | _ => false
/-- what stands behind 'caught = None' and 'try: ask() / except x as e: caught = e' -/
def hearShape (xb : Str) (N : List Str) : List Stmt → Option (List Stmt)
  | .Assign [.Name m _] (.Constant .none _ _) _ :: .Try [.Expr (.Call (.Name a _) [] [] _) _] [.ExceptHandler (some (.Name x _)) (some e) [.Assign [.Name m2 _] (.Name e2 _) _] _] [] [] _ :: rest =>
    if N.take 3 = [a, m, e] ∧ m2 = m ∧ e2 = e ∧ x = xb then some rest else none
  | _ => none
/-- a def that hears, but for its rest -/
def chkHd (xb : Str) (f : FnS) : Bool :=
  isFnK (defScope f.st).kind && !(defScope f.st).isCoroutine && !(defScope f.st).isGenerator && decide f.N.Nodup && (hearShape xb f.N (defBody f.st)).isSome && f.d.nps == 1 && f.d.nsl == f.N.length && f.q.isNone &&
    ((f.N.take 1).all fun x => (isLoc ((defScope f.st).names.lookup x) || isCell ((defScope f.st).names.lookup x)) && plainN x) && ((f.N.drop 1).take 2).all (fun x => isLoc ((defScope f.st).names.lookup x) && plainN x) &&
    ((defScope f.st).names.all fun y => !(y.2 == .free)) && isGlb ((defScope f.st).names.lookup xb) && plainN xb
/-- one step of the check, the parts by f -/
def chkE1 (S : List FnS) (sites : Sites) (ff : SC → Expr → CE → Bool) (c : SC) (e : Expr) (ce : CE) : Bool := match ce with
    | .var i => match e with
      | .Name x _ => c.at i x && isVis (c.kind x) && plainN x
      | _ => false
    | .int i => match e with
      | .Constant (.int j) _ _ => decide (i = j)
      | _ => false
    | .str x => match e with
      | .Constant (.str y) _ _ => x == y
      | _ => false
    | .bl b => match e with
      | .Constant (.bool b') _ _ => b == b'
      | _ => false
    | .non => match e with
      | .Constant .none _ _ => true
      | _ => false
    | .bin o x y => match e with
      | .BinOp a op b _ => opIs o op && ff c a x && ff c b y
      | _ => false
    | .neg x => match e with
      | .UnaryOp .USub a _ => ff c a x
      | _ => false
    | .not x => match e with
      | .UnaryOp .Not a _ => ff c a x
      | _ => false
    | .and x y => match e with
      | .BoolOp .And [a, b] _ => ff c a x && ff c b y
      | .BoolOp .And (a :: b :: b2 :: r) p => ff c a x && ff c (.BoolOp .And (b :: b2 :: r) p) y
      | _ => false
    | .or x y => match e with
      | .BoolOp .Or [a, b] _ => ff c a x && ff c b y
      | .BoolOp .Or (a :: b :: b2 :: r) p => ff c a x && ff c (.BoolOp .Or (b :: b2 :: r) p) y
      | _ => false
    | .cmp o x y => match e with
      | .Compare a [op] [b] _ => match o with
        | .isN => (match op with | .Is => true | _ => false) && (match b with | .Constant .none _ _ => true | _ => false) && ff c a x
        | .notN => (match op with | .IsNot => true | _ => false) && (match b with | .Constant .none _ _ => true | _ => false) && ff c a x
        | o => copIs o op && noSet b && ff c a x && ff c b y
      | _ => false
    | .ite t x y => match e with
      | .IfExp a b d _ => ff c a t && ff c b x && ff c d y
      | _ => false
    | .tup es => match e with
      | .Tuple as _ _ => decide (as.length ≤ 1000) && chkL (ff c) as es
      | _ => false
    | .lst _ es => match e with
      | .List as _ => decide (as.length ≤ 1000) && chkL (ff c) as es
      | _ => false
    | .dct _ ks vs => match e with
      | .Dict kes ves _ => decide (kes.length ≤ 15) && kes.length == ves.length && chkPs (ff c) kes ves ks vs
      | _ => false
    | .idx x y => match e with
      | .Subscript a b _ => plainIx b && ff c a x && ff c b y
      | _ => false
    | .slc x lo hi => match e with
      | .Subscript a (.Slice l h none _) _ => ff c a x && chkO (ff c) l lo && chkO (ff c) h hi
      | _ => false
    | .comp _ ws tg it ifs elt => match e with
      | .ListComp elt' [⟨tg', it', ifs', 0⟩] scope _ =>
        blkC c.N c.sc scope (ownOf c.N ws) && chkT (c.blk scope) tg' tg && tgIn ws tg && notStar elt' &&
        (match it with
          | .rng es => (match it' with
            | .Call f as [] _ => (match f with | .Name x _ => x == ("range" : Str) && isGlb (c.kind x) | _ => false) && (as.length == 1 || as.length == 2) && chkL (ff c) as es
            | _ => false)
          | .enm ee => (match it' with
            | .Call (.Name x _) [a] [] _ => isTupE tg' && x == ("enumerate" : Str) && isGlb (c.kind x) && notStar a && ff c a ee
            | _ => false)
          | it => ff c it' it) &&
        (match ifs', ifs with
          | [], [] => true
          | [i'], [i] => ff (c.blk scope) i' i
          | _, _ => false) && ff (c.blk scope) elt' elt
      | _ => false
    | .comp2 _ ws tg it ifs ws1 tg1 it1 ifs1 elt => match e with
      | .ListComp elt' [⟨tg', it', ifs', 0⟩, ⟨tg1', it1', ifs1', 0⟩] scope _ =>
        blkC c.N c.sc scope (ownOf c.N ws) && chkT (c.blk scope) tg' tg && tgIn ws tg &&
        (match it with
          | .rng es => (match it' with
            | .Call f as [] _ => (match f with | .Name x _ => x == ("range" : Str) && isGlb (c.kind x) | _ => false) && (as.length == 1 || as.length == 2) && chkL (ff c) as es
            | _ => false)
          | .enm ee => (match it' with
            | .Call (.Name x _) [a] [] _ => isTupE tg' && x == ("enumerate" : Str) && isGlb (c.kind x) && notStar a && ff c a ee
            | _ => false)
          | it => ff c it' it) &&
        (match ifs', ifs with
          | [], [] => true
          | [i'], [i] => ff (c.blk scope) i' i
          | _, _ => false) && chkT (c.blk scope) tg1' tg1 && tgIn ws1 tg1 && ws1.all (ws.contains ·) && noSet it1' &&
        (match it1 with
          | .rng es => (match it1' with
            | .Call f as [] _ => (match f with | .Name x _ => x == ("range" : Str) && isGlb ((c.blk scope).kind x) | _ => false) && (as.length == 1 || as.length == 2) && chkL (ff (c.blk scope)) as es
            | _ => false)
          | .enm ee => (match it1' with
            | .Call (.Name x _) [a] [] _ => isTupE tg1' && x == ("enumerate" : Str) && isGlb ((c.blk scope).kind x) && notStar a && ff (c.blk scope) a ee
            | _ => false)
          | it => ff (c.blk scope) it1' it) &&
        (match ifs1', ifs1 with
          | [], [] => true
          | [i'], [i] => ff (c.blk scope) i' i
          | _, _ => false) && ff (c.blk scope) elt' elt
      | _ => false
    | .rng _ => false
    | .enm _ => false
    | .star _ => false
    | .nev => match e with
      | .Set .. => false
      | _ => true
    | .tupS es => match e with
      | .Tuple as _ _ => chkLs (ff c) as es
      | _ => false
    | .lstS _ es => match e with
      | .List as _ => chkLs (ff c) as es
      | _ => false
    | .call k es ws ks perm _ => match e with
      | .Call (.Name x _) as kws _ => (match S[k]? with
          | some f => x == f.d.name && f.q.isNone && !f.d.hd
          | none => false) && isGlb (c.kind x) && plainN x && (sites.at'.any fun s => s.1 == k && s.2.1 == as.length && s.2.2.1 == ks && pargsEq s.2.2.2 perm) &&
          chkL (ff c) as es && chkKw (ff c) kws ks ws
      | _ => false
    | .blt b _ es => match e with
      | .Call (.Name x _) as [] _ => x == bltN b && isGlb (c.kind x) && !as.isEmpty && chkL (ff c) as es
      | _ => false
    | .isi x ts => ts.all (fun t => tyNames.contains t) && match e with
      | .Call (.Name f _) [a, .Name t q] [] _ => f == ("isinstance" : Str) && isGlb (c.kind f) && notStar a && ff c a x && chkTy c [.Name t q] ts
      | .Call (.Name f _) [a, .Tuple tys _ _] [] _ => f == ("isinstance" : Str) && isGlb (c.kind f) && notStar a && ff c a x && decide (ts.length ≤ 1000) && chkTy c tys ts
      | _ => false
    | .bm m x es => match m with
      | .join => match e with
        | .Call (.Attribute o nm apos) as [] cpos => nm == ("join" : Str) && (match o with | .Constant _ _ _ => true | .Name _ _ => true | _ => false) && ff c o x && !as.isEmpty && decide (as.length < 30) && apos.endLine == cpos.line && chkL (ff c) as es
        | _ => false
      | .append => match e with
        | .Call (.Attribute o nm apos) as [] cpos => nm == ("append" : Str) && baseB o && ff c o x && !as.isEmpty && decide (as.length < 30) && apos.endLine == cpos.line && chkL (ff c) as es
        | _ => false
      | .pop => match e with
        | .Call (.Attribute o nm apos) as [] cpos => nm == ("pop" : Str) && baseB o && ff c o x && !as.isEmpty && decide (as.length < 30) && apos.endLine == cpos.line && chkL (ff c) as es
        | _ => false
      | .extend => match e with
        | .Call (.Attribute o nm apos) as [] cpos => nm == ("extend" : Str) && baseB o && ff c o x && !as.isEmpty && decide (as.length < 30) && apos.endLine == cpos.line && chkL (ff c) as es
        | _ => false
      | .get => match e with
        | .Call (.Attribute o nm apos) as [] cpos => nm == ("get" : Str) && baseB o && ff c o x && !as.isEmpty && decide (as.length < 30) && apos.endLine == cpos.line && chkL (ff c) as es
        | _ => false
      | .insert => match e with
        | .Call (.Attribute o nm apos) as [] cpos => nm == ("insert" : Str) && baseB o && ff c o x && !as.isEmpty && decide (as.length < 30) && apos.endLine == cpos.line && chkL (ff c) as es
        | _ => false
    | .blc b x => match e with
      | .Call (.Name l _) [.Call (.Name r _) [a] [] _] [] _ => l == (match b with | .sortset => ("sorted" : Str) | _ => "len") && r == ("set" : Str) && isGlb (c.kind l) && isGlb (c.kind r) && notStar a && ff c a x
      | _ => false
    | .rep es y => match e with
      | .BinOp (.List as _) .Mult b _ => decide (as.length ≤ 1000) && chkL (ff c) as es && ff c b y
      | _ => false
    | .glob z a => match e with
      | .Name x _ => x == z && isGlb (c.kind x) && plainN x && sites.co.any fun p => p.1 == z && avEq p.2 a
      | _ => false
    | .rev x => match e with
      | .Subscript a (.Slice none none (some (.UnaryOp .USub (.Constant (.int 1) _ _) _)) _) _ => ff c a x
      | _ => false
    | .lrng _ xs => match e with
      | .Call (.Name l _) [.Call (.Name r _) [a] [] _] [] _ => l == ("list" : Str) && r == ("range" : Str) && isGlb (c.kind l) && isGlb (c.kind r) && notStar a && (match xs with | [x] => ff c a x | _ => false)
      | _ => false
    | .chain o1 o2 x y z => match e with
      | .Compare a [op1, op2] [b, d] _ => copIs o1 op1 && copIs o2 op2 && intC o2 && ff c a x && ff c b y && ff c d z
      | _ => false
    | .attr x f => match e with
      | .Attribute a h _ => f == h && baseB a && (sites.cl.all fun d => d.fs.contains f) && ff c a x
      | _ => false
    | .isc x k subs => match e with
      | .Call (.Name f _) [a, .Name t _] [] _ => ((List.range sites.cl.length).all fun i => subs.contains i == (i == k || sites.sb.contains (i, k))) && f == ("isinstance" : Str) && isGlb (c.kind f) && notStar a && ff c a x && isGlb (c.kind t) && plainN t && (match sites.cl[k]? with | some d => t == d.name | none => false)
      | _ => false
    | .isx x k => match e with
      | .Call (.Name f _) [a, .Name t _] [] _ => f == ("isinstance" : Str) && isGlb (c.kind f) && notStar a && ff c a x && isGlb (c.kind t) && plainN t && (match sites.ex[k]? with | some d => t == d.name | none => false)
      | _ => false
    | .meth cs m k x es ws ks perm _ => match e with
      | .Call (.Attribute a nm apos) as kws cpos => nm == m && baseB a && ff c a x && (match S[k]? with
          | some f => !f.d.hd
          | none => false) && (cs.all fun i => sites.mt.contains (i, m, k)) && (sites.at'.any fun s => s.1 == k && s.2.1 == as.length + 1 && s.2.2.1 == ks && pargsEq s.2.2.2 perm) && decide (as.length + kws.length < 29) && apos.endLine == cpos.line &&
          chkL (ff c) as es && chkKw (ff c) kws ks ws
      | _ => false
    | .strc cs k x => match e with
      | .Call (.Name f _) [a] [] _ => f == ("str" : Str) && isGlb (c.kind f) && notStar a && ff c a x && (cs.all fun i => sites.mt.contains (i, ("__str__" : Str), k)) && (match S[k]? with
          | some f => !f.d.hd && f.d.nps == 1
          | none => false) && (sites.at'.any fun s => s.1 == k && s.2.1 == 1 && s.2.2.1 == ([] : List Str) && pargsEq s.2.2.2 [.at 0])
      | _ => false
    | .heard k ee => match e with
      | .Call (.Name x _) [.Lambda prm bd sc _] [] _ => c.lam && (match S[k]? with
          | some f => x == f.d.name && f.d.hd
          | none => false) && isGlb (c.kind x) && plainN x && !sites.ex.isEmpty && (sites.at'.any fun s => s.1 == k && s.2.1 == 1 && s.2.2.1 == ([] : List Str) && pargsEq s.2.2.2 [.at 0]) && lamNB c.N c.sc sc && dflI prm && bindLB sc prm && ff (c.inLam sc) bd ee
      | _ => false
    | .xattr x f => match e with
      | .Attribute a h _ => f == h && baseB a && sites.xf.contains f && ff c a x
      | _ => false
    | .new _ cc k es ws ks perm => match e with
      | .Call (.Name x _) as kws _ => (match sites.cl[cc]? with | some d => x == d.name && k == d.ini | none => false) && (match S[k]? with | some f => !f.d.hd | none => false) && isGlb (c.kind x) && plainN x && (sites.at'.any fun s => s.1 == k && s.2.1 == as.length + 1 && s.2.2.1 == ks && pargsEq s.2.2.2 perm) &&
          chkL (ff c) as es && chkKw (ff c) kws ks ws
      | _ => false
    | .eqi neg cc k x y => match e with
      | .Compare a [op] [b] _ => (match op with | .NotEq => neg | .Eq => !neg | _ => false) && (match sites.cl[cc]? with | some d => (match d.eqf with | some k' => k == k' | none => false) | none => false) &&
          (sites.at'.any fun s => s.1 == k && s.2.1 == 2 && s.2.2.1 == ([] : List Str) && pargsEq s.2.2.2 [.at 0, .at 1]) && (match S[k]? with | some f => f.d.nps == 2 && !f.d.hd | none => false) && ff c a x && ff c b y
      | _ => false

def chkE (S : List FnS) (sites : Sites) : Nat → SC → Expr → CE → Bool
  | 0, _, _, _ => false
  | n + 1, c, e, ce => chkE1 S sites (chkE S sites n) c e ce
theorem chkE_s {S : List FnS} {sites : Sites} {n : Nat} {c : SC} {e : Expr} {ce : CE} : chkE S sites (n + 1) c e ce = chkE1 S sites (chkE S sites n) c e ce := rfl
end Ev

set_option linter.all false
set_option maxRecDepth 100000
set_option maxHeartbeats 4000000
/-! EvK: what is checked holds. Own work. -/
namespace Ev
open PySem PySem.Spec PyProof.Rows L2

/-- the level of a def that may call d deep -/
def lv (d : Nat) : Nat := 16 * d + 1
/-- a def's promise: what the evaluator says -/
def spF (G : GS) (fs : List FnD) (d k n : Nat) : Sp := fun vs H Q E => ∃ keep B F ι s as, vs.length = n ∧ Rel G B F ι H s ∧ DenAll G F ι vs as ∧ Po G B E F ι s (Den G) (callF fs d k as keep s) Q
def dsOf (S : List FnS) : List FnD := S.map (·.d)
/-- built-in names that are used -/
def bltNames : List Str := ["len", "int", "str", "abs", "repr", "all", "tuple", "list", "bool", "dict", "range", "isinstance", "sum", "min", "max", "sorted", "set", "enumerate", "any"]
/-- the classes and constants stand as the sites say -/
structure ClsOk (S : List FnS) (sites : Sites) (g : GN) (K : PySem.W.Frag) (mg : Str → Option Value) : Prop where
  cl : ∀ c d, sites.cl[c]? = some d → ∃ C, g.clA c = some C ∧ ClOk K mg d.name C d.fs ∧ (∃ f fI, S[d.ini]? = some f ∧ g.fnA d.ini = some fI ∧ PySem.W.findIn K (.ref C) "__init__" = some (some (.ref fI)) ∧ PySem.W.isFn K (.ref fI) = true) ∧
    ∀ k, d.eqf = some k → ∃ fE, g.fnA k = some fE ∧ EqOk K C fE
  all : ∀ c C, g.clA c = some C → ∃ d, sites.cl[c]? = some d
  mt : ∀ c m k, (c, m, k) ∈ sites.mt → ∀ C, g.clA c = some C → ∃ f, g.fnA k = some f ∧ Cls K C ∧ Meth K C m f
  isk : ∀ c C k D, g.clA c = some C → g.clA k = some D → PySem.W.kitOne K (.ref C) (.ref D) = some (c == k || sites.sb.contains (c, k))
  isb : ∀ k D t, g.clA k = some D → t ∈ isTys → PySem.W.kitOne K (.type t) (.ref D) = some false
  ex : ∀ c d, sites.ex[c]? = some d → ∃ C, g.exA c = some C ∧ ExAt K mg C d.name d.fs ∧ d.fs.length ≤ 800
  exb : sites.ex ≠ [] → ∃ S0, mg sites.xb = some (.ref S0) ∧ ∀ c C, g.exA c = some C → PySem.W.exmOne K (.ref C) (.ref S0) = some true
  exi : ∀ c C, g.exA c = some C → ExIs K C
  exk : ∀ c C k D, g.exA c = some C → g.exA k = some D → PySem.W.kitOne K (.ref C) (.ref D) = some (decide (c = k))
  exn : ∀ k D, g.exA k = some D → PySem.W.kitOne K (.type "NoneType") (.ref D) = some false
  exf : ∀ c C f, g.exA c = some C → f ∈ sites.xf → PySem.W.findIn K (.ref C) f = some none
  co : ∀ p ∈ sites.co, ∃ v u, mg p.1 = some u ∧ RelV v u ∧ ∀ G F ι, Den G F ι v p.2
/-- a def that hears: where it stands, and what its rest does -/
structure HdOk (S : List FnS) (sites : Sites) (g : GN) (d : Nat) (P : Program) (w : World) (K : PySem.W.Frag) (mg : Str → Option Value) (base : Heap) (f : FnS) : Prop where
  chk : chkHd sites.xb f = true
  at' : ∃ (gA : Addr) (oc : Value) (od : Option Addr) (dV kV doc pm : Value) (an : Option Addr) (cdv ct : Value) (osl : Array (Option Value)), mg f.d.name = some (.ref gA) ∧ PySem.W.keepIn K (.ref gA) = true ∧
    K.lookup gA = some ⟨oc, od, .func (PySem.W.fnOf f.d.name f.d.name (defArgs f.st) (defBody f.st) (defScope f.st) dV kV doc pm an cdv ct), osl⟩ ∧ PySem.W.codeIn K cdv f.d.name = true ∧
    (∀ np ks perm, np = 1 → ks = [] → perm = [PArg.at 0] → SiteOk K (PySem.W.fnOf f.d.name f.d.name (defArgs f.st) (defBody f.st) (defScope f.st) dV kV doc pm an cdv ct) (f.N.take 1) np ks perm) ∧
    ∀ d', d = d' + 1 → ∀ rest, hearShape sites.xb f.N (defBody f.st) = some rest → ∀ (A : Around) (outer : List Env) (s2 : Shared) (H2 : Hp) (E : XK), Room (lv d) (A.deeper (envOfC f.d.name (defScope f.st) s2.heap.objs.size gA cdv)) → A.guards = some [] →
      PSs (cxOf (L2.CX P w) P w K mg base f.N f.d.name (defScope f.st) gA cdv A outer s2 H2 E) rest (TS1 ⟨K, g.fnA, g.clA, g.exA, g.T⟩ (fun cls d _ H => E cls d H) (evB (evS (callF (dsOf S) d') FU) f.d.body))
structure ProgOk (S : List FnS) (sites : Sites) (g : GN) (d : Nat) (P : Program) (w : World) (K : PySem.W.Frag) (mg : Str → Option Value) (base : Heap) : Prop where
  fn : ∀ k f, S[k]? = some f → f.d.hd = false → ∃ a fd, g.fnA k = some a ∧ (f.q = none → mg f.d.name = some (.ref a) ∧ PySem.W.keepIn K (.ref a) = true) ∧ (f.N.take f.d.nps).length = f.d.nps ∧
    FnG P w K mg base (lv d) a fd (f.N.take f.d.nps) (spF ⟨K, g.fnA, g.clA, g.exA, g.T⟩ (dsOf S) d k f.d.nps) ∧ ∀ np ks perm, (k, np, ks, perm) ∈ sites.at' → SiteOk K fd (f.N.take f.d.nps) np ks perm
  hd : ∀ k f, S[k]? = some f → f.d.hd = true → (k, 1, [], [PArg.at 0]) ∈ sites.at' → HdOk S sites g d P w K mg base f
  cl : ClsOk S sites g K mg
  bl : ∀ x ∈ bltNames, mg x = none
structure XO (S : List FnS) (sites : Sites) (g : GN) (d : Nat) (W : WX) (c : SC) (X : Cx) : Prop where
  fit : Fit X
  hN : X.N = c.N
  hsc : X.env.scope = c.sc
  hfn : X.fn = c.fnB
  nd : c.N.Nodup
  kind : c.sc.kind = .function
  tk : Takes X W
  room : Room (lv d + 5) X.A
  pg : ProgOk S sites g d X.prog X.w X.K X.mg X.base
  rooml : c.lam = true → Room (lv d + 7) X.A
  lam : c.lam = true → ∃ cc P, X.env.code = .ref cc ∧ LamX.TabB X.base X.mg cc P ∧ (P, X.env.qual ++ "<lambda>") ∈ g.T ∧ ∀ p ∈ g.T, p.1 = P → p.2 = X.env.qual ++ "<lambda>"

/-! ### small facts of the checks -/
theorem at_some {c : SC} {i : Nat} {x : Str} (h : c.at i x = true) : c.N[i]? = some x := by
  unfold SC.at at h
  split at h
  · rename_i y hy
    rw [hy, eq_of_beq h]
  · cases h
theorem vis_of {o : Option NameKind} (h : isVis o = true) : o = some .local ∨ o = some .cell ∨ o = some .free := by
  unfold isVis at h
  split at h <;> simp_all
theorem glb_of {o : Option NameKind} (h : isGlb o = true) : o = some .globalImplicit := by
  unfold isGlb at h
  split at h <;> simp_all
theorem loc_of {o : Option NameKind} (h : isLoc o = true) : o = some .local := by
  unfold isLoc at h
  split at h <;> simp_all
theorem cell_of' {o : Option NameKind} (h : isCell o = true) : o = some .cell := by
  unfold isCell at h
  split at h <;> simp_all
theorem plain_of {x : Str} (h : plainN x = true) : (x == ("__debug__" : Str)) = false ∧ (x == ("__classdict__" : Str)) = false := by
  unfold plainN at h
  simpa using h
theorem op_of {o : BOp} {op : Operator} (h : opIs o op = true) : op = opOf o := by
  cases o <;> cases op <;> first | rfl | simp [opIs] at h
theorem cop_of {o : COp} {op : CmpOp} (h : copIs o op = true) : op = copOf o := by
  cases o <;> cases op <;> first | rfl | simp [copIs] at h
theorem marks_of {op : CmpOp} {b : Expr} (h : noSet b = true) : behindInMarks op b = false := by
  cases b <;> first | rfl | simp [noSet] at h
theorem base_of {o : Expr} {f : Str} {env : Env} (h : baseB o = true) : attributeBase o f env (eval o env) = eval o env := by
  cases o with
  | Call fe as ks p =>
    cases as with
    | nil => cases ks with
      | nil => simp [baseB] at h
      | cons k ks => cases fe <;> rfl
    | cons a as => cases fe <;> rfl
  | _ => first | rfl | simp [baseB] at h
theorem av_of {a b : AV} (h : avEq a b = true) : a = b := by
  unfold avEq at h
  split at h
  · rw [eq_of_beq h]
  · rw [eq_of_beq h]
  · rw [eq_of_beq h]
  · cases h
theorem parg_of {p q : PArg} (h : pargEq p q = true) : p = q := by
  unfold pargEq at h
  split at h
  · rw [eq_of_beq h]
  · rfl
  · rw [eq_of_beq h]
  · rw [eq_of_beq h]
  · rw [eq_of_beq h]
  · cases h
theorem pargs_of : ∀ {ps qs : List PArg}, pargsEq ps qs = true → ps = qs
  | [], [], _ => rfl
  | p :: ps, q :: qs, h => by
    simp only [pargsEq, Bool.and_eq_true] at h
    rw [parg_of h.1, pargs_of h.2]
  | [], _ :: _, h => by simp [pargsEq] at h
  | _ :: _, [], h => by simp [pargsEq] at h
theorem evList_len {f : CE → MM AV} : ∀ {cs : List CE} {s s' : AS} {vs : List AV}, evList f cs s = .ok vs s' → vs.length = cs.length
  | [], s, s', vs, h => by simp [evList, MM.pure] at h; obtain ⟨rfl, _⟩ := h; rfl
  | c :: cs, s, s', vs, h => by
    simp only [evList, MM.bind] at h
    cases h1 : f c s with
    | exc x s1 => rw [h1] at h; cases h
    | stuck => rw [h1] at h; cases h
    | ok v s1 =>
      rw [h1] at h
      simp only at h
      cases h2 : evList f cs s1 with
      | exc x s1 => rw [h2] at h; cases h
      | stuck => rw [h2] at h; cases h
      | ok ws s2 =>
        rw [h2] at h
        cases h
        simp [evList_len h2]
theorem chkL_len {f : Expr → CE → Bool} : ∀ {es : List Expr} {cs : List CE}, chkL f es cs = true → es.length = cs.length ∧ es.all notStar = true
  | [], [], _ => ⟨rfl, rfl⟩
  | e :: es, c :: cs, h => by
    simp only [chkL, Bool.and_eq_true] at h
    obtain ⟨h1, h2⟩ := chkL_len h.2
    exact ⟨by simp [h1], by simp [h.1.1, h2]⟩
  | [], _ :: _, h => by simp [chkL] at h
  | _ :: _, [], h => by simp [chkL] at h
theorem chkKw_len {f : Expr → CE → Bool} : ∀ {es : List Keyword} {ks : List Str} {cs : List CE}, chkKw f es ks cs = true → ks.length = cs.length ∧ es.map (fun k => k.arg) = ks.map some
  | [], [], [], _ => ⟨rfl, rfl⟩
  | ⟨some n, e, p⟩ :: es, k :: ks, c :: cs, h => by
    simp only [chkKw, Bool.and_eq_true] at h
    obtain ⟨h1, h2⟩ := chkKw_len h.2
    exact ⟨by simp [h1], by simp [h2, eq_of_beq h.1.1]⟩
  | ⟨none, e, p⟩ :: es, _, _, h => by simp [chkKw] at h
  | [], _ :: _, _, h => by simp [chkKw] at h
  | [], [], _ :: _, h => by simp [chkKw] at h
  | ⟨some n, e, p⟩ :: es, [], _, h => by simp [chkKw] at h
  | ⟨some n, e, p⟩ :: es, _ :: _, [], h => by simp [chkKw] at h

section
variable {S : List FnS} {sites : Sites} {g : GN} {d : Nat} {W : WX} {c : SC} {X : Cx}
theorem XO.vis (o : XO S sites g d W c X) {x : Str} (h : isVis (c.kind x) = true) : Vis X.env.scope x := by
  rw [o.hsc]
  exact vis_of h
theorem XO.gl (o : XO S sites g d W c X) {x : Str} (h : isGlb (c.kind x) = true) : Gl X x := by
  show X.env.scope.names.lookup x = _
  rw [o.hsc]
  exact glb_of h
theorem XO.ix (o : XO S sites g d W c X) {i : Nat} {x : Str} (h : c.at i x = true) : X.N[i]? = some x := by
  rw [o.hN]
  exact at_some h
/-- a comprehension's block -/
theorem XO.blk (o : XO S sites g d W c X) {scope : Scope} (hk : scope.kind = .function) (s : Shared) (H : Hp) (C : Addr) (cl : List (Str × Addr)) (fp : List Addr) :
    XO S sites g d W0 (c.blk scope) (X.blk s H scope (compEnvC scope cl C X.env) fp) where
  fit := ⟨o.fit.calm, o.fit.un, o.fit.gd, o.fit.dp⟩
  hN := o.hN
  hsc := by
    show relabel scope X.env = relS scope c.sc
    rw [← o.hsc]
    rfl
  hfn := rfl
  nd := o.nd
  kind := hk
  tk := takes0
  room := o.room
  pg := o.pg
  rooml := fun z => nomatch z
  lam := fun z => nomatch z
/-- a lambda's body -/
theorem XO.inl (o : XO S sites g d W c X) {sc : Scope} (hk : sc.kind = .function) {A : Around} {env : Env} (hA : A = X.A.deeper env) {outer : List Env} {s2 : Shared} {H2 : Hp} {E : XK} {f c' : Addr} (hr : Room (lv d + 5) (A.deeper (LamX.lamEnv X sc s2.heap.objs.size f c'))) :
    XO S sites g d (fun cls d _ H => E cls d H) (c.inLam sc) (LamX.lamCx X A outer s2 H2 E sc f c') where
  fit := ⟨rfl, by have := hr.un; show (A.deeper (LamX.lamEnv X sc s2.heap.objs.size f c')).units + 100 < cLine; omega, by subst hA; exact o.fit.gd, by have := hr.dp; show (A.deeper (LamX.lamEnv X sc s2.heap.objs.size f c')).depth < recursionLimit; omega⟩
  hN := o.hN
  hsc := rfl
  hfn := rfl
  nd := o.nd
  kind := hk
  tk := L2.takes_of (E := E) rfl rfl rfl rfl
  room := hr
  pg := o.pg
  rooml := fun z => nomatch z
  lam := fun z => nomatch z

/-! ### targets -/
mutual
theorem chkT_ok (o : XO S sites g d W c X) : ∀ (e : Expr) (t : Tg), chkT c e t = true → PG X e (TG1 (gsOf X g) (fun s v ρ => asgT s.cells t v ρ) (fun vs => tgIn vs t))
  | .Name x p, .var i, h => by
    simp only [chkT, Bool.and_eq_true, Bool.or_eq_true] at h
    obtain ⟨h1, h2⟩ := h
    have hl : L2.Loc X.env.scope x := by
      rw [o.hsc]
      rcases h2 with h2 | h2
      · exact .inl (loc_of h2)
      · exact .inr (cell_of' h2.1)
    refine dg_var (by rw [o.hN]; exact o.nd) (o.ix h1) hl ?_
    rcases h2 with h2 | h2
    · rw [o.hsc]; exact .inr (loc_of h2)
    · rw [o.hfn]; exact .inl h2.2
  | .Tuple es k p, .tup ts, h => by
    have h : chkTs c es ts = true := by simpa only [chkT] using h
    obtain ⟨h1, h2, h3, h4⟩ := chkTs_ok o es ts h
    exact dg_tup o.fit.calm h1 h2 h3 h4
  | .Name _ _, .tup _, h => by simp [chkT] at h
  | .Tuple _ _ _, .var _, h => by simp [chkT] at h
  | .BoolOp .., _, h => by simp [chkT] at h
  | .NamedExpr .., _, h => by simp [chkT] at h
  | .BinOp .., _, h => by simp [chkT] at h
  | .UnaryOp .., _, h => by simp [chkT] at h
  | .Lambda .., _, h => by simp [chkT] at h
  | .IfExp .., _, h => by simp [chkT] at h
  | .Dict .., _, h => by simp [chkT] at h
  | .Set .., _, h => by simp [chkT] at h
  | .ListComp .., _, h => by simp [chkT] at h
  | .SetComp .., _, h => by simp [chkT] at h
  | .DictComp .., _, h => by simp [chkT] at h
  | .GeneratorExp .., _, h => by simp [chkT] at h
  | .Await .., _, h => by simp [chkT] at h
  | .Yield .., _, h => by simp [chkT] at h
  | .YieldFrom .., _, h => by simp [chkT] at h
  | .Compare .., _, h => by simp [chkT] at h
  | .Call .., _, h => by simp [chkT] at h
  | .FormattedValue .., _, h => by simp [chkT] at h
  | .JoinedStr .., _, h => by simp [chkT] at h
  | .Constant .., _, h => by simp [chkT] at h
  | .Attribute .., _, h => by simp [chkT] at h
  | .Subscript .., _, h => by simp [chkT] at h
  | .Starred .., _, h => by simp [chkT] at h
  | .List .., _, h => by simp [chkT] at h
  | .Slice .., _, h => by simp [chkT] at h
theorem chkTs_ok (o : XO S sites g d W c X) : ∀ (es : List Expr) (ts : List Tg), chkTs c es ts = true → PGs X es (TGs1 (gsOf X g) (fun s v ρ => asgTs s.cells ts v ρ) (fun vs => tgsIn vs ts)) ∧ es.length = ts.length ∧
    (assignEach es X.env).length = es.length ∧ (assignEach es X.env).findIdx? (·.1) = none
  | [], [], _ => ⟨dgs_nil, rfl, rfl, rfl⟩
  | e :: es, t :: ts, h => by
    simp only [chkTs, Bool.and_eq_true] at h
    have h1 := chkT_ok o e t h.1.2
    obtain ⟨h2, h3, h4, h5⟩ := chkTs_ok o es ts h.2
    have hs : assignEach (e :: es) X.env = (false, assign e X.env) :: assignEach es X.env := by
      have := h.1.1
      cases e <;> first | rfl | simp [notStar] at this
    refine ⟨dgs_cons h1 h2 (by rw [hs]; rfl), by simp [h3], by rw [hs]; simp [h4], ?_⟩
    rw [hs, List.findIdx?_cons, h5]
    rfl
  | [], _ :: _, h => by simp [chkTs] at h
  | _ :: _, [], h => by simp [chkTs] at h
end
end

theorem bltN_in (b : Blt) : bltN b ∈ bltNames := by cases b <;> decide +kernel
theorem bltN_boot (b : Blt) : bootBuiltins (bltN b) = some (bltV b) ∧ bltN b ≠ "__name__" ∧ (bltN b == ("__debug__" : Str)) = false := by
  cases b <;> (refine ⟨?_, ?_, ?_⟩ <;> decide +kernel)
theorem folded_ok {e : Expr} {env : Env} (h : ∀ a b p, e ≠ .Set a b p) : ∀ x, foldedSetIterable e env x = pure x := fun x => by
  cases e <;> first | rfl | exact absurd rfl (h _ _ _)

section
variable {S : List FnS} {sites : Sites} {g : GN} {d : Nat}
/-- what the theorem says at fuel n -/
structure MainE (S : List FnS) (sites : Sites) (g : GN) (d n : Nat) : Prop where
  pe : ∀ (X : Cx) (W : WX) (c : SC) (e : Expr) (ce : CE), XO S sites g d W c X → chkE S sites n c e ce = true → PE X e (TE1 (gsOf X g) W (evE (callF (dsOf S) d) n ce))
  pt : ∀ (X : Cx) (W : WX) (c : SC) (e : Expr) (ce : CE), XO S sites g d W c X → chkE S sites n c e ce = true → PT X e (TT1 (gsOf X g) W fun ρ => MM.bind (evE (callF (dsOf S) d) n ce ρ) truM)
  pw : ∀ (X : Cx) (W : WX) (c : SC) (op : BoolOp) (vs : List Expr) (p : Pos) (ce : CE), XO S sites g d W c X → chkE S sites n c (.BoolOp op vs p) ce = true → PW X (.BoolOp op vs p) (TT1 (gsOf X g) W fun ρ => MM.bind (evE (callF (dsOf S) d) n ce ρ) truM)
theorem MainE.zero : MainE S sites g d 0 := ⟨fun _ _ _ _ _ _ h => by (have h : false = true := h; cases h), fun _ _ _ _ _ _ h => by (have h : false = true := h; cases h), fun _ _ _ _ _ _ _ _ h => by (have h : false = true := h; cases h)⟩
section
variable {n : Nat} (M : MainE S sites g d n) {X : Cx} {W : WX} {c : SC}
include M
theorem MainE.pa (o : XO S sites g d W c X) : ∀ {es : List Expr} {cs : List CE}, chkL (chkE S sites n c) es cs = true → PA X es (TA1 (gsOf X g) W fun ρ => evList (fun e => evE (callF (dsOf S) d) n e ρ) cs)
  | [], [], _ => da_nil
  | e :: es, ce :: cs, h => by
    simp only [chkL, Bool.and_eq_true] at h
    exact da_cons (M.pe X W c e ce o h.1.2) (MainE.pa o h.2) (star_cons h.1.1)
  | [], _ :: _, h => by simp [chkL] at h
  | _ :: _, [], h => by simp [chkL] at h
theorem MainE.pk (o : XO S sites g d W c X) : ∀ {es : List Keyword} {ks : List Str} {cs : List CE}, chkKw (chkE S sites n c) es ks cs = true → PK X es (TA1 (gsOf X g) W fun ρ => evList (fun e => evE (callF (dsOf S) d) n e ρ) cs)
  | [], [], [], _ => dk_nil
  | ⟨some nm, e, p⟩ :: es, k :: ks, ce :: cs, h => by
    simp only [chkKw, Bool.and_eq_true] at h
    exact dk_cons (M.pe X W c e ce o h.1.2) (MainE.pk o h.2)
  | ⟨none, e, p⟩ :: es, _, _, h => by simp [chkKw] at h
  | [], _ :: _, _, h => by simp [chkKw] at h
  | [], [], _ :: _, h => by simp [chkKw] at h
  | ⟨some n, e, p⟩ :: es, [], _, h => by simp [chkKw] at h
  | ⟨some n, e, p⟩ :: es, _ :: _, [], h => by simp [chkKw] at h
theorem MainE.po (o : XO S sites g d W c X) {e : Option Expr} {ce : Option CE} (h : chkO (chkE S sites n c) e ce = true) : PO X e (TO1 (gsOf X g) W fun ρ => evOpt (fun e => evE (callF (dsOf S) d) n e ρ) ce) := by
  cases e with
  | none => cases ce with
    | none => exact do_none
    | some _ => simp [chkO] at h
  | some e => cases ce with
    | none => simp [chkO] at h
    | some ce => exact do_some (M.pe X W c e ce o h)
omit M in
theorem tys_ok (o : XO S sites g d W c X) (hb : ∀ t ∈ tyNames, X.mg (Str.ofString t) = none) : ∀ {es : List Expr} {ts : List String}, (∀ t ∈ ts, t ∈ tyNames) → chkTy c es ts = true → Paired (fun (t : String) (e : Expr) => ∃ p, e = .Name (Str.ofString t) p ∧ PE X e (tC (.ty t))) ts es
  | [], [], _, _ => .nil
  | .Name x p :: es, t :: ts, hm, h => by
    simp only [chkTy, Bool.and_eq_true] at h
    obtain ⟨⟨⟨⟨⟨h1, h2⟩, h3⟩, h4⟩, h5⟩, h6⟩ := h
    have e1 := eq_of_beq h1
    subst e1
    have hv : bootBuiltins (Str.ofString t) = some (.type t) := by
      split at h2
      · rename_i t' ht'
        rw [ht', eq_of_beq h2]
      · cases h2
    refine .cons ⟨p, rfl, pe_bltn (o.gl h3) (hb t (hm t List.mem_cons_self)) hv rfl ?_ (plain_of h4).1⟩ (tys_ok o hb (fun t ht => hm t (List.mem_cons_of_mem _ ht)) h6)
    intro z
    rw [z] at h5
    simp at h5
  | [], _ :: _, _, h => by simp [chkTy] at h
  | _ :: _, [], _, h => by simp [chkTy] at h
  | .Tuple .. :: _, _ :: _, _, h => by simp [chkTy] at h
  | .BoolOp .. :: _, _ :: _, _, h => by simp [chkTy] at h
  | .NamedExpr .. :: _, _ :: _, _, h => by simp [chkTy] at h
  | .BinOp .. :: _, _ :: _, _, h => by simp [chkTy] at h
  | .UnaryOp .. :: _, _ :: _, _, h => by simp [chkTy] at h
  | .Lambda .. :: _, _ :: _, _, h => by simp [chkTy] at h
  | .IfExp .. :: _, _ :: _, _, h => by simp [chkTy] at h
  | .Dict .. :: _, _ :: _, _, h => by simp [chkTy] at h
  | .Set .. :: _, _ :: _, _, h => by simp [chkTy] at h
  | .ListComp .. :: _, _ :: _, _, h => by simp [chkTy] at h
  | .SetComp .. :: _, _ :: _, _, h => by simp [chkTy] at h
  | .DictComp .. :: _, _ :: _, _, h => by simp [chkTy] at h
  | .GeneratorExp .. :: _, _ :: _, _, h => by simp [chkTy] at h
  | .Await .. :: _, _ :: _, _, h => by simp [chkTy] at h
  | .Yield .. :: _, _ :: _, _, h => by simp [chkTy] at h
  | .YieldFrom .. :: _, _ :: _, _, h => by simp [chkTy] at h
  | .Compare .. :: _, _ :: _, _, h => by simp [chkTy] at h
  | .Call .. :: _, _ :: _, _, h => by simp [chkTy] at h
  | .FormattedValue .. :: _, _ :: _, _, h => by simp [chkTy] at h
  | .JoinedStr .. :: _, _ :: _, _, h => by simp [chkTy] at h
  | .Constant .. :: _, _ :: _, _, h => by simp [chkTy] at h
  | .Attribute .. :: _, _ :: _, _, h => by simp [chkTy] at h
  | .Subscript .. :: _, _ :: _, _, h => by simp [chkTy] at h
  | .Starred .. :: _, _ :: _, _, h => by simp [chkTy] at h
  | .List .. :: _, _ :: _, _, h => by simp [chkTy] at h
  | .Slice .. :: _, _ :: _, _, h => by simp [chkTy] at h
end
end
end Ev

set_option linter.all false
set_option maxRecDepth 100000
set_option maxHeartbeats 4000000
/-! EvL: expressions that are checked. Own work. -/
namespace Ev
open PySem PySem.Spec PyProof.Rows L2

theorem le1000 {n : Nat} (h : n ≤ 1000) : n ≤ sizeLine := by rw [sizeLine_eq]; omega
theorem evL1 {f : AE → CE → MM AV} {cs : List CE} {k : Nat} (h : cs.length = k) : ∀ ρ s vs s', evList (f ρ) cs s = .ok vs s' → vs.length = k := fun ρ s vs s' e => by rw [evList_len e, h]
/-- a test of a value -/
theorem tru_again {x : AV} {m : MM Bool} : (MM.bind (truM x) fun t => if t = true then m else truM x) = MM.bind (truM x) fun t => if t = true then m else MM.pure false := by
  funext s
  unfold MM.bind truM
  cases h : truth s.cells x with
  | none => rfl
  | some t => cases t with
    | true => rfl
    | false =>
      show (if false = true then m else truM x) s = (if false = true then m else MM.pure false) s
      rw [if_neg (by decide), if_neg (by decide)]
      unfold truM
      rw [h]; rfl
theorem tru_again' {x : AV} {m : MM Bool} : (MM.bind (truM x) fun t => if t = true then truM x else m) = MM.bind (truM x) fun t => if t = true then MM.pure true else m := by
  funext s
  unfold MM.bind truM
  cases h : truth s.cells x with
  | none => rfl
  | some t => cases t with
    | false => rfl
    | true =>
      show (if true = true then truM x else m) s = (if true = true then MM.pure true else m) s
      rw [if_pos rfl, if_pos rfl]
      unfold truM
      rw [h]; rfl
theorem bind_if {α β : Type} {t : Bool} {a b : MM α} {f : α → MM β} : MM.bind (if t = true then a else b) f = if t = true then MM.bind a f else MM.bind b f := by
  cases t <;> rfl
theorem tru_bl {b : Bool} : truM (.bl b) = MM.pure b := rfl
theorem test_and {A Bx : MM AV} : MM.bind (MM.bind A fun x => MM.bind (truM x) fun t => if t = true then Bx else MM.pure x) truM = MM.bind (MM.bind A truM) fun t => if t = true then MM.bind Bx truM else MM.pure false := by
  rw [MM.assoc, MM.assoc]
  congr 1
  funext x
  rw [MM.assoc]
  have e : (fun t => MM.bind (if t = true then Bx else MM.pure x) truM) = fun t => if t = true then MM.bind Bx truM else truM x := by
    funext t
    rw [bind_if]; rfl
  rw [e, tru_again]
theorem test_or {A Bx : MM AV} : MM.bind (MM.bind A fun x => MM.bind (truM x) fun t => if t = true then MM.pure x else Bx) truM = MM.bind (MM.bind A truM) fun t => if t = true then MM.pure true else MM.bind Bx truM := by
  rw [MM.assoc, MM.assoc]
  congr 1
  funext x
  rw [MM.assoc]
  have e : (fun t => MM.bind (if t = true then MM.pure x else Bx) truM) = fun t => if t = true then truM x else MM.bind Bx truM := by
    funext t
    rw [bind_if]; rfl
  rw [e, tru_again']
theorem test_not {A : MM AV} : MM.bind (MM.bind A fun x => MM.bind (truM x) fun b => MM.pure (AV.bl (!b))) truM = MM.bind (MM.bind A truM) fun b => MM.pure (!b) := by
  rw [MM.assoc, MM.assoc]
  congr 1
  funext x
  rw [MM.assoc]
  rfl
theorem test_ite {A Bx Cx : MM AV} : MM.bind (MM.bind A fun x => MM.bind (truM x) fun t => if t = true then Bx else Cx) truM = MM.bind (MM.bind A truM) fun t => if t = true then MM.bind Bx truM else MM.bind Cx truM := by
  rw [MM.assoc, MM.assoc]
  congr 1
  funext x
  rw [MM.assoc]
  congr 1
  funext t
  exact bind_if
theorem test_bl {A : MM Bool} : MM.bind (MM.bind A fun b => MM.pure (AV.bl b)) truM = A := by
  rw [MM.assoc]
  have : (fun a => MM.bind (MM.pure (AV.bl a)) truM) = MM.pure := by funext a; rfl
  rw [this, MM.bind_pure]

section
variable {X : Cx} {g : GN} {W : WX} {a b : Expr} {fa fb : AE → MM AV} {pos : Pos}
theorem PT.cast {e : Expr} {f f' : AE → MM Bool} (h : PT X e (TT1 (gsOf X g) W f)) (e2 : ∀ ρ, f' ρ = f ρ) : PT X e (TT1 (gsOf X g) W f') := by
  have : f' = f := funext e2
  rw [this]; exact h
theorem PW.cast {e : Expr} {f f' : AE → MM Bool} (h : PW X e (TT1 (gsOf X g) W f)) (e2 : ∀ ρ, f' ρ = f ρ) : PW X e (TT1 (gsOf X g) W f') := by
  have : f' = f := funext e2
  rw [this]; exact h
/-- a comparison as a test -/
theorem test_po {G : GS} {B : Hp} {E : XK} {F : Hp} {ι : List Addr} {s : AS} {m : MM AV} {Q : Bool → Hp → Prop} (h : Po G B E F ι s SameD (MM.bind m truM s) Q) (hb : ∀ v s', m s = .ok v s' → ∃ b, v = .bl b) :
    Po G B E F ι s (Den G) (m s) (fun v H => ∃ k, v = .bl k ∧ Q k H) := by
  unfold MM.bind at h
  revert h hb
  cases m s with
  | ok v s1 =>
    intro h hb w H1 F1 ι1 st R1 d
    obtain ⟨b, rfl⟩ := hb v s1 rfl
    cases d
    exact ⟨b, rfl, h b H1 F1 ι1 st R1 rfl⟩
  | exc x s1 => exact fun h _ => h
  | stuck => exact fun h _ => h
theorem inM_bl {neg : Bool} {x y : AV} {s s' : AS} {v : AV} (h : inM neg x y s = .ok v s') : ∃ b, v = .bl b := by
  unfold inM at h
  split at h
  · split at h
    · split at h
      · cases h; exact ⟨_, rfl⟩
      · cases h
    · cases h
  · unfold inD at h
    split at h
    · split at h
      · cases h; exact ⟨_, rfl⟩
      · cases h
    · cases h
  · cases h
theorem cmpM_bl {o : COp} {x y : AV} {s s' : AS} {v : AV} (h : cmpM o x y s = .ok v s') : ∃ b, v = .bl b := by
  unfold cmpM at h
  cases o with
  | eq =>
    simp only [MM.bind] at h
    split at h
    · cases h; exact ⟨_, rfl⟩
    · cases h
    · cases h
  | ne =>
    simp only [MM.bind] at h
    split at h
    · cases h; exact ⟨_, rfl⟩
    · cases h
    · cases h
  | lt => simp only at h; split at h <;> first | (cases h; exact ⟨_, rfl⟩) | cases h
  | le => simp only at h; split at h <;> first | (cases h; exact ⟨_, rfl⟩) | cases h
  | gt => simp only at h; split at h <;> first | (cases h; exact ⟨_, rfl⟩) | cases h
  | ge => simp only at h; split at h <;> first | (cases h; exact ⟨_, rfl⟩) | cases h
  | isB => simp only at h; split at h <;> first | (cases h; exact ⟨_, rfl⟩) | cases h
  | nisB => simp only at h; split at h <;> first | (cases h; exact ⟨_, rfl⟩) | cases h
  | isN => cases h
  | notN => cases h
  | inn => exact inM_bl h
  | nin => exact inM_bl h
theorem dt_cmp (ft : Fit X) (o : COp) (hm : behindInMarks (copOf o) b = false) (ha : PE X a (TE1 (gsOf X g) W fa)) (hb : PE X b (TE1 (gsOf X g) W fb)) :
    PT X (.Compare a [copOf o] [b] pos) (TT1 (gsOf X g) W fun ρ => MM.bind (MM.bind (fa ρ) fun x => MM.bind (fb ρ) fun y => cmpM o x y) truM) := by
  have hu := ft.un
  refine PT.weak (pt_cmpR (cmp_ok (g := g) o (by omega)) ha hb hm) fun σ H Q ⟨B, F, ι, ρ, s, R, ev, p⟩ => ?_
  dsimp only at p
  simp only [MM.assoc] at p
  show tOp (rCmp (gsOf X g) o) _ _ σ H fun v H => ∃ k, v = .bl k ∧ Q k H
  refine Tv.seq R ev p fun v H1 F1 ι1 a s1 st R1 e1 d p1 => ?_
  refine Tv.seq R1 e1 p1 fun w H2 F2 ι2 b s2 st2 R2 e2 d2 p2 => ?_
  exact ⟨B, _, F2, ι2, s2, a, b, R2, d.stp st2, d2, test_po p2 fun v s' h => cmpM_bl h⟩
theorem pt_of_pw {op : BoolOp} {vs : List Expr} {t : TT} (h : PW X (.BoolOp op vs pos) t) : PT X (.BoolOp op vs pos) t := ⟨fun pins s σ H Q I hw => h.run _ pins s σ H Q I hw⟩
theorem dt_ite {c : Expr} {tc ta tb : AE → MM Bool} (hc : PT X c (TT1 (gsOf X g) W tc)) (ha : PT X a (TT1 (gsOf X g) W ta)) (hb : PT X b (TT1 (gsOf X g) W tb)) :
    PT X (.IfExp c a b pos) (TT1 (gsOf X g) W fun ρ => MM.bind (tc ρ) fun t => if t = true then ta ρ else tb ρ) := by
  refine ⟨fun pins s σ H Q I ⟨B, F, ι, ρ, st, R, e, p⟩ => ?_⟩
  refine isTrue_IfExp (thn (hc.run pins s σ H _ I (Tv.seq R e p fun v H1 F1 ι1 a s1 st R1 e1 d p1 => ?_ : TT1 (gsOf X g) W tc σ H fun t H1 => if t = true then TT1 (gsOf X g) W ta σ H1 Q else TT1 (gsOf X g) W tb σ H1 Q)) fun t s1 ⟨H1, I1, q⟩ => ?_)
  · cases d
    cases v with
    | true => rw [if_pos rfl]; exact ⟨B, F1, ι1, ρ, s1, R1, e1, p1⟩
    | false => rw [if_neg (by decide)]; exact ⟨B, F1, ι1, ρ, s1, R1, e1, p1⟩
  · cases t with
    | true => exact ha.run pins s1 σ H1 Q I1 q
    | false => exact hb.run pins s1 σ H1 Q I1 q
theorem dt_isN {j pos'} (ha : PE X a (TE1 (gsOf X g) W fa)) : PT X (.Compare a [.Is] [.Constant .none j pos'] pos) (TT1 (gsOf X g) W fun ρ => MM.bind (MM.bind (fa ρ) fun x => MM.pure (.bl (isNone x))) truM) := by
  refine PT.weak (pt_cmp (pc_isN ha)) fun σ H Q ⟨B, F, ι, ρ, s, R, ev, p⟩ => ?_
  dsimp only at p
  rw [MM.assoc] at p
  refine Tv.seq R ev p fun v H1 F1 ι1 a s1 st R1 e1 d p1 => ?_
  refine ⟨isNone a, by rw [isNone_den d], ?_⟩
  exact p1 _ _ _ _ Stp.refl R1 rfl
theorem dt_notN {j pos'} (ha : PE X a (TE1 (gsOf X g) W fa)) : PT X (.Compare a [.IsNot] [.Constant .none j pos'] pos) (TT1 (gsOf X g) W fun ρ => MM.bind (MM.bind (fa ρ) fun x => MM.pure (.bl (!isNone x))) truM) := by
  refine PT.weak (pt_cmp (pc_notN ha)) fun σ H Q ⟨B, F, ι, ρ, s, R, ev, p⟩ => ?_
  dsimp only at p
  rw [MM.assoc] at p
  refine Tv.seq R ev p fun v H1 F1 ι1 a s1 st R1 e1 d p1 => ?_
  refine ⟨!isNone a, by rw [isNone_den d], ?_⟩
  exact p1 _ _ _ _ Stp.refl R1 rfl
end

section
variable {S : List FnS} {sites : Sites} {g : GN} {d n : Nat}
theorem plainIx_ok {e : Expr} (h : plainIx e = true) : PlainIx e := fun o i => by
  cases e <;> first | rfl | simp [plainIx] at h
theorem own_map (N : List Str) (ws : List Nat) : (ownOf N ws).map (·.2) = ws := by
  unfold ownOf
  rw [List.map_map]
  show ws.map (fun i => i) = ws
  simp
theorem blk_kind {N : List Str} {sc scope : Scope} {own : List (Str × Nat)} (h : blkC N sc scope own = true) : scope.kind = .function := (blkOk_by h).kind
theorem compR_zero {turn : AV → MM (Option AV)} {src : Src} : (match src with | .items xs => compL turn xs [] | .cell k m => compC turn k m 0 []) = compR turn src 0 [] := by
  cases src with
  | items xs => simp [compR]
  | cell k m => simp [compR]

theorem chk_set (c : SC) (a b p) (it : CE) : chkE S sites n c (.Set a b p) it = false := by
  cases n with
  | zero => rfl
  | succ n =>
    cases it with
    | bm m x es => cases m <;> rfl
    | call k es ws ks perm keep => rfl
    | isi e ts => exact Bool.and_false _
    | _ => rfl
/-- an iterable -/
theorem MainE.it (M : MainE S sites g d n) {X : Cx} {W : WX} {c : SC} (o : XO S sites g d W c X) {tg it' : Expr} {it : CE}
    (h : (match it with
          | .rng es => (match it' with
            | .Call f as [] _ => (match f with | .Name x _ => x == ("range" : Str) && isGlb (c.kind x) | _ => false) && (as.length == 1 || as.length == 2) && chkL (chkE S sites n c) as es
            | _ => false)
          | .enm ee => (match it' with
            | .Call (.Name x _) [a] [] _ => isTupE tg && x == ("enumerate" : Str) && isGlb (c.kind x) && notStar a && chkE S sites n c a ee
            | _ => false)
          | it => chkE S sites n c it' it) = true) :
    PI X tg it' (TI1 (gsOf X g) W fun ρ => evI (fun e => evE (callF (dsOf S) d) n e ρ) it) ∧ ∀ x, foldedSetIterable it' X.env x = pure x := by
  have gen : (∀ es, it ≠ .rng es) → (∀ e, it ≠ .enm e) → chkE S sites n c it' it = true → PI X tg it' (TI1 (gsOf X g) W fun ρ => evI (fun e => evE (callF (dsOf S) d) n e ρ) it) ∧ ∀ x, foldedSetIterable it' X.env x = pure x := fun hr hr2 hc => by
    have h1 := di_val (tg := tg) (M.pe X W c it' it o hc)
    refine ⟨?_, folded_ok fun a b p e => ?_⟩
    · have : (fun ρ => evI (fun e => evE (callF (dsOf S) d) n e ρ) it) = fun ρ => MM.bind (evE (callF (dsOf S) d) n it ρ) srcOf := by
        funext ρ
        cases it <;> first | rfl | exact absurd rfl (hr _) | exact absurd rfl (hr2 _)
      rw [this]
      exact h1
    · subst e
      rw [chk_set] at hc
      cases hc
  split at h
  · rename_i es
    split at h
    · rename_i f as p
      simp only [Bool.and_eq_true, Bool.or_eq_true] at h
      obtain ⟨⟨h1, h2⟩, h3⟩ := h
      split at h1
      · rename_i x px
        simp only [Bool.and_eq_true] at h1
        have ex := eq_of_beq h1.1
        subst ex
        have hgl := o.gl h1.2
        have hmg : X.mg "range" = none := o.pg.bl _ (by decide +kernel)
        obtain ⟨hl, hns⟩ := chkL_len h3
        have ha := M.pa o h3
        refine ⟨?_, fun x => rfl⟩
        rcases h2 with h2 | h2
        · have h2 := eq_of_beq h2
          match as, h2 with
          | [a], _ =>
            rw [List.all_cons, Bool.and_eq_true] at hns
            exact di_rng1 hgl hmg ha (evL1 (f := fun ρ e => evE (callF (dsOf S) d) n e ρ) (by simpa using hl.symm)) (star_cons hns.1)
        · have h2 := eq_of_beq h2
          match as, h2 with
          | [a, a2], _ =>
            rw [List.all_cons, Bool.and_eq_true, List.all_cons, Bool.and_eq_true] at hns
            exact di_rng2 hgl hmg ha (evL1 (f := fun ρ e => evE (callF (dsOf S) d) n e ρ) (by simpa using hl.symm)) (by rw [star_cons hns.1, star_cons hns.2.1]; rfl) (star_cons hns.2.1)
      · cases h1
    · cases h
  · rename_i ee
    split at h
    · rename_i x px a p
      simp only [Bool.and_eq_true] at h
      obtain ⟨⟨⟨⟨h0, h1⟩, h2⟩, h3⟩, h4⟩ := h
      have ex := eq_of_beq h1
      subst ex
      refine ⟨?_, fun x => rfl⟩
      cases tg <;> first | (simp [isTupE] at h0; done) | skip
      exact di_enm (o.gl h2) (o.pg.bl _ (by decide +kernel)) (M.pe X W c _ _ o h4) (star_cons h3)
    · cases h
  · rename_i hr hr2
    exact gen (fun es e => hr es e) (fun es e => hr2 es e) h

theorem MainE.pairs (M : MainE S sites g d n) {X : Cx} {W : WX} {c : SC} (o : XO S sites g d W c X) (pos : Pos) : ∀ {kes : List (Option Expr)} {ves : List Expr} {ks vs : List CE}, chkPs (chkE S sites n c) kes ves ks vs = true →
    ∃ trs, PPs X pos kes ves trs ∧ (∀ {B F ι ρ s σ H Q}, Rel (gsOf X g) B F ι H s → EnvR (gsOf X g) F ι σ ρ → Po (gsOf X g) B (fun c d H => W c d σ H) F ι s (DenPs (gsOf X g)) (evPairs (fun e => evE (callF (dsOf S) d) n e ρ) ks vs s) Q → tPairs trs σ H Q) ∧ kes.all (·.isSome) = true
  | [], [], [], [], _ => ⟨[], pps_nil, fun R ev p => p.pure R ⟨.nil, .nil⟩, rfl⟩
  | some k :: kes, v :: ves, a :: ks, b :: vs, h => by
    simp only [chkPs, Bool.and_eq_true] at h
    obtain ⟨trs, h1, h2, h3⟩ := MainE.pairs M o pos h.2
    refine ⟨_ :: trs, pps_cons (M.pe X W c _ _ o h.1.1) (M.pe X W c _ _ o h.1.2) h1, fun {B F ι ρ s σ H Q} R ev p => ?_, by simpa using h3⟩
    refine Tv.seq R ev p fun x H1 F1 ι1 a1 s1 st1 R1 ev1 d1 p1 => ?_
    refine Tv.seq R1 ev1 p1 fun y H2 F2 ι2 a2 s2 st2 R2 ev2 d2 p2 => ?_
    refine h2 R2 ev2 (p2.first fun ps H3 F3 ι3 as s3 st3 R3 d3 p3 => ?_)
    exact p3.pure R3 ⟨.cons (d1.stp (st2.trans st3)) d3.1, .cons (d2.stp st3) d3.2⟩
  | [], [], [], _ :: _, h => by simp [chkPs] at h
  | [], [], _ :: _, _, h => by simp [chkPs] at h
  | [], _ :: _, _, _, h => by simp [chkPs] at h
  | none :: _, _, _, _, h => by simp [chkPs] at h
  | some _ :: _, [], _, _, h => by simp [chkPs] at h
  | some _ :: _, _ :: _, [], _, h => by simp [chkPs] at h
  | some _ :: _, _ :: _, _ :: _, [], h => by simp [chkPs] at h
theorem few_ok {es : List Expr} {pos : Pos} {env : Env} (h : es.all notStar = true) : ((backTo pos (starEach es env)).all fun x => !x.1) = true := by
  have := star_any (pos := pos) (env := env) h
  rw [List.all_eq_true]
  intro x hx
  rw [List.any_eq_false] at this
  simpa using this x hx
theorem callF_few {k : Nat} {f : FnS} (hf : S[k]? = some f) (hlen : (f.N.take f.d.nps).length = f.d.nps) {as : List AV} {keep : Bool} {s : AS} (hne : as.length ≠ (f.N.take f.d.nps).length) : callF (dsOf S) d k as keep s = .stuck := by
  cases d with
  | zero => rfl
  | succ d =>
    have he : (dsOf S)[k]? = some f.d := by unfold dsOf; rw [List.getElem?_map, hf]; rfl
    unfold callF
    rw [he]
    simp only
    rw [if_neg]
    · rfl
    · rw [← hlen]; exact hne
theorem site_of {l : List (Nat × Nat × List Str × List PArg)} {k np : Nat} {ks : List Str} {perm : List PArg} (h : (l.any fun s => s.1 == k && s.2.1 == np && s.2.2.1 == ks && pargsEq s.2.2.2 perm) = true) : (k, np, ks, perm) ∈ l := by
  obtain ⟨⟨k', np', ks', perm'⟩, hmem, hsite⟩ := List.any_eq_true.mp h
  simp only [Bool.and_eq_true] at hsite
  obtain ⟨⟨⟨hs1, hs2⟩, hs3⟩, hs4⟩ := hsite
  have e1 := eq_of_beq hs1
  have e2 := eq_of_beq hs2
  have e3 := eq_of_beq hs3
  have e4 := pargs_of hs4
  subst e1; subst e2; subst e3; subst e4
  exact hmem
theorem clsOf {X : Cx} {W : WX} {c : SC} (o : XO S sites g d W c X) {z : Nat} {C : Addr} (h : g.clA z = some C) : L2.Cls X.K C := by
  obtain ⟨dd, hd⟩ := o.pg.cl.all z C h
  obtain ⟨C', hC, O, _⟩ := o.pg.cl.cl z dd hd
  rw [h] at hC; cases hC
  exact O.cl
theorem naOf {X : Cx} {W : WX} {c : SC} (o : XO S sites g d W c X) {f : Str} (hf : (sites.cl.all fun d => d.fs.contains f) = true) {z : Nat} {C : Addr} (h : g.clA z = some C) : NoAttr X.K C f := by
  obtain ⟨dd, hd⟩ := o.pg.cl.all z C h
  obtain ⟨C', hC, O, _⟩ := o.pg.cl.cl z dd hd
  rw [h] at hC; cases hC
  have := List.all_eq_true.mp hf dd (List.mem_of_getElem? hd)
  exact O.na f (by simpa using this)
/-- what stands ready for a call of its own == -/
theorem eq_ready {X : Cx} {W : WX} {c : SC} (o : XO S sites g d W c X) {cc k : Nat} {dd : ClS} {f : FnS} (hcc : sites.cl[cc]? = some dd) (hk : dd.eqf = some k) (hf : S[k]? = some f) (hn : f.d.nps = 2) (hh : f.d.hd = false) (hs : (k, 2, ([] : List Str), [PArg.at 0, PArg.at 1]) ∈ sites.at') :
    ∃ (C fE : Addr) (fd : FuncData) (ps : List Str) (sp : Sp), g.clA cc = some C ∧ ClOk X.K X.mg dd.name C dd.fs ∧ EqOk X.K C fE ∧ FnG X.prog X.w X.K X.mg X.base (lv d) fE fd ps sp ∧
      (∀ B E F ι s vs as H Q, Rel (gsOf X g) B F ι H s → vs.length = ps.length → DenAll (gsOf X g) F ι vs as → Po (gsOf X g) B E F ι s (Den (gsOf X g)) (callF (dsOf S) d k as false s) Q → sp vs H Q E) ∧ ps.length = 2 ∧ SiteOk X.K fd ps 2 [] [.at 0, .at 1] := by
  obtain ⟨C, hC, O, _, he⟩ := o.pg.cl.cl cc dd hcc
  obtain ⟨fE, hfE, Q0⟩ := he k hk
  obtain ⟨a, fd, hga, _, hlen, F, hsite⟩ := o.pg.fn k f hf hh
  rw [hfE] at hga; cases hga
  exact ⟨C, fE, fd, _, _, hC, O, Q0, F, fun B E F ι s vs as H Q R hl dd p => ⟨false, B, F, ι, s, as, by rw [hl, hlen], R, dd, p⟩, by rw [hlen, hn], hsite _ _ _ hs⟩
theorem eqi_parts {n : Nat} {c : SC} {neg : Bool} {cc k : Nat} {x y : CE} {e : Expr} (h : chkE S sites (n + 1) c e (.eqi neg cc k x y) = true) : ∃ a b pos dd f, e = .Compare a [eqOp neg] [b] pos ∧ sites.cl[cc]? = some dd ∧ dd.eqf = some k ∧ S[k]? = some f ∧ f.d.nps = 2 ∧ f.d.hd = false ∧
    (k, 2, ([] : List Str), [PArg.at 0, PArg.at 1]) ∈ sites.at' ∧ chkE S sites n c a x = true ∧ chkE S sites n c b y = true := by
  rw [chkE_s] at h; unfold chkE1 at h
  simp only at h
  split at h
  · rename_i a op b pos
    simp only [Bool.and_eq_true] at h
    obtain ⟨⟨⟨⟨⟨h1, h2⟩, h3⟩, h4⟩, h5⟩, h6⟩ := h
    split at h2
    · rename_i dd hd
      split at h2
      · rename_i k' hk'
        have e1 := eq_of_beq h2
        subst e1
        split at h4
        · rename_i f hf
          rw [Bool.and_eq_true] at h4
          refine ⟨a, b, pos, dd, f, ?_, hd, hk', hf, eq_of_beq h4.1, by simpa using h4.2, site_of h3, h5, h6⟩
          split at h1
          · subst h1; rfl
          · have : neg = false := by cases neg <;> simp_all
            subst this; rfl
          · cases h1
        · cases h4
      · cases h2
    · cases h2
  · cases h
theorem chain_parts {n : Nat} {c : SC} {o1 o2 : COp} {x y z : CE} {e : Expr} (h : chkE S sites (n + 1) c e (.chain o1 o2 x y z) = true) : ∃ a b d' pos, e = .Compare a [copOf o1, copOf o2] [b, d'] pos ∧ intC o2 = true ∧ chkE S sites n c a x = true ∧ chkE S sites n c b y = true ∧ chkE S sites n c d' z = true := by
  rw [chkE_s] at h; unfold chkE1 at h
  simp only at h
  split at h
  · rename_i a op1 op2 b d' pos
    simp only [Bool.and_eq_true] at h
    obtain ⟨⟨⟨⟨⟨h1, h2⟩, h3⟩, h4⟩, h5⟩, h6⟩ := h
    have e1 := cop_of h1
    have e2 := cop_of h2
    subst e1; subst e2
    exact ⟨a, b, d', pos, rfl, h3, h4, h5, h6⟩
  · cases h
theorem bindL_of {N : List Str} {sc : Scope} {prm : Arguments} (h : bindLB sc prm = true) : BindL prm N sc := by
  unfold bindLB at h
  split at h
  · refine .inl ⟨rfl, fun fd h1 h2 => ?_⟩
    obtain ⟨n1, n2, n3, n4, n5, n6, n7, n8, n9, n10, n11, n12, n13, n14, n15⟩ := fd
    dsimp only at h1 h2
    subst h1; subst h2
    rfl
  · rename_i y _ _ e
    refine .inr ⟨e, y, rfl, of_decide_eq_true h, fun fd T0 h1 h2 => ?_⟩
    obtain ⟨n1, n2, n3, n4, n5, n6, n7, n8, n9, n10, n11, n12, n13, n14, n15⟩ := fd
    dsimp only at h1 h2
    subst h1; subst h2
    exact ⟨_, rfl, fun v => by simp [List.lookup]⟩
  · cases h
theorem hear_of {xb : Str} {N : List Str} {b rest : List Stmt} (h : hearShape xb N b = some rest) : ∃ (a m e : Str) (Nr : List Str) (j : Nat) (q1 q2 q3 q4 q5 q6 q7 q8 q9 q10 q11 q12 : Pos), N = a :: m :: e :: Nr ∧
    b = .Assign [.Name m q1] (.Constant .none j q2) q3 :: .Try [.Expr (.Call (.Name a q4) [] [] q5) q6] [.ExceptHandler (some (.Name xb q7)) (some e) [.Assign [.Name m q8] (.Name e q9) q10] q11] [] [] q12 :: rest := by
  unfold hearShape at h
  split at h
  · rename_i m q1 j q2 q3 a q4 q5 q6 x q7 e m2 q8 e2 q9 q10 q11 q12 rest'
    split at h
    · rename_i hc
      obtain ⟨h1, rfl, rfl, rfl⟩ := hc
      cases h
      match N, h1 with
      | _ :: _ :: _ :: Nr, h1 =>
        simp only [List.take_succ_cons, List.take_zero, List.cons.injEq, and_true] at h1
        obtain ⟨rfl, rfl, rfl⟩ := h1
        exact ⟨_, _, _, Nr, j, q1, q2, q3, q4, q5, q6, q7, q8, q9, q10, q11, q12, rfl, rfl⟩
      | [], h1 => simp at h1
      | [_], h1 => simp at h1
      | [_, _], h1 => simp at h1
    · cases h
  · cases h
theorem MainE.paS {S : List FnS} {sites : Sites} {g : GN} {d n : Nat} (M : MainE S sites g d n) {X : Cx} {W : WX} {c : SC} (o : XO S sites g d W c X) : ∀ {es : List Expr} {cs : List CE}, chkLs (chkE S sites n c) es cs = true → PA X es (TA1 (gsOf X g) W fun ρ => evListS (fun e => evE (callF (dsOf S) d) n e ρ) cs)
  | [], [], _ => da_nil
  | e :: es, ce :: cs, h => by
    have h : (chkS1 (chkE S sites n c) e ce && chkLs (chkE S sites n c) es cs) = true := h
    rw [Bool.and_eq_true] at h
    obtain ⟨h1, h2⟩ := h
    have tl := MainE.paS M o h2
    have plain : (∀ c0, ce ≠ .star c0) → PA X (e :: es) (TA1 (gsOf X g) W fun ρ => evListS (fun e => evE (callF (dsOf S) d) n e ρ) (ce :: cs)) := fun hn => by
      have h3 : (notStar e && chkE S sites n c e ce) = true := by
        unfold chkS1 at h1
        split at h1
        · exact absurd rfl (hn _)
        · exact h1
      rw [Bool.and_eq_true] at h3
      have e2 : (fun ρ => evListS (fun e => evE (callF (dsOf S) d) n e ρ) (ce :: cs)) = fun ρ => MM.bind (evE (callF (dsOf S) d) n ce ρ) fun v => MM.bind (evListS (fun e => evE (callF (dsOf S) d) n e ρ) cs) fun vs => MM.pure (v :: vs) := by
        funext ρ
        cases ce <;> first | rfl | exact absurd rfl (hn _)
      rw [e2]
      exact da_cons (M.pe X W c e ce o h3.2) tl (star_cons h3.1)
    cases ce with
    | star c0 =>
      unfold chkS1 at h1
      simp only at h1
      split at h1
      · exact da_star (M.pe X W c _ c0 o h1) tl rfl
      · cases h1
    | _ => exact plain fun _ z => nomatch z
  | [], _ :: _, h => by simp [chkLs] at h
  | _ :: _, [], h => by simp [chkLs] at h
theorem MainE.heardOk {S : List FnS} {sites : Sites} {g : GN} {d n : Nat} (M : MainE S sites g d n) {X : Cx} {W : WX} {c : SC} (o : XO S sites g d W c X) {k : Nat} {ee : CE} {x : Str} {px lpos pos : Pos} {prm : Arguments} {bd : Expr} {sc : Scope} {f : FnS} (hl : c.lam = true)
    (hf : S[k]? = some f) (hx : x = f.d.name) (hhd : f.d.hd = true) (h2 : isGlb (c.kind x) = true) (h3 : plainN x = true) (hne : sites.ex ≠ []) (hs : (k, 1, ([] : List Str), [PArg.at 0]) ∈ sites.at') (h5 : lamNB c.N c.sc sc = true) (h6 : dflI prm = true) (h7 : bindLB sc prm = true)
    (h8 : chkE S sites n (c.inLam sc) bd ee = true) : PE X (.Call (.Name x px) [.Lambda prm bd sc lpos] [] pos) (TE1 (gsOf X g) W fun ρ s => heardR (evE (callF (dsOf S) d) n ee ρ s) fun y => callF (dsOf S) d k [y] false) := by
  cases d with
  | zero =>
    refine ⟨fun pins s σ H Q I ⟨B, F, ι, ρ, st, R, ev, po⟩ => False.elim ?_⟩
    have po : Po (gsOf X g) B (fun c d H => W c d σ H) F ι st (Den (gsOf X g)) (heardR (evE (callF (dsOf S) 0) n ee ρ st) fun y => callF (dsOf S) 0 k [y] false) Q := po
    generalize evE (callF (dsOf S) 0) n ee ρ st = r at po
    cases r <;> exact po
  | succ d' =>
    have hO := o.pg.hd k f hf hhd hs
    obtain ⟨gA, oc, od, dV, kV, doc, pm, an, cdv, ct, osl, hm, hk, lk, hcd, hsite, hrest⟩ := hO.at'
    have chk := hO.chk
    unfold chkHd at chk
    simp only [Bool.and_eq_true] at chk
    obtain ⟨⟨⟨⟨⟨⟨⟨⟨⟨⟨⟨⟨k1, k2⟩, k3⟩, k4⟩, k5⟩, k6⟩, k7⟩, k7b⟩, k8⟩, k9⟩, k10⟩, k11⟩, k12⟩ := chk
    cases hsh : hearShape sites.xb f.N (defBody f.st) with
    | none => rw [hsh] at k5; cases k5
    | some rest =>
      obtain ⟨a, m, e, Nr, j, q1, q2, q3, q4, q5, q6, q7, q8, q9, q10, q11, q12, eN, eb⟩ := hear_of hsh
      obtain ⟨cc, P, hcode, TB, hmT, hu⟩ := o.lam hl
      obtain ⟨S0, hS, hxx⟩ := o.pg.cl.exb hne
      have rl := o.rooml hl
      have hr3 := hrest d' rfl rest hsh
      have hsite1 := hsite 1 [] [.at 0] rfl rfl rfl
      have nd := of_decide_eq_true k4
      rw [eN] at k8 k9 hr3 hsite1 nd
      simp only [List.take_succ_cons, List.take_zero, List.drop_succ_cons, List.drop_zero, List.all_cons, List.all_nil, Bool.and_eq_true, Bool.and_true] at k8 k9
      obtain ⟨ka, kap⟩ := k8
      obtain ⟨⟨km, kmp⟩, ke, kep⟩ := k9
      have kfn : (defScope f.st).kind = .function := by
        revert k1
        cases (defScope f.st).kind <;> first | exact fun _ => rfl | exact fun z => nomatch z
      have loca : (defScope f.st).names.lookup a = some .local ∨ (defScope f.st).names.lookup a = some .cell := by
        rcases Bool.or_eq_true _ _ ▸ ka with z | z
        · exact .inl (loc_of z)
        · exact .inr (cell_of' z)
      have Sg : FnScope (a :: m :: e :: Nr) [a] (defScope f.st) := ⟨kfn, by simpa using k2, by simpa using k3, nd, rfl, fun y hy => by
          simp at hy
          subst hy
          exact loca, fun y hy z => by
          have := List.all_eq_true.mp k10 y hy
          rw [z] at this
          exact absurd this (by decide)⟩
      have hb : Binds X.K (PySem.W.fnOf f.d.name f.d.name (defArgs f.st) (defBody f.st) (defScope f.st) dV kV doc pm an cdv ct) [a] [] := fun s us inK hlen => by
        match us, hlen with
        | [u], _ =>
          obtain ⟨us', pv, hb⟩ := hsite1 s [u] [] inK rfl rfl
          cases pv with
          | «at» hz hr =>
            cases hr
            cases hz
            exact hb
      have hx0 := (plain_of h3).1
      rw [hx] at h2 h3 hx0 ⊢
      rw [eb] at lk hb
      have hv : Vis (defScope f.st) a := loca.elim .inl fun z => .inr (.inl z)
      have LN : LamN X.N X.env.scope sc := by
        rw [o.hN, o.hsc]
        exact lamN_of h5
      refine PE.weak (de_heard (T0 := ()) (k := lv (d' + 1) + 5) (fE := evE (callF (dsOf S) (d' + 1)) n ee) (fR := evB (evS (callF (dsOf S) d') FU) f.d.body) (o.gl h2) hm hk hx0 o.tk lk hcd hb Sg hv (plain_of kap) (loc_of km) (loc_of ke) (plain_of kep) (glb_of k11) (plain_of k12).1 hS hxx TB hcode hmT hu
        LN h6 (bindL_of h7) rl (fun A outer s2 H2 E f2 c2 env hA rm => M.pe _ _ _ _ _ (o.inl LN.fn hA rm) h8) (fun s2 H2 E rm => ?_)) fun σ H Q ⟨B, F, ι, ρ, st, R, ev, po⟩ => ⟨B, F, ι, ρ, st, R, ev, ?_⟩
      · exact hr3 X.A X.stack s2 H2 E (rm.mono (by omega)) o.fit.gd
      · have he : (dsOf S)[k]? = some f.d := by unfold dsOf; rw [List.getElem?_map, hf]; rfl
        have e1 : ∀ y s1, callF (dsOf S) (d' + 1) k [y] false s1 = leaveF s1 false (evB (evS (callF (dsOf S) d') FU) f.d.body (hearE (a :: m :: e :: Nr).length y) { cells := s1.cells, opn := false }) := fun y s1 => by
          conv => lhs; unfold callF
          rw [he]
          have n1 : f.d.nps = 1 := eq_of_beq k6
          have n2 : f.d.nsl = f.N.length := eq_of_beq k7
          show (if [y].length = f.d.nps then _ else _ : MM AV) s1 = _
          rw [if_pos (by rw [n1]; rfl), hhd]
          show plainF _ _ _ _ _ = _
          unfold plainF FnD.env0 hearE
          rw [hhd, n1, n2, eN]
          rfl
        have po : Po (gsOf X g) B (fun c d H => W c d σ H) F ι st (Den (gsOf X g)) (heardR (evE (callF (dsOf S) (d' + 1)) n ee ρ st) fun y => callF (dsOf S) (d' + 1) k [y] false) Q := po
        show Po (gsOf X g) B (fun c d H => W c d σ H) F ι st (Den (gsOf X g)) (heardR (evE (callF (dsOf S) (d' + 1)) n ee ρ st) fun y s1 => leaveF s1 false (evB (evS (callF (dsOf S) d') FU) f.d.body (hearE (a :: m :: e :: Nr).length y) { cells := s1.cells, opn := false })) Q
        generalize evE (callF (dsOf S) (d' + 1)) n ee ρ st = r at po
        cases r with
        | ok v s1 => unfold heardR at po ⊢; dsimp only at po ⊢; rw [e1] at po; exact po
        | exc v s1 => unfold heardR at po ⊢; dsimp only at po ⊢; rw [e1] at po; exact po
        | stuck => exact po
theorem MainE.step (M : MainE S sites g d n) : MainE S sites g d (n + 1) := by
  have PEall : ∀ (X : Cx) (W : WX) (c : SC) (e : Expr) (ce : CE), XO S sites g d W c X → chkE S sites (n + 1) c e ce = true → PE X e (TE1 (gsOf X g) W (evE (callF (dsOf S) d) (n + 1) ce)) := by
    intro X W c e ce o h
    rw [chkE_s] at h; unfold chkE1 at h
    cases ce with
    | var i =>
      simp only at h
      split at h
      · simp only [Bool.and_eq_true] at h
        obtain ⟨h1, h2⟩ := plain_of h.2
        exact de_var (o.ix h.1.1) (o.vis h.1.2) h1 h2
      · cases h
    | int i =>
      simp only at h
      split at h
      · have := of_decide_eq_true h; subst this; exact de_int
      · cases h
    | str x =>
      simp only at h
      split at h
      · have := eq_of_beq h; subst this; exact de_str
      · cases h
    | bl b =>
      simp only at h
      split at h
      · have := eq_of_beq h; subst this; exact de_bl
      · cases h
    | non =>
      simp only at h
      split at h
      · exact de_non
      · cases h
    | bin op x y =>
      simp only at h
      split at h
      · simp only [Bool.and_eq_true] at h
        have := op_of h.1.1
        subst this
        exact de_bin op (M.pe X W c _ _ o h.1.2) (M.pe X W c _ _ o h.2)
      · cases h
    | neg x =>
      simp only at h
      split at h
      · exact de_neg (M.pe X W c _ _ o h)
      · cases h
    | not x =>
      simp only at h
      split at h
      · exact de_not (M.pe X W c _ _ o h)
      · cases h
    | and x y =>
      simp only at h
      split at h
      · simp only [Bool.and_eq_true] at h
        exact de_and (M.pe X W c _ _ o h.1) (pe_one (M.pe X W c _ _ o h.2))
      · simp only [Bool.and_eq_true] at h
        exact de_and (M.pe X W c _ _ o h.1) (M.pe X W c _ _ o h.2)
      · cases h
    | or x y =>
      simp only at h
      split at h
      · simp only [Bool.and_eq_true] at h
        exact de_or (M.pe X W c _ _ o h.1) (pe_one (M.pe X W c _ _ o h.2))
      · simp only [Bool.and_eq_true] at h
        exact de_or (M.pe X W c _ _ o h.1) (M.pe X W c _ _ o h.2)
      · cases h
    | cmp op x y =>
      simp only at h
      split at h
      · split at h
        · simp only [Bool.and_eq_true] at h
          obtain ⟨⟨h1, h2⟩, h3⟩ := h
          split at h1
          · split at h2
            · exact de_isN (M.pe X W c _ _ o h3)
            · cases h2
          · cases h1
        · simp only [Bool.and_eq_true] at h
          obtain ⟨⟨h1, h2⟩, h3⟩ := h
          split at h1
          · split at h2
            · exact de_notN (M.pe X W c _ _ o h3)
            · cases h2
          · cases h1
        · rename_i hn1 hn2
          simp only [Bool.and_eq_true] at h
          have h1 := cop_of h.1.1.1
          subst h1
          have := de_cmp o.fit op (marks_of h.1.1.2) (M.pe X W c _ _ o h.1.2) (M.pe X W c _ _ o h.2) (pos := ‹Pos›)
          cases op <;> first | exact this | exact absurd rfl hn1 | exact absurd rfl hn2
      · cases h
    | ite t x y =>
      simp only at h
      split at h
      · simp only [Bool.and_eq_true] at h
        have := de_ite (M.pt X W c _ _ o h.1.1) (M.pe X W c _ _ o h.1.2) (M.pe X W c _ _ o h.2) (pos := ‹Pos›)
        simp only [MM.assoc] at this
        exact this
      · cases h
    | tup es =>
      simp only at h
      split at h
      · simp only [Bool.and_eq_true] at h
        obtain ⟨h1, h2⟩ := h
        obtain ⟨hl, _⟩ := chkL_len h2
        exact de_tup (le1000 (of_decide_eq_true h1)) (evL1 (f := fun ρ e => evE (callF (dsOf S) d) n e ρ) hl.symm) (M.pa o h2)
      · cases h
    | lst al es =>
      simp only at h
      split at h
      · simp only [Bool.and_eq_true] at h
        obtain ⟨h1, h2⟩ := h
        obtain ⟨hl, _⟩ := chkL_len h2
        exact de_lst (le1000 (of_decide_eq_true h1)) (evL1 (f := fun ρ e => evE (callF (dsOf S) d) n e ρ) hl.symm) (M.pa o h2)
      · cases h
    | dct al ks vs =>
      simp only at h
      split at h
      · rename_i kes ves pos
        simp only [Bool.and_eq_true] at h
        obtain ⟨⟨h1, h2⟩, h3⟩ := h
        have o0 : XO S sites g d W0 c X := { o with tk := takes0 }
        obtain ⟨trs, hp, ht, hall⟩ := M.pairs o0 pos h3
        cases kes with
        | nil =>
          cases ves with
          | cons _ _ => simp at h2
          | nil =>
            cases ks with
            | cons _ _ => simp [chkPs] at h3
            | nil =>
              cases vs with
              | cons _ _ => simp [chkPs] at h3
              | nil => exact de_dct0
        | cons k kes => exact de_dct (by have := o.fit.un; omega) hp hall (eq_of_beq h2) (fun z => nomatch z) (of_decide_eq_true h1) ht
      · cases h
    | idx x y =>
      simp only at h
      split at h
      · simp only [Bool.and_eq_true] at h
        exact de_idx (by have := o.fit.un; omega) (plainIx_ok h.1.1) (M.pe X W c _ _ o h.1.2) (M.pe X W c _ _ o h.2)
      · cases h
    | slc x lo hi =>
      simp only at h
      split at h
      · simp only [Bool.and_eq_true] at h
        exact de_slc (M.pe X W c _ _ o h.1.1) (M.po o h.1.2) (M.po o h.2)
      · cases h
    | comp al ws tg it ifs elt =>
      simp only at h
      split at h
      · rename_i elt' tg' it' ifs' scope pos
        simp only [Bool.and_eq_true] at h
        obtain ⟨⟨⟨⟨⟨⟨h1, h2⟩, h3⟩, h4⟩, h5⟩, h6⟩, h7⟩ := h
        obtain ⟨hi, hf⟩ := M.it o (tg := tg') h5
        have hk := blk_kind h1
        have ok : BlkOk X.N X.env.scope scope (ownOf c.N ws) := by
          rw [o.hN, o.hsc]
          exact blkOk_by h1
        have := de_comp (al := al) (fe := fun ρ => evE (callF (dsOf S) d) n elt ρ) (ft := fun ρ => evTests (fun e => evE (callF (dsOf S) d) n e ρ) ifs) (fg := fun s v ρ => asgT s.cells tg v ρ) (inn := fun vs => tgIn vs tg) (ifs := ifs') (elt := elt') (scope := scope) (own := ownOf c.N ws) (pos := pos)
          o.fit.calm (by rw [o.hN]; exact o.nd) ok (by rw [own_map]; exact h3) hi
          (fun s H C cl fp => chkT_ok (o.blk hk s H C cl fp) tg' tg h2)
          (fun s H C cl fp => by
            have o' := o.blk hk s H C cl fp
            split at h6
            · exact ⟨fun pins s σ H Q I ⟨B, F, ι, ρ, st, R, ev, p⟩ => pts_nil.run pins s σ H Q I (p.pure R rfl)⟩
            · exact pts_one (M.pt _ _ _ _ _ o' h6)
            · cases h6)
          (fun s H C cl fp => M.pe _ _ _ _ _ (o.blk hk s H C cl fp) h7) hf
        rw [own_map] at this
        exact this
      · cases h
    | comp2 al ws tg it ifs ws1 tg1 it1 ifs1 elt =>
      simp only at h
      split at h
      · rename_i elt' tg' it' ifs' tg1' it1' ifs1' scope pos
        simp only [Bool.and_eq_true] at h
        obtain ⟨⟨⟨⟨⟨⟨⟨⟨⟨⟨⟨h1, h2⟩, h3⟩, h5⟩, h6⟩, k1⟩, k2⟩, k3⟩, k4⟩, k5⟩, k6⟩, h7⟩ := h
        obtain ⟨hi, hf⟩ := M.it o (tg := tg') h5
        have hk := blk_kind h1
        have ok : BlkOk X.N X.env.scope scope (ownOf c.N ws) := by
          rw [o.hN, o.hsc]
          exact blkOk_by h1
        have tests : ∀ {ifs' : List Expr} {ifs : List CE}, (match ifs', ifs with
            | [], [] => true
            | [i'], [i] => chkE S sites n (c.blk scope) i' i
            | _, _ => false) = true → ∀ (s : Shared) (H : Hp) (C : Addr) (cl : List (Str × Addr)) (fp : List Addr), PTs (X.blk s H scope (compEnvC scope cl C X.env) fp) ifs' (TT1 (gsOf X g) W0 fun ρ => evTests (fun e => evE (callF (dsOf S) d) n e ρ) ifs) := fun {ifs' ifs} h6 s H C cl fp => by
          have o' := o.blk hk s H C cl fp
          split at h6
          · exact ⟨fun pins s σ H Q I ⟨B, F, ι, ρ, st, R, ev, p⟩ => pts_nil.run pins s σ H Q I (p.pure R rfl)⟩
          · exact pts_one (M.pt _ _ _ _ _ o' h6)
          · cases h6
        have hv : ∀ i ∈ ws1, i ∈ (ownOf c.N ws).map (·.2) := fun i hi => by
          rw [own_map]
          have := List.all_eq_true.mp k3 i hi
          simpa using this
        have := de_comp2 (al := al) (fe := fun ρ => evE (callF (dsOf S) d) n elt ρ) (ft := fun ρ => evTests (fun e => evE (callF (dsOf S) d) n e ρ) ifs) (ft1 := fun ρ => evTests (fun e => evE (callF (dsOf S) d) n e ρ) ifs1) (fg := fun s v ρ => asgT s.cells tg v ρ) (fg1 := fun s v ρ => asgT s.cells tg1 v ρ)
          (inn := fun vs => tgIn vs tg) (inn1 := fun vs => tgIn vs tg1) (ifs := ifs') (ifs1 := ifs1') (elt := elt') (scope := scope) (own := ownOf c.N ws) (ws1 := ws1) (pos := pos)
          o.fit.calm (by rw [o.hN]; exact o.nd) ok hv (by rw [own_map]; exact h3) k2 hi
          (fun s H C cl fp => chkT_ok (o.blk hk s H C cl fp) tg' tg h2) (tests h6)
          (fun s H C cl fp => (M.it (o.blk hk s H C cl fp) (tg := tg1') k5).1)
          (fun s H C cl fp => chkT_ok (o.blk hk s H C cl fp) tg1' tg1 k1) (tests k6)
          (fun s H C cl fp => M.pe _ _ _ _ _ (o.blk hk s H C cl fp) h7) hf (fun env => folded_ok fun a b p e => by subst e; cases k4)
        rw [own_map] at this
        exact this
      · cases h
    | rng es => simp at h
    | enm es => simp at h
    | nev => exact ⟨fun _ _ _ _ _ _ ⟨_, _, _, _, _, _, _, p⟩ => p.elim⟩
    | star es => simp at h
    | tupS es =>
      simp only at h
      split at h
      · exact de_tupS (M.paS o h)
      · cases h
    | lstS al es =>
      simp only at h
      split at h
      · exact de_lstS (M.paS o h)
      · cases h
    | meth cs m k x es ws ks perm keep =>
      simp only at h
      split at h
      · rename_i a nm apos as kws cpos
        simp only [Bool.and_eq_true] at h
        obtain ⟨⟨⟨⟨⟨⟨⟨⟨⟨h1, h2⟩, h3⟩, h4⟩, h5⟩, h6⟩, h7⟩, h8⟩, h9⟩, h10⟩ := h
        have e1 := eq_of_beq h1
        subst e1
        split at h4
        · rename_i f hf
          obtain ⟨fa, fd, hga, _, hlen, F, hs⟩ := o.pg.fn k f hf (by simpa using h4)
          have hsite := hs _ _ _ (site_of h6)
          obtain ⟨hl1, hns⟩ := chkL_len h9
          obtain ⟨hl2, hkn⟩ := chkKw_len h10
          have mm : ∀ i C, cs.contains i = true → g.clA i = some C → Cls X.K C ∧ Meth X.K C nm fa := fun i C hi hC => by
            obtain ⟨f2, h2, c2, m2⟩ := o.pg.cl.mt i nm k (by simpa using List.all_eq_true.mp h5 i (by simpa using hi)) C hC
            rw [hga] at h2; cases h2
            exact ⟨c2, m2⟩
          refine de_meth (cs := cs) (c := fun as => callF (dsOf S) d k as keep) mm F (fun B E F ι s vs as H Q R hl dd p => ⟨keep, B, F, ι, s, as, by rw [hl, hlen], R, dd, p⟩) (fun as s hne => callF_few hf hlen hne) (o.room.mono (by omega)) o.fit o.tk hsite (M.pe X W c a x o h3) (base_of h2) ?_ h8 hns rfl hkn
            (M.pa o h9) (fun e ρ => ?_) (evL1 (f := fun ρ e => evE (callF (dsOf S) d) n e ρ) hl1.symm) (M.pk o h10) (fun e ρ => ?_) (evL1 (f := fun ρ e => evE (callF (dsOf S) d) n e ρ) hl2.symm)
          · unfold methodCallForm
            rw [few_ok hns, (kw_all (env := X.env) (pos := cpos) hkn).1]
            have := of_decide_eq_true h7
            simp only [Bool.true_and, decide_eq_true_eq]
            split <;> omega
          · subst e
            cases es with
            | nil => rfl
            | cons _ _ => simp at hl1
          · subst e
            cases ws with
            | nil => rfl
            | cons _ _ =>
              have := congrArg List.length hkn
              simp at this
              rw [← this] at hl2
              simp at hl2
        · cases h4
      · cases h
    | strc cs k x =>
      simp only at h
      split at h
      · rename_i f' px a cpos
        simp only [Bool.and_eq_true] at h
        obtain ⟨⟨⟨⟨⟨⟨h1, h2⟩, h3⟩, h4⟩, h5⟩, h6⟩, h7⟩ := h
        have e1 := eq_of_beq h1
        subst e1
        split at h6
        · rename_i f hf
          simp only [Bool.and_eq_true] at h6
          obtain ⟨fa, fd, hga, _, hlen, F, hs⟩ := o.pg.fn k f hf (by simpa using h6.1)
          have n1 : f.d.nps = 1 := eq_of_beq h6.2
          have hsite := hs _ _ _ (site_of h7)
          refine de_strc (cs := cs) (fc := fun as => callF (dsOf S) d k as false) (fun i C hi hC => ?_) F (fun B E F ι s vs as H Q R hl dd p => ⟨false, B, F, ι, s, as, by rw [hl, hlen], R, dd, p⟩) (by rw [hlen, n1]) hsite (o.room.mono (by omega)) o.fit (o.gl h2) (o.pg.bl _ (by decide +kernel)) (M.pe X W c a x o h4) h3
          obtain ⟨f2, h2, c2, m2⟩ := o.pg.cl.mt i "__str__" k (by simpa using List.all_eq_true.mp h5 i (by simpa using hi)) C hC
          rw [hga] at h2; cases h2
          exact m2
        · cases h6
      · cases h
    | heard k ee =>
      simp only at h
      split at h
      · rename_i x px prm bd sc lpos pos
        simp only [Bool.and_eq_true] at h
        obtain ⟨⟨⟨⟨⟨⟨⟨⟨⟨hl, h1⟩, h2⟩, h3⟩, hne⟩, h4⟩, h5⟩, h6⟩, h7⟩, h8⟩ := h
        split at h1
        · rename_i f hf
          rw [Bool.and_eq_true] at h1
          exact M.heardOk o hl hf (eq_of_beq h1.1) h1.2 h2 h3 (fun z => by rw [z] at hne; cases hne) (site_of h4) h5 h6 h7 h8
        · cases h1
      · cases h
    | call k es ws ks perm keep =>
      simp only at h
      split at h
      · rename_i x px as kws pos
        simp only [Bool.and_eq_true] at h
        obtain ⟨⟨⟨⟨⟨h1, h2⟩, h3⟩, h4⟩, h5⟩, h6⟩ := h
        split at h1
        · rename_i f hf
          rw [Bool.and_eq_true, Bool.and_eq_true] at h1
          have ex := eq_of_beq h1.1.1
          subst ex
          have hqn : f.q = none := by
            have := h1.1.2
            cases hq : f.q with
            | none => rfl
            | some z => rw [hq] at this; cases this
          obtain ⟨a, fd, hga, hmk, hlen, F, hs⟩ := o.pg.fn k f hf (by have := h1.2; simpa using this)
          obtain ⟨hm, hk⟩ := hmk hqn
          obtain ⟨⟨k', np, ks', perm'⟩, hmem, hsite⟩ := List.any_eq_true.mp h4
          simp only [Bool.and_eq_true] at hsite
          obtain ⟨⟨⟨hs1, hs2⟩, hs3⟩, hs4⟩ := hsite
          have e1 := eq_of_beq hs1
          have e2 := eq_of_beq hs2
          have e3 := eq_of_beq hs3
          have e4 := pargs_of hs4
          subst e1; subst e2; subst e3; subst e4
          obtain ⟨hl1, hns⟩ := chkL_len h5
          obtain ⟨hl2, hkn⟩ := chkKw_len h6
          refine de_call (c := fun as => callF (dsOf S) d k' as keep) F (fun B E F ι s vs as H Q R hl dd p => ⟨keep, B, F, ι, s, as, ?_, R, dd, p⟩) (fun as s hne => callF_few hf hlen hne) (o.room.mono (by omega)) o.fit o.tk (o.gl h2) hm hk (plain_of h3).1 (hs _ _ _ hmem) hns rfl hkn
            (M.pa o h5) (fun e ρ => ?_) (evL1 (f := fun ρ e => evE (callF (dsOf S) d) n e ρ) hl1.symm) (M.pk o h6) (fun e ρ => ?_) (evL1 (f := fun ρ e => evE (callF (dsOf S) d) n e ρ) hl2.symm)
          · rw [hl, hlen]
          · subst e
            cases es with
            | nil => rfl
            | cons _ _ => simp at hl1
          · subst e
            cases ws with
            | nil => rfl
            | cons _ _ => cases ks' <;> simp at hl2 hkn
        · cases h1
      · cases h
    | blt b al es =>
      simp only at h
      split at h
      · simp only [Bool.and_eq_true] at h
        obtain ⟨⟨⟨h1, h2⟩, h3⟩, h4⟩ := h
        have e1 := eq_of_beq h1
        subst e1
        obtain ⟨hb1, hb2, hb3⟩ := bltN_boot b
        obtain ⟨hl, hns⟩ := chkL_len h4
        have ha := M.pa o h4
        rename_i as pos
        cases as with
        | nil => simp at h3
        | cons a as =>
          rw [List.all_cons, Bool.and_eq_true] at hns
          exact de_bltF o.fit (o.gl h2) (o.pg.bl _ (bltN_in b)) hb1 hb2 hb3 ha (star_cons hns.1) (star_any hns.2)
      · cases h
    | isi x ts =>
      simp only [Bool.and_eq_true] at h
      obtain ⟨h0, h⟩ := h
      have hty : ∀ t ∈ ts, t ∈ tyNames := fun t ht => by
        have := List.all_eq_true.mp h0 t ht
        simpa using this
      have hbl : ∀ t ∈ tyNames, X.mg (Str.ofString t) = none := fun t ht => o.pg.bl _ (by
        revert ht t
        decide +kernel)
      split at h
      · simp only [Bool.and_eq_true] at h
        obtain ⟨⟨⟨⟨h1, h2⟩, h3⟩, h4⟩, h5⟩ := h
        have e1 := eq_of_beq h1
        subst e1
        have hp := tys_ok o hbl hty h5
        cases hp with
        | cons hh hr =>
          cases hr
          obtain ⟨p, e2, ht⟩ := hh
          cases e2
          exact de_isi1 (o.gl h2) (o.pg.bl _ (by decide +kernel)) ⟨fun pins s σ H Q I q => ht.run pins s σ H Q I q⟩ (M.pe X W c _ _ o h4) h3
      · simp only [Bool.and_eq_true] at h
        obtain ⟨⟨⟨⟨⟨h1, h2⟩, h3⟩, h4⟩, h5⟩, h6⟩ := h
        have e1 := eq_of_beq h1
        subst e1
        exact de_isiN (o.gl h2) (o.pg.bl _ (by decide +kernel)) (tys_ok o hbl hty h6) (le1000 (of_decide_eq_true h5)) (M.pe X W c _ _ o h4) h3
      · cases h
    | bm m x es =>
      simp only at h
      split at h
      · split at h
        · rename_i oo nm apos as cpos
          simp only [Bool.and_eq_true] at h
          obtain ⟨⟨⟨⟨⟨⟨h1, h2⟩, h3⟩, h4⟩, h5⟩, h6⟩, h7⟩ := h
          have e1 := eq_of_beq h1
          subst e1
          obtain ⟨hl, hns⟩ := chkL_len h7
          have ha := M.pa o h7
          cases as with
          | nil => simp at h4
          | cons a as =>
            have hns' := hns
            rw [List.all_cons, Bool.and_eq_true] at hns
            refine de_join (M.pe X W c _ _ o h3) ha ?_ ?_ h6 (star_cons hns.1) (star_any hns.2)
            · cases oo <;> first | rfl | simp at h2
            · rw [few_ok hns', Bool.true_and, Bool.and_eq_true]
              exact ⟨rfl, h5⟩
        · cases h
      · split at h
        · rename_i oo nm apos as cpos
          simp only [Bool.and_eq_true] at h
          obtain ⟨⟨⟨⟨⟨⟨h1, h2⟩, h3⟩, h4⟩, h5⟩, h6⟩, h7⟩ := h
          have e1 := eq_of_beq h1
          subst e1
          obtain ⟨hl, hns⟩ := chkL_len h7
          have ha := M.pa o h7
          cases as with
          | nil => simp at h4
          | cons a as =>
            have hns' := hns
            rw [List.all_cons, Bool.and_eq_true] at hns
            refine de_append (M.pe X W c _ _ o h3) ha ?_ ?_ h6 (star_cons hns.1) (star_any hns.2)
            · exact base_of h2
            · rw [few_ok hns', Bool.true_and, Bool.and_eq_true]
              exact ⟨rfl, h5⟩
        · cases h
      · split at h
        · rename_i oo nm apos as cpos
          simp only [Bool.and_eq_true] at h
          obtain ⟨⟨⟨⟨⟨⟨h1, h2⟩, h3⟩, h4⟩, h5⟩, h6⟩, h7⟩ := h
          have e1 := eq_of_beq h1
          subst e1
          obtain ⟨hl, hns⟩ := chkL_len h7
          have ha := M.pa o h7
          cases as with
          | nil => simp at h4
          | cons a as =>
            have hns' := hns
            rw [List.all_cons, Bool.and_eq_true] at hns
            refine de_pop (M.pe X W c _ _ o h3) ha ?_ ?_ h6 (star_cons hns.1) (star_any hns.2)
            · exact base_of h2
            · rw [few_ok hns', Bool.true_and, Bool.and_eq_true]
              exact ⟨rfl, h5⟩
        · cases h
      · split at h
        · rename_i oo nm apos as cpos
          simp only [Bool.and_eq_true] at h
          obtain ⟨⟨⟨⟨⟨⟨h1, h2⟩, h3⟩, h4⟩, h5⟩, h6⟩, h7⟩ := h
          have e1 := eq_of_beq h1
          subst e1
          obtain ⟨hl, hns⟩ := chkL_len h7
          have ha := M.pa o h7
          cases as with
          | nil => simp at h4
          | cons a as =>
            have hns' := hns
            rw [List.all_cons, Bool.and_eq_true] at hns
            refine de_extend (M.pe X W c _ _ o h3) ha ?_ ?_ h6 (star_cons hns.1) (star_any hns.2)
            · exact base_of h2
            · rw [few_ok hns', Bool.true_and, Bool.and_eq_true]
              exact ⟨rfl, h5⟩
        · cases h
      · split at h
        · rename_i oo nm apos as cpos
          simp only [Bool.and_eq_true] at h
          obtain ⟨⟨⟨⟨⟨⟨h1, h2⟩, h3⟩, h4⟩, h5⟩, h6⟩, h7⟩ := h
          have e1 := eq_of_beq h1
          subst e1
          obtain ⟨hl, hns⟩ := chkL_len h7
          have ha := M.pa o h7
          cases as with
          | nil => simp at h4
          | cons a as =>
            have hns' := hns
            rw [List.all_cons, Bool.and_eq_true] at hns
            refine de_get (by have := o.fit.un; omega) (M.pe X W c _ _ o h3) ha ?_ ?_ h6 (star_cons hns.1) (star_any hns.2)
            · exact base_of h2
            · rw [few_ok hns', Bool.true_and, Bool.and_eq_true]
              exact ⟨rfl, h5⟩
        · cases h
      · split at h
        · rename_i oo nm apos as cpos
          simp only [Bool.and_eq_true] at h
          obtain ⟨⟨⟨⟨⟨⟨h1, h2⟩, h3⟩, h4⟩, h5⟩, h6⟩, h7⟩ := h
          have e1 := eq_of_beq h1
          subst e1
          obtain ⟨hl, hns⟩ := chkL_len h7
          have ha := M.pa o h7
          cases as with
          | nil => simp at h4
          | cons a as =>
            have hns' := hns
            rw [List.all_cons, Bool.and_eq_true] at hns
            refine de_insert (M.pe X W c _ _ o h3) ha ?_ ?_ h6 (star_cons hns.1) (star_any hns.2)
            · exact base_of h2
            · rw [few_ok hns', Bool.true_and, Bool.and_eq_true]
              exact ⟨rfl, h5⟩
        · cases h
    | blc b x =>
      simp only at h
      split at h
      · simp only [Bool.and_eq_true] at h
        obtain ⟨⟨⟨⟨⟨h1, h2⟩, h3⟩, h4⟩, h5⟩, h6⟩ := h
        have e2 := eq_of_beq h2
        subst e2
        cases b with
        | lenI =>
          have e1 := eq_of_beq h1
          subst e1
          exact de_lenI o.fit (o.gl h3) (o.pg.bl _ (by decide +kernel)) (o.gl h4) (o.pg.bl _ (by decide +kernel)) (M.pe X W c _ _ o h6) h5
        | lenT =>
          have e1 := eq_of_beq h1
          subst e1
          exact de_lenT o.fit (o.gl h3) (o.pg.bl _ (by decide +kernel)) (o.gl h4) (o.pg.bl _ (by decide +kernel)) (M.pe X W c _ _ o h6) h5
        | sortset =>
          have e1 := eq_of_beq h1
          subst e1
          exact de_sortset o.fit (o.gl h3) (o.pg.bl _ (by decide +kernel)) (o.gl h4) (o.pg.bl _ (by decide +kernel)) (M.pe X W c _ _ o h6) h5
      · cases h
    | rep es y =>
      simp only at h
      split at h
      · simp only [Bool.and_eq_true] at h
        obtain ⟨⟨h1, h2⟩, h3⟩ := h
        obtain ⟨hl, _⟩ := chkL_len h2
        exact de_rep (le1000 (of_decide_eq_true h1)) (evL1 (f := fun ρ e => evE (callF (dsOf S) d) n e ρ) hl.symm) (M.pa o h2) (M.pe X W c _ _ o h3)
      · cases h
    | glob z a =>
      simp only at h
      split at h
      · simp only [Bool.and_eq_true] at h
        obtain ⟨⟨⟨h1, h2⟩, h3⟩, h4⟩ := h
        have e1 := eq_of_beq h1
        subst e1
        obtain ⟨p, hp, hp2⟩ := List.any_eq_true.mp h4
        rw [Bool.and_eq_true] at hp2
        have ea := av_of hp2.2
        subst ea
        have en := eq_of_beq hp2.1
        have := o.pg.cl.co p hp
        rw [en] at this
        exact de_glob (o.gl h2) (plain_of h3).1 this
      · cases h
    | rev x =>
      simp only at h
      split at h
      · exact de_rev (M.pe X W c _ _ o h)
      · cases h
    | lrng al xs =>
      simp only at h
      split at h
      · simp only [Bool.and_eq_true] at h
        obtain ⟨⟨⟨⟨⟨h1, h2⟩, h3⟩, h4⟩, h5⟩, h6⟩ := h
        have e1 := eq_of_beq h1
        have e2 := eq_of_beq h2
        subst e1; subst e2
        match xs, h6 with
        | [x], h6 => exact de_lrng (al := al) o.fit (o.gl h3) (o.pg.bl _ (by decide +kernel)) (o.gl h4) (o.pg.bl _ (by decide +kernel)) (M.pe X W c _ _ o h6) h5
      · cases h
    | chain o1 o2 x y z =>
      obtain ⟨a, b, d', pos, rfl, hi, h1, h2, h3⟩ := chain_parts (n := n) (by rw [chkE_s]; unfold chkE1; exact h)
      exact de_chain o.fit o1 o2 hi (M.pe X W c _ _ o h1) (M.pe X W c _ _ o h2) (M.pe X W c _ _ o h3)
    | attr x f =>
      simp only at h
      split at h
      · simp only [Bool.and_eq_true] at h
        obtain ⟨⟨⟨h1, h2⟩, h3⟩, h4⟩ := h
        have e1 := eq_of_beq h1
        subst e1
        exact de_attr (base_of h2) (fun z C hC => clsOf o hC) (fun z C hC => naOf o h3 hC) (M.pe X W c _ _ o h4)
      · cases h
    | isc x k subs =>
      simp only at h
      split at h
      · simp only [Bool.and_eq_true] at h
        obtain ⟨⟨⟨⟨⟨⟨⟨hsub, h1⟩, h2⟩, h3⟩, h4⟩, h5⟩, h6⟩, h7⟩ := h
        have e1 := eq_of_beq h1
        subst e1
        split at h7
        · rename_i dd hd
          have e7 := eq_of_beq h7
          subst e7
          obtain ⟨D, hD, O, _⟩ := o.pg.cl.cl k dd hd
          refine de_isc (D := D) ⟨O.gC, fun t ht => o.pg.cl.isb k D t hD ht, fun i C hC => ?_⟩ (o.gl h2) (o.pg.bl _ (by decide +kernel)) (o.gl h5) (plain_of h6).1 (M.pe X W c _ _ o h4) h3
          obtain ⟨d2, hd2⟩ := o.pg.cl.all i C hC
          obtain ⟨C2, hC2, O2, _⟩ := o.pg.cl.cl i d2 hd2
          rw [hC] at hC2; cases hC2
          refine ⟨⟨_, _, O2⟩, ?_⟩
          have hi : i ∈ List.range sites.cl.length := List.mem_range.mpr (List.getElem?_eq_some_iff.mp hd2).1
          have := eq_of_beq (List.all_eq_true.mp hsub i hi)
          rw [this]
          exact o.pg.cl.isk i C k D hC hD
        · cases h7
      · cases h
    | isx x k =>
      simp only at h
      split at h
      · simp only [Bool.and_eq_true] at h
        obtain ⟨⟨⟨⟨⟨⟨h1, h2⟩, h3⟩, h4⟩, h5⟩, h6⟩, h7⟩ := h
        have e1 := eq_of_beq h1
        subst e1
        split at h7
        · rename_i dd hd
          have e7 := eq_of_beq h7
          subst e7
          obtain ⟨D, hD, T, _⟩ := o.pg.cl.ex k dd hd
          exact de_isx o.pg.cl.exi (fun c C hC => o.pg.cl.exk c C k D hC hD) (o.pg.cl.exn k D hD) T.gC (o.gl h2) (o.pg.bl _ (by decide +kernel)) (o.gl h5) (plain_of h6).1 (M.pe X W c _ _ o h4) h3
        · cases h7
      · cases h
    | xattr x f =>
      simp only at h
      split at h
      · simp only [Bool.and_eq_true] at h
        obtain ⟨⟨⟨h1, h2⟩, h3⟩, h4⟩ := h
        have e1 := eq_of_beq h1
        subst e1
        exact de_xattr (base_of h2) o.pg.cl.exi (fun c C hC => o.pg.cl.exf c C _ hC (by simpa using h3)) (M.pe X W c _ _ o h4)
      · cases h
    | new al cc k es ws ks perm =>
      simp only at h
      split at h
      · rename_i x px as kws pos
        simp only [Bool.and_eq_true] at h
        obtain ⟨⟨⟨⟨⟨⟨h1, h1b⟩, h2⟩, h3⟩, h4⟩, h5⟩, h6⟩ := h
        split at h1
        · rename_i dd hd
          rw [Bool.and_eq_true] at h1
          have e1 := eq_of_beq h1.1
          have e2 := eq_of_beq h1.2
          subst e1; subst e2
          obtain ⟨C, hC, O, ⟨f, fI, hf, hfI, hI, hF⟩, _⟩ := o.pg.cl.cl cc dd hd
          obtain ⟨a, fd, hga, _, hlen, F, hs⟩ := o.pg.fn dd.ini f hf (by rw [hf] at h1b; simpa using h1b)
          rw [hfI] at hga; cases hga
          have hsite := hs _ _ _ (site_of h4)
          obtain ⟨hl1, hns⟩ := chkL_len h5
          obtain ⟨hl2, hkn⟩ := chkKw_len h6
          refine de_new (fc := fun as => callF (dsOf S) d dd.ini as true) hC O hI hF F (fun B E F ι s vs as H Q R hl dd' p => ⟨true, B, F, ι, s, as, ?_, R, dd', p⟩) (fun as s hne => callF_few hf hlen hne) (o.room.mono (by omega)) o.fit o.tk (o.gl h2) (plain_of h3).1 hsite hns rfl hkn
            (M.pa o h5) (fun e ρ => ?_) (evL1 (f := fun ρ e => evE (callF (dsOf S) d) n e ρ) hl1.symm) (M.pk o h6) (fun e ρ => ?_) (evL1 (f := fun ρ e => evE (callF (dsOf S) d) n e ρ) hl2.symm)
          · rw [hl, hlen]
          · subst e
            cases es with
            | nil => rfl
            | cons _ _ => simp at hl1
          · subst e
            cases ws with
            | nil => rfl
            | cons _ _ => cases ks <;> simp at hl2 hkn
        · cases h1
      · cases h
    | eqi neg cc k x y =>
      obtain ⟨a, b, pos, dd, f, rfl, hd, hk, hf, hn, hh, hs, h1, h2⟩ := eqi_parts (n := n) (by rw [chkE_s]; unfold chkE1; exact h)
      obtain ⟨C, fE, fd, ps, sp, hC, O, Q0, F, hsp, hps, site⟩ := eq_ready o hd hk hf hn hh hs
      exact de_eqi neg hC O Q0 F hsp hps site (o.room.mono (by omega)) o.fit (M.pe X W c _ _ o h1) (M.pe X W c _ _ o h2)
  have PWall : ∀ (X : Cx) (W : WX) (c : SC) (op : BoolOp) (vs : List Expr) (p : Pos) (ce : CE), XO S sites g d W c X → chkE S sites (n + 1) c (.BoolOp op vs p) ce = true → PW X (.BoolOp op vs p) (TT1 (gsOf X g) W fun ρ => MM.bind (evE (callF (dsOf S) d) (n + 1) ce ρ) truM) := by
    intro X W c op vs p ce o h
    cases ce with
    | and x y =>
      rw [chkE_s] at h; unfold chkE1 at h
      simp only at h
      split at h
      · rename_i heq
        cases heq
        simp only [Bool.and_eq_true] at h
        exact PW.cast (dw_and (M.pt X W c _ _ o h.1) (pw_and1 (M.pt X W c _ _ o h.2))) fun ρ => test_and
      · rename_i heq
        cases heq
        simp only [Bool.and_eq_true] at h
        exact PW.cast (dw_and (M.pt X W c _ _ o h.1) (M.pw X W c _ _ _ _ o h.2)) fun ρ => test_and
      · cases h
    | or x y =>
      rw [chkE_s] at h; unfold chkE1 at h
      simp only at h
      split at h
      · rename_i heq
        cases heq
        simp only [Bool.and_eq_true] at h
        exact PW.cast (dw_or (M.pt X W c _ _ o h.1) (pw_or1 (M.pt X W c _ _ o h.2))) fun ρ => test_or
      · rename_i heq
        cases heq
        simp only [Bool.and_eq_true] at h
        exact PW.cast (dw_or (M.pt X W c _ _ o h.1) (M.pw X W c _ _ _ _ o h.2)) fun ρ => test_or
      · cases h
    | nev => exact ⟨fun _ _ _ _ _ _ _ ⟨_, _, _, _, _, _, _, p⟩ => p.elim⟩
    | bm m x es => cases m <;> (rw [chkE_s] at h; unfold chkE1 at h; cases h)
    | isi x ts => rw [show chkE S sites (n + 1) c (.BoolOp op vs p) (.isi x ts) = false from Bool.and_false _] at h; cases h
    | _ => rw [chkE_s] at h; unfold chkE1 at h; cases h
  refine ⟨PEall, fun X W c e ce o h => ?_, PWall⟩
  have hv := PEall X W c e ce o h
  cases e with
  | BoolOp op vs p => exact pt_of_pw (PWall X W c op vs p ce o h)
  | UnaryOp op a p =>
    cases op with
    | Not =>
      cases ce with
      | not x => exact PT.cast (dt_not (M.pt X W c _ _ o h)) fun ρ => test_not
      | nev => exact ⟨fun _ _ _ _ _ _ ⟨_, _, _, _, _, _, _, p⟩ => p.elim⟩
      | bm m x es => cases m <;> (rw [chkE_s] at h; unfold chkE1 at h; cases h)
      | isi x ts => rw [show chkE S sites (n + 1) c (.UnaryOp .Not a p) (.isi x ts) = false from Bool.and_false _] at h; cases h
      | _ => rw [chkE_s] at h; unfold chkE1 at h; cases h
    | _ => exact dt_truth hv fun _ => rfl
  | IfExp a b r p =>
    cases ce with
    | ite t x y =>
      have h : (chkE S sites n c a t && chkE S sites n c b x && chkE S sites n c r y) = true := h
      simp only [Bool.and_eq_true] at h
      exact PT.cast (dt_ite (M.pt X W c _ _ o h.1.1) (M.pt X W c _ _ o h.1.2) (M.pt X W c _ _ o h.2)) fun ρ => test_ite
    | nev => exact ⟨fun _ _ _ _ _ _ ⟨_, _, _, _, _, _, _, p⟩ => p.elim⟩
    | bm m x es => cases m <;> (rw [chkE_s] at h; unfold chkE1 at h; cases h)
    | isi x ts => rw [show chkE S sites (n + 1) c (.IfExp a b r p) (.isi x ts) = false from Bool.and_false _] at h; cases h
    | _ => rw [chkE_s] at h; unfold chkE1 at h; cases h
  | Compare a ops bs p =>
    cases ce with
    | cmp op x y =>
      rw [chkE_s] at h; unfold chkE1 at h
      simp only at h
      split at h
      · rename_i heq
        cases heq
        split at h
        · simp only [Bool.and_eq_true] at h
          obtain ⟨⟨h1, h2⟩, h3⟩ := h
          split at h1
          · split at h2
            · exact dt_isN (M.pe X W c _ _ o h3)
            · cases h2
          · cases h1
        · simp only [Bool.and_eq_true] at h
          obtain ⟨⟨h1, h2⟩, h3⟩ := h
          split at h1
          · split at h2
            · exact dt_notN (M.pe X W c _ _ o h3)
            · cases h2
          · cases h1
        · rename_i hn1 hn2
          simp only [Bool.and_eq_true] at h
          have h1 := cop_of h.1.1.1
          subst h1
          have := dt_cmp o.fit op (marks_of h.1.1.2) (M.pe X W c _ _ o h.1.2) (M.pe X W c _ _ o h.2) (pos := p)
          cases op <;> first | exact this | exact absurd rfl hn1 | exact absurd rfl hn2
      · cases h
    | chain o1 o2 x y z =>
      obtain ⟨a', b, d', pos, e, hi, h1, h2, h3⟩ := chain_parts h
      cases e
      exact dt_chain o.fit o1 o2 hi (M.pe X W c _ _ o h1) (M.pe X W c _ _ o h2) (M.pe X W c _ _ o h3)
    | eqi neg cc k x y =>
      obtain ⟨a', b, pos, dd, f, e, hd, hk, hf, hn, hh, hs, h1, h2⟩ := eqi_parts h
      cases e
      obtain ⟨C, fE, fd, ps, sp, hC, O, Q0, F, hsp, hps, site⟩ := eq_ready o hd hk hf hn hh hs
      exact dt_eqi neg hC O Q0 F hsp hps site (o.room.mono (by omega)) o.fit (M.pe X W c _ _ o h1) (M.pe X W c _ _ o h2)
    | nev => exact ⟨fun _ _ _ _ _ _ ⟨_, _, _, _, _, _, _, p⟩ => p.elim⟩
    | bm m x es => cases m <;> (rw [chkE_s] at h; unfold chkE1 at h; cases h)
    | isi x ts => rw [show chkE S sites (n + 1) c (.Compare a ops bs p) (.isi x ts) = false from Bool.and_false _] at h; cases h
    | _ => rw [chkE_s] at h; unfold chkE1 at h; cases h
  | _ => exact dt_truth hv fun _ => rfl
end
end Ev

set_option linter.all false
set_option maxRecDepth 100000
set_option maxHeartbeats 4000000
/-! EvM: statements that are checked; a def's promise. Own work. -/
namespace Ev
open PySem PySem.Spec PyProof.Rows L2

/-! ### the check -/
def anyComp : Expr → Bool
  | .ListComp .. => true | .SetComp .. => true | .DictComp .. => true | _ => false
/-- a plain local name on that row -/
def nmOf (sc : Scope) (l : Nat) : Expr → Option Str
  | .Name x p => if sc.names.lookup x == some .local && p.line == l then some x else none
  | _ => none
/-- a, b = x, y: what is stored from the right -/
def swpB (sc : Scope) (ts vs : List Expr) : Option (Option (List Str)) :=
  if (ts.length == 2 || ts.length == 3) && vs.length == ts.length then
    if vs.all notStar then
      let ns := ts.filterMap (nmOf sc ((ts.head?.map (·.pos.line)).getD 0))
      if ns.length == ts.length && ns.eraseDups.length == ns.length then
        if vs.all (foldedForSure 8) then some none
        else if vs.all (constantsAlone 8) then none
        else some (some ns)
      else some none
    else some none
  else some none
def chkB (f : Stmt → CS → Bool) : List Stmt → List CS → Bool
  | [], [] => true
  | s :: ss, c :: cs => f s c && chkB f ss cs
  | _, _ => false
def chkIt (S : List FnS) (sites : Sites) (n : Nat) (c : SC) (tg : Expr) (it' : Expr) (it : CE) : Bool :=
  (match it with
    | .rng es => (match it' with
      | .Call f as [] _ => (match f with | .Name x _ => x == ("range" : Str) && isGlb (c.kind x) | _ => false) && (as.length == 1 || as.length == 2) && chkL (chkE S sites n c) as es
      | _ => false)
    | .enm ee => (match it' with
      | .Call (.Name x _) [a] [] _ => isTupE tg && x == ("enumerate" : Str) && isGlb (c.kind x) && notStar a && chkE S sites n c a ee
      | _ => false)
    | it => chkE S sites n c it' it)
def chkS (S : List FnS) (sites : Sites) : Nat → SC → Stmt → CS → Bool
  | 0, _, _, _ => false
  | n + 1, c, st, cs => match cs with
    | .expr e => match st with
      | .Expr a _ => !anyComp a && chkE S sites n c a e
      | _ => false
    | .ret e => match st with
      | .Return (some a) _ => chkE S sites n c a e
      | _ => false
    | .retN => match st with
      | .Return none _ => true
      | _ => false
    | .asg (.var i) e => match st with
      | .Assign [.Name x p] a _ => c.at i x && (isLoc (c.kind x) || (isCell (c.kind x) && c.fnB x)) && chkE S sites n c a e &&
        (match a with
          | .ListComp _ _ scope q => isCell (c.kind x) || isLoc (c.kind x) && p.line == q.line && !(scope.names.any fun z => z.1 == x && (z.2 == .local || z.2 == .cell)) && (match e with | .comp .. => n != 0 | .comp2 .. => n != 0 | _ => false)
          | a => !anyComp a)
      | _ => false
    | .asg (.tup ts) e => match st with
      | .Assign [.Tuple es k p] a _ => chkT c (.Tuple es k p) (.tup ts) && chkE S sites n c a e &&
        (match a with
          | .Tuple as _ _ => (match swpB c.sc es as with
            | some none => true
            | some (some _) => (match e with | .tup ces => n != 0 && as.length == es.length && ces.length == as.length && (as.length == 2 || as.length == 3) | _ => false)
            | none => false)
          | a => true)
      | _ => false
    | .setIx a i e => match st with
      | .Assign [.Subscript o j _] v _ => plainIx j && chkE S sites n c o a && chkE S sites n c j i && chkE S sites n c v e
      | _ => false
    | .setAt o f e => match st with
      | .Assign [.Attribute o' f' _] v _ => f == f' && !anyComp v && (sites.cl.all fun d => d.fs.contains f) && chkE S sites n c o' o && chkE S sites n c v e
      | _ => false
    | .never => true
    | .ifS t a b => match st with
      | .If t' a' b' _ => chkE S sites n c t' t && chkB (chkS S sites n c) a' a && chkB (chkS S sites n c) b' b
      | _ => false
    | .raiseS k fs es => match st with
      | .Raise (some (.Call (.Name x _) as [] _)) none _ => (match sites.ex[k]? with | some d => x == d.name && fs == d.fs | none => false) && isGlb (c.kind x) && plainN x && !as.isEmpty && chkL (chkE S sites n c) as es
      | _ => false
    | .tryK body i j => match st with
      | .Try b [.ExceptHandler (some (.Name x _)) (some m) [.Assign [.Name z _] (.Name m' _) _] _] [] [] _ => m == m' && x == sites.xb && !sites.ex.isEmpty && isGlb (c.kind x) && plainN x && c.at i m && c.at j z && isLoc (c.kind m) && isLoc (c.kind z) && plainN m && chkB (chkS S sites n c) b body
      | _ => false
    | .whileS t body => match st with
      | .While t' body' [] _ => chkE S sites n c t' t && chkB (chkS S sites n c) body' body
      | _ => false
    | .forS t it body => match st with
      | .For t' it' body' [] _ => chkT c t' t && chkIt S sites n c t' it' it && chkB (chkS S sites n c) body' body
      | _ => false

/-! ### facts of the check -/
theorem swaps_no {a : Expr} {t : Expr} {l : Nat} {env : Env} (h : anyComp a = false) : swapsWith a (some t) l env = pure false := by
  cases a <;> first | rfl | simp [anyComp] at h
theorem swaps_cell {v : Expr} {x : Str} {p : Pos} {l : Nat} {env : Env} (h : env.scope.names.lookup x = some .cell) : swapsWith v (some (.Name x p)) l env = pure false := by
  have e : (env.kindOf x == some NameKind.local) = false := by
    unfold Env.kindOf
    rw [h]
    rfl
  cases v <;> first | rfl | (unfold swapsWith; simp only [e, Bool.and_false, Bool.false_and])
theorem swaps_no0 {a : Expr} {l : Nat} {env : Env} (h : anyComp a = false) : swapsWith a none l env = pure false := by
  cases a <;> first | rfl | simp [anyComp] at h
theorem swaps_tup {a : Expr} {es k p} {l : Nat} {env : Env} : swapsWithSole [.Tuple es k p] a l env = pure false := by
  cases a <;> rfl
theorem swaps_sub {a : Expr} {o i p} {l : Nat} {env : Env} : swapsWithSole [.Subscript o i p] a l env = pure false := by
  cases a <;> rfl
theorem stores_sub {a : Expr} {o i p} {env : Env} : swappedStores [.Subscript o i p] a env = pure none := by
  unfold swappedStores
  cases a <;> rfl
theorem stores_tup {a : Expr} {es k p} {env : Env} (h : isTupE a = false) : swappedStores [.Tuple es k p] a env = pure none := by
  unfold swappedStores
  cases a <;> first | rfl | simp [isTupE] at h
def isStarB : Expr → Bool
  | .Starred _ _ => true
  | _ => false
theorem star_not {vs : List Expr} : vs.any isStarB = !vs.all notStar := by
  induction vs with
  | nil => rfl
  | cons v vs ih =>
    rw [List.any_cons, List.all_cons, ih]
    cases v <;> simp [notStar, isStarB]
theorem stores_par {ts vs : List Expr} {k p k2 p2} {env : Env} {r : Option (List Str)} (hk : env.scope.kind = .function) (h : swpB env.scope ts vs = some r) : swappedStores [.Tuple ts k p] (.Tuple vs k2 p2) env = pure r := by
  have hb : env.blockKind = .function := by unfold Env.blockKind; rw [hk]; rfl
  unfold swpB at h
  unfold swappedStores
  generalize hns : ts.filterMap (nmOf env.scope ((ts.head?.map (·.pos.line)).getD 0)) = ns at h
  show (if (!(ts.length == 2 || ts.length == 3) || vs.length != ts.length || env.blockKind != .function) = true then pure none
    else if vs.any isStarB = true then pure none
    else if ((ts.filterMap (nmOf env.scope ((ts.head?.map (·.pos.line)).getD 0))).length != ts.length || (ts.filterMap (nmOf env.scope ((ts.head?.map (·.pos.line)).getD 0))).eraseDups.length != (ts.filterMap (nmOf env.scope ((ts.head?.map (·.pos.line)).getD 0))).length) = true then pure none
    else if vs.all (foldedForSure 8) = true then pure none
    else if vs.all (constantsAlone 8) = true then (do unsupported "assign.tuple-of-constant-expressions:order-of-the-stores"; pure (some (ts.filterMap (nmOf env.scope ((ts.head?.map (·.pos.line)).getD 0)))))
    else pure (some (ts.filterMap (nmOf env.scope ((ts.head?.map (·.pos.line)).getD 0))))) = (pure r : Sem (Option (List Str)))
  rw [hns, hb, star_not]
  have neg : ∀ a b : Bool, ¬(a && b) = true → (!a || !b) = true := by decide
  by_cases h1 : ((ts.length == 2 || ts.length == 3) && vs.length == ts.length) = true
  · rw [if_pos h1] at h
    have h1' : (!(ts.length == 2 || ts.length == 3) || vs.length != ts.length || ScopeKind.function != ScopeKind.function) = false := by
      simp only [Bool.and_eq_true] at h1
      rw [h1.1, bne, h1.2]; rfl
    rw [if_neg (by rw [h1']; decide)]
    by_cases h2 : vs.all notStar = true
    · rw [if_pos h2] at h
      rw [h2, if_neg (by decide)]
      by_cases h3 : (ns.length == ts.length && ns.eraseDups.length == ns.length) = true
      · rw [if_pos h3] at h
        simp only [Bool.and_eq_true] at h3
        rw [if_neg (by rw [bne, bne, h3.1, h3.2]; decide)]
        by_cases h4 : vs.all (foldedForSure 8) = true
        · rw [if_pos h4] at h ⊢
          cases h; rfl
        · rw [if_neg h4] at h ⊢
          by_cases h5 : vs.all (constantsAlone 8) = true
          · rw [if_pos h5] at h; cases h
          · rw [if_neg h5] at h ⊢
            cases h; rfl
      · rw [if_neg h3] at h
        have h3' : (ns.length != ts.length || ns.eraseDups.length != ns.length) = true := neg _ _ h3
        rw [if_pos h3']
        cases h; rfl
    · rw [if_neg h2] at h
      rw [if_pos (by simpa using h2)]
      cases h; rfl
  · rw [if_neg h1] at h
    rw [if_pos (by rw [show (!(ts.length == 2 || ts.length == 3) || vs.length != ts.length) = true from neg _ _ h1]; rfl)]
    cases h; rfl
/-! ### statements -/
section
variable {X : Cx} {g : GN} {W : WX} {pos : Pos}
theorem ds_par3 {i j l : Nat} {x y z : Str} {a b e : Expr} {fs : AE → MM (List AV)} {px py pz pt : Pos} {kt k2 pt2} (hc : X.calm = true) (hN : X.N.Nodup) (hi : X.N[i]? = some x) (hj : X.N[j]? = some y) (hl : X.N[l]? = some z) (hij : i ≠ j) (hil : i ≠ l) (hjl : j ≠ l)
    (hx : X.env.scope.names.lookup x = some .local) (hy : X.env.scope.names.lookup y = some .local) (hz : X.env.scope.names.lookup z = some .local) (ha : PA X [a, b, e] (TA1 (gsOf X g) W fs)) (hlen : ∀ ρ s vs s', fs ρ s = .ok vs s' → vs.length = 3)
    (hw : swappedStores [.Tuple [.Name x px, .Name y py, .Name z pz] kt pt] (.Tuple [a, b, e] k2 pt2) X.env = pure (some [x, y, z]))
    (hs : swapsWithSole [.Tuple [.Name x px, .Name y py, .Name z pz] kt pt] (.Tuple [a, b, e] k2 pt2) pos.line X.env = pure false) :
    PS X (.Assign [.Tuple [.Name x px, .Name y py, .Name z pz] kt pt] (.Tuple [a, b, e] k2 pt2) pos)
      (TS1 (gsOf X g) W fun ρ s => sBind ρ (MM.bind (fs ρ) fun vs => MM.pure (AV.tup vs)) (fun v s' => match asgT s'.cells (.tup [.var i, .var j, .var l]) v ρ with | some ρ' => .next ρ' s' | none => .stuck) s) := by
  refine PS.weak (ps_par3 hc hN hi hj hl hij hil hjl hx hy hz ha hw hs) fun D σ H ⟨B, F, ι, ρ, s, R, ev, p⟩ => ?_
  have p' : PoS (gsOf X g) B W D F ι s (sBind ρ (fs ρ) (fun vs s' => match asgT s'.cells (.tup [.var i, .var j, .var l]) (.tup vs) ρ with | some ρ' => .next ρ' s' | none => .stuck) s) := by
    dsimp only at p
    unfold sBind MM.bind MM.pure at p
    unfold sBind
    revert p
    cases fs ρ s <;> exact id
  have hl' : ∀ vs s', fs ρ s = .ok vs s' → vs.length = 3 := fun vs s' h => hlen ρ s vs s' h
  refine ⟨B, F, ι, ρ, s, R, ev, ?_⟩
  unfold sBind at p'
  revert p' hl'
  cases fs ρ s with
  | exc x s1 => exact fun p' _ c d H1 F1 ι1 st R1 e => p' c d σ H1 F1 ι1 st R1 (ev.stp st) e
  | stuck => exact fun p' _ => p'
  | ok vs s1 =>
    intro p' hl' ws H1 F1 ι1 st R1 d
    have hl3 := hl' vs s1 rfl
    match vs, hl3, ws, d with
    | [v1, v2, v3], _, [w1, w2, w3], .cons d1 (.cons d2 (.cons d3 .nil)) =>
      refine ⟨_, _, _, rfl, ?_⟩
      have ev1 := ev.stp st
      simp only [asgT, seqOf, asgTs] at p'
      split at p'
      · rename_i ρ' h
        split at h
        · rename_i ρ1 h1
          split at h1
          · cases h1
            split at h
            · rename_i ρ2 h2
              split at h2
              · cases h2
                split at h
                · rename_i ρ3 h3
                  split at h3
                  · cases h3; cases h
                    exact p' _ H1 F1 ι1 st R1 (((ev1.set d1).set d2).set d3)
                  · cases h3
                · cases h
              · cases h2
            · cases h
          · cases h1
        · cases h
      · exact p'.elim
end
theorem MainE.all (S : List FnS) (sites : Sites) (g : GN) (d : Nat) : ∀ n, MainE S sites g d n
  | 0 => .zero
  | n + 1 => (MainE.all S sites g d n).step
/-- a def's body as a context -/
structure XS (S : List FnS) (sites : Sites) (g : GN) (d : Nat) (W : WX) (c : SC) (X : Cx) : Prop extends XO S sites g d W c X where
  own : PassesOwn (model X.prog X.w) X.A X.env X.xe
  stk : X.stack = X.env :: X.outer
  frm : X.env.frame = some X.env.locals
  exn : X.ex = []
theorem XS.tr {S : List FnS} {sites : Sites} {g : GN} {d : Nat} {W W' : WX} {c : SC} {X : Cx} (o : XS S sites g d W c X) {pn : List (Addr × Obj)} {xe : Value → Shared → Prop} (tk : Takes (X.tr pn xe) W') (own : PassesOwn (model X.prog X.w) X.A X.env xe) : XS S sites g d W' c (X.tr pn xe) where
  fit := ⟨o.fit.calm, o.fit.un, o.fit.gd, o.fit.dp⟩
  hN := o.hN
  hsc := o.hsc
  hfn := o.hfn
  nd := o.nd
  kind := o.kind
  tk := tk
  room := o.room
  pg := o.pg
  rooml := o.rooml
  lam := o.lam
  own := own
  stk := o.stk
  frm := o.frm
  exn := o.exn
theorem PS.cast {X : Cx} {g : GN} {W : WX} {st : Stmt} {f f' : AE → AS → SRs} (h : PS X st (TS1 (gsOf X g) W f)) (e : ∀ ρ s, f' ρ s = f ρ s) : PS X st (TS1 (gsOf X g) W f') := by
  have : f' = f := funext fun ρ => funext fun s => e ρ s
  rw [this]; exact h
theorem PSs.cast {X : Cx} {g : GN} {W : WX} {st : List Stmt} {f f' : AE → AS → SRs} (h : PSs X st (TS1 (gsOf X g) W f)) (e : ∀ ρ s, f' ρ s = f ρ s) : PSs X st (TS1 (gsOf X g) W f') := by
  have : f' = f := funext fun ρ => funext fun s => e ρ s
  rw [this]; exact h
section
variable {S : List FnS} {sites : Sites} {g : GN} {d n : Nat} {X : Cx} {W : WX} {c : SC}
theorem blk_ok (M : ∀ st cs, chkS S sites n c st cs = true → PS X st (TS1 (gsOf X g) W (evS (callF (dsOf S) d) n cs))) : ∀ {ss : List Stmt} {cs : List CS}, chkB (chkS S sites n c) ss cs = true → PSs X ss (TS1 (gsOf X g) W (evB (evS (callF (dsOf S) d) n) cs))
  | [], [], _ => dss_nil
  | s :: ss, c :: cs, h => by
    simp only [chkB, Bool.and_eq_true] at h
    exact dss_cons (M s c h.1) (blk_ok M h.2)
  | [], _ :: _, h => by simp [chkB] at h
  | _ :: _, [], h => by simp [chkB] at h
theorem loc_ok (o : XO S sites g d W c X) {x : Str} (h : (isLoc (c.kind x) || (isCell (c.kind x) && c.fnB x)) = true) : L2.Loc X.env.scope x ∧ (X.fn x = true ∨ X.env.scope.names.lookup x = some .local) := by
  rw [o.hsc, o.hfn]
  simp only [Bool.or_eq_true, Bool.and_eq_true] at h
  rcases h with h | h
  · exact ⟨.inl (loc_of h), .inr (loc_of h)⟩
  · exact ⟨.inr (cell_of' h.1), .inl h.2⟩
theorem folded_tup {ts vs : List Expr} {sc : Scope} {ns : List Str} (h : swpB sc ts vs = some (some ns)) : ns = ts.filterMap (nmOf sc ((ts.head?.map (·.pos.line)).getD 0)) ∧ ns.length = ts.length ∧ ns.eraseDups.length = ns.length := by
  unfold swpB at h
  split at h
  · split at h
    · simp only at h
      split at h
      · rename_i h3
        split at h
        · cases h
        · split at h
          · cases h
          · cases h
            simp only [Bool.and_eq_true] at h3
            exact ⟨rfl, eq_of_beq h3.1, eq_of_beq h3.2⟩
      · cases h
    · cases h
  · cases h
theorem nm_some {sc : Scope} {l : Nat} {e : Expr} {x : Str} (h : nmOf sc l e = some x) : ∃ p, e = .Name x p ∧ sc.names.lookup x = some .local := by
  unfold nmOf at h
  split at h
  · split at h
    · rename_i hc
      cases h
      simp only [Bool.and_eq_true] at hc
      exact ⟨_, rfl, eq_of_beq hc.1⟩
    · cases h
  · cases h
theorem comp_facts {m : Nat} (M : MainE S sites g d m) (o : XO S sites g d W c X) {elt' : Expr} {gs : List Comprehension} {scope : Scope} {pos : Pos} {al ws tg it ifs elt} (h : chkE S sites (m + 1) c (.ListComp elt' gs scope pos) (.comp al ws tg it ifs elt) = true) :
    ∃ tg' it' ifs', gs = [⟨tg', it', ifs', 0⟩] ∧ BlkOk X.N X.env.scope scope (ownOf c.N ws) ∧ tgIn ws tg = true ∧ PI X tg' it' (TI1 (gsOf X g) W fun ρ => evI (fun e => evE (callF (dsOf S) d) m e ρ) it) ∧ (∀ x, foldedSetIterable it' X.env x = pure x) ∧
      (∀ (s : Shared) (H : Hp) (C : Addr) (cl : List (Str × Addr)) (fp : List Addr), PG (X.blk s H scope (compEnvC scope cl C X.env) fp) tg' (TG1 (gsOf X g) (fun s v ρ => asgT s.cells tg v ρ) (fun vs => tgIn vs tg))) ∧
      (∀ (s : Shared) (H : Hp) (C : Addr) (cl : List (Str × Addr)) (fp : List Addr), PTs (X.blk s H scope (compEnvC scope cl C X.env) fp) ifs' (TT1 (gsOf X g) W0 fun ρ => evTests (fun e => evE (callF (dsOf S) d) m e ρ) ifs)) ∧
      ∀ (s : Shared) (H : Hp) (C : Addr) (cl : List (Str × Addr)) (fp : List Addr), PE (X.blk s H scope (compEnvC scope cl C X.env) fp) elt' (TE1 (gsOf X g) W0 fun ρ => evE (callF (dsOf S) d) m elt ρ) := by
  rw [chkE_s] at h; unfold chkE1 at h
  simp only at h
  split at h
  · rename_i heq
    cases heq
    simp only [Bool.and_eq_true] at h
    obtain ⟨⟨⟨⟨⟨⟨h1, h2⟩, h3⟩, h4⟩, h5⟩, h6⟩, h7⟩ := h
    have hk := blk_kind h1
    have hi := M.it o h5
    refine ⟨_, _, _, rfl, ?_, h3, hi.1, hi.2, fun s H C cl fp => chkT_ok (o.blk hk s H C cl fp) _ tg h2, fun s H C cl fp => ?_, fun s H C cl fp => M.pe _ _ _ _ _ (o.blk hk s H C cl fp) h7⟩
    · rw [o.hN, o.hsc]
      exact blkOk_by h1
    · have o' := o.blk hk s H C cl fp
      split at h6
      · exact ⟨fun pins s σ H Q I ⟨B, F, ι, ρ, st, R, ev, p⟩ => pts_nil.run pins s σ H Q I (p.pure R rfl)⟩
      · exact pts_one (M.pt _ _ _ _ _ o' h6)
      · cases h6
  · cases h
theorem comp_facts2 {m : Nat} (M : MainE S sites g d m) (o : XO S sites g d W c X) {elt' : Expr} {gs : List Comprehension} {scope : Scope} {pos : Pos} {al ws tg it ifs ws1 tg1 it1 ifs1 elt} (h : chkE S sites (m + 1) c (.ListComp elt' gs scope pos) (.comp2 al ws tg it ifs ws1 tg1 it1 ifs1 elt) = true) :
    ∃ tg' it' ifs' tg1' it1' ifs1', gs = [⟨tg', it', ifs', 0⟩, ⟨tg1', it1', ifs1', 0⟩] ∧ BlkOk X.N X.env.scope scope (ownOf c.N ws) ∧ (∀ i ∈ ws1, i ∈ (ownOf c.N ws).map (·.2)) ∧ tgIn ws tg = true ∧ tgIn ws1 tg1 = true ∧
      PI X tg' it' (TI1 (gsOf X g) W fun ρ => evI (fun e => evE (callF (dsOf S) d) m e ρ) it) ∧ (∀ x, foldedSetIterable it' X.env x = pure x) ∧ (∀ env x, foldedSetIterable it1' env x = pure x) ∧
      (∀ (s : Shared) (H : Hp) (C : Addr) (cl : List (Str × Addr)) (fp : List Addr), PG (X.blk s H scope (compEnvC scope cl C X.env) fp) tg' (TG1 (gsOf X g) (fun s v ρ => asgT s.cells tg v ρ) (fun vs => tgIn vs tg))) ∧
      (∀ (s : Shared) (H : Hp) (C : Addr) (cl : List (Str × Addr)) (fp : List Addr), PTs (X.blk s H scope (compEnvC scope cl C X.env) fp) ifs' (TT1 (gsOf X g) W0 fun ρ => evTests (fun e => evE (callF (dsOf S) d) m e ρ) ifs)) ∧
      (∀ (s : Shared) (H : Hp) (C : Addr) (cl : List (Str × Addr)) (fp : List Addr), PI (X.blk s H scope (compEnvC scope cl C X.env) fp) tg1' it1' (TI1 (gsOf X g) W0 fun ρ => evI (fun e => evE (callF (dsOf S) d) m e ρ) it1)) ∧
      (∀ (s : Shared) (H : Hp) (C : Addr) (cl : List (Str × Addr)) (fp : List Addr), PG (X.blk s H scope (compEnvC scope cl C X.env) fp) tg1' (TG1 (gsOf X g) (fun s v ρ => asgT s.cells tg1 v ρ) (fun vs => tgIn vs tg1))) ∧
      (∀ (s : Shared) (H : Hp) (C : Addr) (cl : List (Str × Addr)) (fp : List Addr), PTs (X.blk s H scope (compEnvC scope cl C X.env) fp) ifs1' (TT1 (gsOf X g) W0 fun ρ => evTests (fun e => evE (callF (dsOf S) d) m e ρ) ifs1)) ∧
      ∀ (s : Shared) (H : Hp) (C : Addr) (cl : List (Str × Addr)) (fp : List Addr), PE (X.blk s H scope (compEnvC scope cl C X.env) fp) elt' (TE1 (gsOf X g) W0 fun ρ => evE (callF (dsOf S) d) m elt ρ) := by
  rw [chkE_s] at h; unfold chkE1 at h
  simp only at h
  split at h
  · rename_i heq
    cases heq
    simp only [Bool.and_eq_true] at h
    obtain ⟨⟨⟨⟨⟨⟨⟨⟨⟨⟨⟨h1, h2⟩, h3⟩, h5⟩, h6⟩, k1⟩, k2⟩, k3⟩, k4⟩, k5⟩, k6⟩, h7⟩ := h
    have hk := blk_kind h1
    have hi := M.it o h5
    have tests : ∀ {ifs' : List Expr} {ifs : List CE}, (match ifs', ifs with
        | [], [] => true
        | [i'], [i] => chkE S sites m (c.blk scope) i' i
        | _, _ => false) = true → ∀ (s : Shared) (H : Hp) (C : Addr) (cl : List (Str × Addr)) (fp : List Addr), PTs (X.blk s H scope (compEnvC scope cl C X.env) fp) ifs' (TT1 (gsOf X g) W0 fun ρ => evTests (fun e => evE (callF (dsOf S) d) m e ρ) ifs) := fun {ifs' ifs} h6 s H C cl fp => by
      have o' := o.blk hk s H C cl fp
      split at h6
      · exact ⟨fun pins s σ H Q I ⟨B, F, ι, ρ, st, R, ev, p⟩ => pts_nil.run pins s σ H Q I (p.pure R rfl)⟩
      · exact pts_one (M.pt _ _ _ _ _ o' h6)
      · cases h6
    refine ⟨_, _, _, _, _, _, rfl, ?_, fun i hi => ?_, h3, k2, hi.1, hi.2, (fun env => folded_ok fun a b p e => by subst e; cases k4), fun s H C cl fp => chkT_ok (o.blk hk s H C cl fp) _ tg h2, tests h6,
      fun s H C cl fp => (M.it (o.blk hk s H C cl fp) k5).1, fun s H C cl fp => chkT_ok (o.blk hk s H C cl fp) _ tg1 k1, tests k6, fun s H C cl fp => M.pe _ _ _ _ _ (o.blk hk s H C cl fp) h7⟩
    · rw [o.hN, o.hsc]
      exact blkOk_by h1
    · rw [own_map]
      have := List.all_eq_true.mp k3 i hi
      simpa using this
  · cases h
theorem fm_all {α β : Type} {f : α → Option β} : ∀ {ts : List α}, (ts.filterMap f).length = ts.length → ∀ x ∈ ts, ∃ y, f x = some y
  | [], _, x, hx => absurd hx (by simp)
  | t :: ts, h, x, hx => by
    have hle := List.length_filterMap_le f ts
    cases e : f t with
    | none => rw [List.filterMap_cons_none e] at h; simp at h; omega
    | some y =>
      rw [List.filterMap_cons_some e] at h
      rcases List.mem_cons.mp hx with r | r
      · subst r; exact ⟨y, e⟩
      · exact fm_all (ts := ts) (by simpa using h) x r
theorem par_one (o : XO S sites g d W c X) {e : Expr} {t : Tg} {l : Nat} (h : chkT c e t = true) (hn : ∃ y, nmOf c.sc l e = some y) : ∃ x p i, e = .Name x p ∧ t = .var i ∧ X.N[i]? = some x ∧ X.env.scope.names.lookup x = some .local ∧ nmOf c.sc l e = some x := by
  obtain ⟨y, hy⟩ := hn
  obtain ⟨p, rfl, hl⟩ := nm_some hy
  cases t with
  | tup _ => simp [chkT] at h
  | var i =>
    simp only [chkT, Bool.and_eq_true] at h
    exact ⟨y, p, i, rfl, rfl, o.ix h.1, by rw [o.hsc]; exact hl, hy⟩
theorem ix_ne {N : List Str} {i j : Nat} {x y : Str} (h1 : N[i]? = some x) (h2 : N[j]? = some y) (h : x ≠ y) : i ≠ j := fun e => by
  subst e
  rw [h1] at h2
  exact h (Option.some.inj h2)
theorem nd3 {x y z : Str} (h : [x, y, z].eraseDups.length = [x, y, z].length) : x ≠ y ∧ x ≠ z ∧ y ≠ z := by
  by_cases h1 : y = x <;> by_cases h2 : z = x <;> by_cases h3 : z = y <;> simp_all [List.eraseDups_cons, List.filter_cons]
  all_goals exact ⟨fun e => h1 e.symm, fun e => h2 e.symm, fun e => h3 e.symm⟩
theorem par_names (o : XO S sites g d W c X) {es : List Expr} {ts : List Tg} {ns : List Str} (h : chkTs c es ts = true) (e1 : ns = es.filterMap (nmOf c.sc ((es.head?.map (·.pos.line)).getD 0))) (e2 : ns.length = es.length) (e3 : ns.eraseDups.length = ns.length) : True ∧
    (es.length = 2 → ∃ x y px py i j, es = [.Name x px, .Name y py] ∧ ts = [.var i, .var j] ∧ ns = [x, y] ∧ X.N[i]? = some x ∧ X.N[j]? = some y ∧ X.env.scope.names.lookup x = some .local ∧ X.env.scope.names.lookup y = some .local ∧ i ≠ j) ∧
    (es.length = 3 → ∃ x y z px py pz i j l, es = [.Name x px, .Name y py, .Name z pz] ∧ ts = [.var i, .var j, .var l] ∧ ns = [x, y, z] ∧ X.N[i]? = some x ∧ X.N[j]? = some y ∧ X.N[l]? = some z ∧ X.env.scope.names.lookup x = some .local ∧ X.env.scope.names.lookup y = some .local ∧ X.env.scope.names.lookup z = some .local ∧ i ≠ j ∧ i ≠ l ∧ j ≠ l) := by
  generalize (es.head?.map (·.pos.line)).getD 0 = l at e1
  have hall := fm_all (f := nmOf c.sc l) (ts := es) (by rw [← e1, e2])
  refine ⟨trivial, fun hl => ?_, fun hl => ?_⟩
  · match es, ts, hl, h with
    | [a, b], [t, u], _, h =>
      simp only [chkTs, Bool.and_eq_true] at h
      obtain ⟨x, px, i, rfl, rfl, hi, hx, n1⟩ := par_one o h.1.2 (hall a (by simp))
      obtain ⟨y, py, j, rfl, rfl, hj, hy, n2⟩ := par_one o h.2.1.2 (hall b (by simp))
      have hns : ns = [x, y] := by rw [e1, List.filterMap_cons_some n1, List.filterMap_cons_some n2]; rfl
      subst hns
      refine ⟨x, y, px, py, i, j, rfl, rfl, rfl, hi, hj, hx, hy, ix_ne hi hj fun e => ?_⟩
      subst e
      simp [List.eraseDups_cons] at e3
    | [_, _], [], _, h => simp [chkTs] at h
    | [_, _], [_], _, h => simp [chkTs] at h
    | [_, _], _ :: _ :: _ :: _, _, h => simp [chkTs] at h
  · match es, ts, hl, h with
    | [a, b, d], [t, u, v], _, h =>
      simp only [chkTs, Bool.and_eq_true] at h
      obtain ⟨x, px, i, rfl, rfl, hi, hx, n1⟩ := par_one o h.1.2 (hall a (by simp))
      obtain ⟨y, py, j, rfl, rfl, hj, hy, n2⟩ := par_one o h.2.1.2 (hall b (by simp))
      obtain ⟨z, pz, m, rfl, rfl, hm, hz, n3⟩ := par_one o h.2.2.1.2 (hall d (by simp))
      have hns : ns = [x, y, z] := by rw [e1, List.filterMap_cons_some n1, List.filterMap_cons_some n2, List.filterMap_cons_some n3]; rfl
      subst hns
      have nd : x ≠ y ∧ x ≠ z ∧ y ≠ z := by
        exact nd3 e3
      exact ⟨x, y, z, px, py, pz, i, j, m, rfl, rfl, rfl, hi, hj, hm, hx, hy, hz, ix_ne hi hj nd.1, ix_ne hi hm nd.2.1, ix_ne hj hm nd.2.2⟩
    | [_, _, _], [], _, h => simp [chkTs] at h
    | [_, _, _], [_], _, h => simp [chkTs] at h
    | [_, _, _], [_, _], _, h => simp [chkTs] at h
    | [_, _, _], _ :: _ :: _ :: _ :: _, _, h => simp [chkTs] at h
theorem MainS : ∀ n {X : Cx} {W : WX} (o : XS S sites g d W c X) st cs, chkS S sites n c st cs = true → PS X st (TS1 (gsOf X g) W (evS (callF (dsOf S) d) n cs))
  | 0, _, _, _, _, _, h => by simp [chkS] at h
  | n + 1, X, W, o, st, cs, h => by
    have M := MainE.all S sites g d n
    have ih := MainS n o
    have hk : X.env.scope.kind = .function := by rw [o.hsc]; exact o.kind
    cases cs with
    | expr e =>
      simp only [chkS] at h
      split at h
      · simp only [Bool.and_eq_true, Bool.not_eq_true'] at h
        exact ds_expr (M.pe X W c _ _ o.toXO h.2) (swaps_no0 h.1)
      · cases h
    | ret e =>
      simp only [chkS] at h
      split at h
      · exact ds_ret (M.pe X W c _ _ o.toXO h)
      · cases h
    | retN =>
      simp only [chkS] at h
      split at h
      · exact ds_retN
      · cases h
    | asg t e =>
      cases t with
      | var i =>
        simp only [chkS] at h
        split at h
        · rename_i x p a q
          simp only [Bool.and_eq_true] at h
          obtain ⟨⟨⟨h1, h2⟩, h3⟩, h4⟩ := h
          obtain ⟨l1, l2⟩ := loc_ok o.toXO h2
          have hnd : X.N.Nodup := by rw [o.hN]; exact o.nd
          split at h4
          · rename_i elt' gs scope q'
            rcases Bool.or_eq_true .. ▸ h4 with hce | h4
            · exact ds_set hnd (o.ix h1) l1 (M.pe X W c _ _ o.toXO h3) (swaps_cell (by rw [o.hsc]; exact cell_of' hce)) l2
            simp only [Bool.and_eq_true] at h4
            obtain ⟨⟨⟨h41, h42⟩, h43⟩, h44⟩ := h4
            split at h44
            · rename_i al ws tg it ifs elt
              cases n with
              | zero => cases h44
              | succ n =>
                obtain ⟨tg', it', ifs', rfl, ok, hin, hi, hf, hg, ht, he⟩ := comp_facts (MainE.all S sites g d n) o.toXO h3
                have hl : X.env.scope.names.lookup x = some .local := by rw [o.hsc]; exact loc_of h41
                have hsw : swapsWith (.ListComp elt' [⟨tg', it', ifs', 0⟩] scope q') (some (.Name x p)) q.line X.env = pure true := sw_true hk hl h42 (by simpa using h43)
                have := ds_setLc (al := al) o.fit.calm hnd (o.ix h1) hl hsw ok (by rw [own_map]; exact hin) hi hg ht he hf
                rw [own_map] at this
                exact ds_setLc' this
            · rename_i al ws tg it ifs ws1 tg1 it1 ifs1 elt
              cases n with
              | zero => cases h44
              | succ n =>
                obtain ⟨tg', it', ifs', tg1', it1', ifs1', rfl, ok, hv, hin, hin1, hi, hf, hf1, hg, ht, hi1, hg1, ht1, he⟩ := comp_facts2 (MainE.all S sites g d n) o.toXO h3
                have hl : X.env.scope.names.lookup x = some .local := by rw [o.hsc]; exact loc_of h41
                have hsw : swapsWith (.ListComp elt' [⟨tg', it', ifs', 0⟩, ⟨tg1', it1', ifs1', 0⟩] scope q') (some (.Name x p)) q.line X.env = pure true := sw_true hk hl h42 (by simpa using h43)
                have := ds_setLc2 (al := al) o.fit.calm hnd (o.ix h1) hl hsw ok hv (by rw [own_map]; exact hin) hin1 hi hg ht hi1 hg1 ht1 he hf hf1
                rw [own_map] at this
                exact ds_setLc' this
            · cases h44
          · exact ds_set hnd (o.ix h1) l1 (M.pe X W c _ _ o.toXO h3) (swaps_no (by simpa using h4)) l2
        · cases h
      | tup ts =>
        simp only [chkS] at h
        split at h
        · rename_i es k p a q
          simp only [Bool.and_eq_true] at h
          obtain ⟨⟨h1, h2⟩, h3⟩ := h
          have hg := chkT_ok o.toXO _ _ h1
          split at h3
          · rename_i as k2 p2
            split at h3
            · rename_i hs
              rw [← o.hsc] at hs
              exact ds_asg (M.pe X W c _ _ o.toXO h2) hg swaps_tup (stores_par hk hs) rfl
            · rename_i ns hs
              split at h3
              · rename_i ces
                simp only [Bool.and_eq_true] at h3
                obtain ⟨⟨⟨h31, h32⟩, h33⟩, h34⟩ := h3
                obtain ⟨e1, e2, e3⟩ := folded_tup hs
                rw [← o.hsc] at hs
                have hw := stores_par (k := k) (p := p) (k2 := k2) (p2 := p2) hk hs
                cases n with
                | zero => cases h31
                | succ n =>
                have M' := MainE.all S sites g d n
                have hpa : chkL (chkE S sites n c) as ces = true := by
                  have h2 : (decide (as.length ≤ 1000) && chkL (chkE S sites n c) as ces) = true := h2
                  simp only [Bool.and_eq_true] at h2
                  exact h2.2
                have ha := M'.pa o.toXO hpa
                have hlen := evL1 (f := fun ρ e => evE (callF (dsOf S) d) n e ρ) (cs := ces) rfl
                have hnd : X.N.Nodup := by rw [o.hN]; exact o.nd
                have h32 := eq_of_beq h32
                have h33 := eq_of_beq h33
                have h1 : chkTs c es ts = true := by simpa only [chkT] using h1
                obtain ⟨q1, q2, q3⟩ := par_names o.toXO h1 e1 e2 e3
                rcases Bool.or_eq_true _ _ ▸ h34 with h34 | h34
                · have h34 := eq_of_beq h34
                  obtain ⟨x, y, px, py, i, j, rfl, rfl, rfl, hi, hj, hx, hy, hij⟩ := q2 (by omega)
                  match as, h34 with
                  | [a, b], _ =>
                    exact ds_par o.fit.calm hnd hi hj hij hx hy ha (fun ρ s vs s' h => by rw [hlen ρ s vs s' h, h33]; rfl) hw swaps_tup
                · have h34 := eq_of_beq h34
                  obtain ⟨x, y, z, px, py, pz, i, j, l, rfl, rfl, rfl, hi, hj, hl, hx, hy, hz, hij, hil, hjl⟩ := q3 (by omega)
                  match as, h34 with
                  | [a, b, e], _ =>
                    exact ds_par3 o.fit.calm hnd hi hj hl hij hil hjl hx hy hz ha (fun ρ s vs s' h => by rw [hlen ρ s vs s' h, h33]; rfl) hw swaps_tup
              · cases h3
            · cases h3
          · rename_i hno
            refine ds_asg (M.pe X W c _ _ o.toXO h2) hg swaps_tup (stores_tup ?_) rfl
            cases a <;> first | rfl | exact absurd rfl (hno _ _ _)
        · cases h
    | setIx a i e =>
      simp only [chkS] at h
      split at h
      · rename_i o' j tp v p
        simp only [Bool.and_eq_true] at h
        obtain ⟨⟨⟨h1, h2⟩, h3⟩, h4⟩ := h
        refine ds_setIx (by have := o.fit.un; omega) (M.pe X W c _ _ o.toXO h2) (M.pe X W c _ _ o.toXO h3) (M.pe X W c _ _ o.toXO h4) (fun v => ?_) swaps_sub stores_sub rfl
        unfold assign
        cases j <;> first | rfl | simp [plainIx] at h1
      · cases h
    | setAt a f e =>
      simp only [chkS] at h
      split at h
      · rename_i o' f' p' v p
        simp only [Bool.and_eq_true, Bool.not_eq_true'] at h
        obtain ⟨⟨⟨⟨h1, h2⟩, h3⟩, h4⟩, h5⟩ := h
        have e1 := eq_of_beq h1
        subst e1
        exact ds_setAt (fun z C hC => clsOf o.toXO hC) (fun z C hC => naOf o.toXO h3 hC) (M.pe X W c _ _ o.toXO h4) (M.pe X W c _ _ o.toXO h5) (swaps_no h2)
      · cases h
    | never =>
      exact ds_never
    | ifS t a b =>
      simp only [chkS] at h
      split at h
      · simp only [Bool.and_eq_true] at h
        exact ds_if (M.pt X W c _ _ o.toXO h.1.1) (blk_ok ih h.1.2) (blk_ok ih h.2)
      · cases h
    | raiseS k fs es =>
      simp only [chkS] at h
      split at h
      · rename_i x px as pos q
        simp only [Bool.and_eq_true, Bool.not_eq_true'] at h
        obtain ⟨⟨⟨⟨h1, h2⟩, h3⟩, h4⟩, h5⟩ := h
        split at h1
        · rename_i dd hd
          rw [Bool.and_eq_true] at h1
          have e1 := eq_of_beq h1.1
          have e2 := eq_of_beq h1.2
          subst e1; subst e2
          obtain ⟨C, hC, T, h8⟩ := o.pg.cl.ex k dd hd
          obtain ⟨hl, hns⟩ := chkL_len h5
          have ha := M.pa o.toXO h5
          cases as with
          | nil => simp at h4
          | cons a as =>
            rw [List.all_cons, Bool.and_eq_true] at hns
            exact ds_raise o.fit.calm o.tk (o.room.mono (by unfold lv; omega)) T hC h8 (o.toXO.gl h2) (plain_of h3).1 ha (star_cons hns.1) (star_any hns.2)
        · cases h1
      · cases h
    | tryK body i j =>
      simp only [chkS] at h
      split at h
      · rename_i b x px m z pz m' pm' pa ph pt
        simp only [Bool.and_eq_true, Bool.not_eq_true'] at h
        obtain ⟨⟨⟨⟨⟨⟨⟨⟨⟨⟨h1, h2⟩, h3⟩, h4⟩, h5⟩, h6⟩, h7⟩, h8⟩, h9⟩, h10⟩, h11⟩ := h
        have e1 := eq_of_beq h1
        have e2 := eq_of_beq h2
        subst e1; subst e2
        obtain ⟨S0, hS, hx⟩ := o.pg.cl.exb (by intro z; rw [z] at h3; cases h3)
        have hnd : X.N.Nodup := by rw [o.hN]; exact o.nd
        have hlm : X.env.scope.names.lookup m = some .local := by rw [o.hsc]; exact loc_of h8
        have hlz : X.env.scope.names.lookup z = some .local := by rw [o.hsc]; exact loc_of h9
        exact ds_tryK o.stk o.frm o.exn hnd (o.toXO.ix h6) hlm (o.toXO.ix h7) hlz hlm (plain_of h10).1 (plain_of h10).2 ⟨o.toXO.gl h4, (plain_of h5).1, .inl hS⟩ o.tk hx
          fun W' pn xe tk own => blk_ok (MainS n (o.tr tk own)) h11
      · cases h
    | whileS t body =>
      simp only [chkS] at h
      split at h
      · simp only [Bool.and_eq_true] at h
        exact ds_while o.own (M.pt X W c _ _ o.toXO h.1) (blk_ok ih h.2)
      · cases h
    | forS t it body =>
      simp only [chkS] at h
      split at h
      · rename_i t' it' body' p
        simp only [Bool.and_eq_true] at h
        obtain ⟨⟨h1, h2⟩, h3⟩ := h
        obtain ⟨hi, hf⟩ := M.it (tg := t') o.toXO (it := it) (it' := it') h2
        refine PS.cast (ds_for o.own o.fit.calm hi (chkT_ok o.toXO _ _ h1) (blk_ok ih h3) hf) fun ρ s => ?_
        show sBind ρ (evI (fun e => evE (callF (dsOf S) d) n e ρ) it) _ s = sBind ρ (evI (fun e => evE (callF (dsOf S) d) n e ρ) it) _ s
        congr 1
        funext src s'
        cases src <;> rfl
      · cases h
end
end Ev

set_option linter.all false
set_option maxRecDepth 100000
set_option maxHeartbeats 4000000
/-! EvN: a def by its core; all defs at every depth; a law from its core. Own work. -/
namespace Ev
open PySem PySem.Spec PyProof.Rows L2

section
variable {P : Program} {w : World} {K : PySem.W.Frag} {mg : Str → Option Value} {base : Heap}
/-- a def by its body, where the guards are known -/
theorem fnG_body {k : Nat} {f : Addr} {nm qn : Str} {prm : Arguments} {bd : List Stmt} {sc : Scope} {dV kV doc pm cdv ct oc : Value} {an od : Option Addr} {osl : Array (Option Value)} {N ps : List Str} {sp : Sp}
    (lk : K.lookup f = some ⟨oc, od, .func (PySem.W.fnOf nm qn prm bd sc dV kV doc pm an cdv ct), osl⟩) (hcd : PySem.W.codeIn K cdv qn = true) (S : FnScope N ps sc) (len : ∀ vs H Q E, sp vs H Q E → vs.length = ps.length)
    (run : ∀ (A : Around) (outer : List Env) (s : Shared) (H : Hp) (vs : List V) (Q : VK) (E : XK), Room k (A.deeper (envOfC qn sc s.heap.objs.size f cdv)) → (A.deeper (envOfC qn sc s.heap.objs.size f cdv)).guards = some [] → sp vs H Q E →
      ∃ t, PSs (cxOf (L2.CX P w) P w K mg base N qn sc f cdv A outer s H E) bd t ∧ t { nx := fun _ H' => Q .non H', rt := Q } (start N vs) H) :
    FnG P w K mg base (k + 1) f (PySem.W.fnOf nm qn prm bd sc dV kV doc pm an cdv ct) ps sp := by
  refine ⟨len, fun A outer s H args us vs Q E rm gd e0 hb r hs => ?_⟩
  have lv := len _ _ _ _ hs
  have inK : K.In s.heap := e0.mod.kin.keeps fun b o e => (e0.bs b o e).1
  have nolim : s.heap.NoLimit := e0.mod.nolimit.keeps fun b o e => (e0.bs b o e).1
  have kinds : ∀ y ∈ ps.zip us, sc.names.lookup y.1 = some .local ∨ (sc.names.lookup y.1 = some .cell ∧ ((cellsFrom (s.heap.objs.size + 1) sc.names []).lookup y.1).isSome = true) := by
    rintro ⟨x, u⟩ hy
    rcases S.par x (List.of_mem_zip hy).1 with q | q
    · exact Or.inl q
    · exact Or.inr ⟨q, PySem.W.cellsFrom_some _ _ _ (Or.inl q)⟩
  refine codeAny_call_function rm.depth (inK _ _ lk) rfl S.co S.gen rfl (PySem.W.codeRec_of inK hcd) (hb _ _ _ _ (wpAny_newFunctionEnv_cells S.kind kinds fun env he s1 x => ?_))
  subst he
  refine ⟨nolim.keeps x.toInCall.keep, codeAny_func ?_⟩
  obtain ⟨t, ht, q⟩ := run A outer s H vs Q E (rm.deeper _) gd hs
  have J := inv_start (CX := L2.CX P w) (E := E) S rm.hd e0 lv r x
  refine wpAny_mono (ht.run [] s1 (start N vs) H _ J q) (fun fl s' hf => ?_) fun e s' he => he
  have done : ∀ {σ' : L2.St} {H' : Hp} {v : V} {u : Value}, Inv (cxOf (L2.CX P w) P w K mg base N qn sc f cdv A outer s H E) [] σ' H' s' → RelV v u → Q v H' → L2.CE outer P w H s Q u s' :=
    fun I2 rv qv => ⟨_, _, I2.os, I2.bare, I2.base, I2.hok, rv, qv⟩
  match fl, hf with
  | .ret u, ⟨v, σ', H', I2, rv, qv⟩ => exact done I2 rv qv
  | .next, ⟨σ', H', I2, qv⟩ => exact done (v := V.non) (u := Value.none) I2 rfl qv
  | .brk, ⟨_, _, _, qv⟩ => exact False.elim qv
  | .cont, ⟨_, _, _, qv⟩ => exact False.elim qv
end

/-! ### a def of the text -/
def isFn : ScopeKind → Bool
  | .function => true
  | _ => false
def chkFn (S : List FnS) (sites : Sites) (f : FnS) : Bool := match f.d.hd with
  | true => chkHd sites.xb f && !f.lam && (match hearShape sites.xb f.N (defBody f.st) with
    | some rest => chkB (chkS S sites FU ⟨f.N, defScope f.st, fun _ => true, false⟩) rest f.d.body
    | none => false)
  | false => isFn (defScope f.st).kind && !(defScope f.st).isCoroutine && !(defScope f.st).isGenerator && decide f.N.Nodup && decide (f.d.nps ≤ f.N.length) && f.d.nsl == f.N.length &&
    ((f.N.take f.d.nps).all fun x => isLoc ((defScope f.st).names.lookup x) || isCell ((defScope f.st).names.lookup x)) && ((defScope f.st).names.all fun y => !(y.2 == .free)) &&
    chkB (chkS S sites FU ⟨f.N, defScope f.st, fun _ => true, f.lam⟩) (defBody f.st) f.d.body
def FnS.qn (f : FnS) : Str := f.q.getD f.d.name
/-- how a lambda of a def is called -/
def FnS.lq (f : FnS) : Str := f.qn ++ ".<locals>." ++ "<lambda>"
structure DefIs (K : PySem.W.Frag) (f : FnS) (a : Addr) (fd : FuncData) : Prop where
  ex : ∃ (oc : Value) (od : Option Addr) (dV kV doc pm : Value) (an : Option Addr) (cdv ct : Value) (osl : Array (Option Value)),
    fd = PySem.W.fnOf f.d.name f.qn (defArgs f.st) (defBody f.st) (defScope f.st) dV kV doc pm an cdv ct ∧ K.lookup a = some ⟨oc, od, .func fd, osl⟩ ∧ PySem.W.codeIn K cdv f.qn = true
theorem isFn_of {k : ScopeKind} (h : isFn k = true) : k = .function := by
  unfold isFn at h
  split at h
  · rfl
  · cases h
theorem scope_of {S : List FnS} {sites : Sites} {f : FnS} (h : chkFn S sites f = true) (hh : f.d.hd = false) : FnScope f.N (f.N.take f.d.nps) (defScope f.st) ∧ (f.N.take f.d.nps).length = f.d.nps ∧ f.d.nsl = f.N.length ∧ chkB (chkS S sites FU ⟨f.N, defScope f.st, fun _ => true, f.lam⟩) (defBody f.st) f.d.body = true := by
  unfold chkFn at h
  rw [hh] at h
  simp only [Bool.and_eq_true, Bool.not_eq_true'] at h
  obtain ⟨⟨⟨⟨⟨⟨⟨⟨h1, h2⟩, h3⟩, h4⟩, h5⟩, h6⟩, h7⟩, h8⟩, h9⟩ := h
  have hl : (f.N.take f.d.nps).length = f.d.nps := by rw [List.length_take]; exact Nat.min_eq_left (of_decide_eq_true h5)
  refine ⟨⟨isFn_of h1, h2, h3, of_decide_eq_true h4, by rw [hl], fun x hx => ?_, fun y hy e => ?_⟩, hl, eq_of_beq h6, h9⟩
  · have := List.all_eq_true.mp h7 x hx
    rw [Bool.or_eq_true] at this
    rcases this with h | h
    · exact .inl (loc_of h)
    · exact .inr (cell_of' h)
  · have := List.all_eq_true.mp h8 y hy
    rw [e] at this
    exact absurd this (by decide)
theorem rest_of {S : List FnS} {sites : Sites} {f : FnS} (h : chkFn S sites f = true) (hh : f.d.hd = true) : chkHd sites.xb f = true ∧ f.lam = false ∧ ∀ rest, hearShape sites.xb f.N (defBody f.st) = some rest → chkB (chkS S sites FU ⟨f.N, defScope f.st, fun _ => true, false⟩) rest f.d.body = true := by
  unfold chkFn at h
  rw [hh] at h
  simp only [Bool.and_eq_true, Bool.not_eq_true'] at h
  obtain ⟨⟨h1, h2⟩, h3⟩ := h
  refine ⟨h1, h2, fun rest hr => ?_⟩
  rw [hr] at h3
  exact h3

section
variable {S : List FnS} {sites : Sites} {g : GN} {P : Program} {w : World} {K : PySem.W.Frag} {mg : Str → Option Value} {base : Heap}
theorem env_start {G : GS} {F : Hp} {ι : List Addr} {N : List Str} {vs : List V} {as : List AV} {n : Nat} (r : DenAll G F ι vs as) (hn : n = N.length) : EnvR G F ι (L2.start N vs) (as.map some ++ List.replicate (n - as.length) none) := by
  have hl := r.length
  unfold L2.start
  refine ⟨by simp [hl, hn], fun i x h => ?_⟩
  by_cases hi : i < as.length
  · rw [List.getElem?_append_left (by simpa using hi), List.getElem?_map] at h
    rw [List.getElem?_append_left (by rw [List.length_map, hl]; exact hi), List.getElem?_map]
    cases e : as[i]? with
    | none => rw [e] at h; cases h
    | some a =>
      rw [e] at h; cases h
      obtain ⟨v, hv, d⟩ := r.get e
      exact ⟨v, by rw [hv]; rfl, d⟩
  · rw [List.getElem?_append_right (by simpa using hi), List.getElem?_replicate] at h
    split at h <;> cases h
theorem un_of {k : Nat} {A : Around} (r : Room k A) : A.units + 100 < cLine := by have := r.un; omega
theorem dp_of {k : Nat} {A : Around} (r : Room k A) : A.depth < recursionLimit := by have := r.dp; omega
/-- where a def that makes lambdas has its code object and its table -/
def LamAt (g : GN) (mg : Str → Option Value) (base : Heap) (f : FnS) (fd : FuncData) : Prop := f.lam = true → ∃ cc P, fd.code = .ref cc ∧ LamX.TabB base mg cc P ∧ (P, f.lq) ∈ g.T ∧ ∀ p ∈ g.T, p.1 = P → p.2 = f.lq
theorem fn_zero {f : FnS} {k : Nat} {a : Addr} {fd : FuncData} (hl : (f.N.take f.d.nps).length = f.d.nps) : FnG P w K mg base (lv 0) a fd (f.N.take f.d.nps) (spF ⟨K, g.fnA, g.clA, g.exA, g.T⟩ (dsOf S) 0 k f.d.nps) :=
  ⟨fun vs H Q E ⟨_, _, _, _, _, _, h, _⟩ => by rw [h, hl], fun _ _ _ _ _ _ _ _ _ _ _ _ _ _ ⟨_, _, _, _, _, _, _, _, _, h⟩ => h.elim⟩
theorem fn_succ {d k : Nat} {f : FnS} {a : Addr} {fd : FuncData} (hf : S[k]? = some f) (hc : chkFn S sites f = true) (hh : f.d.hd = false) (D : DefIs K f a fd) (L : LamAt g mg base f fd) (pg : ProgOk S sites g d P w K mg base) :
    FnG P w K mg base (lv (d + 1)) a fd (f.N.take f.d.nps) (spF ⟨K, g.fnA, g.clA, g.exA, g.T⟩ (dsOf S) (d + 1) k f.d.nps) := by
  obtain ⟨sc, hl, hns, hb⟩ := scope_of hc hh
  obtain ⟨oc, od, dV, kV, doc, pm, an, cdv, ct, osl, rfl, lk, hcd⟩ := D.ex
  refine fnG_body (k := 16 * d + 16) lk hcd sc (fun vs H Q E ⟨_, _, _, _, _, _, h, _⟩ => by rw [h, hl]) fun A outer s H vs Q E rm gd ⟨keep, B0, F, ι0, st0, as, h1, R0, r0, p0⟩ => ?_
  have hlen := r0.length
  have he : (dsOf S)[k]? = some f.d := by unfold dsOf; rw [List.getElem?_map, hf]; rfl
  obtain ⟨B, ι, st, R, r, p⟩ : ∃ B ι st, Rel ⟨K, g.fnA, g.clA, g.exA, g.T⟩ B F ι H st ∧ DenAll ⟨K, g.fnA, g.clA, g.exA, g.T⟩ F ι vs as ∧ Po ⟨K, g.fnA, g.clA, g.exA, g.T⟩ B E F ι st (Den ⟨K, g.fnA, g.clA, g.exA, g.T⟩) (plainF (callF (dsOf S) d) f.d as keep st) Q := by
    unfold callF at p0
    rw [he] at p0
    simp only at p0
    rw [if_pos (by rw [← hlen, h1]), hh] at p0
    cases keep with
    | true => exact ⟨_, _, _, R0, r0, p0⟩
    | false => exact Po.unframe R0 r0 p0
  have o : XS S sites g d (fun cls dd _ H => E cls dd H) ⟨f.N, defScope f.st, fun _ => true, f.lam⟩ (cxOf (L2.CX P w) P w K mg base f.N f.qn (defScope f.st) a cdv A outer s H E) := {
    fit := ⟨rfl, un_of rm, gd, dp_of rm⟩
    hN := rfl
    hsc := rfl
    hfn := rfl
    nd := sc.nd
    kind := sc.kind
    tk := L2.takes_of (E := E) rfl rfl rfl rfl
    room := rm.mono (by unfold lv; omega)
    rooml := fun _ => rm.mono (by unfold lv; omega)
    lam := fun z => L z
    pg := pg
    own := passes_of rfl
    stk := rfl
    frm := rfl
    exn := rfl }
  refine ⟨_, blk_ok (MainS FU o) hb, B, F, ι, f.d.env0 as, { cells := st.cells, opn := false }, ⟨R.sub, R.out, R.len, R.nd, R.here, R.cell, R.tab⟩, ?_, ?_⟩
  · have := env_start (N := f.N) r hns
    rw [← hlen, h1] at this
    unfold FnD.env0
    rw [hh]
    exact this
  · refine leave_ok R.len R.refs (keep := keep) ?_
    exact p
/-- the rest of a def that hears -/
theorem hd_succ {d : Nat} {f : FnS} {a : Addr} {cdv : Value} (hc : chkFn S sites f = true) (hh : f.d.hd = true) (pg : ProgOk S sites g d P w K mg base) {rest : List Stmt} (hr : hearShape sites.xb f.N (defBody f.st) = some rest) (A : Around) (outer : List Env) (s2 : Shared) (H2 : Hp) (E : XK)
    (rm : Room (lv (d + 1)) (A.deeper (envOfC f.d.name (defScope f.st) s2.heap.objs.size a cdv))) (gd : A.guards = some []) :
    PSs (cxOf (L2.CX P w) P w K mg base f.N f.d.name (defScope f.st) a cdv A outer s2 H2 E) rest (TS1 ⟨K, g.fnA, g.clA, g.exA, g.T⟩ (fun cls d _ H => E cls d H) (evB (evS (callF (dsOf S) d) FU) f.d.body)) := by
  obtain ⟨h1, h2, h3⟩ := rest_of hc hh
  unfold chkHd at h1
  simp only [Bool.and_eq_true] at h1
  obtain ⟨⟨⟨⟨⟨⟨⟨⟨⟨⟨⟨⟨k1, k2⟩, k3⟩, k4⟩, k5⟩, k6⟩, k7⟩, k7b⟩, k8⟩, k9⟩, k10⟩, k11⟩, k12⟩ := h1
  have kfn : (defScope f.st).kind = .function := by
    revert k1
    cases (defScope f.st).kind <;> first | exact fun _ => rfl | exact fun z => nomatch z
  have o : XS S sites g d (fun cls dd _ H => E cls dd H) ⟨f.N, defScope f.st, fun _ => true, false⟩ (cxOf (L2.CX P w) P w K mg base f.N f.d.name (defScope f.st) a cdv A outer s2 H2 E) := {
    fit := ⟨rfl, un_of rm, gd, dp_of rm⟩
    hN := rfl
    hsc := rfl
    hfn := rfl
    nd := of_decide_eq_true k4
    kind := kfn
    tk := L2.takes_of (E := E) rfl rfl rfl rfl
    room := rm.mono (by unfold lv; omega)
    rooml := fun z => nomatch z
    lam := fun z => nomatch z
    pg := pg
    own := passes_of rfl
    stk := rfl
    frm := rfl
    exn := rfl }
  exact blk_ok (MainS FU o) (h3 rest hr)
/-- what is known of each def -/
structure EachOk (S : List FnS) (sites : Sites) (g : GN) (K : PySem.W.Frag) (mg : Str → Option Value) (base : Heap) (k : Nat) (f : FnS) : Prop where
  chk : chkFn S sites f = true
  at' : ∃ a fd, g.fnA k = some a ∧ (f.q = none → mg f.d.name = some (.ref a) ∧ PySem.W.keepIn K (.ref a) = true) ∧ DefIs K f a fd ∧ LamAt g mg base f fd ∧ ∀ np ks perm, (k, np, ks, perm) ∈ sites.at' → SiteOk K fd (f.N.take f.d.nps) np ks perm
theorem hd_all {d : Nat} {k : Nat} {f : FnS} (hf : S[k]? = some f) (E0 : EachOk S sites g K mg base k f) (hh : f.d.hd = true) (hs : (k, 1, ([] : List Str), [PArg.at 0]) ∈ sites.at') (pg : ∀ d', d = d' + 1 → ProgOk S sites g d' P w K mg base) : HdOk S sites g d P w K mg base f := by
  obtain ⟨h1, h2, h3⟩ := rest_of E0.chk hh
  obtain ⟨a, fd, _, hm, D, _, hsite⟩ := E0.at'
  obtain ⟨oc, od, dV, kV, doc, pm, an, cdv, ct, osl, rfl, lk, hcd⟩ := D.ex
  have k := h1
  unfold chkHd at k
  simp only [Bool.and_eq_true] at k
  obtain ⟨⟨⟨⟨⟨⟨⟨⟨⟨⟨⟨⟨k1, k2⟩, k3⟩, k4⟩, k5⟩, k6⟩, k7⟩, k7b⟩, k8⟩, k9⟩, k10⟩, k11⟩, k12⟩ := k
  have hq : f.q = none := by
    cases hq : f.q with
    | none => rfl
    | some z => rw [hq] at k7b; cases k7b
  have hqn : f.qn = f.d.name := by unfold FnS.qn; rw [hq]; rfl
  obtain ⟨m1, m2⟩ := hm hq
  rw [hqn] at lk hcd hsite
  have n1 : f.d.nps = 1 := eq_of_beq k6
  refine ⟨h1, a, oc, od, dV, kV, doc, pm, an, cdv, ct, osl, m1, m2, lk, hcd, fun np ks perm e1 e2 e3 => ?_, fun d' e rest hr A outer s2 H2 E rm gd => ?_⟩
  · subst e1; subst e2; subst e3
    have := hsite 1 [] [.at 0] hs
    rw [n1] at this
    exact this
  · subst e
    exact hd_succ E0.chk hh (pg d' rfl) hr A outer s2 H2 E rm gd
/-- the whole program, at every depth -/
theorem prog_all (h : ∀ k f, S[k]? = some f → EachOk S sites g K mg base k f) (hcl : ClsOk S sites g K mg) (hb : ∀ x ∈ bltNames, mg x = none) : ∀ d, ProgOk S sites g d P w K mg base
  | 0 => ⟨fun k f hf hh => by
      obtain ⟨a, fd, h1, h2, h3, _, h4⟩ := (h k f hf).at'
      obtain ⟨_, hl, _, _⟩ := scope_of (h k f hf).chk hh
      exact ⟨a, fd, h1, h2, hl, fn_zero hl, h4⟩, fun k f hf hh hs => hd_all hf (h k f hf) hh hs (fun d' e => nomatch e), hcl, hb⟩
  | d + 1 => ⟨fun k f hf hh => by
      obtain ⟨a, fd, h1, h2, h3, h5, h4⟩ := (h k f hf).at'
      obtain ⟨_, hl, _, _⟩ := scope_of (h k f hf).chk hh
      exact ⟨a, fd, h1, h2, hl, fn_succ hf (h k f hf).chk hh h3 h5 (prog_all h hcl hb d), h4⟩, fun k f hf hh hs => hd_all hf (h k f hf) hh hs (fun d' e => by cases e; exact prog_all h hcl hb d), hcl, hb⟩
end

/-! ### a law's call -/
section
variable {P : Program} {w : World} {K : PySem.W.Frag} {mg mb : Str → Option Value} {k : Nat} {fa a : Addr} {fd : FuncData} {x : Str} {sp : Sp} {t : Shared} {vs : List Value} {ns : List Int} {cs : List (Addr × Addr)}
/-- the law's def, called at a heap where only the script and the tables may be tracked -/
theorem call_at {H : Hp} (inK : K.In t.heap) (nsM : t.heap.Ns mainGlobals mg) (nsB : t.heap.Ns builtinsNs mb) (isB : ∀ x : Str, x ≠ "__name__" → mb x = bootBuiltins x) (noL : t.heap.NoLimit) (noG : t.gens = #[])
    (tabs : ∀ p ∈ cs, t.heap.get? p.2 = some { cls := .none, data := .fields #[] } ∧ K.lookup p.2 = none ∧ PySem.W.CodeHd t.heap p.1 p.2)
    (bms : ∃ (bm : Addr) (ob : Obj), mg "__builtins__" = some (.ref bm) ∧ bm ≠ builtinsNs ∧ t.heap.get? bm = some ob ∧ ob.cls = .type "module" ∧ ob.dict = some builtinsNs ∧ ob.data = .plain)
    (lst : t.heap.get? a = some { cls := .type "list", data := .seq vs.toArray }) (room : Room k callerA)
    (F : ∀ b : Heap, K.In b → b.Ns mainGlobals mg → (∀ p ∈ cs, LamX.TabB b mg p.1 p.2) → FnG P w K mg b k fa fd [x] sp) (bnd : BindsTo t fd ⟨[.ref a], []⟩ [(x, .ref a)])
    (q : sp [.ref a] H (fun v _ => v = .bl true) fun _ _ _ => False) (isT : ∀ p ∈ cs, H p.2 = some (.tbl #[])) (only : ∀ b, H b = none ∨ (∃ p ∈ cs, b = p.2) ∨ ∃ o xs, H b = some (.frz o (.lst xs))) (ok : HOk P w H t.heap) (hA : ∀ b, H b ≠ none → b = a ∨ ∃ p ∈ cs, b = p.2) (hK : H a ≠ none → K.lookup a = none) :
    codeAny (model P w) callerA (.call (.ref fa) ⟨[.ref a], []⟩) (fun r u => r = .ok (.ret (.bool true)) ∧ OldK t.heap u.heap ∧ u.os = t.os ∧ AllBare u.gens) t := by
  have untr : ∀ {b : Addr} {o : Obj}, t.heap.get? b = some o → (b = a → H a = none) → (∀ p ∈ cs, b = p.2 → False) → H b = none := fun {b o} e z n => by
    cases hb : H b with
    | none => rfl
    | some y =>
      rcases hA b (by rw [hb]; exact fun z => nomatch z) with eb | ⟨p, hp, ep⟩
      · rw [← hb, eb]; exact z eb
      · exact (n p hp ep).elim
  have plain : ∀ {b : Addr} {o : Obj}, t.heap.get? b = some o → (∀ xs n, o.data ≠ .seq xs n) → o.data ≠ .fields #[] → H b = none := fun {b o} e h1 h2 => untr e (fun z => by
    subst z
    rw [lst] at e; cases e
    exact (h1 _ _ rfl).elim) fun p hp z => by
    rw [z, (tabs p hp).1] at e; cases e
    exact h2 rfl
  have ns' : ∀ {b : Addr} {m : Str → Option Value}, t.heap.Ns b m → (hidT t.heap H).Ns b m := fun ⟨o, es, n, e, d, r⟩ => ⟨o, es, n, hidT_get e (plain e (fun xs n z => by rw [d] at z; cases z) fun z => by rw [d] at z; cases z), d, r⟩
  have inK' : K.In (hidT t.heap H) := fun b o e => hidT_get (inK b o e) (untr (inK b o e) (fun z => by
    subst z
    cases hb : H b with
    | none => rfl
    | some y => rw [hK (by rw [hb]; exact fun z => nomatch z)] at e; cases e) fun p hp z => by
      rw [z, (tabs p hp).2.1] at e; cases e)
  have e0 : Env0 P w K mg (hidT t.heap H) callerA [] t H :=
    ⟨rfl, ⟨inK', ns' nsM, ⟨mb, ns' nsB, isB⟩, let ⟨mc, z1, z2⟩ := noL; ⟨mc, ns' z1, z2⟩⟩, fun b o e => of_hidT e, Nat.le_of_eq (hidT_size _ _), trivial, fun b hb => (nomatch hb), ok, AllBare.of_eq noG⟩
  have TB : ∀ p ∈ cs, LamX.TabB (hidT t.heap H) mg p.1 p.2 := fun p hp => by
    obtain ⟨t1, t2, t3⟩ := tabs p hp
    refine ⟨?_, ?_, fun z => ?_⟩
    · obtain ⟨o, us, file, tf, flags, tg, inF, text, tt, e1, r1, r2, r3, rr⟩ := t3
      refine ⟨o, us, file, tf, flags, tg, inF, text, tt, hidT_get e1 (plain e1 (fun xs n z => by rw [r2] at z; cases z) fun z => ?_), r1, r2, r3, rr⟩
      rw [r2] at z
      cases z
      simp at r3
    · obtain ⟨bm, ob, b1, b2, b3, b4, b5, b6⟩ := bms
      refine ⟨bm, ob, b1, b2, fun z => ?_, fun z => ?_, hidT_get b3 (plain b3 (fun xs n z => by rw [b6] at z; cases z) fun z => by rw [b6] at z; cases z), b4, b5, b6⟩
      · obtain ⟨o, es, ep, e, hd, _⟩ := nsM
        rw [z, e] at b3; cases b3
        rw [hd] at b6; cases b6
      · rw [z, t1] at b3; cases b3
        cases b6
    · obtain ⟨o, es, ep, e, hd, _⟩ := nsM
      rw [z, t1] at e; cases e
      cases hd
  refine codeAny_mono ((F _ inK' (ns' nsM) TB).run callerA [] t H ⟨[.ref a], []⟩ [.ref a] [.ref a] _ _ room rfl e0 bnd (.cons rfl .nil) q) fun r u h => ?_
  match r, h with
  | .error e, ⟨_, _, _, _, _, _, _, _, _, _, _, _, z⟩ => exact z.elim
  | .ok .next, h => exact False.elim h
  | .ok .brk, h => exact False.elim h
  | .ok .cont, h => exact False.elim h
  | .ok (.ret y), ⟨v, H', h1, h2, un, ok', rv, qv⟩ =>
    subst qv
    cases rv
    have grown : ∀ p ∈ cs, ∃ more : Array Value, u.heap.get? p.2 = some { cls := .none, data := .fields more } := fun p hp => by
      obtain ⟨more, z⟩ := un.tbls p.2 #[] (isT p hp)
      exact ⟨_, ok' p.2 _ z⟩
    have other : ∀ b o, (∀ p ∈ cs, b = p.2 → False) → t.heap.get? b = some o → u.heap.get? b = some o := fun b o nb e => by
      rcases only b with z | ⟨p, hp, z⟩ | ⟨ob, xs, z⟩
      · exact un.keep b o e z (fun z => nomatch z) (fun z => nomatch z)
      · exact (nb p hp z).elim
      · have c1 := (ok b _ z).1
        have c2 := (ok' b _ (un.frzs b ob _ z)).1
        rw [e] at c1; cases c1
        exact c2
    refine ⟨rfl, ⟨fun b o e => ?_, fun b o e => ?_⟩, h1, h2⟩
    · by_cases hb : ∃ p ∈ cs, b = p.2
      · obtain ⟨p, hp, rfl⟩ := hb
        obtain ⟨more, hm⟩ := grown p hp
        rw [(tabs p hp).1] at e
        cases e
        exact .inr (.inl ⟨((tabs p hp).2.2.tab (tabs p hp).1).isCodeTable, rfl, #[], more, rfl, by rw [Array.empty_append]; exact hm⟩)
      · exact .inl (other b o (fun p hp z => hb ⟨p, hp, z⟩) e)
    · by_cases hb : ∃ p ∈ cs, b = p.2
      · obtain ⟨p, hp, rfl⟩ := hb
        obtain ⟨more, hm⟩ := grown p hp
        exact ⟨_, hm⟩
      · exact ⟨o, other b o (fun p hp z => hb ⟨p, hp, z⟩) e⟩
/-- .. wherever the script stands -/
theorem call_law (inK : K.In t.heap) (nsM : t.heap.Ns mainGlobals mg) (nsB : t.heap.Ns builtinsNs mb) (isB : ∀ x : Str, x ≠ "__name__" → mb x = bootBuiltins x) (noL : t.heap.NoLimit) (noG : t.gens = #[])
    (tabs : ∀ p ∈ cs, t.heap.get? p.2 = some { cls := .none, data := .fields #[] } ∧ K.lookup p.2 = none ∧ PySem.W.CodeHd t.heap p.1 p.2)
    (bms : ∃ (bm : Addr) (ob : Obj), mg "__builtins__" = some (.ref bm) ∧ bm ≠ builtinsNs ∧ t.heap.get? bm = some ob ∧ ob.cls = .type "module" ∧ ob.dict = some builtinsNs ∧ ob.data = .plain)
    (lst : t.heap.get? a = some { cls := .type "list", data := .seq vs.toArray }) (hi : IntsAre vs ns) (hz : ns.length ≤ sizeLine) (room : Room k callerA)
    (F : ∀ b : Heap, K.In b → b.Ns mainGlobals mg → (∀ p ∈ cs, LamX.TabB b mg p.1 p.2) → FnG P w K mg b k fa fd [x] sp) (bnd : BindsTo t fd ⟨[.ref a], []⟩ [(x, .ref a)])
    (q : ∀ H : Hp, (∀ p ∈ cs, H p.2 = some (.tbl #[])) → SqL K H a (ns.map V.int) → sp [.ref a] H (fun v _ => v = .bl true) fun _ _ _ => False) :
    codeAny (model P w) callerA (.call (.ref fa) ⟨[.ref a], []⟩) (fun r u => r = .ok (.ret (.bool true)) ∧ OldK t.heap u.heap ∧ u.os = t.os ∧ AllBare u.gens) t := by
  have rv : Vals (ns.map V.int) vs := vals_ints hi
  have ln := hi.length
  have na : ∀ p ∈ cs, p.2 ≠ a := fun p hp z => by
    have := (tabs p hp).1
    rw [z, lst] at this; cases this
  let TT : Hp := fun b => if b ∈ cs.map (·.2) then some (.tbl #[]) else none
  have tin : ∀ {b : Addr}, b ∈ cs.map (·.2) → ∃ p ∈ cs, b = p.2 := fun {b} h => by
    obtain ⟨p, hp, e⟩ := List.mem_map.mp h
    exact ⟨p, hp, e.symm⟩
  have tT : ∀ p ∈ cs, TT p.2 = some (.tbl #[]) := fun p hp => if_pos (List.mem_map_of_mem hp)
  have tcase : ∀ b, (∃ p ∈ cs, b = p.2) ∨ TT b = none := fun b => by
    by_cases hb : b ∈ cs.map (·.2)
    · exact .inl (tin hb)
    · exact .inr (if_neg hb)
  cases hk : K.lookup a with
  | some o =>
    have e := inK a o hk
    rw [lst] at e; cases e
    refine call_at inK nsM nsB isB noL noG tabs bms lst room F bnd (q TT tT (.inr ⟨_, vs.toArray, _, hk, rfl, rfl, rfl, by rw [List.size_toArray, ln]; exact hz, by simpa using rv⟩)) tT (fun b => ?_) (fun b y z => ?_) (fun b z => ?_) fun z => ?_
    · rcases tcase b with h | h
      · exact .inr (.inl h)
      · exact .inl h
    · rcases tcase b with ⟨p, hp, rfl⟩ | h
      · rw [tT p hp] at z; cases z
        exact (tabs p hp).1
      · rw [h] at z; cases z
    · rcases tcase b with h | h
      · exact .inr h
      · exact absurd h z
    · rcases tcase a with ⟨p, hp, e⟩ | h
      · exact absurd e.symm (na p hp)
      · exact absurd h z
  | none =>
    have sc : ∀ b, b = a ∨ (upd TT a (.frz { cls := .type "list", data := .seq vs.toArray } (.lst (ns.map V.int)))) b = TT b := fun b => by
      by_cases z : b = a
      · exact .inl z
      · exact .inr (upd_ne z)
    have hitA : (upd TT a (.frz { cls := .type "list", data := .seq vs.toArray } (.lst (ns.map V.int)))) a = some (.frz { cls := .type "list", data := .seq vs.toArray } (.lst (ns.map V.int))) := upd_same
    generalize (upd TT a (.frz { cls := .type "list", data := .seq vs.toArray } (.lst (ns.map V.int)))) = H at sc hitA
    have hT : ∀ p ∈ cs, H p.2 = some (.tbl #[]) := fun p hp => by
      rcases sc p.2 with z | z
      · exact absurd z (na p hp)
      · rw [z]; exact tT p hp
    refine call_at inK nsM nsB isB noL noG tabs bms lst room F bnd (q H hT (.inl (.inr ⟨_, hitA⟩))) hT (fun b => ?_) (fun b y e => ?_) (fun b z => ?_) fun _ => hk
    · rcases sc b with z | z
      · subst z; exact .inr (.inr ⟨_, _, hitA⟩)
      · rcases tcase b with h | h
        · exact .inr (.inl h)
        · exact .inl (z.trans h)
    · rcases sc b with z | z
      · subst z
        rw [hitA] at e; cases e
        exact ⟨lst, by rw [List.length_map]; exact hz, vs, _, rv, lst⟩
      · rw [z] at e
        rcases tcase b with ⟨p, hp, rfl⟩ | h
        · rw [tT p hp] at e; cases e
          exact (tabs p hp).1
        · rw [h] at e; cases e
    · rcases sc b with y | y
      · exact .inl y
      · rcases tcase b with h | h
        · exact .inr h
        · exact absurd (y.trans h) z
end
end Ev

set_option linter.all false
set_option maxRecDepth 100000
set_option maxHeartbeats 4000000
/-! EvHd: what the head must know, as one Bool over the written part; a law from it. Own work. -/
namespace Ev
open PySem PySem.Spec PyProof.Rows L2

theorem dfl_none {K : PySem.W.Frag} {dV : Value} (h : DflV K dV []) : dV = .none := by
  rcases h with ⟨_, e⟩ | ⟨n, _⟩
  · exact e
  · exact absurd rfl n
/-! ### a hook that sees the statics too -/
def asY (g : Addr → Option Obj) (n : Nat) : List Addr := cStatics :: He.asD g n
abbrev frY (g : Addr → Option Obj) (n : Nat) : PySem.W.Frag := He.frT g (asY g n)
def obsY (n : Nat) (fn : List He.DefD) (tf : List He.Defn) (ex : PySem.W.Frag → Bool) (g : Addr → Option Obj) : He.AlX := (He.obsT [] fn [] (frY g n), ex (frY g n) && He.tabsB g tf (frY g n))
theorem saysY_of {n : Nat} {fn : List He.DefD} {tf : List He.Defn} {ex : PySem.W.Frag → Bool} {w : World} {h : Heap} (e : obsY n fn tf ex h.get? = He.valX fn [] w) : He.SaysX [] fn [] tf ex w h (frY h.get? n) := by
  obtain ⟨e1, e2⟩ := Prod.mk.inj e
  obtain ⟨h1, h2⟩ := Bool.and_eq_true_iff.mp e2
  have each : ∀ p ∈ tf, PySem.W.codeHdIn (frY h.get? n) (He.cT (frY h.get? n) p).1 (He.cT (frY h.get? n) p).2 = true ∧ ∃ o, h.get? (He.cT (frY h.get? n) p).2 = some o ∧ He.emptyTab o = true := by
    intro p hp
    have z := List.all_eq_true.mp h2 p hp
    obtain ⟨z1, z2⟩ := Bool.and_eq_true_iff.mp z
    refine ⟨z1, ?_⟩
    split at z2
    · rename_i o q
      exact ⟨o, q, z2⟩
    · cases z2
  refine ⟨e1, h1, fun p hp => (each p hp).1, fun p hp => ?_, fun p hp => ?_⟩
  · obtain ⟨_, o, q, z⟩ := each p hp
    exact He.frT_none q z
  · obtain ⟨_, o, q, z⟩ := each p hp
    rw [q, He.emptyTab_eq z]
def hookY (n : Nat) (fn : List He.DefD) (tf : List He.Defn) (ex : PySem.W.Frag → Bool) : PySem.W.Hook where
  α := He.AlX
  obs := fun s => obsY n fn tf ex s.heap.get?
  val := fun w => He.valX fn [] w
  says := fun w h => ∃ K : PySem.W.Frag, K.In h ∧ He.SaysX [] fn [] tf ex w h K
  of := fun _ _ e => ⟨_, He.frT_in, saysY_of e⟩
  keeps := fun _ _ _ ⟨K, hK, c⟩ k => ⟨K, PySem.W.Frag.In.keeps hK k, ⟨c.t, c.more, c.hd, c.out, fun p hp => k _ _ (c.empty p hp)⟩⟩
theorem obsY_eq {n : Nat} {fn : List He.DefD} {tf : List He.Defn} {ex : PySem.W.Frag → Bool} {g : Addr → Option Obj} {s : Shared} (h : ∀ a, g a = s.heap.get? a) : obsY n fn tf ex g = (hookY n fn tf ex).obs s := by
  rw [show g = s.heap.get? from funext h] <;> rfl

/-- where a def stands -/
def FnS.at_ (f : FnS) : Str × Option Str := match f.q with
  | none => (f.d.name, none)
  | some _ => (f.cn, some f.d.name)
def FnS.dd (f : FnS) : He.DefD := ⟨f.at_, f.d.name, f.qn, defArgs f.st, defBody f.st, defScope f.st, f.dfl, []⟩
def ExS.dd (d : ExS) : He.DefD := ⟨(d.name, some "__init__"), "__init__", d.name ++ ".__init__", defArgs d.st, defBody d.st, defScope d.st, [], []⟩
def fnsOf (S : List FnS) (sites : Sites) : List He.DefD := S.map FnS.dd ++ sites.ex.map ExS.dd
def tfOf (S : List FnS) : List He.Defn := (S.filter (·.lam)).map FnS.at_

section
variable (K : PySem.W.Frag)
def foB (t : Value) (f : Str) (r : Option Value) : Bool := He.eqO (PySem.W.findIn K t f) (some r)
def gloB (x : Str) : Bool := He.eqO (PySem.W.nsIn K mainGlobals x) (some (some (.ref (He.ga K x))))
def aT (S : List FnS) : List (Addr × Str) := (S.filter (·.lam)).map fun f => ((He.cT K f.at_).2, f.lq)
def gnK (S : List FnS) (sites : Sites) : GN := ⟨fun k => (S[k]?).map fun f => He.fAd K f.at_, fun c => (sites.cl[c]?).map fun d => He.ga K d.name, fun c => (sites.ex[c]?).map fun d => He.ga K d.name, aT K S⟩
def methB (S : List FnS) (C : Addr) (m : Str) (k : Nat) : Bool := match S[k]? with
  | some f => foB K (.ref C) m (some (.ref (He.fAd K f.at_))) && PySem.W.isFn K (.ref (He.fAd K f.at_))
  | none => false
def clB (S : List FnS) (d : ClS) : Bool := gloB K d.name && He.Fa.ok K (.cls d.name) && d.fs.all (fun f => foB K (.ref (He.ga K d.name)) f none) && foB K (.ref (He.ga K d.name)) "__class__" (some (.builtin "object.__class__")) &&
  decide (PySem.W.mroIn K (He.ga K d.name) (.type "object") = some true) && PySem.W.makesIn K (He.ga K d.name) && PySem.W.keepIn K (.ref (He.ga K d.name)) && methB K S (He.ga K d.name) "__init__" d.ini &&
  (match d.eqf with | some k => methB K S (He.ga K d.name) "__eq__" k && foB K (.ref (He.ga K d.name)) "__ne__" (some (.builtin "object.__ne__")) && isTys.all (fun t => PySem.W.notFirst K (He.ga K d.name) (.type t)) | none => true)
def oexB (C : Addr) : Bool := (match K.lookup C with
  | some ⟨.type tn, _, .cls ⟨_, _, .ref C' :: bm, _, _, hd, _, _, _, _, hl⟩, sl⟩ => decide (tn = "type") && decide (C' = C) && PySem.HandSPX.refsVE bm && hd && !hl && (match sl.toList with | [_, _, _, _, some (.builtin n), _] => decide (n = "ValueError.__new__") | _ => false)
  | _ => false) && foB K (.ref C) "__setattr__" (some (.builtin "object.__setattr__")) && decide (PySem.W.subIn K (.ref C) (.type "BaseException") = some true) && decide (PySem.W.typeIn K (.ref C) = some (.type "type")) && PySem.W.keepIn K (.ref C)
def baseC (S : Addr) : Bool := PySem.W.readsIn K S (.type "type") && He.eqO (PySem.W.specialIn K (.ref S) "__getattribute__") (some (some (.builtin "type.__getattribute__"))) &&
  (match PySem.W.findCls K (.ref S) (.type "type") "__init__" with | some (.val (.builtin n)) => decide (n = "ValueError.__init__") | _ => false)
def exIsB (C : Addr) : Bool := (PySem.W.clsIn K C).isSome && foB K (.ref C) "__getattribute__" (some (.builtin "BaseException.__getattribute__")) && foB K (.ref C) "__getattr__" none && decide (PySem.W.subIn K (.ref C) (.type "BaseException") = some true) &&
  foB K (.ref C) "__class__" (some (.builtin "object.__class__")) && decide (PySem.W.mroIn K C (.type "object") = some true) && PySem.W.hasDictIn K C
def rowB (C : Addr) (c : Nat) : Nat → List ExS → Bool
  | _, [] => true
  | k, d :: ds => decide (PySem.W.kitOne K (.ref C) (.ref (He.ga K d.name)) = some (decide (c = k))) && rowB C c (k + 1) ds
def exB (sites : Sites) (c : Nat) (d : ExS) : Bool := gloB K d.name && oexB K (He.ga K d.name) && d.fs.all (fun f => foB K (.ref (He.ga K d.name)) f none) && foB K (.ref (He.ga K d.name)) "__init__" (some (.ref (He.fAd K (d.name, some "__init__")))) &&
  decide (PySem.W.typeIn K (.ref (He.fAd K (d.name, some "__init__"))) = some (.type "function")) && chkExc sites.xb d.st d.fs && decide (d.fs.length ≤ 800) && decide (PySem.W.exmOne K (.ref (He.ga K d.name)) (.ref (He.ga K sites.xb)) = some true) && exIsB K (He.ga K d.name) &&
  rowB K (He.ga K d.name) c 0 sites.ex && decide (PySem.W.kitOne K (.type "NoneType") (.ref (He.ga K d.name)) = some false) && sites.xf.all (fun f => foB K (.ref (He.ga K d.name)) f none)
def exsB (sites : Sites) : Nat → List ExS → Bool
  | _, [] => true
  | c, d :: ds => exB K sites c d && exsB sites (c + 1) ds
def conB1 (p : Str × AV) : Bool := match p.2 with
  | .int i => He.Fa.ok K (.int p.1 i)
  | .str z => He.Fa.ok K (.str p.1 z)
  | _ => false
def kitB1 (sites : Sites) (C : Addr) (c : Nat) : Nat → List ClS → Bool
  | _, [] => true
  | k, d :: ds => decide (PySem.W.kitOne K (.ref C) (.ref (He.ga K d.name)) = some (c == k || sites.sb.contains (c, k))) && kitB1 sites C c (k + 1) ds
def kitsB (sites : Sites) : Nat → List ClS → Bool
  | _, [] => true
  | c, d :: ds => kitB1 K sites (He.ga K d.name) c 0 sites.cl && isTys.all (fun t => decide (PySem.W.kitOne K (.type t) (.ref (He.ga K d.name)) = some false)) && kitsB sites (c + 1) ds
def mtB (S : List FnS) (sites : Sites) (x : Nat × Str × Nat) : Bool := match sites.cl[x.1]?, S[x.2.2]? with
  | some d, some f => foB K (.ref (He.ga K d.name)) x.2.1 (some (.ref (He.fAd K f.at_))) && PySem.W.isFn K (.ref (He.fAd K f.at_)) && PySem.W.keepIn K (.ref (He.fAd K f.at_))
  | _, _ => false
/-- all of it -/
def coreB (S : List FnS) (sites : Sites) : Bool := (S.all fun f => f.q.isSome || gloB K f.d.name) && (bltNames.all fun x => He.Fa.ok K (.free x)) && sites.cl.all (clB K S) && exsB K sites 0 sites.ex && (sites.ex.isEmpty || (gloB K sites.xb && baseC K (He.ga K sites.xb))) &&
  sites.co.all (conB1 K) && sites.mt.all (mtB K S sites) && kitsB K sites 0 sites.cl && decide ((aT K S).map (·.1)).Nodup
end
def sitesOf (sites : Sites) (k : Nat) : List (Nat × List Str × List PArg) := (sites.at'.filter fun x => x.1 == k).map (·.2)
def SitesOk (K : PySem.W.Frag) (fd : FuncData) (ps : List Str) : List (Nat × List Str × List PArg) → Prop
  | [] => True
  | x :: r => SiteOk K fd ps x.1 x.2.1 x.2.2 ∧ SitesOk K fd ps r
theorem SitesOk.mem {K : PySem.W.Frag} {fd : FuncData} {ps : List Str} : ∀ {l : List (Nat × List Str × List PArg)}, SitesOk K fd ps l → ∀ x ∈ l, SiteOk K fd ps x.1 x.2.1 x.2.2
  | x :: r, h, y, hy => by
    rcases List.mem_cons.mp hy with e | e
    · subst e; exact h.1
    · exact SitesOk.mem h.2 y e
/-- how the calls' arguments come to the parameters -/
def StAll (sites : Sites) : Nat → List FnS → Prop
  | _, [] => True
  | k, f :: r => (∀ (K : PySem.W.Frag) (a : Addr) (fd : FuncData), FunD K f.d.name f.qn (defArgs f.st) (defBody f.st) (defScope f.st) (f.dd.dvs K) [] a fd → SitesOk K fd (f.N.take f.d.nps) (sitesOf sites k)) ∧ StAll sites (k + 1) r
def ExStAll : List ExS → Prop
  | [] => True
  | d :: r => (∀ (K : PySem.W.Frag) (a : Addr) (fd : FuncData), FunD K "__init__" (d.name ++ ".__init__") (defArgs d.st) (defBody d.st) (defScope d.st) [] [] a fd → Binds K fd (("self" : Str) :: d.fs) []) ∧ ExStAll r

theorem StAll.get {sites : Sites} : ∀ {l : List FnS} {j k : Nat} {f : FnS}, StAll sites j l → l[k]? = some f → ∀ (K : PySem.W.Frag) (a : Addr) (fd : FuncData), FunD K f.d.name f.qn (defArgs f.st) (defBody f.st) (defScope f.st) (f.dd.dvs K) [] a fd → SitesOk K fd (f.N.take f.d.nps) (sitesOf sites (j + k))
  | [], _, _, _, _, e => by simp at e
  | g :: r, j, 0, f, h, e => by simp at e; subst e; exact h.1
  | g :: r, j, k + 1, f, h, e => by
    have := StAll.get (k := k) h.2 (by simpa using e)
    rwa [show j + 1 + k = j + (k + 1) by omega] at this
theorem ExStAll.get : ∀ {l : List ExS} {k : Nat} {d : ExS}, ExStAll l → l[k]? = some d → ∀ (K : PySem.W.Frag) (a : Addr) (fd : FuncData), FunD K "__init__" (d.name ++ ".__init__") (defArgs d.st) (defBody d.st) (defScope d.st) [] [] a fd → Binds K fd (("self" : Str) :: d.fs) []
  | [], _, _, _, e => by simp at e
  | g :: r, 0, d, h, e => by simp at e; subst e; exact h.1
  | g :: r, k + 1, d, h, e => ExStAll.get (k := k) h.2 (by simpa using e)
theorem nodup_snd {α β : Type} : ∀ {l : List (α × β)} {a : α} {b c : β}, (l.map (·.1)).Nodup → (a, b) ∈ l → (a, c) ∈ l → b = c
  | [], _, _, _, _, h, _ => nomatch h
  | (x, y) :: r, a, b, c, nd, h1, h2 => by
    rw [List.map_cons, List.nodup_cons] at nd
    rcases List.mem_cons.mp h1 with e1 | e1 <;> rcases List.mem_cons.mp h2 with e2 | e2
    · cases e1; cases e2; rfl
    · cases e1
      exact absurd (List.mem_map_of_mem (f := Prod.fst) e2) nd.1
    · cases e2
      exact absurd (List.mem_map_of_mem (f := Prod.fst) e1) nd.1
    · exact nodup_snd nd.2 e1 e2
theorem kitB1_get {K : PySem.W.Frag} {sites : Sites} {C : Addr} {c : Nat} : ∀ {l : List ClS} {j k : Nat} {d : ClS}, kitB1 K sites C c j l = true → l[k]? = some d → PySem.W.kitOne K (.ref C) (.ref (He.ga K d.name)) = some (c == (j + k) || sites.sb.contains (c, j + k))
  | [], _, _, _, _, e => by simp at e
  | g :: r, j, 0, d, h, e => by
    simp at e; subst e
    simp only [kitB1, Bool.and_eq_true] at h
    exact of_decide_eq_true h.1
  | g :: r, j, k + 1, d, h, e => by
    simp only [kitB1, Bool.and_eq_true] at h
    have := kitB1_get (k := k) h.2 (by simpa using e)
    rwa [show j + 1 + k = j + (k + 1) by omega] at this
theorem kitsB_get {K : PySem.W.Frag} {sites : Sites} : ∀ {l : List ClS} {j k : Nat} {d : ClS}, kitsB K sites j l = true → l[k]? = some d → kitB1 K sites (He.ga K d.name) (j + k) 0 sites.cl = true ∧ ∀ t ∈ isTys, PySem.W.kitOne K (.type t) (.ref (He.ga K d.name)) = some false
  | [], _, _, _, _, e => by simp at e
  | g :: r, j, 0, d, h, e => by
    simp at e; subst e
    simp only [kitsB, Bool.and_eq_true] at h
    exact ⟨h.1.1, fun t ht => of_decide_eq_true (List.all_eq_true.mp h.1.2 t ht)⟩
  | g :: r, j, k + 1, d, h, e => by
    simp only [kitsB, Bool.and_eq_true] at h
    have := kitsB_get (k := k) h.2 (by simpa using e)
    rwa [show j + 1 + k = j + (k + 1) by omega] at this
theorem rowB_get {K : PySem.W.Frag} {C : Addr} {c : Nat} : ∀ {l : List ExS} {j k : Nat} {d : ExS}, rowB K C c j l = true → l[k]? = some d → PySem.W.kitOne K (.ref C) (.ref (He.ga K d.name)) = some (decide (c = j + k))
  | [], _, _, _, _, e => by simp at e
  | g :: r, j, 0, d, h, e => by
    simp at e; subst e
    simp only [rowB, Bool.and_eq_true] at h
    exact of_decide_eq_true h.1
  | g :: r, j, k + 1, d, h, e => by
    simp only [rowB, Bool.and_eq_true] at h
    have := rowB_get (k := k) h.2 (by simpa using e)
    rwa [show j + 1 + k = j + (k + 1) by omega] at this
theorem exsB_get {K : PySem.W.Frag} {sites : Sites} : ∀ {l : List ExS} {j k : Nat} {d : ExS}, exsB K sites j l = true → l[k]? = some d → exB K sites (j + k) d = true
  | [], _, _, _, _, e => by simp at e
  | g :: r, j, 0, d, h, e => by
    simp at e; subst e
    simp only [exsB, Bool.and_eq_true] at h
    exact h.1
  | g :: r, j, k + 1, d, h, e => by
    simp only [exsB, Bool.and_eq_true] at h
    have := exsB_get (k := k) h.2 (by simpa using e)
    rwa [show j + 1 + k = j + (k + 1) by omega] at this
section
variable {S : List FnS} {sites : Sites} {K : PySem.W.Frag} {mg : Str → Option Value} {h : Heap} {base : Heap}
theorem foB_ok {t : Value} {f : Str} {r : Option Value} (c : foB K t f r = true) : PySem.W.findIn K t f = some r := He.eqO_ok c
theorem gloB_ok (X : K.In h) (G : h.Ns mainGlobals mg) {x : Str} (c : gloB K x = true) : mg x = some (.ref (He.ga K x)) := He.glo_ok X G c
theorem methB_ok {C : Addr} {m : Str} {k : Nat} (c : methB K S C m k = true) : ∃ f, S[k]? = some f ∧ PySem.W.findIn K (.ref C) m = some (some (.ref (He.fAd K f.at_))) ∧ PySem.W.isFn K (.ref (He.fAd K f.at_)) = true := by
  unfold methB at c
  split at c
  · rename_i f hf
    rw [Bool.and_eq_true] at c
    exact ⟨f, hf, foB_ok c.1, c.2⟩
  · cases c
theorem oexB_ok {C : Addr} (c : oexB K C = true) : OexC K C := by
  unfold oexB at c
  simp only [Bool.and_eq_true] at c
  obtain ⟨⟨⟨⟨c1, c2⟩, c3⟩, c4⟩, c5⟩ := c
  refine ⟨?_, foB_ok c2, of_decide_eq_true c3, of_decide_eq_true c4, c5⟩
  split at c1
  · rename_i tn dd nm bs C' bm ns q hd sn sub ab col hl sl hk
    simp only [Bool.and_eq_true, Bool.not_eq_true', decide_eq_true_eq] at c1
    obtain ⟨⟨⟨⟨⟨rfl, rfl⟩, c7⟩, rfl⟩, rfl⟩, c6⟩ := c1
    split at c6
    · rename_i k0 k1 k2 k3 n k5 hs
      have e := of_decide_eq_true c6
      subst e
      refine ⟨nm, q, ns, bs, bm, sn, sub, ab, col, dd, k0, k1, k2, k3, k5, ?_, c7⟩
      rw [hk]
      have : sl = #[k0, k1, k2, k3, some (.builtin "ValueError.__new__"), k5] := by
        apply Array.toList_inj.mp
        rw [hs]
      rw [this]
    · cases c6
  · cases c1
theorem baseC_ok {S0 : Addr} (c : baseC K S0 = true) : BaseAt K S0 := by
  unfold baseC at c
  simp only [Bool.and_eq_true] at c
  obtain ⟨⟨c1, c2⟩, c3⟩ := c
  refine ⟨c1, He.eqO_ok c2, ?_⟩
  split at c3
  · rename_i n hn
    rw [hn, of_decide_eq_true c3]
  · cases c3
theorem exIsB_ok {C : Addr} (c : exIsB K C = true) : ExIs K C := by
  unfold exIsB at c
  simp only [Bool.and_eq_true] at c
  obtain ⟨⟨⟨⟨⟨⟨c1, c2⟩, c3⟩, c4⟩, c5⟩, c6⟩, c7⟩ := c
  exact ⟨c1, foB_ok c2, foB_ok c3, of_decide_eq_true c4, foB_ok c5, of_decide_eq_true c6, c7⟩
theorem conB1_ok (X : K.In h) (G : h.Ns mainGlobals mg) {p : Str × AV} (c : conB1 K p = true) : ∃ v u, mg p.1 = some u ∧ RelV v u ∧ ∀ G F ι, Den G F ι v p.2 := by
  obtain ⟨x, av⟩ := p
  unfold conB1 at c
  cases av with
  | int i =>
    obtain ⟨t, e⟩ := He.int_ok X G c
    exact ⟨.int i, _, e, ⟨t, rfl⟩, fun _ _ _ => .int i⟩
  | str z =>
    obtain ⟨t, e⟩ := He.str_ok X G c
    exact ⟨.str z, _, e, ⟨t, rfl⟩, fun _ _ _ => .str z⟩
  | _ => cases c
theorem each_ok {w : World} (X : K.In h) (G : h.Ns mainGlobals mg) (c : He.SaysX [] (fnsOf S sites) [] (tfOf S) (fun K => coreB K S sites) w h K) (hc : (S.all fun f => chkFn S sites f) = true) (st : StAll sites 0 S)
    (TB : ∀ p ∈ (tfOf S).map (He.cT K), LamX.TabB base mg p.1 p.2) : ∀ k f, S[k]? = some f → EachOk S sites (gnK K S sites) K mg base k f := fun k f hf => by
  have cb : coreB K S sites = true := c.more
  unfold coreB at cb
  simp only [Bool.and_eq_true] at cb
  obtain ⟨⟨⟨⟨⟨⟨⟨⟨c1, c2⟩, c3⟩, c4⟩, c5⟩, c6⟩, c9⟩, c8⟩, c7⟩ := cb
  have hm : f ∈ S := List.mem_of_getElem? hf
  obtain ⟨fd, FD⟩ := c.t.d.defs (d := f.dd) (List.mem_append_left _ (List.mem_map_of_mem hm))
  have si := st.get hf K _ fd FD
  rw [Nat.zero_add] at si
  obtain ⟨oc, od, dV, kV, doc, pm, an, cdv, ct, osl, e, lk, hcd, _, _⟩ := FD.ex
  refine ⟨List.all_eq_true.mp hc f hm, He.fAd K f.at_, fd, by show (S[k]?).map _ = _; rw [hf]; rfl, fun hq => ?_, ⟨oc, od, dV, kV, doc, pm, an, cdv, ct, osl, e, lk, hcd⟩, fun hl => ?_, fun np ks perm hs => si.mem (np, ks, perm) (List.mem_map.mpr ⟨_, List.mem_filter.mpr ⟨hs, by simp⟩, rfl⟩)⟩
  · have g1 := List.all_eq_true.mp c1 f hm
    rw [hq] at g1
    have ea : f.at_ = (f.d.name, none) := by unfold FnS.at_; rw [hq]
    rw [ea]
    refine ⟨gloB_ok X G (by simpa using g1), ?_⟩
    have := FD.kp
    rw [show f.dd.at_ = f.at_ from rfl, ea] at this
    exact this
  · obtain ⟨cc, rfl⟩ := He.codeIn_ref hcd
    have ec : He.codeOf K f.at_ = cc := He.codeOf_eq lk (by rw [e])
    have hfl : f ∈ S.filter (·.lam) := List.mem_filter.mpr ⟨hm, hl⟩
    have hT : ((He.cT K f.at_).2, f.lq) ∈ aT K S := List.mem_map.mpr ⟨f, hfl, rfl⟩
    refine ⟨cc, (He.cT K f.at_).2, by rw [e], ?_, hT, fun p hp ep => ?_⟩
    · have := TB (He.cT K f.at_) (List.mem_map.mpr ⟨_, List.mem_map.mpr ⟨f, hfl, rfl⟩, rfl⟩)
      rw [show (He.cT K f.at_).1 = cc from ec] at this
      exact this
    · have hp' : (p.1, p.2) ∈ aT K S := hp
      rw [ep] at hp'
      exact nodup_snd (of_decide_eq_true c7) hp' hT
theorem cls_ok {w : World} (X : K.In h) (G : h.Ns mainGlobals mg) (c : He.SaysX [] (fnsOf S sites) [] (tfOf S) (fun K => coreB K S sites) w h K) (xs : ExStAll sites.ex) : ClsOk S sites (gnK K S sites) K mg ∧ ∀ x ∈ bltNames, mg x = none := by
  have cb : coreB K S sites = true := c.more
  unfold coreB at cb
  simp only [Bool.and_eq_true] at cb
  obtain ⟨⟨⟨⟨⟨⟨⟨⟨c1, c2⟩, c3⟩, c4⟩, c5⟩, c6⟩, c9⟩, c8⟩, c7⟩ := cb
  have exat : ∀ {k : Nat} {C : Addr}, (gnK K S sites).exA k = some C → ∃ d, sites.ex[k]? = some d ∧ C = He.ga K d.name ∧ exB K sites k d = true := fun {k C} e => by
    have e : (sites.ex[k]?).map (fun d => He.ga K d.name) = some C := e
    cases hd : sites.ex[k]? with
    | none => rw [hd] at e; cases e
    | some d =>
      rw [hd] at e; cases e
      have := exsB_get c4 hd
      rw [Nat.zero_add] at this
      exact ⟨d, rfl, rfl, this⟩
  have clat : ∀ {k : Nat} {C : Addr}, (gnK K S sites).clA k = some C → ∃ d, sites.cl[k]? = some d ∧ C = He.ga K d.name := fun {k C} e => by
    have e : (sites.cl[k]?).map (fun d => He.ga K d.name) = some C := e
    cases hd : sites.cl[k]? with
    | none => rw [hd] at e; cases e
    | some d =>
      rw [hd] at e; cases e
      exact ⟨d, rfl, rfl⟩
  refine ⟨⟨fun i d hd => ?_, fun i C hC => ?_, fun i m k hm C hC => ?_, fun i C k D hC hD => ?_, fun k D t hD ht => ?_, fun k d hd => ?_, fun hne => ?_, fun k C hC => ?_, fun k C j D hC hD => ?_, fun k D hD => ?_, fun k C f hC hf => ?_, fun p hp => conB1_ok X G (List.all_eq_true.mp c6 p hp)⟩, fun x hx => He.free_ok X G (List.all_eq_true.mp c2 x hx)⟩
  · have k0 := List.all_eq_true.mp c3 d (List.mem_of_getElem? hd)
    unfold clB at k0
    simp only [Bool.and_eq_true] at k0
    obtain ⟨⟨⟨⟨⟨⟨⟨⟨k1, k2⟩, k3⟩, k4⟩, k5⟩, k6⟩, k7⟩, k8⟩, k9⟩ := k0
    obtain ⟨f, hf, m1, m2⟩ := methB_ok k8
    refine ⟨He.ga K d.name, by show (sites.cl[i]?).map _ = _; rw [hd]; rfl, ⟨gloB_ok X G k1, He.cls_ok k2, fun f hf => foB_ok (List.all_eq_true.mp k3 f hf), foB_ok k4, of_decide_eq_true k5, k6, k7⟩, ⟨f, _, hf, by show (S[d.ini]?).map _ = _; rw [hf]; rfl, m1, m2⟩, fun k hk => ?_⟩
    rw [hk] at k9
    simp only [Bool.and_eq_true] at k9
    obtain ⟨f2, hf2, q1, q2⟩ := methB_ok k9.1.1
    exact ⟨_, by show (S[k]?).map _ = _; rw [hf2]; rfl, q1, q2, foB_ok k9.1.2, fun T hT => List.all_eq_true.mp k9.2 T hT⟩
  · have hC : (sites.cl[i]?).map (fun d => He.ga K d.name) = some C := hC
    cases hd : sites.cl[i]? with
    | none => rw [hd] at hC; cases hC
    | some d => exact ⟨d, rfl⟩
  · obtain ⟨d, hd, rfl⟩ := clat hC
    have z := List.all_eq_true.mp c9 _ hm
    unfold mtB at z
    dsimp only at z
    rw [hd] at z
    cases hf : S[k]? with
    | none => rw [hf] at z; cases z
    | some f =>
      rw [hf] at z
      simp only [Bool.and_eq_true] at z
      have k0 := List.all_eq_true.mp c3 d (List.mem_of_getElem? hd)
      unfold clB at k0
      simp only [Bool.and_eq_true] at k0
      exact ⟨He.fAd K f.at_, by show (S[k]?).map _ = _; rw [hf]; rfl, He.cls_ok k0.1.1.1.1.1.1.1.2, ⟨foB_ok z.1.1, z.1.2, z.2⟩⟩
  · obtain ⟨d, hd, rfl⟩ := clat hC
    obtain ⟨d2, hd2, rfl⟩ := clat hD
    have := kitB1_get (kitsB_get c8 hd).1 hd2
    simp only [Nat.zero_add] at this
    exact this
  · obtain ⟨d, hd, rfl⟩ := clat hD
    exact (kitsB_get c8 hd).2 t ht
  · have e := exsB_get c4 hd
    rw [Nat.zero_add] at e
    unfold exB at e
    simp only [Bool.and_eq_true] at e
    obtain ⟨⟨⟨⟨⟨⟨⟨⟨⟨⟨⟨e1, e2⟩, e3⟩, e4⟩, e5⟩, e6⟩, e7⟩, e8⟩, e9⟩, e10⟩, e11⟩, e12⟩ := e
    have hne : sites.ex.isEmpty = false := by
      cases hx : sites.ex with
      | nil => rw [hx] at hd; simp at hd
      | cons _ _ => rfl
    rw [hne, Bool.false_or, Bool.and_eq_true] at c5
    obtain ⟨fd, FD⟩ := c.t.d.defs (d := d.dd) (List.mem_append_right _ (List.mem_map_of_mem (List.mem_of_getElem? hd)))
    have bn := xs.get hd K _ fd FD
    obtain ⟨oc, od, dV, kV, doc, pm, an, cdv, ct, osl, ee, lk, hcd, hD, _⟩ := FD.ex
    have hdV : dV = .none := by
      rcases hD with ⟨_, z⟩ | ⟨z, _⟩
      · exact z
      · exact absurd rfl z
    subst hdV
    exact ⟨He.ga K d.name, by show (sites.ex[k]?).map _ = _; rw [hd]; rfl, ⟨gloB_ok X G e1, oexB_ok e2, fun f hf => foB_ok (List.all_eq_true.mp e3 f hf), _, _, sites.xb, d.name ++ ".__init__", d.st, fd, gloB_ok X G c5.1, baseC_ok c5.2, foB_ok e4, of_decide_eq_true e5, ⟨⟨oc, od, kV, doc, pm, an, cdv, ct, osl, ee, lk, hcd⟩, FD.kp⟩, e6, bn⟩, of_decide_eq_true e7⟩
  · have hne2 : sites.ex.isEmpty = false := by
      cases hx : sites.ex with
      | nil => exact absurd hx hne
      | cons _ _ => rfl
    rw [hne2, Bool.false_or, Bool.and_eq_true] at c5
    refine ⟨_, gloB_ok X G c5.1, fun k C hC => ?_⟩
    obtain ⟨d, hd, rfl, e⟩ := exat hC
    unfold exB at e
    simp only [Bool.and_eq_true] at e
    exact of_decide_eq_true e.1.1.1.1.2
  · obtain ⟨d, hd, rfl, e⟩ := exat hC
    unfold exB at e
    simp only [Bool.and_eq_true] at e
    exact exIsB_ok e.1.1.1.2
  · obtain ⟨d, hd, rfl, e⟩ := exat hC
    obtain ⟨d2, hd2, rfl, _⟩ := exat hD
    unfold exB at e
    simp only [Bool.and_eq_true] at e
    have := rowB_get e.1.1.2 hd2
    rwa [Nat.zero_add] at this
  · obtain ⟨d, hd, rfl, e⟩ := exat hD
    unfold exB at e
    simp only [Bool.and_eq_true] at e
    exact of_decide_eq_true e.1.2
  · obtain ⟨d, hd, rfl, e⟩ := exat hC
    unfold exB at e
    simp only [Bool.and_eq_true] at e
    exact foB_ok (List.all_eq_true.mp e.2 f hf)
end
theorem den_ints {G : GS} {F : Hp} {ι : List Addr} : ∀ ns : List Int, DenAll G F ι (ns.map V.int) (ns.map AV.int)
  | [] => .nil
  | n :: r => .cons (.int n) (den_ints r)
/-- what the head leaves: a law, from its core -/
theorem walk_ev {l : PySem.W.OpenLaw} {n : Nat} {q : Program} {loose : List Str} {XP : (Str → Option Value) → Heap → Prop} {YP : World → Heap → Prop} {dr : DefRec} {x : Str} (S : List FnS) (sites : Sites) (d kk : Nat) {f : FnS}
    (h1 : l.most = some n) (h2 : n ≤ sizeLine) (h3 : dr.params.defaults = []) (h4 : Room (lv (d + 1)) callerA) (h5 : ∀ (w : World) (h : Heap), YP w h → ∃ K : PySem.W.Frag, K.In h ∧ He.SaysX [] (fnsOf S sites) [] (tfOf S) (fun K => coreB K S sites) w h K)
    (hf : S[kk]? = some f) (hx : f.N.take f.d.nps = [x]) (hnm : dr.name = f.d.name) (hq : f.q = none) (hh : f.d.hd = false) (hc : (S.all fun f => chkFn S sites f) = true) (hm : (kk, 1, [], [PArg.at 0]) ∈ sites.at') (st : StAll sites 0 S) (xs : ExStAll sites.ex)
    (hl : ∀ ns : List Int, ns.length ≤ n → (∀ k ∈ ns, Builtin.Int.intBits k ≤ 1048576) → ∃ s', callF (dsOf S) (d + 1) kk [.lst (ns.map AV.int)] false ⟨[], false⟩ = .ok (.bl true) s') :
    PySem.W.WalkO q loose XP YP l.row.toRowW dr [] (fun f vs => PySem.call f vs) := by
  refine Att.attach_callB h1 h3 fun w s t mg mb fa o pm cd doc a vs ns G Y c1 c2 c3 c4 c5 c6 c7 c8 c9 => ?_
  obtain ⟨K, KX, says⟩ := h5 w _ Y
  have cf : chkFn S sites f = true := List.all_eq_true.mp hc f (List.mem_of_getElem? hf)
  obtain ⟨_, hlen, _, _⟩ := scope_of cf hh
  obtain ⟨clsok, blok⟩ := cls_ok KX G.T.g says xs
  have tabs : ∀ p ∈ (tfOf S).map (He.cT K), t.heap.get? p.2 = some { cls := .none, data := .fields #[] } ∧ K.lookup p.2 = none ∧ PySem.W.CodeHd t.heap p.1 p.2 := fun p hp => by
    obtain ⟨z, hz, rfl⟩ := List.mem_map.mp hp
    exact ⟨says.empty z hz, says.out z hz, PySem.W.codeHd_of_K KX (says.hd z hz)⟩
  -- the def's object, once
  have one : ∃ a fd, mg f.d.name = some (.ref a) ∧ DefIs K f a fd ∧ ∀ np ks perm, (kk, np, ks, perm) ∈ sites.at' → SiteOk K fd (f.N.take f.d.nps) np ks perm := by
    have cb : coreB K S sites = true := says.more
    unfold coreB at cb
    simp only [Bool.and_eq_true] at cb
    have hmf : f ∈ S := List.mem_of_getElem? hf
    obtain ⟨fd, FD⟩ := says.t.d.defs (d := f.dd) (List.mem_append_left _ (List.mem_map_of_mem hmf))
    have si := st.get hf K _ fd FD
    rw [Nat.zero_add] at si
    obtain ⟨oc, od, dV, kV, doc, pm, an, cdv, ct, osl, e, lk, hcd, _, _⟩ := FD.ex
    have g1 := List.all_eq_true.mp cb.1.1.1.1.1.1.1.1 f hmf
    rw [hq] at g1
    have ea : f.at_ = (f.d.name, none) := by unfold FnS.at_; rw [hq]
    refine ⟨He.fAd K f.at_, fd, ?_, ⟨oc, od, dV, kV, doc, pm, an, cdv, ct, osl, e, lk, hcd⟩, fun np ks perm hs => si.mem (np, ks, perm) (List.mem_map.mpr ⟨_, List.mem_filter.mpr ⟨hs, by simp⟩, rfl⟩)⟩
    rw [ea]
    exact gloB_ok KX G.T.g (by simpa using g1)
  obtain ⟨fa', fd, e1, e3, e4⟩ := one
  rw [hnm, e1] at c4
  cases c4
  have site : SiteOk K fd (f.N.take f.d.nps) 1 [] [.at 0] := e4 1 [] [.at 0] hm
  rw [hx] at site
  obtain ⟨us', pv, bnd⟩ := site t [.ref a] [] KX rfl rfl
  cases pv with
  | «at» hz hr =>
    cases hr
    cases hz
    refine call_law (k := lv (d + 1)) (cs := (tfOf S).map (He.cT K)) (sp := spF ⟨K, (gnK K S sites).fnA, (gnK K S sites).clA, (gnK K S sites).exA, (gnK K S sites).T⟩ (dsOf S) (d + 1) kk f.d.nps) KX G.T.g G.T.b G.T.builtins G.T.nolimit c9 tabs G.T.bmain c5 c6 (Nat.le_trans c7 h2) h4 (fun b kb nb TB => ?_) bnd fun H hT sq => ?_
    · have ea := each_ok (base := b) KX G.T.g says hc st TB
      obtain ⟨a2, fd2, _, hm2, D2, L2', _⟩ := (ea kk f hf).at'
      have ee : a2 = fa := by
        have := (hm2 hq).1
        rw [e1] at this
        cases this; rfl
      subst ee
      have efd : fd2 = fd := by
        obtain ⟨oc, od, dV, kV, doc, pm, an, cdv, ct, osl, e, lk, _⟩ := e3.ex
        obtain ⟨oc', od', dV', kV', doc', pm', an', cdv', ct', osl', e', lk', _⟩ := D2.ex
        rw [lk] at lk'
        cases lk'
        rfl
      subst efd
      have := fn_succ (g := gnK K S sites) (P := l.prog) (w := w) (base := b) hf cf hh D2 L2' (prog_all ea clsok blok d)
      rw [hx] at this
      exact this
    · obtain ⟨s', hs⟩ := hl ns c7 c8
      have h1n : f.d.nps = 1 := by rw [← hlen, hx]; rfl
      have tT : LamX.Tabs (aT K S) H := fun p hp => by
        obtain ⟨z, hz, rfl⟩ := List.mem_map.mp hp
        exact LamX.TabS.nil (hT (He.cT K z.at_) (List.mem_map.mpr ⟨z.at_, List.mem_map.mpr ⟨z, hz, rfl⟩, rfl⟩))
      refine ⟨false, fun _ => none, fun b => if b ∈ (aT K S).map (·.1) then none else H b, [], ⟨[], false⟩, [.lst (ns.map AV.int)], by rw [h1n]; rfl, ⟨fun b o e => ?_, fun a o e => (nomatch e), rfl, List.nodup_nil, fun a ha => (nomatch ha), fun n a o hn => (nomatch hn), ⟨tT, fun p hp => if_pos (List.mem_map_of_mem hp), fun _ _ => rfl, fun _ _ z => nomatch z⟩⟩, .cons (.lst ?_ (den_ints ns)) .nil, ?_⟩
      · split at e
        · cases e
        · exact e
      · have na : a ∉ (aT K S).map (·.1) := fun z => by
          obtain ⟨p, hp, ep⟩ := List.mem_map.mp z
          obtain ⟨z2, hz2, rfl⟩ := List.mem_map.mp hp
          have := (tabs (He.cT K z2.at_) (List.mem_map.mpr ⟨z2.at_, List.mem_map.mpr ⟨z2, hz2, rfl⟩, rfl⟩)).1
          rw [show (He.cT K z2.at_).2 = a from ep, c5] at this
          cases this
        rcases sq with (e | ⟨u, e⟩) | e
        · exact .inl (.inl (by show (if a ∈ _ then none else H a) = _; rw [if_neg na]; exact e))
        · exact .inl (.inr ⟨u, by show (if a ∈ _ then none else H a) = _; rw [if_neg na]; exact e⟩)
        · exact .inr e
      · rw [hs]
        exact fun v H' F' ι' _ _ dn => by cases dn; rfl
end Ev

section
set_option maxHeartbeats 4000000
namespace K51
section
open PySem PySem.Spec PyProof.Rows Ev
section
open L2
def tp (i : Nat) : Stmt := (PySem.Challenge.pw_stonerounds_k51_kits_kept_and_refused).main.body.getD i (.Pass ⟨0, 0, 0, 0⟩)
def tpm (i j : Nat) : Stmt := match tp i with | .ClassDef _ _ _ b .. => b.getD j (.Pass ⟨0, 0, 0, 0⟩) | s => s
/-- 0: is_integer(value) -/
def d0 : FnD := ⟨"is_integer", 1, 1, [(.ret (.and (.isi (.var 0) ["int"]) (.not (.isi (.var 0) ["bool"]))))], false⟩
def f0 : FnS := { d := d0, N := ["value"], st := (tp 9), q := none, cn := Str.empty, dfl := [], lam := false }
/-- 1: is_within(value, least, most) -/
def d1 : FnD := ⟨"is_within", 3, 3, [(.ifS (.not (.call 0 [(.var 0)] [] [] [.at 0] false)) [(.ret (.bl false))] []), (.ret (.and (.or (.cmp .isN (.var 1) .non) (.cmp .le (.var 1) (.var 0))) (.or (.cmp .isN (.var 2) .non) (.cmp .le (.var 0) (.var 2)))))], false⟩
def f1 : FnS := { d := d1, N := ["value", "least", "most"], st := (tp 10), q := none, cn := Str.empty, dfl := [], lam := false }
/-- 2: is_list(value) -/
def d2 : FnD := ⟨"is_list", 1, 1, [(.ret (.isi (.var 0) ["list", "tuple"]))], false⟩
def f2 : FnS := { d := d2, N := ["value"], st := (tp 11), q := none, cn := Str.empty, dfl := [], lam := false }
/-- 3: need_integer(value, part, least, most) -/
def d3 : FnD := ⟨"need_integer", 4, 4, [(.ifS (.not (.call 1 [(.var 0), (.var 2), (.var 3)] [] [] [.at 0, .at 1, .at 2] false)) [(.raiseS 0 ["part"] [(.var 1)])] [])], false⟩
def f3 : FnS := { d := d3, N := ["value", "part", "least", "most"], st := (tp 12), q := none, cn := Str.empty, dfl := [], lam := false }
/-- 4: are_unlike(cells) -/
def d4 : FnD := ⟨"are_unlike", 1, 1, [(.ret (.cmp .eq (.blc .lenI (.var 0)) (.blt .len false [(.var 0)])))], false⟩
def f4 : FnS := { d := d4, N := ["cells"], st := (tp 22), q := none, cn := Str.empty, dfl := [], lam := false }
/-- 5: is_clue(value, many, cell) -/
def d5 : FnD := ⟨"is_clue", 2, 3, [(.ifS (.or (.not (.call 2 [(.var 0)] [] [] [.at 0] false)) (.or (.cmp .ne (.blt .len false [(.var 0)]) (.int 2)) (.not (.call 1 [(.idx (.var 0) (.int 0)), (.int 0), (.glob "MOST_SEEN" (.int 8))] [] [] [.at 0, .at 1, .at 2] false)))) [(.ret (.bl false))] []), (.ifS (.or (.not (.call 2 [(.idx (.var 0) (.int 1))] [] [] [.at 0] false)) (.cmp .gt (.blt .len false [(.idx (.var 0) (.int 1))]) (.glob "MOST_SEEN" (.int 8)))) [(.ret (.bl false))] []), (.ret (.and (.blt .all false [(.comp false [2] (.var 2) (.idx (.var 0) (.int 1)) [] (.call 1 [(.var 2), (.int 0), (.bin .sub (.var 1) (.int 1))] [] [] [.at 0, .at 1, .at 2] false))]) (.call 4 [(.idx (.var 0) (.int 1))] [] [] [.at 0] false)))], false⟩
def f5 : FnS := { d := d5, N := ["value", "many", "cell"], st := (tp 23), q := none, cn := Str.empty, dfl := [], lam := false }
/-- 6: is_kind(value) -/
def d6 : FnD := ⟨"is_kind", 1, 1, [(.ifS (.or (.not (.call 2 [(.var 0)] [] [] [.at 0] false)) (.or (.cmp .ne (.blt .len false [(.var 0)]) (.int 2)) (.not (.call 1 [(.idx (.var 0) (.int 1)), (.int 1), (.glob "MOST_CELLS_kits" (.int 8))] [] [] [.at 0, .at 1, .at 2] false)))) [(.ret (.bl false))] []), (.ret (.call 1 [(.idx (.var 0) (.int 0)), (.int 0), (.idx (.var 0) (.int 1))] [] [] [.at 0, .at 1, .at 2] false))], false⟩
def f6 : FnS := { d := d6, N := ["value"], st := (tp 32), q := none, cn := Str.empty, dfl := [], lam := false }
/-- 7: need_kit(value) -/
def d7 : FnD := ⟨"need_kit", 1, 1, [(.ifS (.not (.isc (.var 0) 1 [1])) [(.raiseS 1 ["part"] [(.str "kit")])] [])], false⟩
def f7 : FnS := { d := d7, N := ["value"], st := (tp 34), q := none, cn := Str.empty, dfl := [], lam := false }
/-- 8: need_book(value) -/
def d8 : FnD := ⟨"need_book", 1, 1, [(.ifS (.not (.isc (.var 0) 0 [0])) [(.raiseS 2 ["part"] [(.str "book")])] [])], false⟩
def f8 : FnS := { d := d8, N := ["value"], st := (tp 35), q := none, cn := Str.empty, dfl := [], lam := false }
/-- 9: kinds_in(book, found, k, cells, kind) -/
def d9 : FnD := ⟨"kinds_in", 1, 5, [(.asg (.var 1) (.comp false [2, 3] (.tup [(.var 2), (.var 3)]) (.attr (.var 0) "clues") [] (.tup [(.var 2), (.blt .len false [(.var 3)])]))), (.ret (.comp false [4] (.var 4) (.var 1) [] (.ite (.call 6 [(.var 4)] [] [] [.at 0] false) (.var 4) .non)))], false⟩
def f9 : FnS := { d := d9, N := ["book", "found", "k", "cells", "kind"], st := (tp 36), q := none, cn := Str.empty, dfl := [], lam := false }
/-- 10: is_plain(kind) -/
def d10 : FnD := ⟨"is_plain", 1, 1, [(.ret (.or (.cmp .eq (.idx (.var 0) (.int 0)) (.int 0)) (.cmp .eq (.idx (.var 0) (.int 0)) (.idx (.var 0) (.int 1)))))], false⟩
def f10 : FnS := { d := d10, N := ["kind"], st := (tp 37), q := none, cn := Str.empty, dfl := [], lam := false }
/-- 11: sort_in(kit, proper, kind, k, n) -/
def d11 : FnD := ⟨"sort_in", 1, 5, [(.asg (.var 1) (.comp false [2] (.var 2) (.attr (.var 0) "kinds") [(.not (.call 10 [(.var 2)] [] [] [.at 0] false))] (.var 2))), (.ifS (.cmp .eq (.var 1) (.lst false [])) [(.ret (.glob "SINGLE" (.str "single")))] []), (.ifS (.cmp .eq (.var 1) (.lst false [(.tup [(.int 1), (.int 2)])])) [(.ret (.glob "PAIRS" (.str "pairs")))] []), (.ifS (.and (.cmp .eq (.blt .len false [(.var 1)]) (.blt .len false [(.attr (.var 0) "kinds")])) (.blt .all false [(.comp false [3, 4] (.tup [(.var 3), (.var 4)]) (.var 1) [] (.cmp .eq (.var 4) (.bin .mul (.int 2) (.var 3))))])) [(.ret (.glob "EXCHANGE" (.str "exchange")))] []), (.ret (.glob "ALL" (.str "all")))], false⟩
def f11 : FnS := { d := d11, N := ["kit", "proper", "kind", "k", "n"], st := (tp 38), q := none, cn := Str.empty, dfl := [], lam := false }
/-- 12: kinds_of(book) -/
def d12 : FnD := ⟨"kinds_of", 1, 1, [(.expr (.call 8 [(.var 0)] [] [] [.at 0] false)), (.ret (.blt .tuple false [(.call 9 [(.var 0)] [] [] [.at 0] false)]))], false⟩
def f12 : FnS := { d := d12, N := ["book"], st := (tp 39), q := none, cn := Str.empty, dfl := [], lam := false }
/-- 13: kit_of(book, found) -/
def d13 : FnD := ⟨"kit_of", 1, 2, [(.expr (.call 8 [(.var 0)] [] [] [.at 0] false)), (.asg (.var 1) (.call 9 [(.var 0)] [] [] [.at 0] false)), (.ifS (.cmp .inn .non (.var 1)) [(.raiseS 3 ["part"] [(.str "clues")])] []), (.ret (.new false 1 28 [(.blc .sortset (.var 1))] [] [] [.at 0, .at 1]))], false⟩
def f13 : FnS := { d := d13, N := ["book", "found"], st := (tp 40), q := none, cn := Str.empty, dfl := [], lam := false }
/-- 14: is_of(book, kit, kind) -/
def d14 : FnD := ⟨"is_of", 2, 3, [(.expr (.call 8 [(.var 0)] [] [] [.at 0] false)), (.expr (.call 7 [(.var 1)] [] [] [.at 0] false)), (.ret (.blt .all false [(.comp false [2] (.var 2) (.call 9 [(.var 0)] [] [] [.at 0] false) [] (.cmp .inn (.var 2) (.attr (.var 1) "kinds")))]))], false⟩
def f14 : FnS := { d := d14, N := ["book", "kit", "kind"], st := (tp 41), q := none, cn := Str.empty, dfl := [], lam := false }
/-- 15: sort_of(kit) -/
def d15 : FnD := ⟨"sort_of", 1, 1, [(.expr (.call 7 [(.var 0)] [] [] [.at 0] false)), (.ret (.call 11 [(.var 0)] [] [] [.at 0] false))], false⟩
def f15 : FnS := { d := d15, N := ["kit"], st := (tp 42), q := none, cn := Str.empty, dfl := [], lam := false }
/-- 16: turned_kit(kit, k, n) -/
def d16 : FnD := ⟨"turned_kit", 1, 3, [(.expr (.call 7 [(.var 0)] [] [] [.at 0] false)), (.ret (.new false 1 28 [(.comp false [1, 2] (.tup [(.var 1), (.var 2)]) (.attr (.var 0) "kinds") [] (.tup [(.bin .sub (.var 2) (.var 1)), (.var 2)]))] [] [] [.at 0, .at 1]))], false⟩
def f16 : FnS := { d := d16, N := ["kit", "k", "n"], st := (tp 43), q := none, cn := Str.empty, dfl := [], lam := false }
/-- 17: _law_satchel(script, cell) -/
def d17 : FnD := ⟨"_law_satchel", 1, 2, [(.ret (.lst true [(.comp false [1] (.var 1) (.slc (.var 0) none (some (.int 60))) [] (.blt .int false [(.var 1)])), (.int 0), (.int 0)]))], false⟩
def f17 : FnS := { d := d17, N := ["script", "cell"], st := (tp 45), q := none, cn := Str.empty, dfl := [], lam := false }
/-- 18: _law_strap(satchel, many, left, turn, cell, mixed) -/
def d18 : FnD := ⟨"_law_strap", 2, 6, [(.ifS (.cmp .eq (.idx (.var 0) (.int 0)) (.lst false [])) [(.ret (.int 0))] []), (.ifS (.cmp .gt (.idx (.var 0) (.int 2)) (.int 0)) [(.asg (.var 2) (.blt .int false [(.idx (.var 0) (.int 2))])), (.setIx (.var 0) (.int 2) (.bin .div (.var 2) (.var 1))), (.ret (.bin .mod (.blt .int false [(.var 2)]) (.var 1)))] []), (.asg (.var 3) (.idx (.var 0) (.int 1))), (.setIx (.var 0) (.int 1) (.bin .add (.var 3) (.int 1))), (.asg (.var 4) (.idx (.idx (.var 0) (.int 0)) (.bin .mod (.blt .int false [(.var 3)]) (.blt .len false [(.idx (.var 0) (.int 0))])))), (.ifS (.and (.cmp .lt (.var 3) (.blt .len false [(.idx (.var 0) (.int 0))])) (.cmp .ge (.blt .abs false [(.var 4)]) (.bin .pow (.int 10) (.int 18)))) [(.asg (.var 2) (.bin .add (.bin .mul (.int 2) (.bin .sub (.blt .abs false [(.blt .int false [(.var 4)])]) (.bin .pow (.int 10) (.int 18)))) (.blt .int false [(.cmp .lt (.var 4) (.int 0))]))), (.setIx (.var 0) (.int 2) (.bin .div (.var 2) (.var 1))), (.ret (.bin .mod (.blt .int false [(.var 2)]) (.var 1)))] []), (.asg (.var 5) (.bin .mod (.blt .int false [(.bin .pow (.bin .add (.bin .add (.bin .mod (.blt .int false [(.var 4)]) (.int 2147483543)) (.bin .mul (.int 47737) (.var 3))) (.int 2750)) (.int 5))]) (.int 2147483477))), (.asg (.var 5) (.bin .mod (.blt .int false [(.bin .pow (.bin .add (.bin .add (.bin .mul (.var 5) (.bin .add (.bin .mul (.int 2) (.var 3)) (.int 2388))) (.bin .mul (.bin .mul (.int 92381) (.var 3)) (.var 3))) (.int 47737)) (.int 3))]) (.int 2147483579))), (.ret (.bin .mod (.blt .int false [(.bin .div (.var 5) (.int 64))]) (.var 1)))], false⟩
def f18 : FnS := { d := d18, N := ["satchel", "many", "left", "turn", "cell", "mixed"], st := (tp 46), q := none, cn := Str.empty, dfl := [], lam := false }
/-- 19: _law_buckle(satchel, some) -/
def d19 : FnD := ⟨"_law_buckle", 2, 2, [(.ret (.idx (.var 1) (.call 18 [(.var 0), (.blt .len false [(.var 1)])] [] [] [.at 0, .at 1] false)))], false⟩
def f19 : FnS := { d := d19, N := ["satchel", "some"], st := (tp 47), q := none, cn := Str.empty, dfl := [], lam := false }
/-- 20: _law_stirred(satchel, some, left, found) -/
def d20 : FnD := ⟨"_law_stirred", 2, 4, [(.asg (.tup [(.var 2), (.var 3)]) (.tup [(.blt .list true [(.var 1)]), (.lst true [])])), (.whileS (.cmp .ne (.var 2) (.lst false [])) [(.expr (.bm .append (.var 3) [(.bm .pop (.var 2) [(.call 18 [(.var 0), (.blt .len false [(.var 2)])] [] [] [.at 0, .at 1] false)])]))]), (.ret (.var 3))], false⟩
def f20 : FnS := { d := d20, N := ["satchel", "some", "left", "found"], st := (tp 48), q := none, cn := Str.empty, dfl := [], lam := false }
/-- 21: _law_kinds(satchel, way, some, plain, turn, n) -/
def d21 : FnD := ⟨"_law_kinds", 1, 6, [(.asg (.tup [(.var 1), (.var 2)]) (.tup [(.call 18 [(.var 0), (.int 6)] [] [] [.at 0, .at 1] false), (.lst true [])])), (.asg (.var 3) (.comp false [4] (.var 4) (.rng [(.call 19 [(.var 0), (.lst false [(.int 1), (.int 0), (.int 2), (.int 1), (.int 3)])] [] [] [.at 0, .at 1] false)]) [] (.call 19 [(.var 0), (.lst false [(.tup [(.int 0), (.int 1)]), (.tup [(.int 1), (.int 1)]), (.tup [(.int 0), (.int 3)]), (.tup [(.int 2), (.int 2)]), (.tup [(.int 0), (.int 8)]), (.tup [(.int 5), (.int 5)])])] [] [] [.at 0, .at 1] false))), (.ifS (.cmp .eq (.var 1) (.int 0)) [(.asg (.var 2) (.var 3))] []), (.ifS (.cmp .eq (.var 1) (.int 1)) [(.asg (.var 2) (.bin .cat (.lst false [(.tup [(.int 1), (.int 2)])]) (.call 19 [(.var 0), (.lst false [(.var 3), (.lst false [])])] [] [] [.at 0, .at 1] false)))] []), (.ifS (.cmp .eq (.var 1) (.int 2)) [(.asg (.var 2) (.call 19 [(.var 0), (.lst false [(.lst true [(.tup [(.int 2), (.int 4)])]), (.lst true [(.tup [(.int 1), (.int 2)]), (.tup [(.int 3), (.int 6)])]), (.lst true [(.tup [(.int 4), (.int 8)]), (.tup [(.int 2), (.int 4)])]), (.lst true [(.tup [(.int 1), (.int 2)]), (.tup [(.int 2), (.int 4)]), (.tup [(.int 3), (.int 6)]), (.tup [(.int 4), (.int 8)])])])] [] [] [.at 0, .at 1] true))] []), (.ifS (.cmp .eq (.var 1) (.int 3)) [(.asg (.var 2) (.bin .cat (.lst false [(.call 19 [(.var 0), (.lst false [(.tup [(.int 2), (.int 4)]), (.tup [(.int 3), (.int 6)]), (.tup [(.int 4), (.int 8)])])] [] [] [.at 0, .at 1] false)]) (.call 19 [(.var 0), (.lst false [(.var 3), (.lst false [(.tup [(.int 0), (.int 1)])]), (.lst false [(.tup [(.int 1), (.int 2)]), (.tup [(.int 3), (.int 3)])])])] [] [] [.at 0, .at 1] false)))] []), (.ifS (.cmp .gt (.var 1) (.int 3)) [(.forS (.var 4) (.rng [(.bin .add (.int 1) (.call 18 [(.var 0), (.int 4)] [] [] [.at 0, .at 1] false))]) [(.asg (.var 5) (.bin .add (.int 1) (.call 18 [(.var 0), (.int 8)] [] [] [.at 0, .at 1] false))), (.expr (.bm .append (.var 2) [(.tup [(.call 18 [(.var 0), (.bin .add (.var 5) (.int 1))] [] [] [.at 0, .at 1] false), (.var 5)])]))])] []), (.ret (.blc .sortset (.var 2)))], false⟩
def f21 : FnS := { d := d21, N := ["satchel", "way", "some", "plain", "turn", "n"], st := (tp 49), q := none, cn := Str.empty, dfl := [], lam := false }
/-- 22: _law_heard(ask, caught, error, kinds, words, word, is_so) -/
def d22 : FnD := ⟨"_law_heard", 1, 7, [(.asg (.var 3) (.lst false [(.tup [(.str "book"), (.isx (.var 1) 2)]), (.tup [(.str "kit"), (.isx (.var 1) 1)]), (.tup [(.str "misfit"), (.isx (.var 1) 3)])])), (.asg (.var 4) (.comp false [5, 6] (.tup [(.var 5), (.var 6)]) (.var 3) [(.var 6)] (.var 5))), (.ifS (.cmp .eq (.blt .len false [(.var 4)]) (.int 1)) [(.ret (.tup [(.idx (.var 4) (.int 0)), (.xattr (.var 1) "part")]))] []), (.ret (.ite (.cmp .isN (.var 1) .non) .non (.tup [(.str "other"), .non])))], true⟩
def f22 : FnS := { d := d22, N := ["ask", "caught", "error", "kinds", "words", "word", "is_so"], st := (tp 50), q := none, cn := Str.empty, dfl := [], lam := false }
/-- 23: _law_kept_right(satchel, kinds, told, kind, kept, kit, more, others, other) -/
def d23 : FnD := ⟨"_law_kept_right", 1, 9, [(.asg (.var 1) (.call 21 [(.var 0)] [] [] [.at 0] false)), (.asg (.var 2) (.comp true [3] (.var 3) (.call 20 [(.var 0), (.var 1)] [] [] [.at 0, .at 1] false) [] (.call 19 [(.var 0), (.lst false [(.var 3), (.blt .list true [(.var 3)])])] [] [] [.at 0, .at 1] true))), (.asg (.var 4) (.blt .repr false [(.var 2)])), (.asg (.var 5) (.call 19 [(.var 0), (.lst false [(.new false 1 28 [(.var 2)] [] [] [.at 0, .at 1]), (.new false 1 28 [] [(.blt .tuple false [(.var 2)])] ["kinds"] [.at 0, .at 1])])] [] [] [.at 0, .at 1] false)), (.ifS (.or (.cmp .ne (.blt .repr false [(.attr (.var 5) "kinds")]) (.blt .repr false [(.blt .tuple false [(.var 1)])])) (.or (.cmp .ne (.blt .repr false [(.var 2)]) (.var 4)) (.eqi true 1 29 (.var 5) (.new false 1 28 [(.rev (.var 1))] [] [] [.at 0, .at 1])))) [(.ret (.bl false))] []), (.forS (.var 3) (.var 2) [(.ifS (.isi (.var 3) ["list"]) [(.setIx (.var 3) (.int 0) (.int 9))] [])]), (.expr (.bm .append (.var 2) [(.tup [(.int 0), (.int 1)])])), (.ifS (.or (.cmp .ne (.blt .repr false [(.attr (.var 5) "kinds")]) (.blt .repr false [(.blt .tuple false [(.var 1)])])) (.or (.eqi false 1 29 (.var 5) (.blt .tuple false [(.var 1)])) (.eqi false 1 29 (.var 5) (.var 1)))) [(.ret (.bl false))] []), (.asg (.var 6) (.idx (.comp false [3] (.var 3) (.lst false [(.tup [(.int 1), (.int 7)]), (.tup [(.int 3), (.int 8)]), (.tup [(.int 0), (.int 6)]), (.tup [(.int 2), (.int 7)]), (.tup [(.int 6), (.int 8)])]) [(.cmp .nin (.var 3) (.var 1))] (.var 3)) (.int 0))), (.asg (.var 7) (.bin .add (.lst false [(.new false 1 28 [(.bin .add (.var 1) (.lst false [(.var 6)]))] [] [] [.at 0, .at 1])]) (.rep [(.new false 1 28 [(.slc (.var 1) (some (.int 1)) none)] [] [] [.at 0, .at 1])] (.blt .int false [(.cmp .ne (.var 1) (.lst false []))])))), (.ret (.cmp .eq (.comp false [8] (.var 8) (.var 7) [(.or (.eqi false 1 29 (.var 8) (.var 5)) (.not (.eqi true 1 29 (.var 8) (.var 5))))] (.var 8)) (.lst false [])))], false⟩
def f23 : FnS := { d := d23, N := ["satchel", "kinds", "told", "kind", "kept", "kit", "more", "others", "other"], st := (tp 51), q := none, cn := Str.empty, dfl := [], lam := false }
/-- 24: _law_kind_right(satchel, k, n, due, odd) -/
def d24 : FnD := ⟨"_law_kind_right", 1, 5, [(.asg (.tup [(.var 1), (.var 2)]) (.tup [(.bin .sub (.call 18 [(.var 0), (.int 11)] [] [] [.at 0, .at 1] false) (.int 1)), (.bin .sub (.call 18 [(.var 0), (.int 11)] [] [] [.at 0, .at 1] false) (.int 1))])), (.asg (.var 3) (.and (.chain .le .le (.int 1) (.var 2) (.int 8)) (.chain .le .le (.int 0) (.var 1) (.var 2)))), (.asg (.var 4) (.call 19 [(.var 0), (.lst false [.non, (.int 5), (.str "12"), (.tup [(.int 1)]), (.tup [(.int 1), (.int 2), (.int 3)]), (.tup [(.bl true), (.int 2)]), (.tup [(.int 0), (.bl true)]), (.tup [(.int 1), .non]), (.lst false [(.lst false [(.int 1)]), (.int 2)]), (.dct false [] []), (.dct false [(.int 0), (.int 1)] [(.int 1), (.int 2)]), (.tup []), (.str "1")])] [] [] [.at 0, .at 1] false)), (.ret (.cmp .eq (.blt .repr false [(.lst false [(.call 6 [(.tup [(.var 1), (.var 2)])] [] [] [.at 0] false), (.call 6 [] [(.lst false [(.var 1), (.var 2)])] ["value"] [.at 0] false), (.call 6 [(.var 4)] [] [] [.at 0] false)])]) (.blt .repr false [(.lst false [(.var 3), (.var 3), (.bl false)])])))], false⟩
def f24 : FnS := { d := d24, N := ["satchel", "k", "n", "due", "odd"], st := (tp 52), q := none, cn := Str.empty, dfl := [], lam := false }
/-- 25: _law_refused_right(satchel, kinds, at, odd, bad, none, no_book, heard, strange, clues) -/
def d25 : FnD := ⟨"_law_refused_right", 1, 10, [(.asg (.var 1) (.call 21 [(.var 0)] [] [] [.at 0] false)), (.asg (.var 2) (.call 18 [(.var 0), (.bin .add (.blt .len false [(.var 1)]) (.int 1))] [] [] [.at 0, .at 1] false)), (.asg (.var 3) (.call 19 [(.var 0), (.lst false [.non, (.int 5), (.tup [(.int 1), (.int 0)]), (.tup [(.int 0), (.int 0)]), (.tup [(.int 3), (.int 2)]), (.tup [(.int 1), (.int 9)]), (.tup [(.neg (.int 1)), (.int 2)]), (.tup [(.bl true), (.int 1)]), (.tup [(.int 1)]), (.lst false [(.int 1), (.int 2), (.int 3)]), (.str "12")])] [] [] [.at 0, .at 1] false)), (.asg (.var 4) (.call 19 [(.var 0), (.lst false [.non, (.str "kit"), (.int 7), (.dct false [] []), (.bin .add (.bin .add (.slc (.var 1) none (some (.var 2))) (.lst false [(.var 3)])) (.slc (.var 1) (some (.var 2)) none)), (.bin .add (.var 1) (.lst false [(.tup [(.int 2), (.int 7)]), (.lst false [(.int 2), (.int 7)])])), (.dct false [(.tup [(.int 1), (.int 2)])] [(.int 1)])])] [] [] [.at 0, .at 1] false)), (.asg (.tup [(.var 5), (.var 6)]) (.tup [(.call 19 [(.var 0), (.lst false [.non, (.var 1), (.int 5), (.str "single"), (.tup [])])] [] [] [.at 0, .at 1] false), (.call 19 [(.var 0), (.lst false [.non, (.int 3), (.tup [(.int 3), (.lst false [])]), (.str "3"), (.new false 1 28 [(.lst false [])] [] [] [.at 0, .at 1])])] [] [] [.at 0, .at 1] false)])), (.asg (.var 7) (.lst true [(.heard 22 (.new false 1 28 [(.var 4)] [] [] [.at 0, .at 1])), (.heard 22 (.call 15 [(.var 5)] [] [] [.at 0] false)), (.heard 22 (.call 16 [(.var 5)] [] [] [.at 0] false))])), (.asg (.var 7) (.bin .cat (.var 7) (.lst false [(.heard 22 (.call 12 [(.var 6)] [] [] [.at 0] false)), (.heard 22 (.call 13 [(.var 6)] [] [] [.at 0] false)), (.heard 22 (.call 14 [(.var 6), (.var 5)] [] [] [.at 0, .at 1] false))]))), (.expr (.bm .append (.var 7) [(.heard 22 (.call 14 [(.new false 0 27 [(.int 2), (.lst false [(.tup [(.int 1), (.lst false [(.int 0), (.int 1)])])])] [] [] [.at 0, .at 1, .at 2]), (.var 5)] [] [] [.at 0, .at 1] false))])), (.asg (.var 8) (.lst false [(.tup [(.int 0), (.lst false [])]), (.tup [(.int 1), (.lst false [])]), (.tup [(.int 2), (.lst false [(.int 1)])]), (.tup [(.int 8), (.lst false [(.int 0), (.int 1)])])])), (.asg (.var 9) (.lst true [(.tup [(.int 1), (.lst false [(.int 0)])]), (.tup [(.int 1), (.lst false [(.int 1), (.int 0)])])])), (.expr (.bm .insert (.var 9) [(.call 18 [(.var 0), (.int 3)] [] [] [.at 0, .at 1] false), (.call 19 [(.var 0), (.var 8)] [] [] [.at 0, .at 1] false)])), (.expr (.bm .append (.var 7) [(.heard 22 (.call 13 [(.new false 0 27 [(.int 2), (.var 9)] [] [] [.at 0, .at 1, .at 2])] [] [] [.at 0] false))])), (.ret (.cmp .eq (.var 7) (.bin .add (.bin .add (.bin .add (.lst false [(.tup [(.str "kit"), (.str "kinds")])]) (.rep [(.tup [(.str "kit"), (.str "kit")])] (.int 2))) (.rep [(.tup [(.str "book"), (.str "book")])] (.int 3))) (.lst false [(.tup [(.str "kit"), (.str "kit")]), (.tup [(.str "misfit"), (.str "clues")])]))))], false⟩
def f25 : FnS := { d := d25, N := ["satchel", "kinds", "at", "odd", "bad", "none", "no_book", "heard", "strange", "clues"], st := (tp 53), q := none, cn := Str.empty, dfl := [], lam := true }
/-- 26: law(script, satchel, turn, every, n, k, full) -/
def d26 : FnD := ⟨"law", 1, 7, [(.asg (.var 1) (.call 17 [(.var 0)] [] [] [.at 0] true)), (.forS (.var 2) (.rng [(.int 4)]) [(.ifS (.or (.not (.call 23 [(.var 1)] [] [] [.at 0] false)) (.or (.not (.call 24 [(.var 1)] [] [] [.at 0] false)) (.not (.call 25 [(.var 1)] [] [] [.at 0] false)))) [(.ret (.bl false))] [])]), (.ifS (.cmp .eq (.call 18 [(.var 1), (.int 10)] [] [] [.at 0, .at 1] false) (.int 3)) [(.asg (.var 3) (.lst true [])), (.forS (.var 4) (.rng [(.int 1), (.int 9)]) [(.expr (.bm .extend (.var 3) [(.comp false [5] (.var 5) (.rng [(.bin .add (.var 4) (.int 1))]) [] (.tup [(.var 5), (.var 4)]))]))]), (.asg (.var 6) (.new false 1 28 [(.call 20 [(.var 1), (.var 3)] [] [] [.at 0, .at 1] false)] [] [] [.at 0, .at 1])), (.ifS (.or (.cmp .ne (.blt .repr false [(.attr (.var 6) "kinds")]) (.blt .repr false [(.blt .tuple false [(.blt .sorted false [(.var 3)])])])) (.or (.eqi true 1 29 (.call 16 [(.var 6)] [] [] [.at 0] false) (.var 6)) (.cmp .ne (.call 15 [(.var 6)] [] [] [.at 0] false) (.str "all")))) [(.ret (.bl false))] [])] []), (.ret (.and (.eqi false 1 29 (.new false 1 28 [(.lst false [])] [] [] [.at 0, .at 1]) (.new false 1 28 [] [(.tup [])] ["kinds"] [.at 0, .at 1])) (.cmp .eq (.attr (.new false 1 28 [(.lst false [])] [] [] [.at 0, .at 1]) "kinds") (.tup []))))], false⟩
def f26 : FnS := { d := d26, N := ["script", "satchel", "turn", "every", "n", "k", "full"], st := (tp 54), q := none, cn := Str.empty, dfl := [], lam := false }
/-- 27: Book.__init__(self, many, clues, clue, k, cells) -/
def d27 : FnD := ⟨"__init__", 3, 6, [(.expr (.call 3 [(.var 1), (.str "many"), (.int 0), (.glob "MOST_CELLS_books" (.int 60000))] [] [] [.at 0, .at 1, .at 2, .at 3] false)), (.ifS (.or (.not (.call 2 [(.var 2)] [] [] [.at 0] false)) (.or (.cmp .gt (.blt .len false [(.var 2)]) (.glob "MOST_CLUES" (.int 120000))) (.not (.blt .all false [(.comp false [3] (.var 3) (.var 2) [] (.call 5 [(.var 3), (.var 1)] [] [] [.at 0, .at 1] false))])))) [(.raiseS 2 ["part"] [(.str "clues")])] []), (.setAt (.var 0) "many" (.var 1)), (.setAt (.var 0) "clues" (.blt .tuple false [(.comp false [4, 5] (.tup [(.var 4), (.var 5)]) (.var 2) [] (.tup [(.var 4), (.blt .tuple false [(.blt .sorted false [(.var 5)])])]))]))], false⟩
def f27 : FnS := { d := d27, N := ["self", "many", "clues", "clue", "k", "cells"], st := (tpm 24 0), q := some "Book.__init__", cn := "Book", dfl := [], lam := false }
/-- 28: Kit.__init__(self, kinds, kind, found) -/
def d28 : FnD := ⟨"__init__", 2, 4, [(.ifS (.or (.not (.call 2 [(.var 1)] [] [] [.at 0] false)) (.not (.blt .all false [(.comp false [2] (.var 2) (.var 1) [] (.call 6 [(.var 2)] [] [] [.at 0] false))]))) [(.raiseS 1 ["part"] [(.str "kinds")])] []), (.asg (.var 3) (.blt .sorted false [(.comp false [2] (.var 2) (.var 1) [] (.blt .tuple false [(.var 2)]))])), (.ifS (.cmp .lt (.blc .lenT (.var 3)) (.blt .len false [(.var 3)])) [(.raiseS 1 ["part"] [(.str "kinds")])] []), (.setAt (.var 0) "kinds" (.blt .tuple false [(.var 3)]))], false⟩
def f28 : FnS := { d := d28, N := ["self", "kinds", "kind", "found"], st := (tpm 33 0), q := some "Kit.__init__", cn := "Kit", dfl := [], lam := false }
/-- 29: Kit.__eq__(self, other) -/
def d29 : FnD := ⟨"__eq__", 2, 2, [(.ret (.and (.isc (.var 1) 1 [1]) (.cmp .eq (.attr (.var 0) "kinds") (.attr (.var 1) "kinds"))))], false⟩
def f29 : FnS := { d := d29, N := ["self", "other"], st := (tpm 33 1), q := some "Kit.__eq__", cn := "Kit", dfl := [], lam := false }
def S0 : List FnS := [f0, f1, f2, f3, f4, f5, f6, f7, f8, f9, f10, f11, f12, f13, f14, f15, f16, f17, f18, f19, f20, f21, f22, f23, f24, f25, f26, f27, f28, f29]
def P : List FnD := [d0, d1, d2, d3, d4, d5, d6, d7, d8, d9, d10, d11, d12, d13, d14, d15, d16, d17, d18, d19, d20, d21, d22, d23, d24, d25, d26, d27, d28, d29]
abbrev k_is_integer : Nat := 0
abbrev d_is_integer : FnD := d0
abbrev k_is_within : Nat := 1
abbrev d_is_within : FnD := d1
abbrev k_is_list : Nat := 2
abbrev d_is_list : FnD := d2
abbrev k_need_integer : Nat := 3
abbrev d_need_integer : FnD := d3
abbrev k_are_unlike : Nat := 4
abbrev d_are_unlike : FnD := d4
abbrev k_is_clue : Nat := 5
abbrev d_is_clue : FnD := d5
abbrev k_is_kind : Nat := 6
abbrev d_is_kind : FnD := d6
abbrev k_need_kit : Nat := 7
abbrev d_need_kit : FnD := d7
abbrev k_need_book : Nat := 8
abbrev d_need_book : FnD := d8
abbrev k_kinds_in : Nat := 9
abbrev d_kinds_in : FnD := d9
abbrev k_is_plain : Nat := 10
abbrev d_is_plain : FnD := d10
abbrev k_sort_in : Nat := 11
abbrev d_sort_in : FnD := d11
abbrev k_kinds_of : Nat := 12
abbrev d_kinds_of : FnD := d12
abbrev k_kit_of : Nat := 13
abbrev d_kit_of : FnD := d13
abbrev k_is_of : Nat := 14
abbrev d_is_of : FnD := d14
abbrev k_sort_of : Nat := 15
abbrev d_sort_of : FnD := d15
abbrev k_turned_kit : Nat := 16
abbrev d_turned_kit : FnD := d16
abbrev k_begin : Nat := 17
abbrev d_begin : FnD := d17
abbrev k_draw : Nat := 18
abbrev d_draw : FnD := d18
abbrev k_one : Nat := 19
abbrev d_one : FnD := d19
abbrev k_stirred : Nat := 20
abbrev d_stirred : FnD := d20
abbrev k_kinds : Nat := 21
abbrev d_kinds : FnD := d21
abbrev k_heard : Nat := 22
abbrev d_heard : FnD := d22
abbrev k_kept_right : Nat := 23
abbrev d_kept_right : FnD := d23
abbrev k_kind_right : Nat := 24
abbrev d_kind_right : FnD := d24
abbrev k_refused_right : Nat := 25
abbrev d_refused_right : FnD := d25
abbrev k_law : Nat := 26
abbrev d_law : FnD := d26
abbrev k_Book___init__ : Nat := 27
abbrev d_Book___init__ : FnD := d27
abbrev k_Kit___init__ : Nat := 28
abbrev d_Kit___init__ : FnD := d28
abbrev k_Kit___eq__ : Nat := 29
abbrev d_Kit___eq__ : FnD := d29
abbrev c_Book : Nat := 0
abbrev c_Kit : Nat := 1
abbrev x_BadNumber : Nat := 0
abbrev x_BadKit : Nat := 1
abbrev x_BadBook : Nat := 2
abbrev x_Misfit : Nat := 3
def sites0 : Sites := ⟨[(26, 1, ([] : List Str), ([.at 0] : List PArg)), (0, 1, ([] : List Str), ([.at 0] : List PArg)), (1, 3, ([] : List Str), ([.at 0, .at 1, .at 2] : List PArg)), (2, 1, ([] : List Str), ([.at 0] : List PArg)), (4, 1, ([] : List Str), ([.at 0] : List PArg)), (6, 1, ([] : List Str), ([.at 0] : List PArg)), (10, 1, ([] : List Str), ([.at 0] : List PArg)), (8, 1, ([] : List Str), ([.at 0] : List PArg)), (9, 1, ([] : List Str), ([.at 0] : List PArg)), (28, 2, ([] : List Str), ([.at 0, .at 1] : List PArg)), (7, 1, ([] : List Str), ([.at 0] : List PArg)), (11, 1, ([] : List Str), ([.at 0] : List PArg)), (18, 2, ([] : List Str), ([.at 0, .at 1] : List PArg)), (19, 2, ([] : List Str), ([.at 0, .at 1] : List PArg)), (21, 1, ([] : List Str), ([.at 0] : List PArg)), (20, 2, ([] : List Str), ([.at 0, .at 1] : List PArg)), (28, 1, (["kinds"] : List Str), ([.at 0, .at 1] : List PArg)), (29, 2, ([] : List Str), ([.at 0, .at 1] : List PArg)), (6, 0, (["value"] : List Str), ([.at 0] : List PArg)), (22, 1, ([] : List Str), ([.at 0] : List PArg)), (15, 1, ([] : List Str), ([.at 0] : List PArg)), (16, 1, ([] : List Str), ([.at 0] : List PArg)), (12, 1, ([] : List Str), ([.at 0] : List PArg)), (13, 1, ([] : List Str), ([.at 0] : List PArg)), (14, 2, ([] : List Str), ([.at 0, .at 1] : List PArg)), (27, 3, ([] : List Str), ([.at 0, .at 1, .at 2] : List PArg)), (17, 1, ([] : List Str), ([.at 0] : List PArg)), (23, 1, ([] : List Str), ([.at 0] : List PArg)), (24, 1, ([] : List Str), ([.at 0] : List PArg)), (25, 1, ([] : List Str), ([.at 0] : List PArg)), (3, 4, ([] : List Str), ([.at 0, .at 1, .at 2, .at 3] : List PArg)), (5, 2, ([] : List Str), ([.at 0, .at 1] : List PArg))], [⟨"Book", 27, none, ["many", "clues", "kinds"]⟩, ⟨"Kit", 28, some 29, ["many", "clues", "kinds"]⟩], [("MOST_SEEN", .int 8), ("MOST_CELLS_kits", .int 8), ("SINGLE", .str "single"), ("PAIRS", .str "pairs"), ("EXCHANGE", .str "exchange"), ("ALL", .str "all"), ("MOST_CELLS_books", .int 60000), ("MOST_CLUES", .int 120000)], [⟨"BadNumber", ["part"], tpm 3 0⟩, ⟨"BadKit", ["part"], tpm 5 0⟩, ⟨"BadBook", ["part"], tpm 4 0⟩, ⟨"Misfit", ["part"], tpm 6 0⟩], "SayError", ["part"], [], []⟩
theorem chk : (S0.all fun f => chkFn S0 sites0 f) = true := by decide +kernel
theorem st0 (K : PySem.W.Frag) (a : Addr) (fd : FuncData) (F : FunD K f0.d.name f0.qn (defArgs f0.st) (defBody f0.st) (defScope f0.st) (f0.dd.dvs K) [] a fd) : SitesOk K fd (f0.N.take f0.d.nps) (sitesOf sites0 0) := by
  obtain ⟨oc, od, dV, kV, doc, pm, an, cdv, ct, osl, rfl, lk, hcd, hD, _⟩ := F.ex
  show SitesOk K _ ["value"] [(1, [], [.at 0])]
  obtain rfl := dfl_none hD
  exact ⟨fun s us ws inK h1 h2 => match us, ws, h1, h2 with | [u0], [], _, _ => ⟨[u0], (.at rfl .nil), .of_eq rfl⟩, trivial⟩
theorem st1 (K : PySem.W.Frag) (a : Addr) (fd : FuncData) (F : FunD K f1.d.name f1.qn (defArgs f1.st) (defBody f1.st) (defScope f1.st) (f1.dd.dvs K) [] a fd) : SitesOk K fd (f1.N.take f1.d.nps) (sitesOf sites0 1) := by
  obtain ⟨oc, od, dV, kV, doc, pm, an, cdv, ct, osl, rfl, lk, hcd, hD, _⟩ := F.ex
  show SitesOk K _ ["value", "least", "most"] [(3, [], [.at 0, .at 1, .at 2])]
  obtain rfl := dfl_none hD
  exact ⟨fun s us ws inK h1 h2 => match us, ws, h1, h2 with | [u0, u1, u2], [], _, _ => ⟨[u0, u1, u2], (.at rfl (.at rfl (.at rfl .nil))), .of_eq rfl⟩, trivial⟩
theorem st2 (K : PySem.W.Frag) (a : Addr) (fd : FuncData) (F : FunD K f2.d.name f2.qn (defArgs f2.st) (defBody f2.st) (defScope f2.st) (f2.dd.dvs K) [] a fd) : SitesOk K fd (f2.N.take f2.d.nps) (sitesOf sites0 2) := by
  obtain ⟨oc, od, dV, kV, doc, pm, an, cdv, ct, osl, rfl, lk, hcd, hD, _⟩ := F.ex
  show SitesOk K _ ["value"] [(1, [], [.at 0])]
  obtain rfl := dfl_none hD
  exact ⟨fun s us ws inK h1 h2 => match us, ws, h1, h2 with | [u0], [], _, _ => ⟨[u0], (.at rfl .nil), .of_eq rfl⟩, trivial⟩
theorem st3 (K : PySem.W.Frag) (a : Addr) (fd : FuncData) (F : FunD K f3.d.name f3.qn (defArgs f3.st) (defBody f3.st) (defScope f3.st) (f3.dd.dvs K) [] a fd) : SitesOk K fd (f3.N.take f3.d.nps) (sitesOf sites0 3) := by
  obtain ⟨oc, od, dV, kV, doc, pm, an, cdv, ct, osl, rfl, lk, hcd, hD, _⟩ := F.ex
  show SitesOk K _ ["value", "part", "least", "most"] [(4, [], [.at 0, .at 1, .at 2, .at 3])]
  obtain rfl := dfl_none hD
  exact ⟨fun s us ws inK h1 h2 => match us, ws, h1, h2 with | [u0, u1, u2, u3], [], _, _ => ⟨[u0, u1, u2, u3], (.at rfl (.at rfl (.at rfl (.at rfl .nil)))), .of_eq rfl⟩, trivial⟩
theorem st4 (K : PySem.W.Frag) (a : Addr) (fd : FuncData) (F : FunD K f4.d.name f4.qn (defArgs f4.st) (defBody f4.st) (defScope f4.st) (f4.dd.dvs K) [] a fd) : SitesOk K fd (f4.N.take f4.d.nps) (sitesOf sites0 4) := by
  obtain ⟨oc, od, dV, kV, doc, pm, an, cdv, ct, osl, rfl, lk, hcd, hD, _⟩ := F.ex
  show SitesOk K _ ["cells"] [(1, [], [.at 0])]
  obtain rfl := dfl_none hD
  exact ⟨fun s us ws inK h1 h2 => match us, ws, h1, h2 with | [u0], [], _, _ => ⟨[u0], (.at rfl .nil), .of_eq rfl⟩, trivial⟩
theorem st5 (K : PySem.W.Frag) (a : Addr) (fd : FuncData) (F : FunD K f5.d.name f5.qn (defArgs f5.st) (defBody f5.st) (defScope f5.st) (f5.dd.dvs K) [] a fd) : SitesOk K fd (f5.N.take f5.d.nps) (sitesOf sites0 5) := by
  obtain ⟨oc, od, dV, kV, doc, pm, an, cdv, ct, osl, rfl, lk, hcd, hD, _⟩ := F.ex
  show SitesOk K _ ["value", "many"] [(2, [], [.at 0, .at 1])]
  obtain rfl := dfl_none hD
  exact ⟨fun s us ws inK h1 h2 => match us, ws, h1, h2 with | [u0, u1], [], _, _ => ⟨[u0, u1], (.at rfl (.at rfl .nil)), .of_eq rfl⟩, trivial⟩
theorem st6 (K : PySem.W.Frag) (a : Addr) (fd : FuncData) (F : FunD K f6.d.name f6.qn (defArgs f6.st) (defBody f6.st) (defScope f6.st) (f6.dd.dvs K) [] a fd) : SitesOk K fd (f6.N.take f6.d.nps) (sitesOf sites0 6) := by
  obtain ⟨oc, od, dV, kV, doc, pm, an, cdv, ct, osl, rfl, lk, hcd, hD, _⟩ := F.ex
  show SitesOk K _ ["value"] [(1, [], [.at 0]), (0, ["value"], [.at 0])]
  obtain rfl := dfl_none hD
  exact ⟨fun s us ws inK h1 h2 => match us, ws, h1, h2 with | [u0], [], _, _ => ⟨[u0], (.at rfl .nil), .of_eq rfl⟩, fun s us ws inK h1 h2 => match us, ws, h1, h2 with | [], [w0], _, _ => ⟨[w0], (.at rfl .nil), .of_eq rfl⟩, trivial⟩
theorem st7 (K : PySem.W.Frag) (a : Addr) (fd : FuncData) (F : FunD K f7.d.name f7.qn (defArgs f7.st) (defBody f7.st) (defScope f7.st) (f7.dd.dvs K) [] a fd) : SitesOk K fd (f7.N.take f7.d.nps) (sitesOf sites0 7) := by
  obtain ⟨oc, od, dV, kV, doc, pm, an, cdv, ct, osl, rfl, lk, hcd, hD, _⟩ := F.ex
  show SitesOk K _ ["value"] [(1, [], [.at 0])]
  obtain rfl := dfl_none hD
  exact ⟨fun s us ws inK h1 h2 => match us, ws, h1, h2 with | [u0], [], _, _ => ⟨[u0], (.at rfl .nil), .of_eq rfl⟩, trivial⟩
theorem st8 (K : PySem.W.Frag) (a : Addr) (fd : FuncData) (F : FunD K f8.d.name f8.qn (defArgs f8.st) (defBody f8.st) (defScope f8.st) (f8.dd.dvs K) [] a fd) : SitesOk K fd (f8.N.take f8.d.nps) (sitesOf sites0 8) := by
  obtain ⟨oc, od, dV, kV, doc, pm, an, cdv, ct, osl, rfl, lk, hcd, hD, _⟩ := F.ex
  show SitesOk K _ ["value"] [(1, [], [.at 0])]
  obtain rfl := dfl_none hD
  exact ⟨fun s us ws inK h1 h2 => match us, ws, h1, h2 with | [u0], [], _, _ => ⟨[u0], (.at rfl .nil), .of_eq rfl⟩, trivial⟩
theorem st9 (K : PySem.W.Frag) (a : Addr) (fd : FuncData) (F : FunD K f9.d.name f9.qn (defArgs f9.st) (defBody f9.st) (defScope f9.st) (f9.dd.dvs K) [] a fd) : SitesOk K fd (f9.N.take f9.d.nps) (sitesOf sites0 9) := by
  obtain ⟨oc, od, dV, kV, doc, pm, an, cdv, ct, osl, rfl, lk, hcd, hD, _⟩ := F.ex
  show SitesOk K _ ["book"] [(1, [], [.at 0])]
  obtain rfl := dfl_none hD
  exact ⟨fun s us ws inK h1 h2 => match us, ws, h1, h2 with | [u0], [], _, _ => ⟨[u0], (.at rfl .nil), .of_eq rfl⟩, trivial⟩
theorem st10 (K : PySem.W.Frag) (a : Addr) (fd : FuncData) (F : FunD K f10.d.name f10.qn (defArgs f10.st) (defBody f10.st) (defScope f10.st) (f10.dd.dvs K) [] a fd) : SitesOk K fd (f10.N.take f10.d.nps) (sitesOf sites0 10) := by
  obtain ⟨oc, od, dV, kV, doc, pm, an, cdv, ct, osl, rfl, lk, hcd, hD, _⟩ := F.ex
  show SitesOk K _ ["kind"] [(1, [], [.at 0])]
  obtain rfl := dfl_none hD
  exact ⟨fun s us ws inK h1 h2 => match us, ws, h1, h2 with | [u0], [], _, _ => ⟨[u0], (.at rfl .nil), .of_eq rfl⟩, trivial⟩
theorem st11 (K : PySem.W.Frag) (a : Addr) (fd : FuncData) (F : FunD K f11.d.name f11.qn (defArgs f11.st) (defBody f11.st) (defScope f11.st) (f11.dd.dvs K) [] a fd) : SitesOk K fd (f11.N.take f11.d.nps) (sitesOf sites0 11) := by
  obtain ⟨oc, od, dV, kV, doc, pm, an, cdv, ct, osl, rfl, lk, hcd, hD, _⟩ := F.ex
  show SitesOk K _ ["kit"] [(1, [], [.at 0])]
  obtain rfl := dfl_none hD
  exact ⟨fun s us ws inK h1 h2 => match us, ws, h1, h2 with | [u0], [], _, _ => ⟨[u0], (.at rfl .nil), .of_eq rfl⟩, trivial⟩
theorem st12 (K : PySem.W.Frag) (a : Addr) (fd : FuncData) (F : FunD K f12.d.name f12.qn (defArgs f12.st) (defBody f12.st) (defScope f12.st) (f12.dd.dvs K) [] a fd) : SitesOk K fd (f12.N.take f12.d.nps) (sitesOf sites0 12) := by
  obtain ⟨oc, od, dV, kV, doc, pm, an, cdv, ct, osl, rfl, lk, hcd, hD, _⟩ := F.ex
  show SitesOk K _ ["book"] [(1, [], [.at 0])]
  obtain rfl := dfl_none hD
  exact ⟨fun s us ws inK h1 h2 => match us, ws, h1, h2 with | [u0], [], _, _ => ⟨[u0], (.at rfl .nil), .of_eq rfl⟩, trivial⟩
theorem st13 (K : PySem.W.Frag) (a : Addr) (fd : FuncData) (F : FunD K f13.d.name f13.qn (defArgs f13.st) (defBody f13.st) (defScope f13.st) (f13.dd.dvs K) [] a fd) : SitesOk K fd (f13.N.take f13.d.nps) (sitesOf sites0 13) := by
  obtain ⟨oc, od, dV, kV, doc, pm, an, cdv, ct, osl, rfl, lk, hcd, hD, _⟩ := F.ex
  show SitesOk K _ ["book"] [(1, [], [.at 0])]
  obtain rfl := dfl_none hD
  exact ⟨fun s us ws inK h1 h2 => match us, ws, h1, h2 with | [u0], [], _, _ => ⟨[u0], (.at rfl .nil), .of_eq rfl⟩, trivial⟩
theorem st14 (K : PySem.W.Frag) (a : Addr) (fd : FuncData) (F : FunD K f14.d.name f14.qn (defArgs f14.st) (defBody f14.st) (defScope f14.st) (f14.dd.dvs K) [] a fd) : SitesOk K fd (f14.N.take f14.d.nps) (sitesOf sites0 14) := by
  obtain ⟨oc, od, dV, kV, doc, pm, an, cdv, ct, osl, rfl, lk, hcd, hD, _⟩ := F.ex
  show SitesOk K _ ["book", "kit"] [(2, [], [.at 0, .at 1])]
  obtain rfl := dfl_none hD
  exact ⟨fun s us ws inK h1 h2 => match us, ws, h1, h2 with | [u0, u1], [], _, _ => ⟨[u0, u1], (.at rfl (.at rfl .nil)), .of_eq rfl⟩, trivial⟩
theorem st15 (K : PySem.W.Frag) (a : Addr) (fd : FuncData) (F : FunD K f15.d.name f15.qn (defArgs f15.st) (defBody f15.st) (defScope f15.st) (f15.dd.dvs K) [] a fd) : SitesOk K fd (f15.N.take f15.d.nps) (sitesOf sites0 15) := by
  obtain ⟨oc, od, dV, kV, doc, pm, an, cdv, ct, osl, rfl, lk, hcd, hD, _⟩ := F.ex
  show SitesOk K _ ["kit"] [(1, [], [.at 0])]
  obtain rfl := dfl_none hD
  exact ⟨fun s us ws inK h1 h2 => match us, ws, h1, h2 with | [u0], [], _, _ => ⟨[u0], (.at rfl .nil), .of_eq rfl⟩, trivial⟩
theorem st16 (K : PySem.W.Frag) (a : Addr) (fd : FuncData) (F : FunD K f16.d.name f16.qn (defArgs f16.st) (defBody f16.st) (defScope f16.st) (f16.dd.dvs K) [] a fd) : SitesOk K fd (f16.N.take f16.d.nps) (sitesOf sites0 16) := by
  obtain ⟨oc, od, dV, kV, doc, pm, an, cdv, ct, osl, rfl, lk, hcd, hD, _⟩ := F.ex
  show SitesOk K _ ["kit"] [(1, [], [.at 0])]
  obtain rfl := dfl_none hD
  exact ⟨fun s us ws inK h1 h2 => match us, ws, h1, h2 with | [u0], [], _, _ => ⟨[u0], (.at rfl .nil), .of_eq rfl⟩, trivial⟩
theorem st17 (K : PySem.W.Frag) (a : Addr) (fd : FuncData) (F : FunD K f17.d.name f17.qn (defArgs f17.st) (defBody f17.st) (defScope f17.st) (f17.dd.dvs K) [] a fd) : SitesOk K fd (f17.N.take f17.d.nps) (sitesOf sites0 17) := by
  obtain ⟨oc, od, dV, kV, doc, pm, an, cdv, ct, osl, rfl, lk, hcd, hD, _⟩ := F.ex
  show SitesOk K _ ["script"] [(1, [], [.at 0])]
  obtain rfl := dfl_none hD
  exact ⟨fun s us ws inK h1 h2 => match us, ws, h1, h2 with | [u0], [], _, _ => ⟨[u0], (.at rfl .nil), .of_eq rfl⟩, trivial⟩
theorem st18 (K : PySem.W.Frag) (a : Addr) (fd : FuncData) (F : FunD K f18.d.name f18.qn (defArgs f18.st) (defBody f18.st) (defScope f18.st) (f18.dd.dvs K) [] a fd) : SitesOk K fd (f18.N.take f18.d.nps) (sitesOf sites0 18) := by
  obtain ⟨oc, od, dV, kV, doc, pm, an, cdv, ct, osl, rfl, lk, hcd, hD, _⟩ := F.ex
  show SitesOk K _ ["satchel", "many"] [(2, [], [.at 0, .at 1])]
  obtain rfl := dfl_none hD
  exact ⟨fun s us ws inK h1 h2 => match us, ws, h1, h2 with | [u0, u1], [], _, _ => ⟨[u0, u1], (.at rfl (.at rfl .nil)), .of_eq rfl⟩, trivial⟩
theorem st19 (K : PySem.W.Frag) (a : Addr) (fd : FuncData) (F : FunD K f19.d.name f19.qn (defArgs f19.st) (defBody f19.st) (defScope f19.st) (f19.dd.dvs K) [] a fd) : SitesOk K fd (f19.N.take f19.d.nps) (sitesOf sites0 19) := by
  obtain ⟨oc, od, dV, kV, doc, pm, an, cdv, ct, osl, rfl, lk, hcd, hD, _⟩ := F.ex
  show SitesOk K _ ["satchel", "some"] [(2, [], [.at 0, .at 1])]
  obtain rfl := dfl_none hD
  exact ⟨fun s us ws inK h1 h2 => match us, ws, h1, h2 with | [u0, u1], [], _, _ => ⟨[u0, u1], (.at rfl (.at rfl .nil)), .of_eq rfl⟩, trivial⟩
theorem st20 (K : PySem.W.Frag) (a : Addr) (fd : FuncData) (F : FunD K f20.d.name f20.qn (defArgs f20.st) (defBody f20.st) (defScope f20.st) (f20.dd.dvs K) [] a fd) : SitesOk K fd (f20.N.take f20.d.nps) (sitesOf sites0 20) := by
  obtain ⟨oc, od, dV, kV, doc, pm, an, cdv, ct, osl, rfl, lk, hcd, hD, _⟩ := F.ex
  show SitesOk K _ ["satchel", "some"] [(2, [], [.at 0, .at 1])]
  obtain rfl := dfl_none hD
  exact ⟨fun s us ws inK h1 h2 => match us, ws, h1, h2 with | [u0, u1], [], _, _ => ⟨[u0, u1], (.at rfl (.at rfl .nil)), .of_eq rfl⟩, trivial⟩
theorem st21 (K : PySem.W.Frag) (a : Addr) (fd : FuncData) (F : FunD K f21.d.name f21.qn (defArgs f21.st) (defBody f21.st) (defScope f21.st) (f21.dd.dvs K) [] a fd) : SitesOk K fd (f21.N.take f21.d.nps) (sitesOf sites0 21) := by
  obtain ⟨oc, od, dV, kV, doc, pm, an, cdv, ct, osl, rfl, lk, hcd, hD, _⟩ := F.ex
  show SitesOk K _ ["satchel"] [(1, [], [.at 0])]
  obtain rfl := dfl_none hD
  exact ⟨fun s us ws inK h1 h2 => match us, ws, h1, h2 with | [u0], [], _, _ => ⟨[u0], (.at rfl .nil), .of_eq rfl⟩, trivial⟩
theorem st22 (K : PySem.W.Frag) (a : Addr) (fd : FuncData) (F : FunD K f22.d.name f22.qn (defArgs f22.st) (defBody f22.st) (defScope f22.st) (f22.dd.dvs K) [] a fd) : SitesOk K fd (f22.N.take f22.d.nps) (sitesOf sites0 22) := by
  obtain ⟨oc, od, dV, kV, doc, pm, an, cdv, ct, osl, rfl, lk, hcd, hD, _⟩ := F.ex
  show SitesOk K _ ["ask"] [(1, [], [.at 0])]
  obtain rfl := dfl_none hD
  exact ⟨fun s us ws inK h1 h2 => match us, ws, h1, h2 with | [u0], [], _, _ => ⟨[u0], (.at rfl .nil), .of_eq rfl⟩, trivial⟩
theorem st23 (K : PySem.W.Frag) (a : Addr) (fd : FuncData) (F : FunD K f23.d.name f23.qn (defArgs f23.st) (defBody f23.st) (defScope f23.st) (f23.dd.dvs K) [] a fd) : SitesOk K fd (f23.N.take f23.d.nps) (sitesOf sites0 23) := by
  obtain ⟨oc, od, dV, kV, doc, pm, an, cdv, ct, osl, rfl, lk, hcd, hD, _⟩ := F.ex
  show SitesOk K _ ["satchel"] [(1, [], [.at 0])]
  obtain rfl := dfl_none hD
  exact ⟨fun s us ws inK h1 h2 => match us, ws, h1, h2 with | [u0], [], _, _ => ⟨[u0], (.at rfl .nil), .of_eq rfl⟩, trivial⟩
theorem st24 (K : PySem.W.Frag) (a : Addr) (fd : FuncData) (F : FunD K f24.d.name f24.qn (defArgs f24.st) (defBody f24.st) (defScope f24.st) (f24.dd.dvs K) [] a fd) : SitesOk K fd (f24.N.take f24.d.nps) (sitesOf sites0 24) := by
  obtain ⟨oc, od, dV, kV, doc, pm, an, cdv, ct, osl, rfl, lk, hcd, hD, _⟩ := F.ex
  show SitesOk K _ ["satchel"] [(1, [], [.at 0])]
  obtain rfl := dfl_none hD
  exact ⟨fun s us ws inK h1 h2 => match us, ws, h1, h2 with | [u0], [], _, _ => ⟨[u0], (.at rfl .nil), .of_eq rfl⟩, trivial⟩
theorem st25 (K : PySem.W.Frag) (a : Addr) (fd : FuncData) (F : FunD K f25.d.name f25.qn (defArgs f25.st) (defBody f25.st) (defScope f25.st) (f25.dd.dvs K) [] a fd) : SitesOk K fd (f25.N.take f25.d.nps) (sitesOf sites0 25) := by
  obtain ⟨oc, od, dV, kV, doc, pm, an, cdv, ct, osl, rfl, lk, hcd, hD, _⟩ := F.ex
  show SitesOk K _ ["satchel"] [(1, [], [.at 0])]
  obtain rfl := dfl_none hD
  exact ⟨fun s us ws inK h1 h2 => match us, ws, h1, h2 with | [u0], [], _, _ => ⟨[u0], (.at rfl .nil), .of_eq rfl⟩, trivial⟩
theorem st26 (K : PySem.W.Frag) (a : Addr) (fd : FuncData) (F : FunD K f26.d.name f26.qn (defArgs f26.st) (defBody f26.st) (defScope f26.st) (f26.dd.dvs K) [] a fd) : SitesOk K fd (f26.N.take f26.d.nps) (sitesOf sites0 26) := by
  obtain ⟨oc, od, dV, kV, doc, pm, an, cdv, ct, osl, rfl, lk, hcd, hD, _⟩ := F.ex
  show SitesOk K _ ["script"] [(1, [], [.at 0])]
  obtain rfl := dfl_none hD
  exact ⟨fun s us ws inK h1 h2 => match us, ws, h1, h2 with | [u0], [], _, _ => ⟨[u0], (.at rfl .nil), .of_eq rfl⟩, trivial⟩
theorem st27 (K : PySem.W.Frag) (a : Addr) (fd : FuncData) (F : FunD K f27.d.name f27.qn (defArgs f27.st) (defBody f27.st) (defScope f27.st) (f27.dd.dvs K) [] a fd) : SitesOk K fd (f27.N.take f27.d.nps) (sitesOf sites0 27) := by
  obtain ⟨oc, od, dV, kV, doc, pm, an, cdv, ct, osl, rfl, lk, hcd, hD, _⟩ := F.ex
  show SitesOk K _ ["self", "many", "clues"] [(3, [], [.at 0, .at 1, .at 2])]
  obtain rfl := dfl_none hD
  exact ⟨fun s us ws inK h1 h2 => match us, ws, h1, h2 with | [u0, u1, u2], [], _, _ => ⟨[u0, u1, u2], (.at rfl (.at rfl (.at rfl .nil))), .of_eq rfl⟩, trivial⟩
theorem st28 (K : PySem.W.Frag) (a : Addr) (fd : FuncData) (F : FunD K f28.d.name f28.qn (defArgs f28.st) (defBody f28.st) (defScope f28.st) (f28.dd.dvs K) [] a fd) : SitesOk K fd (f28.N.take f28.d.nps) (sitesOf sites0 28) := by
  obtain ⟨oc, od, dV, kV, doc, pm, an, cdv, ct, osl, rfl, lk, hcd, hD, _⟩ := F.ex
  show SitesOk K _ ["self", "kinds"] [(2, [], [.at 0, .at 1]), (1, ["kinds"], [.at 0, .at 1])]
  obtain rfl := dfl_none hD
  exact ⟨fun s us ws inK h1 h2 => match us, ws, h1, h2 with | [u0, u1], [], _, _ => ⟨[u0, u1], (.at rfl (.at rfl .nil)), .of_eq rfl⟩, fun s us ws inK h1 h2 => match us, ws, h1, h2 with | [u0], [w0], _, _ => ⟨[u0, w0], (.at rfl (.at rfl .nil)), .of_eq rfl⟩, trivial⟩
theorem st29 (K : PySem.W.Frag) (a : Addr) (fd : FuncData) (F : FunD K f29.d.name f29.qn (defArgs f29.st) (defBody f29.st) (defScope f29.st) (f29.dd.dvs K) [] a fd) : SitesOk K fd (f29.N.take f29.d.nps) (sitesOf sites0 29) := by
  obtain ⟨oc, od, dV, kV, doc, pm, an, cdv, ct, osl, rfl, lk, hcd, hD, _⟩ := F.ex
  show SitesOk K _ ["self", "other"] [(2, [], [.at 0, .at 1])]
  obtain rfl := dfl_none hD
  exact ⟨fun s us ws inK h1 h2 => match us, ws, h1, h2 with | [u0, u1], [], _, _ => ⟨[u0, u1], (.at rfl (.at rfl .nil)), .of_eq rfl⟩, trivial⟩
theorem st : StAll sites0 0 S0 := ⟨st0, st1, st2, st3, st4, st5, st6, st7, st8, st9, st10, st11, st12, st13, st14, st15, st16, st17, st18, st19, st20, st21, st22, st23, st24, st25, st26, st27, st28, st29, trivial⟩
theorem xst : ExStAll sites0.ex := ⟨fun K a fd F => F.bindsN fun _ _ _ _ _ _ us hl => match us, hl with | [_, _], _ => rfl, fun K a fd F => F.bindsN fun _ _ _ _ _ _ us hl => match us, hl with | [_, _], _ => rfl, fun K a fd F => F.bindsN fun _ _ _ _ _ _ us hl => match us, hl with | [_, _], _ => rfl, fun K a fd F => F.bindsN fun _ _ _ _ _ _ us hl => match us, hl with | [_, _], _ => rfl, trivial⟩

set_option maxHeartbeats 0
abbrev R : PySem.W.OpenRow := PySem.W.OpenLaw.row PySem.Challenge.rw_stonerounds_k51_kits_kept_and_refused
abbrev hk : PySem.W.Hook := hookY 4 (fnsOf S0 sites0) (tfOf S0) (fun K => coreB K S0 sites0)
def ob (s : PySem.W.SharedT) : He.AlX := obsY 4 (fnsOf S0 sites0) (tfOf S0) (fun K => coreB K S0 sites0) (HandSHeadRun.getT s)
theorem ob_eq (s : PySem.W.SharedT) : ob s = hk.obs s.abs := obsY_eq (HandSHeadRun.getT_eq s)
def names : List PySem.Str := [("_wall" : PySem.Str), ("SayError" : PySem.Str), ("BadNumber" : PySem.Str), ("BadBook" : PySem.Str), ("BadKit" : PySem.Str), ("Misfit" : PySem.Str), ("BadText" : PySem.Str), ("is_integer" : PySem.Str), ("is_within" : PySem.Str), ("is_list" : PySem.Str), ("need_integer" : PySem.Str), ("FIGURES" : PySem.Str), ("MOST_FIGURES" : PySem.Str), ("integer_in" : PySem.Str), ("Scan" : PySem.Str), ("MOST_CELLS_books" : PySem.Str), ("MOST_CLUES" : PySem.Str), ("MOST_SEEN" : PySem.Str), ("are_unlike" : PySem.Str), ("is_clue" : PySem.Str), ("Book" : PySem.Str), ("take_clue" : PySem.Str), ("MOST_CELLS_kits" : PySem.Str), ("SINGLE" : PySem.Str), ("PAIRS" : PySem.Str), ("EXCHANGE" : PySem.Str), ("ALL" : PySem.Str), ("is_kind" : PySem.Str), ("Kit" : PySem.Str), ("need_kit" : PySem.Str), ("need_book" : PySem.Str), ("kinds_in" : PySem.Str), ("is_plain" : PySem.Str), ("sort_in" : PySem.Str), ("kinds_of" : PySem.Str), ("kit_of" : PySem.Str), ("is_of" : PySem.Str), ("sort_of" : PySem.Str), ("turned_kit" : PySem.Str), ("_law_satchel" : PySem.Str), ("_law_strap" : PySem.Str), ("_law_buckle" : PySem.Str), ("_law_stirred" : PySem.Str), ("_law_kinds" : PySem.Str), ("_law_heard" : PySem.Str), ("_law_kept_right" : PySem.Str), ("_law_kind_right" : PySem.Str), ("_law_refused_right" : PySem.Str)]
theorem run (w : World) : HandSHeadRun.RunEq R (PySem.W.view R.prog [54]) hk ob 40000 names w := by
  intro os
  kernel_rfl

end
end
end K51
end
set_option linter.all false
set_option maxRecDepth 100000
/-! EvW: what is wanted behind a run of the evaluator, rule by rule. Own work. -/
namespace Ev
open PySem

def Wp {α : Type} (r : Rs α) (Q : α → AS → Prop) (X : AV → AS → Prop) : Prop := match r with
  | .ok a s => Q a s
  | .exc x s => X x s
  | .stuck => False
abbrev NoX : AV → AS → Prop := fun _ _ => False
section
variable {α β : Type} {Q Q' : α → AS → Prop} {X X' : AV → AS → Prop} {s s' : AS}
theorem Wp.mono {r : Rs α} (h : Wp r Q X) (hq : ∀ a s, Q a s → Q' a s) (hx : ∀ a s, X a s → X' a s) : Wp r Q' X' := by
  cases r with
  | ok a s => exact hq a s h
  | exc x s => exact hx x s h
  | stuck => exact h
theorem Wp.imp {r : Rs α} (h : Wp r Q X) (hq : ∀ a s, Q a s → Q' a s) : Wp r Q' X := h.mono hq fun _ _ h => h
theorem Wp.out {r : Rs α} (h : Wp r Q NoX) : ∃ a s, r = .ok a s ∧ Q a s := by
  cases r with
  | ok a s => exact ⟨a, s, rfl, h⟩
  | exc x s => exact h.elim
  | stuck => exact h.elim
theorem Wp.of {r : Rs α} {a : α} (e : r = .ok a s) (h : Q a s) : Wp r Q X := by rw [e]; exact h
theorem wp_bind {m : MM β} {f : β → MM α} (h : Wp (m s) (fun b s' => Wp (f b s') Q X) X) : Wp (MM.bind m f s) Q X := by
  unfold MM.bind
  revert h
  cases m s <;> exact id
theorem wp_pure {a : α} (h : Q a s) : Wp (MM.pure a s) Q X := h
theorem wp_ofO {o : Option α} {a : α} (e : o = some a) (h : Q a s) : Wp (ofO o s) Q X := by subst e; exact h
theorem wp_ok {a : α} (h : Q a s) : Wp (.ok a s) Q X := h
/-- a test -/
theorem wp_tru {v : AV} {b : Bool} {Q : Bool → AS → Prop} (e : truth s.cells v = some b) (h : Q b s) : Wp (truM v s) Q X := by
  unfold truM; rw [e]; exact h
theorem wp_ite {b : Bool} {m n : MM α} (h1 : b = true → Wp (m s) Q X) (h2 : b = false → Wp (n s) Q X) : Wp ((if b = true then m else n) s) Q X := by
  cases b with
  | true => exact h1 rfl
  | false => exact h2 rfl
theorem wp_iteT {m n : MM α} (h1 : Wp (m s) Q X) : Wp ((if true = true then m else n) s) Q X := h1
theorem wp_iteF {m n : MM α} (h1 : Wp (n s) Q X) : Wp ((if false = true then m else n) s) Q X := h1
end
section
variable {call : Nat → List AV → Bool → MM AV} {n : Nat} {ρ : AE} {s : AS} {Q : AV → AS → Prop} {X : AV → AS → Prop}
theorem we_var {i : Nat} (h : ∃ v, ρ[i]? = some (some v) ∧ Q v s) : Wp (evE call (n + 1) (.var i) ρ s) Q X := by
  obtain ⟨v, e, h⟩ := h
  show Wp (ofO ((ρ[i]?).bind id) s) Q X
  rw [e]; exact h
theorem we_int {i : Int} (h : Q (.int i) s) : Wp (evE call (n + 1) (.int i) ρ s) Q X := h
theorem we_str {x : Str} (h : Q (.str x) s) : Wp (evE call (n + 1) (.str x) ρ s) Q X := h
theorem we_bl {b : Bool} (h : Q (.bl b) s) : Wp (evE call (n + 1) (.bl b) ρ s) Q X := h
theorem we_non (h : Q .non s) : Wp (evE call (n + 1) .non ρ s) Q X := h
theorem we_bin {o : BOp} {a b : CE} (h : Wp (evE call n a ρ s) (fun x s1 => Wp (evE call n b ρ s1) (fun y s2 => Wp (binM o x y s2) Q X) X) X) : Wp (evE call (n + 1) (.bin o a b) ρ s) Q X := wp_bind (h.imp fun _ _ h => wp_bind h)
theorem we_neg {a : CE} (h : Wp (evE call n a ρ s) (fun x s1 => ∃ i, x = .int i ∧ Q (.int (-i)) s1) X) : Wp (evE call (n + 1) (.neg a) ρ s) Q X := wp_bind (h.imp fun _ _ ⟨i, e, h⟩ => by subst e; exact h)
theorem we_not {a : CE} (h : Wp (evE call n a ρ s) (fun x s1 => ∃ b, truth s1.cells x = some b ∧ Q (.bl (!b)) s1) X) : Wp (evE call (n + 1) (.not a) ρ s) Q X := wp_bind (h.imp fun _ _ ⟨b, e, h⟩ => wp_bind (wp_tru e h))
theorem we_and {a b : CE} (h : Wp (evE call n a ρ s) (fun x s1 => ∃ t, truth s1.cells x = some t ∧ ((t = true → Wp (evE call n b ρ s1) Q X) ∧ (t = false → Q x s1))) X) : Wp (evE call (n + 1) (.and a b) ρ s) Q X :=
  wp_bind (h.imp fun x s1 ⟨t, e, h1, h2⟩ => wp_bind (wp_tru e (wp_ite h1 h2)))
theorem we_or {a b : CE} (h : Wp (evE call n a ρ s) (fun x s1 => ∃ t, truth s1.cells x = some t ∧ ((t = true → Q x s1) ∧ (t = false → Wp (evE call n b ρ s1) Q X))) X) : Wp (evE call (n + 1) (.or a b) ρ s) Q X :=
  wp_bind (h.imp fun x s1 ⟨t, e, h1, h2⟩ => wp_bind (wp_tru e (wp_ite h1 h2)))
theorem we_isN {a b : CE} (h : Wp (evE call n a ρ s) (fun x s1 => Q (.bl (isNone x)) s1) X) : Wp (evE call (n + 1) (.cmp .isN a b) ρ s) Q X := wp_bind (h.imp fun _ _ h => h)
theorem we_notN {a b : CE} (h : Wp (evE call n a ρ s) (fun x s1 => Q (.bl (!isNone x)) s1) X) : Wp (evE call (n + 1) (.cmp .notN a b) ρ s) Q X := wp_bind (h.imp fun _ _ h => h)
theorem we_cmp {o : COp} {a b : CE} (h1 : o ≠ .isN) (h2 : o ≠ .notN) (h : Wp (evE call n a ρ s) (fun x s1 => Wp (evE call n b ρ s1) (fun y s2 => Wp (cmpM o x y s2) Q X) X) X) : Wp (evE call (n + 1) (.cmp o a b) ρ s) Q X := by
  have := wp_bind (h.imp fun x s1 h => wp_bind (m := evE call n b ρ) (f := fun y => cmpM o x y) h)
  cases o <;> first | exact this | exact absurd rfl h1 | exact absurd rfl h2
theorem we_ite {c a b : CE} (h : Wp (evE call n c ρ s) (fun x s1 => ∃ t, truth s1.cells x = some t ∧ ((t = true → Wp (evE call n a ρ s1) Q X) ∧ (t = false → Wp (evE call n b ρ s1) Q X))) X) : Wp (evE call (n + 1) (.ite c a b) ρ s) Q X :=
  wp_bind (h.imp fun x s1 ⟨t, e, h1, h2⟩ => wp_bind (wp_tru e (wp_ite h1 h2)))
theorem wl_nil {f : CE → MM AV} {Q : List AV → AS → Prop} (h : Q [] s) : Wp (evList f [] s) Q X := h
theorem wl_cons {f : CE → MM AV} {e : CE} {es : List CE} {Q : List AV → AS → Prop} (h : Wp (f e s) (fun v s1 => Wp (evList f es s1) (fun vs s2 => Q (v :: vs) s2) X) X) : Wp (evList f (e :: es) s) Q X :=
  wp_bind (h.imp fun _ _ h => wp_bind h)
theorem we_tup {es : List CE} (h : Wp (evList (fun e => evE call n e ρ) es s) (fun vs s1 => Q (.tup vs) s1) X) : Wp (evE call (n + 1) (.tup es) ρ s) Q X := wp_bind h
theorem we_lstF {es : List CE} (h : Wp (evList (fun e => evE call n e ρ) es s) (fun vs s1 => Q (.lst vs) s1) X) : Wp (evE call (n + 1) (.lst false es) ρ s) Q X := wp_bind h
theorem we_lstT {es : List CE} (h : Wp (evList (fun e => evE call n e ρ) es s) (fun vs s1 => Q (.ref s1.cells.length) ⟨s1.cells ++ [.lst vs], s1.opn⟩) X) : Wp (evE call (n + 1) (.lst true es) ρ s) Q X := wp_bind h
theorem wps_nil {f : CE → MM AV} {Q : List (AV × AV) → AS → Prop} (h : Q [] s) : Wp (evPairs f [] [] s) Q X := h
theorem wps_cons {f : CE → MM AV} {k v : CE} {ks vs : List CE} {Q : List (AV × AV) → AS → Prop} (h : Wp (f k s) (fun a s1 => Wp (f v s1) (fun b s2 => Wp (evPairs f ks vs s2) (fun r s3 => Q ((a, b) :: r) s3) X) X) X) : Wp (evPairs f (k :: ks) (v :: vs) s) Q X :=
  wp_bind (h.imp fun _ _ h => wp_bind (h.imp fun _ _ h => wp_bind h))
theorem wp_nox {α : Type} {m : MM α} {Q : α → AS → Prop} (h : Wp (m s) Q NoX) : Wp (nox m s) Q X := by
  unfold nox
  revert h
  cases m s <;> exact id
theorem we_dctF {ks vs : List CE} (h : Wp (evPairs (fun e => evE call n e ρ) ks vs s) (fun ps s1 => (dispOk ps = true ∧ ps.length ≤ 15) ∧ Q (.dct (mergeA [] ps)) s1) NoX) : Wp (evE call (n + 1) (.dct false ks vs) ρ s) Q X := by
  refine wp_bind (wp_nox (h.imp fun ps s1 ⟨h1, h2⟩ => ?_))
  unfold mkDisp
  rw [if_pos h1]
  exact h2
theorem we_idx {a b : CE} (h : Wp (evE call n a ρ s) (fun x s1 => Wp (evE call n b ρ s1) (fun y s2 => Wp (idxM x y s2) Q X) X) X) : Wp (evE call (n + 1) (.idx a b) ρ s) Q X := wp_bind (h.imp fun _ _ h => wp_bind h)
theorem we_slc {a : CE} {lo hi : Option CE} (h : Wp (evE call n a ρ s) (fun x s1 => Wp (evOpt (fun e => evE call n e ρ) lo s1) (fun l s2 => Wp (evOpt (fun e => evE call n e ρ) hi s2) (fun u s3 => Wp (slcM x l u s3) Q X) X) X) X) : Wp (evE call (n + 1) (.slc a lo hi) ρ s) Q X :=
  wp_bind (h.imp fun _ _ h => wp_bind (h.imp fun _ _ h => wp_bind h))
theorem wo_none {f : CE → MM AV} {Q : Option Int → AS → Prop} (h : Q none s) : Wp (evOpt f none s) Q X := h
theorem wo_some {f : CE → MM AV} {e : CE} {Q : Option Int → AS → Prop} (h : Wp (f e s) (fun v s1 => ∃ i, v = .int i ∧ Q (some i) s1) X) : Wp (evOpt f (some e) s) Q X := wp_bind (h.imp fun _ _ ⟨i, e, h⟩ => by subst e; exact h)
theorem we_call {k : Nat} {es ws : List CE} {ks : List Str} {perm : List PArg} {keep : Bool} (h : Wp (evList (fun e => evE call n e ρ) es s) (fun v1 s1 => Wp (evList (fun e => evE call n e ρ) ws s1) (fun v2 s2 => ∃ args, mapO (argOf (v1 ++ v2)) perm = some args ∧ Wp (call k args keep s2) Q X) X) X) :
    Wp (evE call (n + 1) (.call k es ws ks perm keep) ρ s) Q X :=
  wp_bind (h.imp fun _ _ h => wp_bind (h.imp fun _ _ ⟨args, e, h⟩ => by rw [e]; exact h))
theorem we_blt {b : Blt} {al : Bool} {es : List CE} (h : Wp (evList (fun e => evE call n e ρ) es s) (fun vs s1 => Wp (bltM b al vs s1) Q X) X) : Wp (evE call (n + 1) (.blt b al es) ρ s) Q X := wp_bind h
theorem we_isi {e : CE} {ts : List String} (h : Wp (evE call n e ρ s) (fun x s1 => ∃ t bs, tyName s1.cells x = some t ∧ mapO (L2.kitB t) ts = some bs ∧ Q (.bl (bs.any id)) s1) X) : Wp (evE call (n + 1) (.isi e ts) ρ s) Q X :=
  wp_bind (h.imp fun x s1 ⟨t, bs, e1, e2, h⟩ => by unfold isiM; rw [e1]; simp only; rw [e2]; exact h)
theorem we_bm {m : BM} {a : CE} {es : List CE} (h : Wp (evE call n a ρ s) (fun x s1 => bmChk m x s1 = .ok () s1 ∧ Wp (evList (fun e => evE call n e ρ) es s1) (fun vs s2 => Wp (bmM m x vs s2) Q X) X) X) : Wp (evE call (n + 1) (.bm m a es) ρ s) Q X :=
  wp_bind (h.imp fun x s1 ⟨e, h⟩ => wp_bind (Wp.of e (wp_bind h)))
/-! comprehensions -/
theorem we_comp {al : Bool} {ws : List Nat} {tg : Tg} {it : CE} {ifs : List CE} {elt : CE} (h : Wp (evI (fun e => evE call n e ρ) it s) (fun src s1 =>
      Wp (compR (cTurn (fun s v ρ => asgT s.cells tg v ρ) (fun ρ' => evTests (fun e => evE call n e ρ') ifs) (fun ρ' => evE call n elt ρ') (wipeE ρ ws)) src 0 [] s1) (fun vs s2 => Wp (mkL al vs s2) Q X) X) X) : Wp (evE call (n + 1) (.comp al ws tg it ifs elt) ρ s) Q X :=
  wp_bind (h.imp fun _ _ h => wp_bind h)
theorem wi_rng {f : CE → MM AV} {es : List CE} {Q : Src → AS → Prop} (h : Wp (evList f es s) (fun vs s1 => Wp (rngM vs s1) Q X) X) : Wp (evI f (.rng es) s) Q X := wp_bind h
theorem wi_enm {f : CE → MM AV} {e : CE} {Q : Src → AS → Prop} (h : Wp (f e s) (fun v s1 => Wp (enmOf v s1) Q X) X) : Wp (evI f (.enm e) s) Q X := wp_bind h
theorem wi_val {f : CE → MM AV} {e : CE} {Q : Src → AS → Prop} (hr : ∀ es, e ≠ .rng es) (hr2 : ∀ es, e ≠ .enm es) (h : Wp (f e s) (fun v s1 => Wp (srcOf v s1) Q X) X) : Wp (evI f e s) Q X := by
  have := wp_bind (m := f e) (f := srcOf) (s := s) h
  cases e <;> first | exact this | exact absurd rfl (hr _) | exact absurd rfl (hr2 _)
theorem wc_items {f : AV → MM (Option AV)} {xs : List AV} {Q : List AV → AS → Prop} (h : Wp (compL f xs [] s) Q X) : Wp (compR f (.items xs) 0 [] s) Q X := h
theorem wc_nil {f : AV → MM (Option AV)} {acc : List AV} {Q : List AV → AS → Prop} (h : Q acc s) : Wp (compL f [] acc s) Q X := h
theorem wc_cons {f : AV → MM (Option AV)} {x : AV} {xs acc : List AV} {Q : List AV → AS → Prop} (h : Wp (f x s) (fun o s1 => Wp (compL f xs (accO acc o) s1) Q X) X) : Wp (compL f (x :: xs) acc s) Q X := wp_bind h
theorem wc_turn {fg : AS → AV → AE → Option AE} {ft : AE → MM Bool} {fe : AE → MM AV} {ρ : AE} {x : AV} {Q : Option AV → AS → Prop} (h : ∃ ρ', fg s x ρ = some ρ' ∧ Wp (ft ρ' s) (fun b s1 => (b = true → Wp (fe ρ' s1) (fun v s2 => Q (some v) s2) NoX) ∧ (b = false → Q none s1)) NoX) : Wp (cTurn fg ft fe ρ x s) Q X := by
  obtain ⟨ρ', e, h⟩ := h
  refine wp_nox (wp_bind ?_)
  show Wp (ofO (fg s x ρ) s) _ _
  rw [e]
  refine wp_bind (h.imp fun b s1 ⟨h1, h2⟩ => ?_)
  cases b with
  | true => exact wp_bind (h1 rfl)
  | false => exact h2 rfl
theorem wt_nil {f : CE → MM AV} {Q : Bool → AS → Prop} (h : Q true s) : Wp (evTests f [] s) Q X := h
theorem wt_one {f : CE → MM AV} {c : CE} {Q : Bool → AS → Prop} (h : Wp (f c s) (fun x s1 => ∃ t, truth s1.cells x = some t ∧ Q t s1) X) : Wp (evTests f [c] s) Q X := wp_bind (h.imp fun _ _ ⟨t, e, h⟩ => wp_tru e h)
/-- a comprehension over given items, by what is true of every item and what it makes -/
theorem wc_inv {f : AV → MM (Option AV)} {Q : List AV → AS → Prop} (I : Nat → List AV → AS → Prop) {xs : List AV} {acc : List AV} (h0 : I 0 acc s) (hs : ∀ (i : Nat) (x : AV) acc s, xs[i]? = some x → I i acc s → Wp (f x s) (fun o s1 => I (i + 1) (accO acc o) s1) X)
    (hd : ∀ acc s, I xs.length acc s → Q acc s) : Wp (compL f xs acc s) Q X := by
  induction xs generalizing acc s I with
  | nil => exact hd _ _ h0
  | cons x xs ih =>
    exact wc_cons ((hs 0 x acc s rfl h0).imp fun o s1 h1 => ih (fun i => I (i + 1)) h1 (fun i y acc s e h => hs (i + 1) y acc s e h) hd)
end

/-! ### statements -/
structure SK where
  rt : AV → AS → Prop
  bk : AE → AS → Prop
  ct : AE → AS → Prop
  ex : AV → AE → AS → Prop
def WS (r : SRs) (N : AE → AS → Prop) (K : SK) : Prop := match r with
  | .next ρ s => N ρ s
  | .ret a s => K.rt a s
  | .brk ρ s => K.bk ρ s
  | .cont ρ s => K.ct ρ s
  | .exc x ρ s => K.ex x ρ s
  | .stuck => False
section
variable {call : Nat → List AV → Bool → MM AV} {n : Nat} {ρ : AE} {s : AS} {N : AE → AS → Prop} {K : SK}
theorem WS.mono {r : SRs} {N' : AE → AS → Prop} (h : WS r N K) (hn : ∀ ρ s, N ρ s → N' ρ s) : WS r N' K := by
  cases r with
  | next ρ s => exact hn ρ s h
  | _ => exact h
theorem WS.mono' {r : SRs} {N' : AE → AS → Prop} {R R' : AV → AS → Prop} (h : WS r N ⟨R, fun _ _ => False, fun _ _ => False, fun _ _ _ => False⟩) (hn : ∀ ρ s, N ρ s → N' ρ s) (hr : ∀ v s, R v s → R' v s) : WS r N' ⟨R', fun _ _ => False, fun _ _ => False, fun _ _ _ => False⟩ := by
  cases r with
  | next ρ s => exact hn ρ s h
  | ret v s => exact hr v s h
  | _ => exact h
theorem WS.monoA {r : SRs} {N' : AE → AS → Prop} {R R' : AV → AS → Prop} {E E' : AV → AE → AS → Prop} (h : WS r N ⟨R, fun _ _ => False, fun _ _ => False, E⟩) (hn : ∀ ρ s, N ρ s → N' ρ s) (hr : ∀ v s, R v s → R' v s) (he : ∀ x ρ s, E x ρ s → E' x ρ s) : WS r N' ⟨R', fun _ _ => False, fun _ _ => False, E'⟩ := by
  cases r with
  | next ρ s => exact hn ρ s h
  | ret v s => exact hr v s h
  | exc x ρ s => exact he x ρ s h
  | _ => exact h
theorem WS.monoK {r : SRs} {R : AV → AS → Prop} {E : AV → AE → AS → Prop} {b c : AE → AS → Prop} (h : WS r N ⟨R, fun _ _ => False, fun _ _ => False, E⟩) : WS r N ⟨R, b, c, E⟩ := by
  cases r with
  | brk ρ s => exact False.elim h
  | cont ρ s => exact False.elim h
  | _ => exact h
theorem ws_bind {α : Type} {m : MM α} {f : α → AS → SRs} (h : Wp (m s) (fun a s1 => WS (f a s1) N K) (fun x s1 => K.ex x ρ s1)) : WS (sBind ρ m f s) N K := by
  unfold sBind
  revert h
  cases m s <;> exact id
theorem ws_seq {r : SRs} {f : AE → AS → SRs} (h : WS r (fun ρ s => WS (f ρ s) N K) K) : WS (sSeq r f) N K := by
  unfold sSeq
  cases r <;> exact h
theorem ws_nil {st : CS → AE → AS → SRs} (h : N ρ s) : WS (evB st [] ρ s) N K := h
theorem ws_cons {st : CS → AE → AS → SRs} {c : CS} {cs : List CS} (h : WS (st c ρ s) (fun ρ s => WS (evB st cs ρ s) N K) K) : WS (evB st (c :: cs) ρ s) N K := ws_seq h
theorem ws_expr {e : CE} (h : Wp (evE call n e ρ s) (fun _ s1 => N ρ s1) (fun x s1 => K.ex x ρ s1)) : WS (evS call (n + 1) (.expr e) ρ s) N K := ws_bind h
theorem ws_ret {e : CE} (h : Wp (evE call n e ρ s) (fun v s1 => K.rt v s1) (fun x s1 => K.ex x ρ s1)) : WS (evS call (n + 1) (.ret e) ρ s) N K := ws_bind h
theorem ws_retN (h : K.rt .non s) : WS (evS call (n + 1) .retN ρ s) N K := h
theorem ws_asg {t : Tg} {e : CE} (h : Wp (evE call n e ρ s) (fun v s1 => ∃ ρ', asgT s1.cells t v ρ = some ρ' ∧ N ρ' s1) (fun x s1 => K.ex x ρ s1)) : WS (evS call (n + 1) (.asg t e) ρ s) N K :=
  ws_bind (h.imp fun v s1 ⟨ρ', e, h⟩ => by rw [e]; exact h)
theorem ws_setIx {a i e : CE} (h : Wp (evE call n e ρ s) (fun v s1 => Wp (evE call n a ρ s1) (fun x s2 => Wp (evE call n i ρ s2) (fun y s3 => Wp (setIxM x y v s3) (fun _ s4 => N ρ s4) (fun x s1 => K.ex x ρ s1)) (fun x s1 => K.ex x ρ s1)) (fun x s1 => K.ex x ρ s1)) (fun x s1 => K.ex x ρ s1)) : WS (evS call (n + 1) (.setIx a i e) ρ s) N K :=
  ws_bind (wp_bind (h.imp fun _ _ h => wp_bind (h.imp fun _ _ h => wp_bind h)))
theorem ws_if {c : CE} {a b : List CS} (h : Wp (evE call n c ρ s) (fun x s1 => ∃ t, truth s1.cells x = some t ∧ ((t = true → WS (evB (evS call n) a ρ s1) N K) ∧ (t = false → WS (evB (evS call n) b ρ s1) N K))) (fun x s1 => K.ex x ρ s1)) : WS (evS call (n + 1) (.ifS c a b) ρ s) N K :=
  ws_bind (wp_bind (h.imp fun x s1 ⟨t, e, h1, h2⟩ => wp_tru e (by
    cases t with
    | true => exact h1 rfl
    | false => exact h2 rfl)))
def turnF (call : Nat → List AV → Bool → MM AV) (n : Nat) (t : Tg) (body : List CS) : AV → AE → AS → SRs := fun x ρ' s1 => match asgT s1.cells t x ρ' with
  | some ρ2 => evB (evS call n) body ρ2 s1
  | none => .stuck
theorem ws_for {t : Tg} {it : CE} {body : List CS} (h : Wp (evI (fun e => evE call n e ρ) it s) (fun src s1 => WS (match src with | .items xs => forL (turnF call n t body) xs ρ s1 | .cell k m => forC (turnF call n t body) k m 0 ρ s1) N K) (fun x s1 => K.ex x ρ s1)) : WS (evS call (n + 1) (.forS t it body) ρ s) N K := ws_bind h
theorem wf_nil {f : AV → AE → AS → SRs} (h : N ρ s) : WS (forL f [] ρ s) N K := h
theorem wf_cons {f : AV → AE → AS → SRs} {x : AV} {xs : List AV} (h : WS (f x ρ s) (fun ρ s => WS (forL f xs ρ s) N K) { rt := K.rt, ct := fun ρ s => WS (forL f xs ρ s) N K, bk := N, ex := K.ex }) : WS (forL f (x :: xs) ρ s) N K := by
  unfold forL
  revert h
  cases f x ρ s <;> exact id
theorem ws_turn {t : Tg} {body : List CS} {x : AV} (h : ∃ ρ', asgT s.cells t x ρ = some ρ' ∧ WS (evB (evS call n) body ρ' s) N K) : WS (turnF call n t body x ρ s) N K := by
  obtain ⟨ρ', e, h⟩ := h
  unfold turnF; rw [e]; exact h
/-- a for over given items by an invariant -/
theorem wf_inv {f : AV → AE → AS → SRs} (I : Nat → AE → AS → Prop) {xs : List AV} (h0 : I 0 ρ s)
    (hs : ∀ (i : Nat) (x : AV) ρ s, xs[i]? = some x → I i ρ s → WS (f x ρ s) (I (i + 1)) { rt := K.rt, ct := I (i + 1), bk := N, ex := K.ex }) (hd : ∀ ρ s, I xs.length ρ s → N ρ s) : WS (forL f xs ρ s) N K := by
  induction xs generalizing ρ s I with
  | nil => exact hd _ _ h0
  | cons x xs ih =>
    refine wf_cons ?_
    have h1 := hs 0 x ρ s rfl h0
    have k := fun ρ s h => ih (ρ := ρ) (s := s) (fun i => I (i + 1)) h (fun i y ρ s e h => hs (i + 1) y ρ s e h) hd
    revert h1
    cases f x ρ s with
    | next ρ1 s1 => exact fun h1 => k _ _ h1
    | cont ρ1 s1 => exact fun h1 => k _ _ h1
    | brk ρ1 s1 => exact id
    | ret a s1 => exact id
    | exc x ρ1 s1 => exact id
    | stuck => exact id
end
/-! ### calls -/
section
variable {P : List FnD} {d k : Nat} {f : FnD} {args : List AV} {keep : Bool} {s : AS} {Q : AV → AS → Prop} {X : AV → AS → Prop}
theorem wp_plain {call : Nat → List AV → Bool → MM AV} (h : WS (evB (evS call FU) f.body (f.env0 args) ⟨s.cells, false⟩)
      (fun _ s1 => Wp (leaveV s keep .non s1) Q X) ⟨fun v s1 => Wp (leaveV s keep v s1) Q X, fun _ _ => False, fun _ _ => False, fun x _ s1 => Wp (leaveX s keep x s1) Q X⟩) : Wp (plainF call f args keep s) Q X := by
  unfold plainF
  revert h
  generalize evB (evS call FU) f.body (f.env0 args) ⟨s.cells, false⟩ = r
  cases r with
  | next ρ s1 => exact id
  | ret a s1 => exact id
  | brk ρ s1 => exact fun h => h.elim
  | cont ρ s1 => exact fun h => h.elim
  | exc x ρ s1 => exact id
  | stuck => exact fun h => h.elim
theorem wp_fn (hf : P[k]? = some f) (hl : args.length = f.nps) (hk : (keep || f.hd) = true) (h : WS (evB (evS (callF P d) FU) f.body (f.env0 args) ⟨s.cells, false⟩)
      (fun _ s1 => Wp (leaveV s keep .non s1) Q X) ⟨fun v s1 => Wp (leaveV s keep v s1) Q X, fun _ _ => False, fun _ _ => False, fun x _ s1 => Wp (leaveX s keep x s1) Q X⟩) : Wp (callF P (d + 1) k args keep s) Q X := by
  unfold callF
  rw [hf]
  simp only
  rw [if_pos hl, hk]
  exact wp_plain h
theorem wp_frame {m : MM AV} {q : Nat} {own rest : List AO} {o : Bool} (hq : own.length = q) (hc : closedC q own = true) (h : Wp (m ⟨own, false⟩) (fun v s2 => (s2.cells.length = q ∧ s2.opn = false) ∧ Q v ⟨s2.cells ++ rest, o⟩) fun x s2 => (s2.cells.length = q ∧ s2.opn = false) ∧ X x ⟨s2.cells ++ rest, o⟩) :
    Wp (frameM (some q) m ⟨own ++ rest, o⟩) Q X := by
  unfold frameM
  have e1 : (own ++ rest).take q = own := by rw [← hq]; exact List.take_left' rfl
  have e2 : (own ++ rest).drop q = rest := by rw [← hq]; exact List.drop_left' rfl
  simp only [e1, e2]
  rw [if_pos ⟨by rw [List.length_append]; omega, hc⟩]
  revert h
  cases m ⟨own, false⟩ with
  | ok v s2 => exact fun h => by simp only; rw [if_pos h.1]; exact h.2
  | exc x s2 => exact fun h => by simp only; rw [if_pos h.1]; exact h.2
  | stuck => exact fun h => h.elim
/-- a call at the cells that it sees -/
theorem wp_fr {q : Nat} {own rest : List AO} {o : Bool} (hf : P[k]? = some f) (hl : args.length = f.nps) (hh : f.hd = false) (ht : topsO (topV DPT) args = some q) (hq : own.length = q) (hc : closedC q own = true)
    (h : WS (evB (evS (callF P d) FU) f.body (f.env0 args) ⟨own, false⟩) (fun _ s1 => Wp (leaveV ⟨own, false⟩ false .non s1) (fun v s2 => (s2.cells.length = q ∧ s2.opn = false) ∧ Q v ⟨s2.cells ++ rest, o⟩) fun x s2 => (s2.cells.length = q ∧ s2.opn = false) ∧ X x ⟨s2.cells ++ rest, o⟩)
      ⟨fun v s1 => Wp (leaveV ⟨own, false⟩ false v s1) (fun v s2 => (s2.cells.length = q ∧ s2.opn = false) ∧ Q v ⟨s2.cells ++ rest, o⟩) fun x s2 => (s2.cells.length = q ∧ s2.opn = false) ∧ X x ⟨s2.cells ++ rest, o⟩, fun _ _ => False, fun _ _ => False,
        fun x _ s1 => Wp (leaveX ⟨own, false⟩ false x s1) (fun v s2 => (s2.cells.length = q ∧ s2.opn = false) ∧ Q v ⟨s2.cells ++ rest, o⟩) fun x s2 => (s2.cells.length = q ∧ s2.opn = false) ∧ X x ⟨s2.cells ++ rest, o⟩⟩) :
    Wp (callF P (d + 1) k args false ⟨own ++ rest, o⟩) Q X := by
  unfold callF
  rw [hf]
  simp only
  rw [if_pos hl, hh, ht]
  exact wp_frame hq hc (wp_plain h)
theorem wp_leave {v : AV} {s1 : AS} (hl : s1.cells.length ≤ s.cells.length) (h : Q v ⟨s1.cells, s.opn || s1.opn⟩) : Wp (leaveV s keep v s1) Q X := by
  unfold leaveV
  rw [if_pos (.inr (.inr hl))]
  exact h
theorem wp_leaveK {v : AV} {s1 : AS} (hk : keep = true) (h : Q v ⟨s1.cells, s.opn || s1.opn⟩) : Wp (leaveV s keep v s1) Q X := by
  unfold leaveV
  rw [if_pos (.inl hk)]
  exact h
theorem wp_leaveZ {v w : AV} {s1 : AS} (ho : s1.opn = false) (hw : frzV s1.cells s.cells.length DPT v = some w) (h1 : Q w ⟨s1.cells.take s.cells.length, s.opn⟩) (h2 : s1.cells.length ≤ s.cells.length → Q v ⟨s1.cells, s.opn⟩) (hk : keep = false) : Wp (leaveV s keep v s1) Q X := by
  unfold leaveV
  split
  · rename_i hc
    rcases hc with hc | hc | hc
    · rw [hk] at hc; cases hc
    · rw [ho] at hc; cases hc
    · have := h2 hc
      rw [ho, Bool.or_false]
      exact this
  · rw [hw]; exact h1
end

/-! ### operators, built-ins -/
section
variable {s : AS} {Q : AV → AS → Prop} {X : AV → AS → Prop} {i j : Int}
theorem wb_add (h : Q (.int (i + j)) s) : Wp (binM .add (.int i) (.int j) s) Q X := h
theorem wb_sub (h : Q (.int (i - j)) s) : Wp (binM .sub (.int i) (.int j) s) Q X := h
theorem wb_mul (h : (i.natAbs < 2 ^ 64 ∨ j.natAbs < 2 ^ 64) ∧ Q (.int (i * j)) s) : Wp (binM .mul (.int i) (.int j) s) Q X := by
  show Wp (if _ then _ else _) Q X
  rw [if_pos h.1]; exact h.2
theorem wb_div (h : (0 < j ∧ j < 1073741824) ∧ Q (.int (i / j)) s) : Wp (binM .div (.int i) (.int j) s) Q X := by
  show Wp (if _ then _ else _) Q X
  rw [if_pos h.1]; exact h.2
theorem wb_mod (h : 0 < j ∧ Q (.int (i % j)) s) : Wp (binM .mod (.int i) (.int j) s) Q X := by
  show Wp (if _ then _ else _) Q X
  rw [if_pos h.1]; exact h.2
theorem wb_pow (h : (0 ≤ j ∧ j ≤ 1000000 ∧ i.natAbs < 2 ^ 64) ∧ Q (.int (i ^ j.toNat)) s) : Wp (binM .pow (.int i) (.int j) s) Q X := by
  show Wp (if _ then _ else _) Q X
  rw [if_pos h.1]; exact h.2
theorem wb_cat {x y : Str} (h : x.length + y.length ≤ LIM ∧ Q (.str (x ++ y)) s) : Wp (binM .add (.str x) (.str y) s) Q X := by
  show Wp (if _ then _ else _) Q X
  rw [if_pos h.1]; exact h.2
theorem wb_lst {x y : AV} (h : ∃ xs, seqOf s.cells x = some (false, xs) ∧ ∃ ys, seqOf s.cells y = some (false, ys) ∧ xs.length + ys.length ≤ LIM ∧ Q (.lst (xs ++ ys)) s) : Wp (binM .add x y s) Q X := by
  obtain ⟨xs, h1, ys, h2, h3, h4⟩ := h
  have key : binM .add x y s = .ok (.lst (xs ++ ys)) s := by
    cases x <;> (try (simp [seqOf] at h1; done)) <;> cases y <;> (try (simp [seqOf] at h2; done)) <;>
      (simp only [binM]; rw [h1, h2]; simp only; rw [if_pos h3])
  rw [key]; exact h4
theorem wk_lt (h : Q (.bl (decide (i < j))) s) : Wp (cmpM .lt (.int i) (.int j) s) Q X := h
theorem wk_le (h : Q (.bl (decide (i ≤ j))) s) : Wp (cmpM .le (.int i) (.int j) s) Q X := h
theorem wk_gt (h : Q (.bl (decide (j < i))) s) : Wp (cmpM .gt (.int i) (.int j) s) Q X := h
theorem wk_ge (h : Q (.bl (decide (j ≤ i))) s) : Wp (cmpM .ge (.int i) (.int j) s) Q X := h
theorem wk_is {a b : Bool} (h : Q (.bl (decide (a = b))) s) : Wp (cmpM .isB (.bl a) (.bl b) s) Q X := h
theorem wk_eq {x y : AV} (h : ∃ d, toPy s.cells DPT x = some d ∧ ∃ e, toPy s.cells DPT y = some e ∧ (SeqAt.shaped d = true ∧ SeqAt.shaped e = true) ∧ Q (.bl (PyData.eqv d e)) s) : Wp (cmpM .eq x y s) Q X := by
  obtain ⟨d, h1, e, h2, h3, h4⟩ := h
  refine wp_bind ?_
  unfold eqM
  rw [h1, h2]
  simp only
  rw [if_pos h3]; exact h4
theorem wk_ne {x y : AV} (h : ∃ d, toPy s.cells DPT x = some d ∧ ∃ e, toPy s.cells DPT y = some e ∧ (SeqAt.shaped d = true ∧ SeqAt.shaped e = true) ∧ Q (.bl (!PyData.eqv d e)) s) : Wp (cmpM .ne x y s) Q X := by
  obtain ⟨d, h1, e, h2, h3, h4⟩ := h
  refine wp_bind ?_
  unfold eqM
  rw [h1, h2]
  simp only
  rw [if_pos h3]; exact h4
theorem wx_seq {x : AV} (h : ∃ p, seqOf s.cells x = some p ∧ ∃ v, L2.atI p.2 i = some v ∧ Q v s) : Wp (idxM x (.int i) s) Q X := by
  obtain ⟨⟨b, xs⟩, h1, v, h2, h3⟩ := h
  unfold idxM
  simp only
  split
  · simp [seqOf] at h1
  · rw [h1]; simp only; rw [h2]; exact h3
def reseq (b : Bool) (xs : List AV) : AV := if b = true then .tup xs else .lst xs
theorem wz_seq {x : AV} {lo hi : Option Int} (h : ∃ p, seqOf s.cells x = some p ∧ Q (reseq p.1 (cutL p.2 lo hi)) s) : Wp (slcM x lo hi s) Q X := by
  obtain ⟨⟨b, xs⟩, h1, h2⟩ := h
  unfold slcM; rw [h1]
  cases b <;> exact h2
theorem wm_false {xs : List AV} (h : Q (.lst xs) s) : Wp (mkL false xs s) Q X := h
theorem wm_true {xs : List AV} (h : Q (.ref s.cells.length) ⟨s.cells ++ [.lst xs], s.opn⟩) : Wp (mkL true xs s) Q X := h
theorem wn_lenS {x : Str} {al : Bool} (h : x.length ≤ LIM ∧ Q (.int x.length) s) : Wp (bltM .len al [.str x] s) Q X := by
  show Wp (if _ then _ else _) Q X
  rw [if_pos h.1]; exact h.2
theorem wn_len {x : AV} {al : Bool} (h : ∃ p, seqOf s.cells x = some p ∧ Q (.int p.2.length) s) : Wp (bltM .len al [x] s) Q X := by
  obtain ⟨⟨b, xs⟩, h1, h2⟩ := h
  have key : bltM .len al [x] s = .ok (.int xs.length) s := by
    cases x <;> (try (simp [seqOf] at h1; done)) <;> (simp only [bltM]; rw [h1])
  rw [key]; exact h2
theorem wn_int {al : Bool} (h : Q (.int i) s) : Wp (bltM .int al [.int i] s) Q X := h
theorem wn_intB {al b : Bool} (h : Q (.int (if b then 1 else 0)) s) : Wp (bltM .int al [.bl b] s) Q X := h
theorem wn_str {al : Bool} (h : i.natAbs.log2 < 1920 ∧ Q (.str (toString i)) s) : Wp (bltM .str al [.int i] s) Q X := by
  show Wp (if _ then _ else _) Q X
  rw [if_pos h.1]; exact h.2
theorem wn_abs {al : Bool} (h : Q (.int (if i < 0 then -i else i)) s) : Wp (bltM .abs al [.int i] s) Q X := h
theorem wn_repr {x : AV} {al : Bool} (h : ∃ d, toPy s.cells DPT x = some d ∧ (d.showable = true ∧ d.hasDict = false ∧ d.shown.length ≤ LIM ∧ d.depth ≤ 64) ∧ Q (.str d.shown) s) : Wp (bltM .repr al [x] s) Q X := by
  obtain ⟨d, h1, h2, h3⟩ := h
  show Wp (match toPy s.cells DPT x with | some d => _ | none => _) Q X
  rw [h1]
  simp only
  rw [if_pos h2]; exact h3
theorem wn_tuple {x : AV} {al : Bool} (h : ∃ p, seqOf s.cells x = some p ∧ Q (.tup p.2) s) : Wp (bltM .tuple al [x] s) Q X := by
  obtain ⟨⟨b, xs⟩, h1, h2⟩ := h
  show Wp (match seqOf s.cells x with | some (_, xs) => _ | none => _) Q X
  rw [h1]; exact h2
theorem wn_list {x : AV} {al : Bool} (h : ∃ p, seqOf s.cells x = some p ∧ Wp (mkL al p.2 s) Q X) : Wp (bltM .list al [x] s) Q X := by
  obtain ⟨⟨b, xs⟩, h1, h2⟩ := h
  show Wp (match seqOf s.cells x with | some (_, xs) => _ | none => _) Q X
  rw [h1]; exact h2
theorem wn_all {x : AV} {al : Bool} (h : ∃ xs, seqOf s.cells x = some (false, xs) ∧ ∃ bs, blsOf xs = some bs ∧ Q (.bl (bs.all id)) s) : Wp (bltM .all al [x] s) Q X := by
  obtain ⟨xs, h1, bs, h2, h3⟩ := h
  show Wp (match seqOf s.cells x with | some (false, xs) => _ | _ => _) Q X
  rw [h1]
  simp only
  rw [h2]; exact h3
theorem wj_chk {x : Str} : bmChk .join (.str x) s = .ok () s := rfl
theorem wj_join {a : Str} {v : AV} (h : ∃ p, seqOf s.cells v = some p ∧ ∃ ys, strsOf p.2 = some ys ∧ (ys.map (·.length)).sum + ys.length * a.length ≤ LIM ∧ Q (.str (Txt.join a ys)) s) : Wp (bmM .join (.str a) [v] s) Q X := by
  obtain ⟨⟨b, xs⟩, h1, ys, h2, h3, h4⟩ := h
  unfold bmM
  simp only
  rw [h1]
  simp only
  rw [h2]
  simp only
  rw [if_pos h3]; exact h4
theorem wq_set {k : Nat} {v : AV} {Q : Unit → AS → Prop} (h : ∃ xs, s.cells[k]? = some (.lst xs) ∧ ∃ j, L2.ixN xs.length i = some j ∧ Q () ⟨s.cells.set k (.lst (xs.set j v)), s.opn || newer k 12 v⟩) : Wp (setIxM (.ref k) (.int i) v s) Q X := by
  obtain ⟨xs, h1, j, h2, h3⟩ := h
  unfold setIxM
  simp only
  rw [h1]
  simp only
  rw [h2]; exact h3
theorem wr_one {Q : Src → AS → Prop} (h : (j < 16777216 ∧ -(2 ^ 62) ≤ j) ∧ Q (.items ((List.range j.toNat).map fun i => AV.int (i : Nat))) s) : Wp (rngM [.int j] s) Q X := by
  show Wp (if _ then _ else _) Q X
  rw [if_pos h.1]; exact h.2
theorem wr_two {Q : Src → AS → Prop} (h : (j - i < 16777216 ∧ -(2 ^ 62) ≤ i ∧ i < 2 ^ 62 ∧ -(2 ^ 62) ≤ j ∧ j < 2 ^ 62) ∧ Q (.items ((List.range (j - i).toNat).map fun k => AV.int (i + (k : Nat)))) s) : Wp (rngM [.int i, .int j] s) Q X := by
  show Wp (if _ then _ else _) Q X
  rw [if_pos h.1]; exact h.2
theorem wv_lst {xs : List AV} {Q : Src → AS → Prop} (h : Q (.items xs) s) : Wp (srcOf (.lst xs) s) Q X := h
theorem wv_tup {xs : List AV} {Q : Src → AS → Prop} (h : Q (.items xs) s) : Wp (srcOf (.tup xs) s) Q X := h
theorem br_T {A B : Prop} (h : A) : (true = true → A) ∧ (true = false → B) := ⟨fun _ => h, fun h => nomatch h⟩
theorem br_F {A B : Prop} (h : B) : (false = true → A) ∧ (false = false → B) := ⟨fun h => (nomatch h), fun _ => h⟩
end
end Ev

set_option linter.all false
set_option maxRecDepth 100000
/-! EvX: what is wanted ahead of a run, reckoned. Own work. -/
namespace Ev
open PySem

/-- a call's wish stands by itself -/
structure CallW (call : Nat → List AV → Bool → MM AV) (k : Nat) (args : List AV) (keep : Bool) (s : AS) (Q : AV → AS → Prop) (X : AV → AS → Prop) : Prop where
  run : Wp (call k args keep s) Q X
/-- so does a comprehension's loop, a for's, an operation on what is not known -/
structure CompW (f : AV → AS → (Option AV → AS → Prop) → Prop) (xs acc : List AV) (s : AS) (Q : List AV → AS → Prop) : Prop where
  run : ∀ (g : AV → MM (Option AV)) (X : AV → AS → Prop), (∀ x s Q', f x s Q' → Wp (g x s) Q' X) → Wp (compL g xs acc s) Q X
/-- .. over a list that may change -/
structure CompCW (f : AV → AS → (Option AV → AS → Prop) → Prop) (k m : Nat) (s : AS) (Q : List AV → AS → Prop) : Prop where
  run : ∀ (g : AV → MM (Option AV)) (X : AV → AS → Prop), (∀ x s Q', f x s Q' → Wp (g x s) Q' X) → Wp (compC g k m 0 [] s) Q X
/-- a loop that gathers, over items, over a list that may change -/
structure FoldW {β : Type} (f : AV → β → AS → (β → AS → Prop) → Prop) (xs : List AV) (acc : β) (s : AS) (Q : β → AS → Prop) : Prop where
  run : ∀ (g : AV → β → MM β) (X : AV → AS → Prop), (∀ x a s Q', f x a s Q' → Wp (g x a s) Q' X) → Wp (foldL g xs acc s) Q X
structure FoldCW {β : Type} (f : AV → β → AS → (β → AS → Prop) → Prop) (k m : Nat) (acc : β) (s : AS) (Q : β → AS → Prop) : Prop where
  run : ∀ (g : AV → β → MM β) (X : AV → AS → Prop), (∀ x a s Q', f x a s Q' → Wp (g x a s) Q' X) → Wp (foldC g k m 0 acc s) Q X
theorem FoldW.nil {β : Type} {f : AV → β → AS → (β → AS → Prop) → Prop} {acc : β} {s : AS} {Q : β → AS → Prop} (h : Q acc s) : FoldW f [] acc s Q := ⟨fun _ _ _ => h⟩
theorem FoldW.cons {β : Type} {f : AV → β → AS → (β → AS → Prop) → Prop} {x : AV} {xs : List AV} {acc : β} {s : AS} {Q : β → AS → Prop} (h : f x acc s fun a s1 => FoldW f xs a s1 Q) : FoldW f (x :: xs) acc s Q :=
  ⟨fun g X hg => wp_bind ((hg x acc s _ h).imp fun a s1 h => h.run g X hg)⟩
theorem FoldW.inv {β : Type} {f : AV → β → AS → (β → AS → Prop) → Prop} {Q : β → AS → Prop} (I : Nat → β → AS → Prop) {xs : List AV} {acc : β} {s : AS} (h0 : I 0 acc s) (hs : ∀ (i : Nat) (x : AV) acc s, xs[i]? = some x → I i acc s → f x acc s (I (i + 1)))
    (hd : ∀ acc s, I xs.length acc s → Q acc s) : FoldW f xs acc s Q := ⟨fun g X hg => by
  induction xs generalizing acc s I with
  | nil => exact hd _ _ h0
  | cons x xs ih =>
    exact wp_bind ((hg x acc s _ (hs 0 x acc s rfl h0)).imp fun a s1 h => ih (fun i => I (i + 1)) h (fun i y acc s e h => hs (i + 1) y acc s e h) hd)⟩
theorem FoldCW.inv {β : Type} {f : AV → β → AS → (β → AS → Prop) → Prop} {Q : β → AS → Prop} (I : Nat → β → AS → Prop) {xs : List AV} {k : Nat} {acc : β} {s : AS} (hk : ∀ i acc s, I i acc s → s.cells[k]? = some (.lst xs)) (h0 : I 0 acc s) (hs : ∀ (i : Nat) (x : AV) acc s, xs[i]? = some x → I i acc s → f x acc s (I (i + 1)))
    (hd : ∀ acc s, I xs.length acc s → Q acc s) : FoldCW f k xs.length acc s Q := ⟨fun g X hg => by
  have key : ∀ (m i : Nat) (acc : β) (s : AS), i + m = xs.length → I i acc s → Wp (foldC g k m i acc s) Q X := by
    intro m
    induction m with
    | zero =>
      intro i acc s e h
      have hi : i = xs.length := by omega
      subst hi
      unfold foldC
      refine wp_bind ?_
      unfold itemAt
      rw [hk _ _ _ h]
      simp only
      rw [List.getElem?_eq_none (Nat.le_refl _)]
      exact hd _ _ h
    | succ m ih =>
      intro i acc s e h
      unfold foldC
      refine wp_bind ?_
      unfold itemAt
      rw [hk _ _ _ h]
      have hlt : i < xs.length := by omega
      simp only
      rw [List.getElem?_eq_getElem hlt]
      exact wp_bind ((hg _ acc s _ (hs i _ acc s (List.getElem?_eq_getElem hlt) h)).imp fun a s1 h => ih (i + 1) a s1 (by omega) h)
  exact key xs.length 0 acc s (by omega) h0⟩
structure ForW (f : AV → AE → AS → (AE → AS → Prop) → (AV → AS → Prop) → Prop) (xs : List AV) (ρ : AE) (s : AS) (N : AE → AS → Prop) (R : AV → AS → Prop) (E : AV → AE → AS → Prop) : Prop where
  run : ∀ (g : AV → AE → AS → SRs), (∀ x ρ s N' R', f x ρ s N' R' → WS (g x ρ s) N' ⟨R', fun _ _ => False, fun _ _ => False, E⟩) → WS (forL g xs ρ s) N ⟨R, fun _ _ => False, fun _ _ => False, E⟩
/-- a for over a list that changes -/
structure ForCW (f : AV → AE → AS → (AE → AS → Prop) → (AV → AS → Prop) → Prop) (k m : Nat) (ρ : AE) (s : AS) (N : AE → AS → Prop) (R : AV → AS → Prop) (E : AV → AE → AS → Prop) : Prop where
  run : ∀ (g : AV → AE → AS → SRs), (∀ x ρ s N' R', f x ρ s N' R' → WS (g x ρ s) N' ⟨R', fun _ _ => False, fun _ _ => False, E⟩) → WS (forC g k m 0 ρ s) N ⟨R, fun _ _ => False, fun _ _ => False, E⟩
structure WhileW (ft : AE → AS → (Bool → AS → Prop) → Prop) (fb : AE → AS → (AE → AS → Prop) → (AV → AS → Prop) → Prop) (n : Nat) (ρ : AE) (s : AS) (N : AE → AS → Prop) (R : AV → AS → Prop) (E : AV → AE → AS → Prop) : Prop where
  run : ∀ (t : AE → MM Bool) (g : AE → AS → SRs), (∀ ρ s K, ft ρ s K → Wp (t ρ s) K (fun x s1 => E x ρ s1)) → (∀ ρ s N' R', fb ρ s N' R' → WS (g ρ s) N' ⟨R', fun _ _ => False, fun _ _ => False, E⟩) → WS (whileL t g n ρ s) N ⟨R, fun _ _ => False, fun _ _ => False, E⟩
/-- a new instance's wish -/
structure NewW (call : Nat → List AV → Bool → MM AV) (al : Bool) (c k : Nat) (zs : List AV) (perm : List PArg) (s : AS) (Q : AV → AS → Prop) (X : AV → AS → Prop) : Prop where
  run : Wp (newM call al c k zs perm s) Q X
/-- what is heard: f by what follows a value, by what follows an exception -/
structure HrdW (call : Nat → List AV → Bool → MM AV) (k : Nat) (f : (AV → AS → Prop) → (AV → AS → Prop) → Prop) (Q : AV → AS → Prop) (X : AV → AS → Prop) : Prop where
  run : f (fun _ s1 => CallW call k [.non] false s1 Q X) (fun x s1 => CallW call k [x] false s1 Q X)
theorem HrdW.exc {call : Nat → List AV → Bool → MM AV} {k : Nat} {f : (AV → AS → Prop) → (AV → AS → Prop) → Prop} {Q X : AV → AS → Prop} (x : AV) (s : AS) (hf : ∀ Q' X' : AV → AS → Prop, X' x s → f Q' X') (h : CallW call k [x] false s Q X) : HrdW call k f Q X := ⟨hf _ _ h⟩
theorem HrdW.ok {call : Nat → List AV → Bool → MM AV} {k : Nat} {f : (AV → AS → Prop) → (AV → AS → Prop) → Prop} {Q X : AV → AS → Prop} (s : AS) (hf : ∀ Q' X' : AV → AS → Prop, (∀ v, Q' v s) → f Q' X') (h : CallW call k [.non] false s Q X) : HrdW call k f Q X := ⟨hf _ _ fun _ => h⟩
structure OpW {α : Type} (r : Rs α) (Q : α → AS → Prop) : Prop where
  run : ∀ X, Wp r Q X

def wT (v : AV) (s : AS) (K : Bool → Prop) : Prop := match truth s.cells v with
  | some b => (b = true → K true) ∧ (b = false → K false)
  | none => False
def wLS (f : CE → AS → (AV → AS → Prop) → Prop) : List CE → AS → (List AV → AS → Prop) → Prop
  | [], s, Q => Q [] s
  | .star e :: es, s, Q => f e s fun v s1 => OpW (seqM v s1) fun xs s2 => wLS f es s2 fun ys s3 => Q (xs ++ ys) s3
  | e :: es, s, Q => f e s fun v s1 => wLS f es s1 fun vs s2 => Q (v :: vs) s2
def wL (f : CE → AS → (AV → AS → Prop) → Prop) : List CE → AS → (List AV → AS → Prop) → Prop
  | [], s, Q => Q [] s
  | e :: es, s, Q => f e s fun v s1 => wL f es s1 fun vs s2 => Q (v :: vs) s2
def wPs (f : CE → AS → (AV → AS → Prop) → Prop) : List CE → List CE → AS → (List (AV × AV) → AS → Prop) → Prop
  | [], [], s, Q => Q [] s
  | k :: ks, v :: vs, s, Q => f k s fun a s1 => f v s1 fun b s2 => wPs f ks vs s2 fun r s3 => Q ((a, b) :: r) s3
  | _, _, _, _ => False
def wO (f : CE → AS → (AV → AS → Prop) → Prop) : Option CE → AS → (Option Int → AS → Prop) → Prop
  | none, s, Q => Q none s
  | some e, s, Q => f e s fun v s1 => match v with
    | .int i => Q (some i) s1
    | _ => False
def wBin (o : BOp) (x y : AV) (s : AS) (Q : AV → AS → Prop) : Prop := match x, y with
  | .int i, .int j => (match o with
    | .add => Q (.int (i + j)) s
    | .sub => Q (.int (i - j)) s
    | .mul => (i.natAbs < 2 ^ 64 ∨ j.natAbs < 2 ^ 64) ∧ Q (.int (i * j)) s
    | .div => (0 < j ∧ j < 1073741824) ∧ Q (.int (i / j)) s
    | .mod => 0 < j ∧ Q (.int (i % j)) s
    | .pow => (0 ≤ j ∧ j ≤ 1000000 ∧ i.natAbs < 2 ^ 64) ∧ Q (.int (i ^ j.toNat)) s
    | .cat => False)
  | x, y => OpW (binM o x y s) Q
def wCmp (o : COp) (x y : AV) (s : AS) (Q : AV → AS → Prop) : Prop := match o with
  | .lt => (match x, y with | .int i, .int j => Q (.bl (decide (i < j))) s | _, _ => False)
  | .le => (match x, y with | .int i, .int j => Q (.bl (decide (i ≤ j))) s | _, _ => False)
  | .gt => (match x, y with | .int i, .int j => Q (.bl (decide (j < i))) s | _, _ => False)
  | .ge => (match x, y with | .int i, .int j => Q (.bl (decide (j ≤ i))) s | _, _ => False)
  | .isB => (match x, y with | .bl a, .bl b => Q (.bl (decide (a = b))) s | _, _ => False)
  | .nisB => (match x, y with | .bl a, .bl b => Q (.bl (!decide (a = b))) s | _, _ => False)
  | o => OpW (cmpM o x y s) Q
def wIdx (x y : AV) (s : AS) (Q : AV → AS → Prop) : Prop := OpW (idxM x y s) Q
/-- what stands written, or in the slots: values at once -/
def vL (f : CE → Option AV) : List CE → Option (List AV)
  | [] => some []
  | e :: es => match f e with
    | none => none
    | some v => match vL f es with
      | none => none
      | some vs => some (v :: vs)
def vE : Nat → CE → AE → Option AV
  | 0, _, _ => none
  | n + 1, c, ρ => match c with
    | .var i => match ρ[i]? with
      | some (some v) => some v
      | _ => none
    | .int i => some (.int i)
    | .str x => some (.str x)
    | .bl b => some (.bl b)
    | .non => some .non
    | .neg (.int i) => match n with
      | 0 => none
      | _ + 1 => some (.int (-i))
    | .tup es => match vL (fun e => vE n e ρ) es with
      | some vs => some (.tup vs)
      | none => none
    | .lst false es => match vL (fun e => vE n e ρ) es with
      | some vs => some (.lst vs)
      | none => none
    | .dct false [] [] => some (.dct [])
    | _ => none
theorem vL_ok {f : CE → Option AV} {g : CE → MM AV} (hf : ∀ e v, f e = some v → ∀ s, g e s = .ok v s) : ∀ {es : List CE} {vs : List AV}, vL f es = some vs → ∀ s, evList g es s = .ok vs s
  | [], _, h => by simp [vL] at h; subst h; exact fun s => rfl
  | e :: es, vs, h => by
    unfold vL at h
    cases h1 : f e with
    | none => rw [h1] at h; cases h
    | some v =>
      rw [h1] at h
      cases h2 : vL f es with
      | none => rw [h2] at h; cases h
      | some ws =>
        rw [h2] at h
        cases h
        intro s
        unfold evList MM.bind
        rw [hf e v h1 s]
        simp only
        rw [vL_ok hf h2 s]
        rfl
theorem vE_ok {call : Nat → List AV → Bool → MM AV} : ∀ (n : Nat) {c : CE} {ρ : AE} {v : AV}, vE n c ρ = some v → ∀ s, evE call n c ρ s = .ok v s
  | 0, _, _, _, h => by simp [vE] at h
  | n + 1, c, ρ, v, h => by
    have ih := @vE_ok call n
    intro s
    cases c with
    | var i =>
      simp only [vE] at h
      split at h
      · rename_i w e
        cases h
        simp only [evE]
        rw [e]; rfl
      · cases h
    | int i => cases h; rfl
    | str i => cases h; rfl
    | bl i => cases h; rfl
    | non => cases h; rfl
    | neg a =>
      cases a with
      | int i =>
        cases n with
        | zero => cases h
        | succ n => cases h; rfl
      | _ => cases h
    | tup es =>
      simp only [vE] at h
      cases e : vL (fun e => vE n e ρ) es with
      | none => rw [e] at h; cases h
      | some vs =>
        rw [e] at h
        cases h
        simp only [evE]
        unfold MM.bind
        rw [vL_ok (g := fun e => evE call n e ρ) (fun e v h s => ih h s) e s]
        rfl
    | lst al es =>
      cases al with
      | true => cases h
      | false =>
        simp only [vE] at h
        cases e : vL (fun e => vE n e ρ) es with
        | none => rw [e] at h; cases h
        | some vs =>
          rw [e] at h
          cases h
          simp only [evE]
          unfold MM.bind
          rw [vL_ok (g := fun e => evE call n e ρ) (fun e v h s => ih h s) e s]
          rfl
    | dct al ks vs =>
      cases al with
      | true => cases h
      | false =>
        cases ks with
        | cons _ _ => cases h
        | nil =>
          cases vs with
          | cons _ _ => cases h
          | nil => cases h; rfl
    | _ => cases h
/-- parts of a comprehension with two fors; w: what is wished of an expression -/
def wSrc (w : CE → AE → AS → (AV → AS → Prop) → Prop) (it : CE) (ρ : AE) (s : AS) (K : Src → AS → Prop) : Prop := match it with
  | .rng es => wL (fun e => w e ρ) es s fun vs s1 => OpW (rngM vs s1) K
  | .enm e => w e ρ s fun v s1 => OpW (enmOf v s1) K
  | it => w it ρ s fun v s1 => OpW (srcOf v s1) K
def wTests (w : CE → AE → AS → (AV → AS → Prop) → Prop) (ifs : List CE) (ρ : AE) (s : AS) (K : Bool → AS → Prop) : Prop := match ifs with
  | [] => K true s
  | [c] => w c ρ s fun x s2 => wT x s2 fun t => K t s2
  | _ => False
def wFold {β : Type} (f : AV → β → AS → (β → AS → Prop) → Prop) (r : Src) (acc : β) (s : AS) (Q : β → AS → Prop) : Prop := match r with
  | .items xs => FoldW f xs acc s Q
  | .cell k m => FoldCW f k m acc s Q
def wInner (w : CE → AE → AS → (AV → AS → Prop) → Prop) (tg : Tg) (ifs : List CE) (elt : CE) (ρ : AE) (x : AV) (acc : List AV) (s : AS) (Q : List AV → AS → Prop) : Prop := match asgT s.cells tg x ρ with
  | some ρ2 => wTests w ifs ρ2 s fun t s2 => match t with
    | true => w elt ρ2 s2 fun v s3 => acc.length < LIM ∧ Q (acc ++ [v]) s3
    | false => Q acc s2
  | none => False
def wOuter (w : CE → AE → AS → (AV → AS → Prop) → Prop) (tg : Tg) (ifs : List CE) (it : CE) (inner : AE → AV → List AV → AS → (List AV → AS → Prop) → Prop) (ρ : AE) (x : AV) (acc : List AV) (s : AS) (Q : List AV → AS → Prop) : Prop := match asgT s.cells tg x ρ with
  | some ρ2 => wTests w ifs ρ2 s fun t s2 => match t with
    | true => wSrc w it ρ2 s2 fun r s3 => wFold (inner ρ2) r acc s3 Q
    | false => Q acc s2
  | none => False
def wMade (al : Bool) (Q : AV → AS → Prop) (vs : List AV) (s : AS) : Prop := match al with
  | true => Q (.ref s.cells.length) ⟨s.cells ++ [.lst vs], s.opn⟩
  | false => Q (.lst vs) s
/-- only what can be given at once -/
def wE (call : Nat → List AV → Bool → MM AV) (X : AV → AS → Prop) : Nat → CE → AE → AS → (AV → AS → Prop) → Prop
  | 0, _, _, _, _ => False
  | n + 1, c, ρ, s, Q => match vE (n + 1) c ρ with
    | some v => Q v s
    | none => match c with
    | .var i => match ρ[i]? with
      | some (some v) => Q v s
      | _ => False
    | .int i => Q (.int i) s
    | .str x => Q (.str x) s
    | .bl b => Q (.bl b) s
    | .non => Q .non s
    | .bin o a b => wE call X n a ρ s fun x s1 => wE call X n b ρ s1 fun y s2 => wBin o x y s2 Q
    | .neg a => wE call X n a ρ s fun x s1 => match x with
      | .int i => Q (.int (-i)) s1
      | _ => False
    | .not a => wE call X n a ρ s fun x s1 => match truth s1.cells x with
      | some b => Q (.bl (!b)) s1
      | none => False
    | .and a b => wE call X n a ρ s fun x s1 => wT x s1 fun t => match t with
      | true => wE call X n b ρ s1 Q
      | false => Q x s1
    | .or a b => wE call X n a ρ s fun x s1 => wT x s1 fun t => match t with
      | true => Q x s1
      | false => wE call X n b ρ s1 Q
    | .cmp o a b => match o with
      | .isN => wE call X n a ρ s fun x s1 => Q (.bl (isNone x)) s1
      | .notN => wE call X n a ρ s fun x s1 => Q (.bl (!isNone x)) s1
      | o => wE call X n a ρ s fun x s1 => wE call X n b ρ s1 fun y s2 => wCmp o x y s2 Q
    | .ite c a b => wE call X n c ρ s fun x s1 => wT x s1 fun t => match t with
      | true => wE call X n a ρ s1 Q
      | false => wE call X n b ρ s1 Q
    | .tup es => wL (fun e => wE call X n e ρ) es s fun vs s1 => Q (.tup vs) s1
    | .lst al es => wL (fun e => wE call X n e ρ) es s fun vs s1 => match al with
      | true => Q (.ref s1.cells.length) ⟨s1.cells ++ [.lst vs], s1.opn⟩
      | false => Q (.lst vs) s1
    | .dct al ks vs => wPs (fun e => wE call NoX n e ρ) ks vs s fun ps s1 => match al with
      | true => OpW (mkDisp true ps s1) Q
      | false => (dispOk ps = true ∧ ps.length ≤ 15) ∧ Q (.dct (mergeA [] ps)) s1
    | .idx a i => wE call X n a ρ s fun x s1 => wE call X n i ρ s1 fun y s2 => wIdx x y s2 Q
    | .slc a lo hi => wE call X n a ρ s fun x s1 => wO (fun e => wE call X n e ρ) lo s1 fun l s2 => wO (fun e => wE call X n e ρ) hi s2 fun h s3 => OpW (slcM x l h s3) Q
    | .comp al ws tg it ifs elt =>
      let src : (Src → AS → Prop) → Prop := fun K => match it with
        | .rng es => wL (fun e => wE call X n e ρ) es s fun vs s1 => OpW (rngM vs s1) fun r s2 => K r s2
        | .enm e => wE call X n e ρ s fun v s1 => OpW (enmOf v s1) fun r s2 => K r s2
        | it => wE call X n it ρ s fun v s1 => OpW (srcOf v s1) fun r s2 => K r s2
      let f : AV → AS → (Option AV → AS → Prop) → Prop := fun x s1 Q' => match asgT s1.cells tg x (wipeE ρ ws) with
        | some ρ' => (match ifs with
          | [] => wE call NoX n elt ρ' s1 fun v s2 => Q' (some v) s2
          | [c] => wE call NoX n c ρ' s1 fun x s2 => wT x s2 fun t => match t with
            | true => wE call NoX n elt ρ' s2 fun v s3 => Q' (some v) s3
            | false => Q' none s2
          | _ => False)
        | none => False
      let fin : List AV → AS → Prop := fun vs s2 => match al with
        | true => Q (.ref s2.cells.length) ⟨s2.cells ++ [.lst vs], s2.opn⟩
        | false => Q (.lst vs) s2
      src fun r s1 => match r with
        | .items xs => CompW f xs [] s1 fin
        | .cell k m => CompCW f k m s1 fin
    | .comp2 al ws tg it ifs ws1 tg1 it1 ifs1 elt => wSrc (fun e ρ s Q => wE call X n e ρ s Q) it ρ s fun r s1 =>
        wFold (wOuter (fun e ρ s Q => wE call NoX n e ρ s Q) tg ifs it1 (fun ρ' => wInner (fun e ρ s Q => wE call NoX n e ρ s Q) tg1 ifs1 elt (wipeE ρ' ws1)) (wipeE ρ ws)) r [] s1 (wMade al Q)
    | .rng _ => False
    | .enm _ => False
    | .star _ => False
    | .nev => False
    | .tupS es => wLS (fun e => wE call X n e ρ) es s fun vs s1 => vs.length ≤ LIM ∧ Q (.tup vs) s1
    | .lstS al es => wLS (fun e => wE call X n e ρ) es s fun vs s1 => vs.length ≤ LIM ∧ match al with
      | true => Q (.ref s1.cells.length) ⟨s1.cells ++ [.lst vs], s1.opn⟩
      | false => Q (.lst vs) s1
    | .call k es ws ks perm keep => wL (fun e => wE call X n e ρ) es s fun v1 s1 => wL (fun e => wE call X n e ρ) ws s1 fun v2 s2 => match mapO (argOf (v1 ++ v2)) perm with
      | some args => CallW call k args keep s2 Q X
      | none => False
    | .blt b al es => wL (fun e => wE call X n e ρ) es s fun vs s1 => OpW (bltM b al vs s1) Q
    | .isi e ts => wE call X n e ρ s fun x s1 => OpW (isiM x ts s1) Q
    | .blc b e => wE call X n e ρ s fun x s1 => OpW (blcM b x s1) Q
    | .rep es b => wL (fun e => wE call X n e ρ) es s fun vs s1 => wE call X n b ρ s1 fun y s2 => OpW (repM vs y s2) Q
    | .glob _ a => Q a s
    | .rev a => wE call X n a ρ s fun x s1 => match seqOf s1.cells x with
      | some (false, xs) => Q (.lst xs.reverse) s1
      | some (true, xs) => Q (.tup xs.reverse) s1
      | _ => False
    | .lrng al es => wL (fun e => wE call X n e ρ) es s fun vs s1 => OpW (lrngM al vs s1) Q
    | .chain o1 o2 a b c => wE call X n a ρ s fun x s1 => wE call X n b ρ s1 fun y s2 => wCmp o1 x y s2 fun t s3 => match t with
      | .bl k => (k = true → wE call X n c ρ s3 fun z s4 => wCmp o2 y z s4 Q) ∧ (k = false → Q (.bl false) s3)
      | _ => False
    | .attr a f => wE call X n a ρ s fun x s1 => OpW (attrM x f s1) Q
    | .isc a _ subs => wE call X n a ρ s fun x s1 => OpW (iscM x subs s1) Q
    | .isx a k => wE call X n a ρ s fun x s1 => OpW (isxM x k s1) Q
    | .xattr a f => wE call X n a ρ s fun x s1 => OpW (xattrM x f s1) Q
    | .meth cs m k a es ws ks perm keep => wE call X n a ρ s fun x s0 => mthChk cs m x s0 = .ok () s0 ∧ wL (fun e => wE call X n e ρ) es s0 fun v1 s1 => wL (fun e => wE call X n e ρ) ws s1 fun v2 s2 => match mapO (argOf (x :: (v1 ++ v2))) perm with
      | some args => CallW call k args keep s2 Q X
      | none => False
    | .strc cs k a => wE call X n a ρ s fun x s1 => OpW (strcM call cs k x s1) Q
    | .heard k e => HrdW call k (fun Q' X' => wE call X' n e ρ s Q') Q X
    | .new al c k es ws ks perm => wL (fun e => wE call X n e ρ) es s fun v1 s1 => wL (fun e => wE call X n e ρ) ws s1 fun v2 s2 => NewW call al c k (v1 ++ v2) perm s2 Q X
    | .eqi neg c k a b => wE call X n a ρ s fun x s1 => wE call X n b ρ s1 fun y s2 => OpW ((MM.bind (bothM c x y) fun _ => MM.bind (nox (call k [x, y] false)) (negM neg)) s2) Q
    | .bm m a es => wE call X n a ρ s fun x s1 => bmChk m x s1 = .ok () s1 ∧ wL (fun e => wE call X n e ρ) es s1 fun vs s2 => OpW (bmM m x vs s2) Q

section
variable {call : Nat → List AV → Bool → MM AV} {X : AV → AS → Prop}
theorem nox_imp' {α : Type} {r : Rs α} {Q : α → AS → Prop} {X : AV → AS → Prop} (h : Wp r Q NoX) : Wp r Q X := h.mono (fun _ _ h => h) fun _ _ h => h.elim
theorem wT_ok {v : AV} {s : AS} {K : Bool → Prop} (h : wT v s K) : ∃ t, truth s.cells v = some t ∧ K t := by
  unfold wT at h
  split at h
  · rename_i b e
    cases b with
    | true => exact ⟨true, e, h.1 rfl⟩
    | false => exact ⟨false, e, h.2 rfl⟩
  · exact h.elim
theorem wL_ok {f : CE → AS → (AV → AS → Prop) → Prop} {g : CE → MM AV} (hf : ∀ e s Q, f e s Q → Wp (g e s) Q X) : ∀ {es : List CE} {s : AS} {Q : List AV → AS → Prop}, wL f es s Q → Wp (evList g es s) Q X
  | [], _, _, h => h
  | e :: es, s, Q, h => wl_cons ((hf e s _ h).imp fun v s1 h => wL_ok hf h)
theorem wLS_ok {f : CE → AS → (AV → AS → Prop) → Prop} {g : CE → MM AV} (hf : ∀ e s Q, f e s Q → Wp (g e s) Q X) : ∀ {es : List CE} {s : AS} {Q : List AV → AS → Prop}, wLS f es s Q → Wp (evListS g es s) Q X
  | [], _, _, h => h
  | e :: es, s, Q, h => by
    cases e with
    | star e => exact wp_bind ((hf e s _ h).imp fun v s1 h => wp_bind ((OpW.run h X).imp fun xs s2 h => wp_bind (wLS_ok hf h)))
    | _ => exact wp_bind ((hf _ s _ h).imp fun v s1 h => wp_bind (wLS_ok hf h))
theorem wPs_ok {f : CE → AS → (AV → AS → Prop) → Prop} {g : CE → MM AV} (hf : ∀ e s Q, f e s Q → Wp (g e s) Q X) : ∀ {ks vs : List CE} {s : AS} {Q : List (AV × AV) → AS → Prop}, wPs f ks vs s Q → Wp (evPairs g ks vs s) Q X
  | [], [], _, _, h => h
  | k :: ks, v :: vs, s, Q, h => wps_cons ((hf k s _ h).imp fun a s1 h => (hf v s1 _ h).imp fun b s2 h => wPs_ok hf h)
  | [], _ :: _, _, _, h => h.elim
  | _ :: _, [], _, _, h => h.elim
theorem wO_ok {f : CE → AS → (AV → AS → Prop) → Prop} {g : CE → MM AV} (hf : ∀ e s Q, f e s Q → Wp (g e s) Q X) : ∀ {e : Option CE} {s : AS} {Q : Option Int → AS → Prop}, wO f e s Q → Wp (evOpt g e s) Q X
  | none, _, _, h => h
  | some e, s, Q, h => wo_some ((hf e s _ h).imp fun v s1 h => by
      cases v with
      | int i => exact ⟨i, rfl, h⟩
      | _ => exact h.elim)
theorem wBin_ok {o : BOp} {x y : AV} {s : AS} {Q : AV → AS → Prop} (h : wBin o x y s Q) : Wp (binM o x y s) Q X := by
  unfold wBin at h
  split at h
  · cases o with
    | add => exact wb_add h
    | sub => exact wb_sub h
    | mul => exact wb_mul h
    | div => exact wb_div h
    | mod => exact wb_mod h
    | pow => exact wb_pow h
    | cat => exact h.elim
  · exact h.run X
theorem wCmp_ok {o : COp} {x y : AV} {s : AS} {Q : AV → AS → Prop} (h : wCmp o x y s Q) : Wp (cmpM o x y s) Q X := by
  cases o with
  | lt => simp only [wCmp] at h; split at h <;> first | exact h | exact h.elim
  | le => simp only [wCmp] at h; split at h <;> first | exact h | exact h.elim
  | gt => simp only [wCmp] at h; split at h <;> first | exact h | exact h.elim
  | ge => simp only [wCmp] at h; split at h <;> first | exact h | exact h.elim
  | isB => simp only [wCmp] at h; split at h <;> first | exact h | exact h.elim
  | nisB => simp only [wCmp] at h; split at h <;> first | exact h | exact h.elim
  | _ => exact OpW.run h X
theorem bmChk_same {m : BM} {x : AV} {s s' : AS} {u : Unit} (h : bmChk m x s = .ok u s') : s' = s := by
  unfold bmChk at h
  split at h
  · cases h; rfl
  · split at h
    · cases h; rfl
    · cases h
  · split at h
    · cases h; rfl
    · cases h
  · split at h
    · cases h; rfl
    · cases h
  · split at h
    · cases h; rfl
    · cases h
  · split at h
    · cases h; rfl
    · cases h
  · cases h
theorem wE_ok : ∀ (n : Nat) {X : AV → AS → Prop} {c : CE} {ρ : AE} {s : AS} {Q : AV → AS → Prop}, wE call X n c ρ s Q → Wp (evE call n c ρ s) Q X
  | 0, _, _, _, _, _, h => h.elim
  | n + 1, X, c, ρ, s, Q, h => by
    have ih := @wE_ok n
    unfold wE at h
    split at h
    · rename_i v e
      exact Wp.of (vE_ok _ e s) h
    rename_i hno
    clear hno
    cases c with
    | var i =>
      refine we_var ?_
      simp only at h
      split at h
      · exact ⟨_, by assumption, h⟩
      · exact h.elim
    | int i => exact h
    | str x => exact h
    | bl b => exact h
    | non => exact h
    | bin o a b => exact we_bin ((ih h).imp fun x s1 h => (ih h).imp fun y s2 h => wBin_ok h)
    | neg a => exact we_neg ((ih h).imp fun x s1 h => by
        cases x with
        | int i => exact ⟨i, rfl, h⟩
        | _ => exact h.elim)
    | not a => exact we_not ((ih h).imp fun x s1 h => by
        split at h
        · exact ⟨_, by assumption, h⟩
        · exact h.elim)
    | and a b => exact we_and ((ih h).imp fun x s1 h => by
        obtain ⟨t, e, h⟩ := wT_ok h
        exact ⟨t, e, fun z => by subst z; exact ih h, fun z => by subst z; exact h⟩)
    | or a b => exact we_or ((ih h).imp fun x s1 h => by
        obtain ⟨t, e, h⟩ := wT_ok h
        exact ⟨t, e, fun z => by subst z; exact h, fun z => by subst z; exact ih h⟩)
    | cmp o a b =>
      by_cases h1 : o = .isN
      · subst h1; exact we_isN (ih h)
      · by_cases h2 : o = .notN
        · subst h2; exact we_notN (ih h)
        · refine we_cmp h1 h2 ?_
          cases o <;> first | exact absurd rfl h1 | exact absurd rfl h2 | exact (ih h).imp fun x s1 h => (ih h).imp fun y s2 h => wCmp_ok h
    | ite c a b => exact we_ite ((ih h).imp fun x s1 h => by
        obtain ⟨t, e, h⟩ := wT_ok h
        exact ⟨t, e, fun z => by subst z; exact ih h, fun z => by subst z; exact ih h⟩)
    | tup es => exact we_tup (wL_ok (fun e s Q h => ih h) h)
    | lst al es => cases al with
      | true => exact we_lstT (wL_ok (fun e s Q h => ih h) h)
      | false => exact we_lstF (wL_ok (fun e s Q h => ih h) h)
    | dct al ks vs =>
      cases al with
      | false => exact we_dctF (wPs_ok (fun e s Q h => ih h) h)
      | true => exact wp_bind (wp_nox ((wPs_ok (fun e s Q h => ih h) h).imp fun ps s1 h => OpW.run h X))
    | idx a i => exact we_idx ((ih h).imp fun x s1 h => (ih h).imp fun y s2 h => OpW.run h X)
    | slc a lo hi => exact we_slc ((ih h).imp fun x s1 h => (wO_ok (fun e s Q h => ih h) h).imp fun l s2 h => (wO_ok (fun e s Q h => ih h) h).imp fun u s3 h => OpW.run h X)
    | comp al ws tg it ifs elt =>
      refine we_comp ?_
      revert h
      have turn : ∀ (x : AV) (s : AS) (Q' : Option AV → AS → Prop), (match asgT s.cells tg x (wipeE ρ ws) with
        | some ρ' => (match (generalizing := false) ifs with
          | [] => wE call NoX n elt ρ' s fun v s2 => Q' (some v) s2
          | [c] => wE call NoX n c ρ' s fun x s2 => wT x s2 fun t => match t with
            | true => wE call NoX n elt ρ' s2 fun v s3 => Q' (some v) s3
            | false => Q' none s2
          | _ => False)
        | none => False) → Wp (cTurn (fun s v ρ => asgT s.cells tg v ρ) (fun ρ' => evTests (fun e => evE call n e ρ') ifs) (fun ρ' => evE call n elt ρ') (wipeE ρ ws) x s) Q' X := fun x s Q' h => by
        refine (wc_turn ?_)
        split at h
        · rename_i ρ' e
          refine ⟨ρ', e, ?_⟩
          split at h
          · refine wt_nil ⟨fun _ => ih h, fun z => (nomatch z)⟩
          · refine wt_one ((ih h).imp fun y s2 h => ?_)
            obtain ⟨t, e, h⟩ := wT_ok h
            exact ⟨t, e, fun z => by subst z; exact ih h, fun z => by subst z; exact h⟩
          · exact h.elim
        · exact h.elim
      have fin : ∀ {r : Src} {s1 : AS}, (match r with
          | .items xs => CompW (fun x s1 Q' => match asgT s1.cells tg x (wipeE ρ ws) with
            | some ρ' => (match (generalizing := false) ifs with
              | [] => wE call NoX n elt ρ' s1 fun v s2 => Q' (some v) s2
              | [c] => wE call NoX n c ρ' s1 fun x s2 => wT x s2 fun t => match t with
                | true => wE call NoX n elt ρ' s2 fun v s3 => Q' (some v) s3
                | false => Q' none s2
              | _ => False)
            | none => False) xs [] s1 fun vs s2 => match al with
              | true => Q (.ref s2.cells.length) ⟨s2.cells ++ [.lst vs], s2.opn⟩
              | false => Q (.lst vs) s2
          | .cell k m => CompCW (fun x s1 Q' => match asgT s1.cells tg x (wipeE ρ ws) with
            | some ρ' => (match (generalizing := false) ifs with
              | [] => wE call NoX n elt ρ' s1 fun v s2 => Q' (some v) s2
              | [c] => wE call NoX n c ρ' s1 fun x s2 => wT x s2 fun t => match t with
                | true => wE call NoX n elt ρ' s2 fun v s3 => Q' (some v) s3
                | false => Q' none s2
              | _ => False)
            | none => False) k m s1 fun vs s2 => match al with
              | true => Q (.ref s2.cells.length) ⟨s2.cells ++ [.lst vs], s2.opn⟩
              | false => Q (.lst vs) s2) → Wp (compR (cTurn (fun s v ρ => asgT s.cells tg v ρ) (fun ρ' => evTests (fun e => evE call n e ρ') ifs) (fun ρ' => evE call n elt ρ') (wipeE ρ ws)) r 0 [] s1) (fun vs s2 => Wp (mkL al vs s2) Q X) X := by
        intro r s1 h
        cases r with
        | cell k m =>
          refine (h.run _ X turn).imp fun vs s2 h => ?_
          cases al <;> exact h
        | items xs =>
          refine (h.run _ X turn).imp fun vs s2 h => ?_
          cases al <;> exact h
      intro h
      cases it with
      | rng es => exact wi_rng ((wL_ok (fun e s Q h => ih h) h).imp fun vs s1 h => (OpW.run h X).imp fun r s2 h => fin h)
      | enm e => exact wi_enm ((ih h).imp fun v s1 h => (OpW.run h X).imp fun r s2 h => fin h)
      | _ => exact wi_val (fun _ z => nomatch z) (fun _ z => nomatch z) ((ih h).imp fun v s1 h => (OpW.run h X).imp fun r s2 h => fin h)
    | comp2 al ws tg it ifs ws1 tg1 it1 ifs1 elt =>
      have hsrc : ∀ {X : AV → AS → Prop} {it : CE} {ρ : AE} {s : AS} {K : Src → AS → Prop}, wSrc (fun e ρ s Q => wE call X n e ρ s Q) it ρ s K → Wp (evI (fun e => evE call n e ρ) it s) K X := fun {X it ρ s K} h => by
        cases it with
        | rng es => exact wi_rng ((wL_ok (fun e s Q h => ih h) h).imp fun vs s1 h => (OpW.run h X).imp fun r s2 h => h)
        | enm e => exact wi_enm ((ih h).imp fun v s1 h => (OpW.run h X).imp fun r s2 h => h)
        | _ => exact wi_val (fun _ z => nomatch z) (fun _ z => nomatch z) ((ih h).imp fun v s1 h => (OpW.run h X).imp fun r s2 h => h)
      have htests : ∀ {ifs : List CE} {ρ : AE} {s : AS} {K : Bool → AS → Prop}, wTests (fun e ρ s Q => wE call NoX n e ρ s Q) ifs ρ s K → Wp (evTests (fun e => evE call n e ρ) ifs s) K NoX := fun {ifs ρ s K} h => by
        match ifs, h with
        | [], h => exact h
        | [c], h => exact wp_bind ((ih h).imp fun x s2 h => by
            obtain ⟨t, e, h⟩ := wT_ok h
            exact wp_tru e h)
        | _ :: _ :: _, h => exact h.elim
      have hnox : ∀ {α : Type} {m : MM α} {s : AS} {Q : α → AS → Prop} {X : AV → AS → Prop}, Wp (m s) Q NoX → Wp (nox m s) Q X := fun {α m s Q X} h => by
        unfold nox
        revert h
        cases m s with
        | ok a s1 => exact id
        | exc x s1 => exact fun h => h.elim
        | stuck => exact id
      have hasg : ∀ {tg : Tg} {x : AV} {ρ : AE} {s : AS} {ρ' : AE} {k : AE → MM (List AV)} {Q : List AV → AS → Prop} {X : AV → AS → Prop}, asgT s.cells tg x ρ = some ρ' → Wp (k ρ' s) Q X → Wp (MM.bind (fun s => ofO (asgT s.cells tg x ρ) s) k s) Q X := fun {tg x ρ s ρ' k Q X} e h => by
        unfold MM.bind
        simp only
        rw [e]
        exact h
      have hfold : ∀ {f : AV → List AV → AS → (List AV → AS → Prop) → Prop} {g : AV → List AV → MM (List AV)} {X : AV → AS → Prop} {r : Src} {acc : List AV} {s : AS} {Q : List AV → AS → Prop}, (∀ x a s Q', f x a s Q' → Wp (g x a s) Q' X) → wFold f r acc s Q → Wp (foldR g r 0 acc s) Q X := fun {f g X r acc s Q} hg h => by
        cases r with
        | items xs => exact h.run g X hg
        | cell k m => exact h.run g X hg
      refine wp_bind ((hsrc h).imp fun r s1 h => wp_bind ((hfold (fun x acc s1 Q' h => ?_) h).imp fun vs s2 h => by cases al <;> exact h))
      have h : wOuter (fun e ρ s Q => wE call NoX n e ρ s Q) tg ifs it1 (fun ρ' => wInner (fun e ρ s Q => wE call NoX n e ρ s Q) tg1 ifs1 elt (wipeE ρ' ws1)) (wipeE ρ ws) x acc s1 Q' := h
      unfold wOuter at h
      cases e : asgT s1.cells tg x (wipeE ρ ws) with
      | none => rw [e] at h; exact h.elim
      | some ρ' =>
        rw [e] at h
        refine hasg e (wp_bind (hnox ((htests h).imp fun t s2 h => ?_)))
        cases t with
        | false => exact h
        | true =>
          refine wp_bind (hnox ((hsrc (X := NoX) h).imp fun r s3 h => hfold (fun x acc s1 Q' h => ?_) h))
          have h : wInner (fun e ρ s Q => wE call NoX n e ρ s Q) tg1 ifs1 elt (wipeE ρ' ws1) x acc s1 Q' := h
          unfold wInner at h
          cases e2 : asgT s1.cells tg1 x (wipeE ρ' ws1) with
          | none => rw [e2] at h; exact h.elim
          | some ρ2 =>
            rw [e2] at h
            refine hasg e2 (wp_bind (hnox ((htests h).imp fun t s2 h => ?_)))
            cases t with
            | false => exact h
            | true =>
              have h : wE call NoX n elt ρ2 s2 fun v s3 => acc.length < LIM ∧ Q' (acc ++ [v]) s3 := h
              refine wp_bind (hnox ((ih h).imp fun v s3 h => ?_))
              unfold moreM
              rw [if_pos h.1]
              exact h.2
    | rng _ => exact h.elim
    | enm _ => exact h.elim
    | nev => exact h.elim
    | star _ => exact h.elim
    | tupS es => exact wp_bind ((wLS_ok (fun e s Q h => ih h) h).imp fun vs s1 h => by
        unfold fewM
        rw [if_pos h.1]
        exact h.2)
    | lstS al es => exact wp_bind ((wLS_ok (fun e s Q h => ih h) h).imp fun vs s1 h => by
        unfold fewM
        rw [if_pos h.1]
        cases al <;> exact h.2)
    | call k es ws ks perm keep => exact we_call ((wL_ok (fun e s Q h => ih h) h).imp fun v1 s1 h => (wL_ok (fun e s Q h => ih h) h).imp fun v2 s2 h => by
        split at h
        · exact ⟨_, by assumption, h.run⟩
        · exact h.elim)
    | blt b al es => exact we_blt ((wL_ok (fun e s Q h => ih h) h).imp fun vs s1 h => OpW.run h X)
    | isi e ts => exact wp_bind ((ih h).imp fun x s1 h => OpW.run h X)
    | blc b e => exact wp_bind ((ih h).imp fun x s1 h => OpW.run h X)
    | rep es b => exact wp_bind ((wL_ok (fun e s Q h => ih h) h).imp fun vs s1 h => wp_bind ((ih h).imp fun y s2 h => OpW.run h X))
    | glob _ a => exact h
    | rev a => exact wp_bind ((ih h).imp fun x s1 h => by
        split at h
        · rename_i xs e
          first | exact h | (rw [e]; exact h)
        · rename_i xs e
          first | exact h | (rw [e]; exact h)
        · exact h.elim)
    | lrng al es => exact wp_bind ((wL_ok (fun e s Q h => ih h) h).imp fun vs s1 h => OpW.run h X)
    | chain o1 o2 a b c => exact wp_bind ((ih h).imp fun x s1 h => wp_bind ((ih h).imp fun y s2 h => wp_bind ((wCmp_ok (X := X) h).imp fun t s3 h => by
        split at h
        · rename_i k
          refine wp_bind ?_
          show Wp ((if k = true then (evE call n c ρ).bind fun z => cmpM o2 y z else MM.pure (AV.bl false)) s3) Q X
          cases k with
          | true => exact wp_bind ((ih (h.1 rfl)).imp fun z s4 h => wCmp_ok h)
          | false => exact h.2 rfl
        · exact h.elim)))
    | attr a f => exact wp_bind ((ih h).imp fun x s1 h => OpW.run h X)
    | isc a c subs => exact wp_bind ((ih h).imp fun x s1 h => OpW.run h X)
    | isx a k => exact wp_bind ((ih h).imp fun x s1 h => OpW.run h X)
    | meth cs m k a es ws ks perm keep => exact wp_bind ((ih h).imp fun x s0 h => wp_bind (Wp.of h.1 (wp_bind ((wL_ok (fun e s Q h => ih h) h.2).imp fun v1 s1 h => wp_bind ((wL_ok (fun e s Q h => ih h) h).imp fun v2 s2 h => by
        split at h
        · rename_i args e
          rw [e]; exact h.run
        · exact h.elim)))))
    | strc cs k a => exact wp_bind ((ih h).imp fun x s1 h => OpW.run h X)
    | heard k e =>
      have h1 : Wp (evE call n e ρ s) (fun _ s1 => CallW call k [.non] false s1 Q X) (fun x s1 => CallW call k [x] false s1 Q X) := ih h.run
      show Wp (heardR (evE call n e ρ s) fun x => call k [x] false) Q X
      unfold heardR
      revert h1
      cases evE call n e ρ s with
      | ok v s1 => exact fun h => h.run
      | exc x s1 => exact fun h => h.run
      | stuck => exact fun h => h.elim
    | xattr a f => exact wp_bind ((ih h).imp fun x s1 h => OpW.run h X)
    | new al c k es ws ks perm => exact wp_bind ((wL_ok (fun e s Q h => ih h) h).imp fun v1 s1 h => wp_bind ((wL_ok (fun e s Q h => ih h) h).imp fun v2 s2 h => NewW.run h))
    | eqi neg c k a b => exact wp_bind ((ih h).imp fun x s1 h => wp_bind ((ih h).imp fun y s2 h => OpW.run h X))
    | bm m a es => exact wp_bind ((ih h).imp fun x s1 h => wp_bind (Wp.of h.1 (wp_bind ((wL_ok (fun e s Q h => ih h) h.2).imp fun vs s2 h => OpW.run h X))))

/-! ### statements -/
/-- runs that may go on or give a value -/
def wB (st : CS → AE → AS → (AE → AS → Prop) → (AV → AS → Prop) → Prop) : List CS → AE → AS → (AE → AS → Prop) → (AV → AS → Prop) → Prop
  | [], ρ, s, N, _ => N ρ s
  | c :: cs, ρ, s, N, R => st c ρ s (fun ρ s => wB st cs ρ s N R) R
def wS (call : Nat → List AV → Bool → MM AV) : Nat → (AV → AE → AS → Prop) → CS → AE → AS → (AE → AS → Prop) → (AV → AS → Prop) → Prop
  | 0, _, _, _, _, _, _ => False
  | n + 1, E, c, ρ, s, N, R => match c with
    | .expr e => wE call (fun x s1 => E x ρ s1) n e ρ s fun _ s1 => N ρ s1
    | .asg t e => wE call (fun x s1 => E x ρ s1) n e ρ s fun v s1 => match asgT s1.cells t v ρ with
      | some ρ' => N ρ' s1
      | none => False
    | .setIx a i e => wE call (fun x s1 => E x ρ s1) n e ρ s fun v s1 => wE call (fun x s1 => E x ρ s1) n a ρ s1 fun x s2 => wE call (fun x s1 => E x ρ s1) n i ρ s2 fun y s3 => OpW (setIxM x y v s3) fun _ s4 => N ρ s4
    | .setAt a f e => wE call (fun x s1 => E x ρ s1) n e ρ s fun v s1 => wE call (fun x s1 => E x ρ s1) n a ρ s1 fun x s2 => OpW (setAtM x f v s2) fun _ s3 => N ρ s3
    | .never => False
    | .raiseS c fs es => wL (fun e => wE call (fun x s1 => E x ρ s1) n e ρ) es s fun vs s1 => vs.length = fs.length ∧ E (.exc c (revZ fs vs [])) ρ s1
    | .tryK body i j => wB (wS call n (fun x ρ' s1 => (i < ρ'.length ∧ j < ρ'.length) ∧ N (((ρ'.set i (some x)).set j (some x)).set i none) s1)) body ρ s N R
    | .ifS t a b => wE call (fun x s1 => E x ρ s1) n t ρ s fun x s1 => wT x s1 fun t => match t with
      | true => wB (wS call n E) a ρ s1 N R
      | false => wB (wS call n E) b ρ s1 N R
    | .forS t it body =>
      let src : (List AV → AS → Prop) → (Nat → Nat → AS → Prop) → Prop := fun K C => match it with
        | .rng es => wL (fun e => wE call (fun x s1 => E x ρ s1) n e ρ) es s fun vs s1 => OpW (rngM vs s1) fun r s2 => match r with
          | .items xs => K xs s2
          | .cell _ _ => False
        | .enm e => wE call (fun x s1 => E x ρ s1) n e ρ s fun v s1 => OpW (enmOf v s1) fun r s2 => match r with
          | .items xs => K xs s2
          | .cell _ _ => False
        | it => wE call (fun x s1 => E x ρ s1) n it ρ s fun v s1 => OpW (srcOf v s1) fun r s2 => match r with
          | .items xs => K xs s2
          | .cell k m => C k m s2
      let f : AV → AE → AS → (AE → AS → Prop) → (AV → AS → Prop) → Prop := fun x ρ' s2 N' R' => match asgT s2.cells t x ρ' with
        | some ρ2 => wB (wS call n E) body ρ2 s2 N' R'
        | none => False
      src (fun xs s1 => ForW f xs ρ s1 N R E) fun k m s1 => ForCW f k m ρ s1 N R E
    | .whileS c body => WhileW (fun ρ s K => wE call (fun x s1 => E x ρ s1) n c ρ s fun x s1 => wT x s1 fun t => K t s1) (fun ρ s N' R' => wB (wS call n E) body ρ s N' R') FUW ρ s N R E
    | .ret e => wE call (fun x s1 => E x ρ s1) n e ρ s fun v s1 => R v s1
    | .retN => R .non s
abbrev KOf (R : AV → AS → Prop) (E : AV → AE → AS → Prop) : SK := ⟨R, fun _ _ => False, fun _ _ => False, E⟩
theorem wB_ok {f : CS → AE → AS → (AE → AS → Prop) → (AV → AS → Prop) → Prop} {g : CS → AE → AS → SRs} {E : AV → AE → AS → Prop} (hf : ∀ c ρ s N R, f c ρ s N R → WS (g c ρ s) N (KOf R E)) : ∀ {cs : List CS} {ρ : AE} {s : AS} {N : AE → AS → Prop} {R : AV → AS → Prop}, wB f cs ρ s N R → WS (evB g cs ρ s) N (KOf R E)
  | [], _, _, _, _, h => h
  | c :: cs, ρ, s, N, R, h => ws_cons (WS.mono (hf c ρ s _ R h) (fun ρ s h => wB_ok hf h))
theorem nox_imp {α : Type} {r : Rs α} {Q : α → AS → Prop} {X : AV → AS → Prop} (h : Wp r Q NoX) : Wp r Q X := h.mono (fun _ _ h => h) fun _ _ h => h.elim
theorem wS_ok : ∀ (n : Nat) {E : AV → AE → AS → Prop} {c : CS} {ρ : AE} {s : AS} {N : AE → AS → Prop} {R : AV → AS → Prop}, wS call n E c ρ s N R → WS (evS call n c ρ s) N (KOf R E)
  | 0, _, _, _, _, _, _, h => h.elim
  | n + 1, E, c, ρ, s, N, R, h => by
    have ih := @wS_ok n
    have ie := @wE_ok call n
    cases c with
    | expr e => exact ws_expr (ie h)
    | asg t e => exact ws_asg ((ie h).imp fun v s1 h => by
        split at h
        · exact ⟨_, by assumption, h⟩
        · exact h.elim)
    | setIx a i e => exact ws_setIx ((ie h).imp fun v s1 h => (ie h).imp fun x s2 h => (ie h).imp fun y s3 h => h.run _)
    | setAt a f e => exact ws_bind (wp_bind ((ie h).imp fun v s1 h => wp_bind ((ie h).imp fun x s2 h => h.run _)))
    | never => exact h.elim
    | raiseS c fs es => exact ws_bind ((wL_ok (fun e s Q h => ie h) h).imp fun vs s1 h => by
        show WS (if vs.length = fs.length then .exc (.exc c (revZ fs vs [])) ρ s1 else .stuck) N (KOf R E)
        rw [if_pos h.1]
        exact h.2)
    | tryK body i j =>
      have h := wB_ok (g := evS call n) (fun c ρ s N R h => ih h) h
      show WS (tryR i j (evB (evS call n) body ρ s)) N (KOf R E)
      revert h
      cases evB (evS call n) body ρ s with
      | next ρ5 s5 => exact id
      | ret a s5 => exact id
      | brk ρ5 s5 => exact fun h => h.elim
      | cont ρ5 s5 => exact fun h => h.elim
      | stuck => exact id
      | exc x ρ5 s5 =>
        intro h
        show WS (if i < ρ5.length ∧ j < ρ5.length then .next (((ρ5.set i (some x)).set j (some x)).set i none) s5 else .stuck) N (KOf R E)
        have h : (i < ρ5.length ∧ j < ρ5.length) ∧ N (((ρ5.set i (some x)).set j (some x)).set i none) s5 := h
        rw [if_pos h.1]
        exact h.2
    | ifS t a b => exact ws_if ((ie h).imp fun x s1 h => by
        obtain ⟨t, e, h⟩ := wT_ok h
        exact ⟨t, e, fun z => by subst z; exact wB_ok (fun c ρ s N R h => ih h) h, fun z => by subst z; exact wB_ok (fun c ρ s N R h => ih h) h⟩)
    | forS t it body =>
      refine ws_for ?_
      have fin : ∀ {xs : List AV} {s1 : AS}, ForW (fun x ρ' s2 N' R' => match asgT s2.cells t x ρ' with
        | some ρ2 => wB (wS call n E) body ρ2 s2 N' R'
        | none => False) xs ρ s1 N R E → WS (forL (turnF call n t body) xs ρ s1) N (KOf R E) := fun h => h.run _ fun x ρ s N' R' h => by
          refine ws_turn ?_
          split at h
          · exact ⟨_, by assumption, wB_ok (fun c ρ s N R h => ih h) h⟩
          · exact h.elim
      have finC : ∀ {k m : Nat} {s1 : AS}, ForCW (fun x ρ' s2 N' R' => match asgT s2.cells t x ρ' with
        | some ρ2 => wB (wS call n E) body ρ2 s2 N' R'
        | none => False) k m ρ s1 N R E → WS (forC (turnF call n t body) k m 0 ρ s1) N (KOf R E) := fun h => h.run _ fun x ρ s N' R' h => by
          refine ws_turn ?_
          split at h
          · exact ⟨_, by assumption, wB_ok (fun c ρ s N R h => ih h) h⟩
          · exact h.elim
      cases it with
      | rng es => exact wi_rng ((wL_ok (fun e s Q h => ie h) h).imp fun vs s1 h => (OpW.run h _).imp fun r s2 h => by
          cases r with
          | items xs => exact fin h
          | cell _ _ => exact h.elim)
      | enm e => exact wi_enm ((ie h).imp fun v s1 h => (OpW.run h _).imp fun r s2 h => by
          cases r with
          | items xs => exact fin h
          | cell _ _ => exact h.elim)
      | _ => exact wi_val (fun _ z => nomatch z) (fun _ z => nomatch z) ((ie h).imp fun v s1 h => (OpW.run h _).imp fun r s2 h => by
          cases r with
          | items xs => exact fin h
          | cell _ _ => exact finC h)
    | whileS c body =>
      refine WhileW.run h (fun ρ => MM.bind (evE call n c ρ) truM) (fun ρ s => evB (evS call n) body ρ s) (fun ρ s K h => ?_) fun ρ s N' R' h => wB_ok (fun c ρ s N R h => ih h) h
      exact wp_bind ((ie h).imp fun x s1 h => by
        obtain ⟨t, e, h⟩ := wT_ok h
        exact wp_tru e h)
    | ret e => exact ws_ret (ie h)
    | retN => exact h
/-- what is left of a run of a def, where all cells stay -/
structure XpW (r : Rs AV) (X : AV → AS → Prop) : Prop where
  run : ∀ Q, Wp r Q X
theorem XpW.keep {s s1 : AS} {x : AV} {X : AV → AS → Prop} (h : X x ⟨s1.cells, s.opn || s1.opn⟩) : XpW (leaveX s true x s1) X := ⟨fun Q => by
  unfold leaveX
  rw [if_pos (.inl rfl)]
  exact h⟩
/-- .. where just the own cells stay -/
structure Lv (own : List AO) (v : AV) (s1 : AS) (Q : AV → List AO → Prop) : Prop where
  run : ∀ X, Wp (leaveV ⟨own, false⟩ false v s1) (fun w s2 => (s2.cells.length = own.length ∧ s2.opn = false) ∧ Q w s2.cells) X
structure Lx (own : List AO) (x : AV) (s1 : AS) (X : AV → List AO → Prop) : Prop where
  run : ∀ Q, Wp (leaveX ⟨own, false⟩ false x s1) Q fun y s2 => (s2.cells.length = own.length ∧ s2.opn = false) ∧ X y s2.cells
/-- a call of a def, at all cells -/
theorem CallW.fn {P : List FnD} {d k : Nat} {f : FnD} {args : List AV} {keep : Bool} {s : AS} {Q : AV → AS → Prop} (hf : P[k]? = some f) (hl : args.length = f.nps) (hk : (keep || f.hd) = true)
    (h : wB (wS (callF P d) FU (fun x _ s1 => XpW (leaveX s keep x s1) X)) f.body (f.env0 args) ⟨s.cells, false⟩ (fun _ s1 => OpW (leaveV s keep .non s1) Q) fun v s1 => OpW (leaveV s keep v s1) Q) : CallW (callF P (d + 1)) k args keep s Q X :=
  ⟨wp_fn hf hl hk (WS.monoA (wB_ok (fun c ρ s N R h => wS_ok FU h) h) (fun ρ s h => h.run X) (fun v s h => h.run X) fun x ρ s h => h.run Q)⟩
/-- .. at the cells that it sees -/
theorem CallW.fr {P : List FnD} {d k : Nat} {f : FnD} {args : List AV} {Q : AV → AS → Prop} {own rest : List AO} {o : Bool} (hf : P[k]? = some f) (hl : args.length = f.nps) (hh : f.hd = false) (ht : topsO (topV DPT) args = some own.length) (hc : closedC own.length own = true)
    (h : wB (wS (callF P d) FU (fun x _ s1 => Lx own x s1 fun y cs => X y ⟨cs ++ rest, o⟩)) f.body (f.env0 args) ⟨own, false⟩ (fun _ s1 => Lv own .non s1 fun w cs => Q w ⟨cs ++ rest, o⟩) fun v s1 => Lv own v s1 fun w cs => Q w ⟨cs ++ rest, o⟩) :
    CallW (callF P (d + 1)) k args false ⟨own ++ rest, o⟩ Q X :=
  ⟨wp_fr hf hl hh ht rfl hc (WS.monoA (wB_ok (fun c ρ s N R h => wS_ok FU h) h) (fun ρ s h => h.run _) (fun v s h => h.run _) fun x ρ s h => h.run _)⟩
theorem OpW.of {α : Type} {r : Rs α} {a : α} {s : AS} {Q : α → AS → Prop} (e : r = .ok a s) (h : Q a s) : OpW r Q := ⟨fun _ => Wp.of e h⟩
theorem OpW.wp {α : Type} {r : Rs α} {Q : α → AS → Prop} (h : ∀ X, Wp r Q X) : OpW r Q := ⟨h⟩
theorem CompW.nil {f : AV → AS → (Option AV → AS → Prop) → Prop} {acc : List AV} {s : AS} {Q : List AV → AS → Prop} (h : Q acc s) : CompW f [] acc s Q := ⟨fun _ _ _ => h⟩
theorem CompW.cons {f : AV → AS → (Option AV → AS → Prop) → Prop} {x : AV} {xs acc : List AV} {s : AS} {Q : List AV → AS → Prop} (h : ∀ R : Option AV → AS → Prop, (∀ o s1, CompW f xs (accO acc o) s1 Q → R o s1) → f x s R) : CompW f (x :: xs) acc s Q :=
  ⟨fun g X hg => wc_cons (hg x s _ (h _ fun o s1 h => h.run g X hg))⟩
theorem CompW.inv {f : AV → AS → (Option AV → AS → Prop) → Prop} {Q : List AV → AS → Prop} (I : Nat → List AV → AS → Prop) {xs acc : List AV} {s : AS} (h0 : I 0 acc s) (hs : ∀ (i : Nat) (x : AV) acc s, xs[i]? = some x → I i acc s → f x s fun o s1 => I (i + 1) (accO acc o) s1)
    (hd : ∀ acc s, I xs.length acc s → Q acc s) : CompW f xs acc s Q := ⟨fun g X hg => wc_inv I h0 (fun i x acc s e h => hg x s _ (hs i x acc s e h)) hd⟩
theorem CompCW.inv {f : AV → AS → (Option AV → AS → Prop) → Prop} {Q : List AV → AS → Prop} (I : Nat → List AV → AS → Prop) {xs : List AV} {k : Nat} {s : AS} (hk : ∀ i acc s, I i acc s → s.cells[k]? = some (.lst xs)) (h0 : I 0 [] s) (hs : ∀ (i : Nat) (x : AV) acc s, xs[i]? = some x → I i acc s → f x s fun o s1 => I (i + 1) (accO acc o) s1)
    (hd : ∀ acc s, I xs.length acc s → Q acc s) : CompCW f k xs.length s Q := ⟨fun g X hg => by
  have key : ∀ (m i : Nat) (acc : List AV) (s : AS), i + m = xs.length → I i acc s → Wp (compC g k m i acc s) Q X := by
    intro m
    induction m with
    | zero =>
      intro i acc s e h
      have hi : i = xs.length := by omega
      subst hi
      unfold compC
      refine wp_bind ?_
      unfold itemAt
      rw [hk _ _ _ h]
      simp only
      rw [List.getElem?_eq_none (Nat.le_refl _)]
      exact hd _ _ h
    | succ m ih =>
      intro i acc s e h
      have hi : i < xs.length := by omega
      unfold compC
      refine wp_bind ?_
      unfold itemAt
      rw [hk _ _ _ h]
      simp only
      rw [List.getElem?_eq_getElem hi]
      exact wp_bind ((hg _ _ _ (hs i _ acc s (List.getElem?_eq_getElem hi) h)).imp fun o s1 h1 => ih (i + 1) _ s1 (by omega) h1)
  exact key _ 0 [] s (by omega) h0⟩
theorem WhileW.inv {ft : AE → AS → (Bool → AS → Prop) → Prop} {fb : AE → AS → (AE → AS → Prop) → (AV → AS → Prop) → Prop} {N : AE → AS → Prop} {R : AV → AS → Prop} (I : Nat → AE → AS → Prop) {n m : Nat} {ρ : AE} {s : AS} (hm : m < n) (h0 : I m ρ s)
    (hs : ∀ k ρ s, I k ρ s → ft ρ s fun t s1 => (t = true → ∃ j, k = j + 1 ∧ fb ρ s1 (I j) R) ∧ (t = false → N ρ s1)) {E : AV → AE → AS → Prop} : WhileW ft fb n ρ s N R E := ⟨fun t g ht hg => by
  have key : ∀ (n k : Nat) (ρ : AE) (s : AS), k < n → I k ρ s → WS (whileL t g n ρ s) N ⟨R, fun _ _ => False, fun _ _ => False, E⟩ := by
    intro n
    induction n with
    | zero => intro k ρ s h; exact absurd h (Nat.not_lt_zero k)
    | succ n ih =>
      intro k ρ s hk hI
      unfold whileL
      refine ws_bind ((ht _ _ _ (hs k ρ s hI)).imp fun b s1 h => ?_)
      cases b with
      | false => exact h.2 rfl
      | true =>
        obtain ⟨j, e, h⟩ := h.1 rfl
        have h := hg _ _ _ _ h
        show WS (match g ρ s1 with
          | .next ρ' s2 => whileL t g n ρ' s2
          | .cont ρ' s2 => whileL t g n ρ' s2
          | .brk ρ' s2 => .next ρ' s2
          | o => o) N _
        revert h
        cases g ρ s1 with
        | next ρ5 s5 => exact fun h => ih j ρ5 s5 (by omega) h
        | cont ρ5 s5 => exact fun h => h.elim
        | brk ρ5 s5 => exact fun h => h.elim
        | ret a s5 => exact id
        | exc x ρ5 s5 => exact id
        | stuck => exact id
  exact key n m ρ s hm h0⟩
theorem ForCW.inv {f : AV → AE → AS → (AE → AS → Prop) → (AV → AS → Prop) → Prop} {N : AE → AS → Prop} {R : AV → AS → Prop} (I : Nat → AE → AS → Prop) {k m : Nat} {ρ : AE} {s : AS} (hk : ∀ i ρ s, I i ρ s → ∃ xs, s.cells[k]? = some (.lst xs) ∧ xs.length = m) (h0 : I 0 ρ s)
    (hs : ∀ (i : Nat) (x : AV) (xs : List AV) ρ s, i < m → s.cells[k]? = some (.lst xs) → xs[i]? = some x → I i ρ s → f x ρ s (I (i + 1)) R) {E : AV → AE → AS → Prop} (hd : ∀ ρ s, I m ρ s → N ρ s) : ForCW f k m ρ s N R E := ⟨fun g hg => by
  have key : ∀ (j i : Nat) (ρ : AE) (s : AS), i + j = m → I i ρ s → WS (forC g k j i ρ s) N ⟨R, fun _ _ => False, fun _ _ => False, E⟩ := by
    intro j
    induction j with
    | zero =>
      intro i ρ s e h
      have hi : i = m := by omega
      subst hi
      obtain ⟨xs, h1, h2⟩ := hk _ _ _ h
      unfold forC itemAt
      rw [h1]
      simp only
      rw [List.getElem?_eq_none (by omega)]
      exact hd _ _ h
    | succ j ih =>
      intro i ρ s e h
      obtain ⟨xs, h1, h2⟩ := hk _ _ _ h
      unfold forC itemAt
      rw [h1]
      simp only
      rw [List.getElem?_eq_getElem (by omega)]
      simp only
      have hw := hg _ _ _ _ _ (hs i _ xs ρ s (by omega) h1 (List.getElem?_eq_getElem (by omega)) h)
      revert hw
      cases g (xs[i]'(by omega)) ρ s with
      | next ρ5 s5 => exact fun h => ih (i + 1) ρ5 s5 (by omega) h
      | cont ρ5 s5 => exact fun h => h.elim
      | brk ρ5 s5 => exact fun h => h.elim
      | ret a s5 => exact id
      | exc x ρ5 s5 => exact id
      | stuck => exact id
  exact key m 0 ρ s (by omega) h0⟩
theorem ForW.nil {f : AV → AE → AS → (AE → AS → Prop) → (AV → AS → Prop) → Prop} {ρ : AE} {s : AS} {N : AE → AS → Prop} {R : AV → AS → Prop} {E : AV → AE → AS → Prop} (h : N ρ s) : ForW f [] ρ s N R E := ⟨fun _ _ => h⟩
theorem ForW.inv {f : AV → AE → AS → (AE → AS → Prop) → (AV → AS → Prop) → Prop} {N : AE → AS → Prop} {R : AV → AS → Prop} (I : Nat → AE → AS → Prop) {xs : List AV} {ρ : AE} {s : AS} (h0 : I 0 ρ s) (hs : ∀ (i : Nat) (x : AV) ρ s, xs[i]? = some x → I i ρ s → f x ρ s (I (i + 1)) R)
    {E : AV → AE → AS → Prop} (hd : ∀ ρ s, I xs.length ρ s → N ρ s) : ForW f xs ρ s N R E := ⟨fun g hg => wf_inv I h0 (fun i x ρ s e h => WS.monoK (hg x ρ s _ _ (hs i x ρ s e h))) hd⟩
end

/-! ### single wishes -/
theorem br_t {A B : Prop} {b : Bool} (e : b = true) (h : A) : (b = true → A) ∧ (b = false → B) := ⟨fun _ => h, fun z => by rw [e] at z; cases z⟩
theorem br_f {A B : Prop} {b : Bool} (e : b = false) (h : B) : (b = true → A) ∧ (b = false → B) := ⟨fun z => by (rw [e] at z; cases z), fun _ => h⟩
section
variable {s s1 : AS} {keep : Bool} {v : AV} {Q : AV → AS → Prop}
theorem OpW.leave (ho : s1.opn = false) (hl : s1.cells.length ≤ s.cells.length) (h : Q v ⟨s1.cells, s.opn⟩) : OpW (leaveV s keep v s1) Q :=
  ⟨fun X => wp_leave hl (by rw [ho, Bool.or_false]; exact h)⟩
theorem toPy_ints {cs : List AO} : ∀ {ns : List Int} {n : Nat}, mapO (toPy cs (n + 1)) (ns.map AV.int) = some (ns.map PyData.int)
  | [], _ => rfl
  | x :: ns, n => by
    rw [List.map_cons, mapO, toPy_ints]
    rfl
theorem canLay_ints : ∀ {ns : List Int}, PyData.canLayAll0 (ns.map PyData.int) = true
  | [] => rfl
  | x :: r => by
    rw [List.map_cons]
    unfold PyData.canLayAll0
    rw [canLay_ints]
    rfl
theorem depth_ints : ∀ {ns : List Int}, PyData.depthAll (ns.map PyData.int) = 0
  | [] => by rw [List.map_nil]; unfold PyData.depthAll; rfl
  | x :: r => by
    rw [List.map_cons]
    unfold PyData.depthAll
    rw [depth_ints]
    unfold PyData.depth
    rfl
theorem shaped_ints {ns : List Int} : SeqAt.shaped (.list (ns.map PyData.int)) = true := by
  unfold SeqAt.shaped PyData.canLay0 PyData.depth
  rw [canLay_ints, depth_ints]
  rfl
theorem eqv_nil {ds : List PyData} : PyData.eqv (.list ds) (.list []) = ds.isEmpty := by
  unfold PyData.eqv
  cases ds with
  | nil => unfold PyData.eqvAll; rfl
  | cons _ _ => unfold PyData.eqvAll; rfl
theorem OpW.ne_nil {ns : List Int} (h : Q (.bl (!ns.isEmpty)) s) : OpW (cmpM .ne (.lst (ns.map AV.int)) (.lst []) s) Q := ⟨fun X => by
  refine wk_ne ⟨.list (ns.map PyData.int), ?_, .list [], rfl, ⟨shaped_ints, by decide +kernel⟩, ?_⟩
  · show (match mapO (toPy s.cells 11) (ns.map AV.int) with | some ds => some (PyData.list ds) | none => none) = _
    rw [toPy_ints]
  · rw [eqv_nil]
    cases ns <;> exact h⟩
theorem OpW.eq_nil {ns : List Int} (h : Q (.bl ns.isEmpty) s) : OpW (cmpM .eq (.lst (ns.map AV.int)) (.lst []) s) Q := ⟨fun X => by
  refine wk_eq ⟨.list (ns.map PyData.int), ?_, .list [], rfl, ⟨shaped_ints, by decide +kernel⟩, ?_⟩
  · show (match mapO (toPy s.cells 11) (ns.map AV.int) with | some ds => some (PyData.list ds) | none => none) = _
    rw [toPy_ints]
  · rw [eqv_nil]
    cases ns <;> exact h⟩
/-- an item of a list, at a place within -/
theorem OpW.item {xs : List AV} {i : Int} (h0 : 0 ≤ i) (h1 : i < xs.length) (h : ∀ (j : Nat) v, (j : Int) = i → xs[j]? = some v → Q v s) : OpW (idxM (.lst xs) (.int i) s) Q := ⟨fun X => by
  have hj : i.toNat < xs.length := by omega
  refine wx_seq ⟨_, rfl, xs[i.toNat], ?_, h i.toNat _ (by omega) (List.getElem?_eq_getElem hj)⟩
  unfold L2.atI L2.ixN
  rw [if_pos h0, if_pos (show i < ((xs.length : Nat) : Int) from h1)]
  show xs[i.toNat]? = _
  exact List.getElem?_eq_getElem hj⟩
theorem OpW.itemT {xs : List AV} {i : Int} (h0 : 0 ≤ i) (h1 : i < xs.length) (h : ∀ (j : Nat) v, (j : Int) = i → xs[j]? = some v → Q v s) : OpW (idxM (.tup xs) (.int i) s) Q := ⟨fun X => by
  have hj : i.toNat < xs.length := by omega
  refine wx_seq ⟨_, rfl, xs[i.toNat], ?_, h i.toNat _ (by omega) (List.getElem?_eq_getElem hj)⟩
  unfold L2.atI L2.ixN
  rw [if_pos h0, if_pos (show i < ((xs.length : Nat) : Int) from h1)]
  show xs[i.toNat]? = _
  exact List.getElem?_eq_getElem hj⟩
theorem OpW.itemI {ns : List Int} {i : Int} (h0 : 0 ≤ i) (h1 : i < ns.length) (h : ∀ c, Q (.int c) s) : OpW (idxM (.lst (ns.map AV.int)) (.int i) s) Q := by
  refine OpW.item h0 (by rw [List.length_map]; exact h1) fun j v _ hv => ?_
  rw [List.getElem?_map] at hv
  cases e : ns[j]? with
  | none => rw [e] at hv; cases hv
  | some c => rw [e] at hv; cases hv; exact h c
theorem OpW.isi {x : AV} {ts : List String} (bs : List Bool) (h : ∃ t, tyName s.cells x = some t ∧ mapO (L2.kitB t) ts = some bs ∧ Q (.bl (bs.any id)) s) : OpW (isiM x ts s) Q := ⟨fun X => by
  obtain ⟨t, h1, h2, h⟩ := h
  unfold isiM; rw [h1]; simp only; rw [h2]; exact h⟩
theorem shaped_int {x : Int} : SeqAt.shaped (.int x) = true := by
  unfold SeqAt.shaped PyData.canLay0 PyData.depth
  rfl
theorem OpW.eqI {i j : Int} (h : Q (.bl (decide (i = j))) s) : OpW (cmpM .eq (.int i) (.int j) s) Q := ⟨fun X => wk_eq ⟨.int i, rfl, .int j, rfl, ⟨shaped_int, shaped_int⟩, by unfold PyData.eqv; exact h⟩⟩
theorem OpW.neI {i j : Int} (h : Q (.bl (!decide (i = j))) s) : OpW (cmpM .ne (.int i) (.int j) s) Q := ⟨fun X => wk_ne ⟨.int i, rfl, .int j, rfl, ⟨shaped_int, shaped_int⟩, by unfold PyData.eqv; exact h⟩⟩
theorem OpW.eqS {x y : Str} (h : (SeqAt.shaped (.str x) = true ∧ SeqAt.shaped (.str y) = true) ∧ Q (.bl (x == y)) s) : OpW (cmpM .eq (.str x) (.str y) s) Q := ⟨fun X => wk_eq ⟨.str x, rfl, .str y, rfl, h.1, by unfold PyData.eqv; exact h.2⟩⟩
theorem OpW.neS {x y : Str} (h : (SeqAt.shaped (.str x) = true ∧ SeqAt.shaped (.str y) = true) ∧ Q (.bl (!(x == y))) s) : OpW (cmpM .ne (.str x) (.str y) s) Q := ⟨fun X => wk_ne ⟨.str x, rfl, .str y, rfl, h.1, by unfold PyData.eqv; exact h.2⟩⟩
theorem OpW.repr {x : AV} {al : Bool} (d : PyData) (h : toPy s.cells DPT x = some d ∧ (d.showable = true ∧ d.hasDict = false ∧ d.shown.length ≤ LIM ∧ d.depth ≤ 64) ∧ Q (.str d.shown) s) : OpW (bltM .repr al [x] s) Q := ⟨fun X => wn_repr ⟨d, h⟩⟩
theorem OpW.rng {j : Int} {Q : Src → AS → Prop} (h0 : 0 ≤ j) (h1 : j < 16777216) (h : Q (.items ((List.range j.toNat).map fun i => AV.int (i : Nat))) s) : OpW (rngM [.int j] s) Q := ⟨fun X => wr_one ⟨⟨h1, by omega⟩, h⟩⟩
theorem OpW.cat {xs ys : List AV} (hz : xs.length + ys.length ≤ 16777216) (h : Q (.lst (xs ++ ys)) s) : OpW (binM .add (.lst xs) (.lst ys) s) Q := ⟨fun X => wb_lst ⟨xs, rfl, ys, rfl, hz, h⟩⟩
theorem OpW.catC {a b : AV} {xs ys : List AV} (e1 : seqOf s.cells a = some (false, xs)) (e2 : seqOf s.cells b = some (false, ys)) (hz : xs.length + ys.length ≤ 16777216) (h : Q (.ref s.cells.length) ⟨s.cells ++ [.lst (xs ++ ys)], s.opn⟩) : OpW (binM .cat a b s) Q := ⟨fun X => by
  have e : binM .cat a b s = .ok (.ref s.cells.length) ⟨s.cells ++ [.lst (xs ++ ys)], s.opn⟩ := by
    cases a <;> cases b <;> first | (simp [seqOf] at e1; done) | (simp [seqOf] at e2; done) | (unfold binM; simp only; rw [e1, e2]; exact if_pos hz)
  rw [e]; exact h⟩
theorem OpW.str {i : Int} {al : Bool} (h1 : i.natAbs < 2 ^ 200) (h : Q (.str (toString i)) s) : OpW (bltM .str al [.int i] s) Q := ⟨fun X => wn_str ⟨by
  by_cases h0 : i.natAbs = 0
  · rw [h0]; decide
  · exact (Nat.log2_lt h0).mpr (Nat.lt_of_lt_of_le h1 (Nat.pow_le_pow_right (by decide) (by decide))), h⟩⟩
theorem strs_map : ∀ {ys : List Str}, strsOf (ys.map AV.str) = some ys
  | [] => rfl
  | y :: r => by rw [List.map_cons, strsOf, strs_map]
theorem OpW.join {a : Str} {ys : List Str} (hz : (ys.map (·.length)).sum + ys.length * a.length ≤ 16777216) (h : Q (.str (Txt.join a ys)) s) : OpW (bmM .join (.str a) [.lst (ys.map AV.str)] s) Q := ⟨fun X => wj_join ⟨_, rfl, ys, strs_map, hz, h⟩⟩
theorem cutL_len {α : Type} {xs : List α} {lo hi : Option Int} : (cutL xs lo hi).length ≤ xs.length := by
  unfold cutL
  simp
  omega
theorem cutL_mem {α : Type} {xs : List α} {lo hi : Option Int} {x : α} (h : x ∈ cutL xs lo hi) : x ∈ xs := List.mem_of_mem_drop (List.mem_of_mem_take h)
end
/-! ### instances, lists that change, sorted sets -/
theorem NewW.call {call : Nat → List AV → Bool → MM AV} {c k : Nat} {zs args : List AV} {perm : List PArg} {s : AS} {Q X : AV → AS → Prop} (e : mapO (argOf (.ref s.cells.length :: zs)) perm = some args)
    (h : CallW call k args true ⟨s.cells ++ [.ins c []], false⟩ (fun v s2 => v = .non ∧ OpW (leaveV s true (.ref s.cells.length) s2) Q) (fun x s2 => XpW (leaveX s true x s2) X)) : NewW call true c k zs perm s Q X := ⟨by
  show Wp (newP call true c k zs perm s) Q X
  unfold newP
  rw [e]
  simp only
  have h := h.run
  revert h
  cases call k args true { cells := s.cells ++ [.ins c []], opn := false } with
  | ok v s2 => exact fun ⟨e, h⟩ => by subst e; exact h.run X
  | exc x s2 => exact fun h => h.run Q
  | stuck => exact fun h => h.elim⟩
/-- .. at the cells that it sees -/
theorem NewW.fr {call : Nat → List AV → Bool → MM AV} {c k : Nat} {zs args : List AV} {perm : List PArg} {own rest : List AO} {o : Bool} {Q X : AV → AS → Prop} (ht : topsO (topV DPT) zs = some own.length) (hc : closedC own.length own = true) (e : mapO (argOf (.ref own.length :: zs)) perm = some args)
    (h : CallW call k args true ⟨own ++ [.ins c []], false⟩ (fun v s2 => v = .non ∧ Lv own (.ref own.length) s2 fun w cs => Q w ⟨cs ++ rest, o⟩) (fun x s2 => Lx own x s2 fun y cs => X y ⟨cs ++ rest, o⟩)) : NewW call false c k zs perm ⟨own ++ rest, o⟩ Q X := ⟨by
  show Wp (frameM (topsO (topV DPT) zs) (newP call false c k zs perm) ⟨own ++ rest, o⟩) Q X
  rw [ht]
  refine wp_frame rfl hc ?_
  unfold newP
  rw [e]
  simp only
  have h := h.run
  revert h
  cases call k args true { cells := own ++ [.ins c []], opn := false } with
  | ok v s2 => exact fun ⟨e, h⟩ => by subst e; exact h.run _
  | exc x s2 => exact fun h => h.run _
  | stuck => exact fun h => h.elim⟩
theorem OpW.eqi {call : Nat → List AV → Bool → MM AV} {neg : Bool} {c k : Nat} {x y : AV} {s : AS} {Q : AV → AS → Prop} (e : bothM c x y s = .ok () s)
    (h : CallW call k [x, y] false s (fun v s2 => ∃ b, v = .bl b ∧ Q (.bl (if neg = true then !b else b)) s2) NoX) : OpW ((MM.bind (bothM c x y) fun _ => MM.bind (nox (call k [x, y] false)) (negM neg)) s) Q := ⟨fun X => by
  refine wp_bind (Wp.of e (wp_bind (wp_nox (h.run.imp fun v s2 ⟨b, e, h⟩ => ?_))))
  subst e
  exact h⟩
theorem OpW.leaveK {s s1 : AS} {v : AV} {Q : AV → AS → Prop} (h : Q v ⟨s1.cells, s.opn || s1.opn⟩) : OpW (leaveV s true v s1) Q := ⟨fun X => wp_leaveK rfl h⟩
theorem OpW.leaveZ {s s1 : AS} {keep : Bool} {v w : AV} {Q : AV → AS → Prop} (hk : keep = false) (ho : s1.opn = false) (hl : s.cells.length < s1.cells.length) (hw : frzV s1.cells s.cells.length DPT v = some w) (h : Q w ⟨s1.cells.take s.cells.length, s.opn⟩) : OpW (leaveV s keep v s1) Q :=
  ⟨fun X => wp_leaveZ ho hw h (fun z => by omega) hk⟩
theorem chk_append {s : AS} {k : Nat} {xs : List AV} (e : s.cells[k]? = some (.lst xs)) : bmChk .append (.ref k) s = .ok () s := by
  unfold bmChk
  simp only
  rw [e]
theorem chk_pop {s : AS} {k : Nat} {xs : List AV} (e : s.cells[k]? = some (.lst xs)) : bmChk .pop (.ref k) s = .ok () s := by
  unfold bmChk
  simp only
  rw [e]
theorem chk_extend {s : AS} {k : Nat} {xs : List AV} (e : s.cells[k]? = some (.lst xs)) : bmChk .extend (.ref k) s = .ok () s := by
  unfold bmChk
  simp only [e]
theorem chk_insert {s : AS} {k : Nat} {xs : List AV} (e : s.cells[k]? = some (.lst xs)) : bmChk .insert (.ref k) s = .ok () s := by
  unfold bmChk
  simp only [e]
theorem OpW.extend {s : AS} {k : Nat} {v : AV} {b : Bool} {xs ys : List AV} {Q : AV → AS → Prop} (e : s.cells[k]? = some (.lst xs)) (hq : seqOf s.cells v = some (b, ys)) (hn : ys.any (newer k 12) = false) (hz : xs.length + ys.length ≤ 16777216) (h : Q .non ⟨s.cells.set k (.lst (xs ++ ys)), s.opn⟩) : OpW (bmM .extend (.ref k) [v] s) Q := ⟨fun X => by
  have e2 : bmM .extend (.ref k) [v] s = .ok .non ⟨s.cells.set k (.lst (xs ++ ys)), s.opn⟩ := by
    unfold bmM
    simp only [e, hq]
    rw [if_pos (show xs.length + ys.length ≤ LIM from hz)]
    simp only [putL, hn, Bool.or_false]
  rw [e2]
  exact h⟩
theorem OpW.insert {s : AS} {k : Nat} {i : Int} {v : AV} {xs : List AV} {Q : AV → AS → Prop} (e : s.cells[k]? = some (.lst xs)) (h0 : 0 ≤ i) (h1 : i < 2 ^ 62) (hn : newer k 12 v = false) (hz : xs.length < 16777216) (h : Q .non ⟨s.cells.set k (.lst (xs.take i.toNat ++ [v] ++ xs.drop i.toNat)), s.opn⟩) : OpW (bmM .insert (.ref k) [.int i, v] s) Q := ⟨fun X => by
  have e2 : bmM .insert (.ref k) [.int i, v] s = .ok .non ⟨s.cells.set k (.lst (xs.take i.toNat ++ [v] ++ xs.drop i.toNat)), s.opn⟩ := by
    unfold bmM
    simp only [e]
    rw [if_pos (show xs.length < LIM ∧ 0 ≤ i ∧ i < 2 ^ 62 from ⟨hz, h0, h1⟩)]
    simp only [putL, List.any_cons, List.any_nil, hn, Bool.or_false]
  rw [e2]
  exact h⟩
theorem OpW.append {s : AS} {k : Nat} {v : AV} {xs : List AV} {Q : AV → AS → Prop} (e : s.cells[k]? = some (.lst xs)) (hn : newer k 12 v = false) (hz : xs.length < 16777216) (h : Q .non ⟨s.cells.set k (.lst (xs ++ [v])), s.opn⟩) : OpW (bmM .append (.ref k) [v] s) Q := ⟨fun X => by
  have e2 : bmM .append (.ref k) [v] s = .ok .non ⟨s.cells.set k (.lst (xs ++ [v])), s.opn⟩ := by
    unfold bmM
    simp only
    rw [e]
    simp only
    rw [if_pos (show xs.length < LIM from hz)]
    unfold putL
    simp only [List.any_cons, List.any_nil, hn, Bool.or_false]
  exact Wp.of e2 h⟩
theorem OpW.pop {s : AS} {k : Nat} {i : Int} {xs : List AV} {Q : AV → AS → Prop} (e : s.cells[k]? = some (.lst xs)) (h0 : 0 ≤ i) (h1 : i < xs.length) (h2 : xs.length < 16777216) (h : ∀ (j : Nat) y, (j : Int) = i → xs[j]? = some y → Q y ⟨s.cells.set k (.lst (xs.eraseIdx j)), s.opn⟩) : OpW (bmM .pop (.ref k) [.int i] s) Q := ⟨fun X => by
  have hj : i.toNat < xs.length := by omega
  have e2 : bmM .pop (.ref k) [.int i] s = .ok xs[i.toNat] ⟨s.cells.set k (.lst (xs.eraseIdx i.toNat)), s.opn⟩ := by
    unfold bmM
    simp only
    rw [e]
    simp only
    rw [if_pos ⟨h0, by omega⟩, List.getElem?_eq_getElem hj]
    unfold putL
    simp
  exact Wp.of e2 (h i.toNat _ (by omega) (List.getElem?_eq_getElem hj))⟩
/-- plain data of a depth -/
def pv : Nat → AV → Bool
  | _, .non => true
  | _, .bl _ => true
  | _, .int _ => true
  | _, .str _ => true
  | n + 1, .tup xs => xs.all (pv n)
  | n + 1, .lst xs => xs.all (pv n)
  | n + 1, .ins _ fs => (fs.map (·.2)).all (pv n)
  | n + 1, .dct kvs => (kvs.map (·.1)).all (pv n) && (kvs.map (·.2)).all (pv n)
  | _, _ => false
theorem pv_up : ∀ {n m : Nat} {v : AV}, pv n v = true → n ≤ m → pv m v = true
  | 0, m, v, h, _ => by cases v <;> first | (cases m <;> rfl) | simp [pv] at h
  | n + 1, m + 1, v, h, hm => by
    have ih := @pv_up n m
    cases v with
    | tup xs =>
      simp only [pv, List.all_eq_true] at h ⊢
      exact fun x hx => ih (h x hx) (by omega)
    | lst xs =>
      simp only [pv, List.all_eq_true] at h ⊢
      exact fun x hx => ih (h x hx) (by omega)
    | ins c fs =>
      simp only [pv, List.all_eq_true] at h ⊢
      exact fun x hx => ih (h x hx) (by omega)
    | dct kvs =>
      simp only [pv, List.all_eq_true, Bool.and_eq_true] at h ⊢
      exact ⟨fun x hx => ih (h.1 x hx) (by omega), fun x hx => ih (h.2 x hx) (by omega)⟩
    | _ => first | rfl | simp [pv] at h
  | _ + 1, 0, _, _, h => by omega
theorem newer_pv {k : Nat} : ∀ {n m : Nat} {v : AV}, pv n v = true → n < m → newer k m v = false
  | 0, m + 1, v, h, _ => by cases v <;> first | rfl | simp [pv] at h
  | n + 1, m + 1, v, h, hm => by
    have ih := @newer_pv k n m
    cases v with
    | tup xs =>
      simp only [pv, List.all_eq_true] at h
      simp only [newer, List.any_eq_false]
      exact fun x hx => by rw [ih (h x hx) (by omega)]; decide
    | lst xs =>
      simp only [pv, List.all_eq_true] at h
      simp only [newer, List.any_eq_false]
      exact fun x hx => by rw [ih (h x hx) (by omega)]; decide
    | ins c fs =>
      simp only [pv, List.all_eq_true] at h
      simp only [newer, List.any_eq_false]
      exact fun x hx => by rw [ih (h x.2 (List.mem_map_of_mem (f := Prod.snd) hx)) (by omega)]; decide
    | dct kvs =>
      simp only [pv, List.all_eq_true, Bool.and_eq_true] at h
      simp only [newer, List.any_eq_false]
      exact fun x hx => by rw [ih (h.1 x.1 (List.mem_map_of_mem (f := Prod.fst) hx)) (by omega), ih (h.2 x.2 (List.mem_map_of_mem (f := Prod.snd) hx)) (by omega)]; decide
    | _ => first | rfl | simp [pv] at h
  | 0, 0, _, _, h => by omega
  | _ + 1, 0, _, _, h => by omega
theorem mapO_id {α : Type} {f : α → Option α} : ∀ {xs : List α}, (∀ x ∈ xs, f x = some x) → mapO f xs = some xs
  | [], _ => rfl
  | x :: xs, h => by
    rw [mapO, h x List.mem_cons_self, mapO_id fun y hy => h y (List.mem_cons_of_mem _ hy)]
theorem zip_map {α β : Type} : ∀ {xs : List (α × β)}, (xs.map (·.1)).zip (xs.map (·.2)) = xs
  | [] => rfl
  | x :: xs => by show _ :: (xs.map (·.1)).zip (xs.map (·.2)) = _; rw [zip_map]
theorem frz_pv {cs : List AO} {k : Nat} : ∀ {n m : Nat} {v : AV}, pv n v = true → n < m → frzV cs k m v = some v
  | 0, m + 1, v, h, _ => by cases v <;> first | rfl | simp [pv] at h
  | n + 1, m + 1, v, h, hm => by
    have ih := @frz_pv cs k n m
    cases v with
    | tup xs =>
      simp only [pv, List.all_eq_true] at h
      simp only [frzV]
      rw [mapO_id fun x hx => ih (h x hx) (by omega)]
    | lst xs =>
      simp only [pv, List.all_eq_true] at h
      simp only [frzV]
      rw [mapO_id fun x hx => ih (h x hx) (by omega)]
    | ins c fs =>
      simp only [pv, List.all_eq_true] at h
      simp only [frzV]
      rw [mapO_id fun x hx => ih (h x hx) (by omega)]
      simp only
      rw [zip_map]
    | dct kvs =>
      simp only [pv, List.all_eq_true, Bool.and_eq_true] at h
      simp only [frzV]
      rw [mapO_id fun x hx => ih (h.2 x hx) (by omega)]
      simp only
      rw [zip_map]
    | _ => first | rfl | simp [pv] at h
  | 0, 0, _, _, h => by omega
  | _ + 1, 0, _, _, h => by omega
theorem topsO_0 {α : Type} {f : α → Option Nat} : ∀ {xs : List α}, (∀ x ∈ xs, f x = some 0) → topsO f xs = some 0
  | [], _ => rfl
  | x :: xs, h => by
    rw [topsO, h x List.mem_cons_self, topsO_0 fun y hy => h y (List.mem_cons_of_mem _ hy)]
    rfl
theorem top_pv : ∀ {n m : Nat} {v : AV}, pv n v = true → n < m → topV m v = some 0
  | 0, m + 1, v, h, _ => by cases v <;> first | rfl | simp [pv] at h
  | n + 1, m + 1, v, h, hm => by
    have ih := @top_pv n m
    cases v with
    | tup xs =>
      simp only [pv, List.all_eq_true] at h
      simp only [topV]
      exact topsO_0 fun x hx => ih (h x hx) (by omega)
    | lst xs =>
      simp only [pv, List.all_eq_true] at h
      simp only [topV]
      exact topsO_0 fun x hx => ih (h x hx) (by omega)
    | ins c fs =>
      simp only [pv, List.all_eq_true] at h
      simp only [topV]
      exact topsO_0 fun x hx => ih (h x hx) (by omega)
    | dct kvs =>
      simp only [pv, List.all_eq_true, Bool.and_eq_true] at h
      simp only [topV]
      rw [topsO_0 fun x hx => ih (h.1 x hx) (by omega), topsO_0 fun x hx => ih (h.2 x hx) (by omega)]
      rfl
    | _ => first | rfl | simp [pv] at h
  | 0, 0, _, _, h => by omega
  | _ + 1, 0, _, _, h => by omega

/-! ### plain data, found by instances; n: how deep -/
class PvD (n : outParam Nat) (v : AV) : Prop where h : pv n v = true
class PvF {α : Type} (n : outParam Nat) (f : α → AV) : Prop where h : ∀ x, pv n (f x) = true
class PvL (n : outParam Nat) (xs : List AV) : Prop where h : xs.all (pv n) = true
instance : PvD 0 .non := ⟨rfl⟩
instance {b : Bool} : PvD 0 (.bl b) := ⟨rfl⟩
instance {i : Int} : PvD 0 (.int i) := ⟨rfl⟩
instance {x : Str} : PvD 0 (.str x) := ⟨rfl⟩
instance {n : Nat} {xs : List AV} [p : PvL n xs] : PvD (n + 1) (.lst xs) := ⟨p.h⟩
instance {n : Nat} {xs : List AV} [p : PvL n xs] : PvD (n + 1) (.tup xs) := ⟨p.h⟩
instance {n c : Nat} {fs : List (Str × AV)} [p : PvL n (fs.map (·.2))] : PvD (n + 1) (.ins c fs) := ⟨p.h⟩
instance {α : Type} {n : Nat} {f : α → AV} {x : α} [p : PvF n f] : PvD n (f x) := ⟨p.h x⟩
instance : PvD 1 (.dct []) := ⟨rfl⟩
instance : PvF 0 AV.int := ⟨fun _ => rfl⟩
instance : PvF 0 AV.str := ⟨fun _ => rfl⟩
instance : PvF 0 AV.bl := ⟨fun _ => rfl⟩
instance : PvL 0 [] := ⟨rfl⟩
theorem all_up {n m : Nat} {xs : List AV} (h : xs.all (pv n) = true) (hm : n ≤ m) : xs.all (pv m) = true := by
  rw [List.all_eq_true] at h ⊢
  exact fun x hx => pv_up (h x hx) hm
instance {n m : Nat} {x : AV} {xs : List AV} [p : PvD n x] [q : PvL m xs] : PvL (max n m) (x :: xs) := ⟨by
  rw [List.all_cons, pv_up p.h (Nat.le_max_left _ _), all_up q.h (Nat.le_max_right _ _)]; rfl⟩
instance {n m : Nat} {xs ys : List AV} [p : PvL n xs] [q : PvL m ys] : PvL (max n m) (xs ++ ys) := ⟨by
  rw [List.all_append, all_up p.h (Nat.le_max_left _ _), all_up q.h (Nat.le_max_right _ _)]; rfl⟩
instance {α : Type} {n : Nat} {f : α → AV} {xs : List α} [p : PvF n f] : PvL n (xs.map f) := ⟨by
  rw [List.all_map, List.all_eq_true]; exact fun x _ => p.h x⟩
instance {n m : Nat} {b : Bool} {x y : AV} [p : PvD n x] [q : PvD m y] : PvD (max n m) (if b = true then x else y) := ⟨by
  cases b
  · exact pv_up q.h (Nat.le_max_right _ _)
  · exact pv_up p.h (Nat.le_max_left _ _)⟩
instance {α : Type} {f : α → Int} : PvF 0 (fun x => AV.int (f x)) := ⟨fun _ => rfl⟩
instance {n : Nat} {xs : List AV} {lo hi : Option Int} [p : PvL n xs] : PvL n (cutL xs lo hi) := ⟨by
  have h := List.all_eq_true.mp p.h
  exact List.all_eq_true.mpr fun x hx => h x (List.mem_of_mem_drop (List.mem_of_mem_take hx))⟩
instance {n : Nat} {xs : List AV} [p : PvL n xs] : PvL n xs.reverse := ⟨by
  rw [List.all_reverse]; exact p.h⟩
/-- fields -/
class PvS (n : outParam Nat) (fs : List (Str × AV)) : Prop where h : (fs.map (·.2)).all (pv n) = true
instance : PvS 0 [] := ⟨rfl⟩
instance {n m : Nat} {f : Str} {x : AV} {fs : List (Str × AV)} [p : PvD n x] [q : PvS m fs] : PvS (max n m) ((f, x) :: fs) := ⟨by
  rw [List.map_cons, List.all_cons, pv_up p.h (Nat.le_max_left _ _), all_up q.h (Nat.le_max_right _ _)]; rfl⟩
instance {n c : Nat} {fs : List (Str × AV)} [p : PvS n fs] : PvD (n + 1) (.ins c fs) := ⟨p.h⟩
theorem PvL.of {α : Type} {n : Nat} {f : α → AV} {xs : List α} (h : ∀ x ∈ xs, pv n (f x) = true) : PvL n (xs.map f) := ⟨by
  rw [List.all_map, List.all_eq_true]; exact h⟩
/-- what a call is given: one above the greatest cell -/
class UpL (n q : outParam Nat) (vs : List AV) : Prop where h : n ≤ 11 → topsO (topV DPT) vs = some q
instance : UpL 0 0 [] := ⟨fun _ => rfl⟩
instance {j n q : Nat} {vs : List AV} [p : UpL n q vs] : UpL n (max (j + 1) q) (.ref j :: vs) := ⟨fun h => by rw [topsO, show topV DPT (.ref j) = some (j + 1) from rfl, p.h h]⟩
instance {m n q : Nat} {v : AV} {vs : List AV} [p : PvD m v] [r : UpL n q vs] : UpL (max m n) q (v :: vs) := ⟨fun h => by
  rw [topsO, top_pv p.h (show m < DPT by unfold DPT; omega), r.h (by omega)]
  show some (max 0 q) = _
  rw [Nat.zero_max]⟩
theorem pvn {n : Nat} {v : AV} [p : PvD n v] (h : n ≤ 11) : pv 11 v = true := pv_up p.h h
theorem newer_d {k n : Nat} {v : AV} [p : PvD n v] (h : n ≤ 11) : newer k 12 v = false := newer_pv p.h (by omega)
/-- what a call leaves: plain data -/
theorem Lv.at {n : Nat} {own : List AO} {v : AV} {s1 : AS} {Q : AV → List AO → Prop} (p : PvD n v) (hn : n ≤ 11) (ho : s1.opn = false) (hl : own.length ≤ s1.cells.length) (h : Q v (s1.cells.take own.length)) : Lv own v s1 Q := ⟨fun X => by
  unfold leaveV
  split
  · rename_i hc
    rcases hc with hc | hc | hc
    · cases hc
    · rw [ho] at hc; cases hc
    · have hc : s1.cells.length ≤ own.length := hc
      refine ⟨⟨by show s1.cells.length = _; omega, by show (false || s1.opn) = false; rw [ho]; rfl⟩, ?_⟩
      rw [List.take_of_length_le hc] at h
      exact h
  · rw [frz_pv p.h (show n < DPT by unfold DPT; omega)]
    exact ⟨⟨by show (s1.cells.take own.length).length = _; rw [List.length_take]; omega, rfl⟩, h⟩⟩
/-- .. made plain -/
theorem Lv.frz {own : List AO} {v w : AV} {s1 : AS} {Q : AV → List AO → Prop} (ho : s1.opn = false) (hl : own.length < s1.cells.length) (hw : frzV s1.cells own.length DPT v = some w) (h : Q w (s1.cells.take own.length)) : Lv own v s1 Q := ⟨fun X => by
  unfold leaveV
  rw [if_neg (by
    rintro (hc | hc | hc)
    · cases hc
    · rw [ho] at hc; cases hc
    · have hc : s1.cells.length ≤ own.length := hc
      omega), show (AS.mk own false).cells.length = own.length from rfl, hw]
  exact ⟨⟨by show (s1.cells.take own.length).length = _; rw [List.length_take]; omega, rfl⟩, h⟩⟩
theorem Lx.at {n c : Nat} {own : List AO} {fs : List (Str × AV)} {s1 : AS} {X : AV → List AO → Prop} (p : PvL n (fs.map (·.2))) (hn : n ≤ 11) (ho : s1.opn = false) (hl : own.length ≤ s1.cells.length) (h : X (.exc c fs) (s1.cells.take own.length)) : Lx own (.exc c fs) s1 X := ⟨fun Q => by
  unfold leaveX
  split
  · rename_i hc
    rcases hc with hc | hc | hc
    · cases hc
    · rw [ho] at hc; cases hc
    · have hc : s1.cells.length ≤ own.length := hc
      refine ⟨⟨by show s1.cells.length = _; omega, by show (false || s1.opn) = false; rw [ho]; rfl⟩, ?_⟩
      rw [List.take_of_length_le hc] at h
      exact h
  · have e : frzX s1.cells (AS.mk own false).cells.length (.exc c fs) = some (.exc c fs) := by
      unfold frzX
      simp only
      rw [mapO_id (f := frzV s1.cells own.length DPT) fun x hx => frz_pv (List.all_eq_true.mp p.h x hx) (show n < DPT by unfold DPT; omega)]
      simp only
      rw [zip_map]
    rw [e]
    exact ⟨⟨by show (s1.cells.take own.length).length = _; rw [List.length_take]; omega, rfl⟩, h⟩⟩
/-- calls at no cell, at the first one -/
theorem CallW.fr0 {P : List FnD} {d k n : Nat} {f : FnD} {args : List AV} {s : AS} {Q X : AV → AS → Prop} [u : UpL n 0 args] (hf : P[k]? = some f) (hl : args.length = f.nps) (hh : f.hd = false) (hn : n ≤ 11)
    (h : wB (wS (callF P d) FU (fun x _ s1 => Lx [] x s1 fun y cs => X y ⟨cs ++ s.cells, s.opn⟩)) f.body (f.env0 args) ⟨[], false⟩ (fun _ s1 => Lv [] .non s1 fun w cs => Q w ⟨cs ++ s.cells, s.opn⟩) fun v s1 => Lv [] v s1 fun w cs => Q w ⟨cs ++ s.cells, s.opn⟩) :
    CallW (callF P (d + 1)) k args false s Q X := CallW.fr (own := []) (rest := s.cells) (o := s.opn) hf hl hh (u.h hn) rfl h
theorem CallW.fr1 {P : List FnD} {d k n : Nat} {f : FnD} {args : List AV} {c0 : AO} {rest : List AO} {o : Bool} {Q X : AV → AS → Prop} [u : UpL n 1 args] (hf : P[k]? = some f) (hl : args.length = f.nps) (hh : f.hd = false) (hn : n ≤ 11) (hc : closedC 1 [c0] = true)
    (h : wB (wS (callF P d) FU (fun x _ s1 => Lx [c0] x s1 fun y cs => X y ⟨cs ++ rest, o⟩)) f.body (f.env0 args) ⟨[c0], false⟩ (fun _ s1 => Lv [c0] .non s1 fun w cs => Q w ⟨cs ++ rest, o⟩) fun v s1 => Lv [c0] v s1 fun w cs => Q w ⟨cs ++ rest, o⟩) :
    CallW (callF P (d + 1)) k args false ⟨c0 :: rest, o⟩ Q X := CallW.fr (own := [c0]) (rest := rest) (o := o) hf hl hh (u.h hn) hc h
theorem NewW.fr0 {call : Nat → List AV → Bool → MM AV} {c k n : Nat} {zs args : List AV} {perm : List PArg} {s : AS} {Q X : AV → AS → Prop} [u : UpL n 0 zs] (hn : n ≤ 11) (e : mapO (argOf (.ref 0 :: zs)) perm = some args)
    (h : CallW call k args true ⟨[.ins c []], false⟩ (fun v s2 => v = .non ∧ Lv [] (.ref 0) s2 fun w cs => Q w ⟨cs ++ s.cells, s.opn⟩) (fun x s2 => Lx [] x s2 fun y cs => X y ⟨cs ++ s.cells, s.opn⟩)) : NewW call false c k zs perm s Q X :=
  NewW.fr (own := []) (rest := s.cells) (o := s.opn) (u.h hn) rfl e h
end Ev

set_option linter.all false
set_option maxRecDepth 100000
set_option maxHeartbeats 1000000
/-! EvZ: values of Lean types as data of the evaluator; lists of pairs sorted. Own work. -/
namespace Ev
open PySem PySem.W

/-- values of a Lean type -/
class AD (α : Type) [DecidableEq α] extends Datum α where
  toA : α → AV
  dp : Nat
  ok : ∀ a, pv dp (toA a) = true
  py : ∀ cs m a, dp < m → toPy cs m (toA a) = some (toD a)
  cl : ∀ a, (toD a).canLay0 = true
  small : depth ≤ 20
  shal : dp ≤ 10
open AD (toA)
theorem mapO_map {α β : Type} {f : β → Option γ} {g : α → β} {h : α → γ} : ∀ {xs : List α}, (∀ x, f (g x) = some (h x)) → mapO f (xs.map g) = some (xs.map h)
  | [], _ => rfl
  | x :: xs, e => by rw [List.map_cons, mapO, e x, mapO_map e]; rfl
section
variable {α β : Type} [DecidableEq α] [AD α] [DecidableEq β] [AD β]
theorem canLay_map : ∀ xs : List α, PyData.canLayAll0 (xs.map Datum.toD) = true
  | [] => rfl
  | x :: xs => by
    rw [List.map_cons]
    unfold PyData.canLayAll0
    rw [AD.cl x, canLay_map xs]; rfl
theorem shaped_D (a : α) : SeqAt.shaped (Datum.toD a) = true := by
  unfold SeqAt.shaped
  rw [AD.cl a, Bool.true_and]
  have h1 := Datum.depth_le a
  have h2 := AD.small (α := α)
  exact decide_eq_true (by omega)
theorem shaped_L (xs : List α) : SeqAt.shaped (.list (xs.map Datum.toD)) = true := by
  unfold SeqAt.shaped PyData.canLay0 PyData.depth
  rw [canLay_map, Bool.true_and]
  have h1 := depthAll_map xs
  have h2 := AD.small (α := α)
  exact decide_eq_true (by omega)
theorem shaped_T (xs : List α) : SeqAt.shaped (.tuple (xs.map Datum.toD)) = true := by
  unfold SeqAt.shaped PyData.canLay0 PyData.depth
  rw [canLay_map, Bool.true_and]
  have h1 := depthAll_map xs
  have h2 := AD.small (α := α)
  exact decide_eq_true (by omega)
theorem py_L {cs : List AO} {m : Nat} (xs : List α) (h : AD.dp α + 1 < m) : toPy cs m (.lst (xs.map toA)) = some (.list (xs.map Datum.toD)) := by
  obtain ⟨k, rfl⟩ : ∃ k, m = k + 1 := ⟨m - 1, by omega⟩
  simp only [toPy]
  rw [mapO_map (h := Datum.toD) fun x => AD.py cs k x (by omega)]
theorem py_T {cs : List AO} {m : Nat} (xs : List α) (h : AD.dp α + 1 < m) : toPy cs m (.tup (xs.map toA)) = some (.tuple (xs.map Datum.toD)) := by
  obtain ⟨k, rfl⟩ : ∃ k, m = k + 1 := ⟨m - 1, by omega⟩
  simp only [toPy]
  rw [mapO_map (h := Datum.toD) fun x => AD.py cs k x (by omega)]
theorem pv_L (xs : List α) : pv (AD.dp α + 1) (.lst (xs.map toA)) = true := by
  simp only [pv, List.all_eq_true]
  intro x hx
  obtain ⟨y, _, rfl⟩ := List.mem_map.mp hx
  exact AD.ok y
theorem pv_T (xs : List α) : pv (AD.dp α + 1) (.tup (xs.map toA)) = true := by
  simp only [pv, List.all_eq_true]
  intro x hx
  obtain ⟨y, _, rfl⟩ := List.mem_map.mp hx
  exact AD.ok y
end
instance : AD Int := { toA := .int, dp := 0, ok := fun _ => rfl, py := fun cs m a h => by obtain ⟨k, rfl⟩ : ∃ k, m = k + 1 := ⟨m - 1, by omega⟩; rfl, cl := fun _ => by simp [Datum.toD, PyData.canLay0], small := by decide, shal := by decide }
instance : AD Bool := { toA := .bl, dp := 0, ok := fun _ => rfl, py := fun cs m a h => by obtain ⟨k, rfl⟩ : ∃ k, m = k + 1 := ⟨m - 1, by omega⟩; rfl, cl := fun _ => by simp [Datum.toD, PyData.canLay0], small := by decide, shal := by decide }
/-- a pair of ints -/
def tp2 (p : Int × Int) : AV := .tup [.int p.1, .int p.2]
instance : AD (Int × Int) := { toA := tp2, dp := 1, ok := fun _ => rfl, py := fun cs m a h => by obtain ⟨k, rfl⟩ : ∃ k, m = k + 2 := ⟨m - 2, by omega⟩; rfl, cl := fun p => by simp [Datum.toD, PyData.canLay0, PyData.canLayAll0], small := by decide, shal := by decide }
def op2 : Option (Int × Int) → AV
  | none => .non
  | some p => tp2 p
instance datOpt : Datum (Option (Int × Int)) := {
  toD := fun o => match o with | none => .none | some p => Datum.toD p
  plain := fun o => by cases o with
    | none => rfl
    | some p => exact Datum.plain p
  eqv := fun a b => by
    cases a with
    | none => cases b with
      | none => simp only [PyData.eqv]; rfl
      | some q => exact (by simp [Datum.toD, PyData.eqv])
    | some p => cases b with
      | none => exact (by simp [Datum.toD, PyData.eqv])
      | some q =>
        show PyData.eqv (Datum.toD p) (Datum.toD q) = _
        rw [Datum.eqv p q]
        exact decide_eq_decide.mpr ⟨fun e => by rw [e], fun e => by cases e; rfl⟩
  depth := Datum.depth (Int × Int)
  depth_le := fun o => by cases o with
    | none => exact Nat.zero_le _
    | some p => exact Datum.depth_le p }
instance : AD (Option (Int × Int)) := { datOpt with
  toA := op2, dp := 1
  ok := fun o => by cases o <;> rfl
  py := fun cs m a h => by obtain ⟨k, rfl⟩ : ∃ k, m = k + 2 := ⟨m - 2, by omega⟩; cases a <;> rfl
  cl := fun o => by cases o <;> simp [Datum.toD, PyData.canLay0, PyData.canLayAll0]
  small := by decide, shal := by decide }
section
variable {α : Type} [DecidableEq α] [AD α] {s : AS} {Q : AV → AS → Prop}
theorem OpW.eqA {x y : α} (h : Q (.bl (decide (x = y))) s) : OpW (cmpM .eq (toA x) (toA y) s) Q := ⟨fun X => by
  have hs := AD.shal (α := α)
  refine wk_eq ⟨_, AD.py _ _ x (by unfold DPT; omega), _, AD.py _ _ y (by unfold DPT; omega), ⟨shaped_D x, shaped_D y⟩, ?_⟩
  rw [Datum.eqv]; exact h⟩
theorem OpW.neA {x y : α} (h : Q (.bl (!decide (x = y))) s) : OpW (cmpM .ne (toA x) (toA y) s) Q := ⟨fun X => by
  have hs := AD.shal (α := α)
  refine wk_ne ⟨_, AD.py _ _ x (by unfold DPT; omega), _, AD.py _ _ y (by unfold DPT; omega), ⟨shaped_D x, shaped_D y⟩, ?_⟩
  rw [Datum.eqv]; exact h⟩
theorem OpW.eqL {xs ys : List α} (h : Q (.bl (decide (xs = ys))) s) : OpW (cmpM .eq (.lst (xs.map toA)) (.lst (ys.map toA)) s) Q := ⟨fun X => by
  have hs := AD.shal (α := α)
  refine wk_eq ⟨_, py_L xs (by unfold DPT; omega), _, py_L ys (by unfold DPT; omega), ⟨shaped_L xs, shaped_L ys⟩, ?_⟩
  unfold PyData.eqv
  rw [eqvAll_map]; exact h⟩
theorem OpW.neL {xs ys : List α} (h : Q (.bl (!decide (xs = ys))) s) : OpW (cmpM .ne (.lst (xs.map toA)) (.lst (ys.map toA)) s) Q := ⟨fun X => by
  have hs := AD.shal (α := α)
  refine wk_ne ⟨_, py_L xs (by unfold DPT; omega), _, py_L ys (by unfold DPT; omega), ⟨shaped_L xs, shaped_L ys⟩, ?_⟩
  unfold PyData.eqv
  rw [eqvAll_map]; exact h⟩
theorem OpW.eqTs {xs ys : List α} (h : Q (.bl (decide (xs = ys))) s) : OpW (cmpM .eq (.tup (xs.map toA)) (.tup (ys.map toA)) s) Q := ⟨fun X => by
  have hs := AD.shal (α := α)
  refine wk_eq ⟨_, py_T xs (by unfold DPT; omega), _, py_T ys (by unfold DPT; omega), ⟨shaped_T xs, shaped_T ys⟩, ?_⟩
  unfold PyData.eqv
  rw [eqvAll_map]; exact h⟩
theorem inM_of {neg : Bool} {x y : AV} {d : PyData} {ds : List PyData} {e : PyData} {b : Bool} (h1 : toPy s.cells DPT x = some d) (h2 : toPy s.cells DPT y = some e) (h3 : seqPy e = some ds) (h4 : SeqAt.shaped d = true ∧ SeqAt.shaped e = true) (h5 : (ds.any fun z => PyData.eqv z d) = b) (h : Q (.bl (if neg = true then !b else b)) s) : OpW (inM neg x y s) Q := ⟨fun X => by
  unfold inM
  rw [h1, h2]
  simp only
  rw [h3]
  simp only
  rw [if_pos h4, h5]
  exact h⟩
theorem OpW.innL {x : α} {xs : List α} {inst : Decidable (x ∈ xs)} (h : Q (.bl (@decide (x ∈ xs) inst)) s) : OpW (cmpM .inn (toA x) (.lst (xs.map toA)) s) Q := by
  have hs := AD.shal (α := α)
  exact inM_of (neg := false) (AD.py _ _ x (by unfold DPT; omega)) (py_L xs (by unfold DPT; omega)) rfl ⟨shaped_D x, shaped_L xs⟩ ((any_datum xs x).trans (decide_eq_decide.mpr Iff.rfl)) h
theorem OpW.innT {x : α} {xs : List α} {inst : Decidable (x ∈ xs)} (h : Q (.bl (@decide (x ∈ xs) inst)) s) : OpW (cmpM .inn (toA x) (.tup (xs.map toA)) s) Q := by
  have hs := AD.shal (α := α)
  exact inM_of (neg := false) (AD.py _ _ x (by unfold DPT; omega)) (py_T xs (by unfold DPT; omega)) rfl ⟨shaped_D x, shaped_T xs⟩ ((any_datum xs x).trans (decide_eq_decide.mpr Iff.rfl)) h
theorem OpW.ninL {x : α} {xs : List α} {inst : Decidable (x ∈ xs)} (h : Q (.bl (!@decide (x ∈ xs) inst)) s) : OpW (cmpM .nin (toA x) (.lst (xs.map toA)) s) Q := by
  have hs := AD.shal (α := α)
  exact inM_of (neg := true) (AD.py _ _ x (by unfold DPT; omega)) (py_L xs (by unfold DPT; omega)) rfl ⟨shaped_D x, shaped_L xs⟩ ((any_datum xs x).trans (decide_eq_decide.mpr Iff.rfl)) h
/-- .. in a list that changes -/
theorem OpW.ninR {x : α} {xs : List α} {inst : Decidable (x ∈ xs)} {k : Nat} (hk : s.cells[k]? = some (.lst (xs.map toA))) (h : Q (.bl (!@decide (x ∈ xs) inst)) s) : OpW (cmpM .nin (toA x) (.ref k) s) Q := by
  have hs := AD.shal (α := α)
  refine inM_of (neg := true) (AD.py _ _ x (by unfold DPT; omega)) (e := .list (xs.map Datum.toD)) ?_ rfl ⟨shaped_D x, shaped_L xs⟩ ((any_datum xs x).trans (decide_eq_decide.mpr Iff.rfl)) h
  show (match s.cells[k]? with | some (.lst xs) => _ | some (.frz v) => _ | _ => _) = _
  rw [hk]
  simp only
  rw [mapO_map (h := Datum.toD) fun x => AD.py s.cells 11 x (by omega)]
end

/-! ### how long a repr is -/
mutual
def szD : PyData → Nat
  | .none => 4
  | .bool _ => 5
  | .int _ => 7
  | .str x => (reprText x).length
  | .list xs => 3 + szAll xs
  | .tuple xs => 3 + szAll xs
  | .dict _ => 0
def szAll : List PyData → Nat
  | [] => 0
  | x :: xs => szD x + 2 + szAll xs
end
mutual
def okD : PyData → Bool
  | .none => true
  | .bool _ => true
  | .int i => decide (i.natAbs < 1000000)
  | .str x => PyData.strOk (reprText x)
  | .list xs => okAll xs
  | .tuple xs => okAll xs
  | .dict _ => false
def okAll : List PyData → Bool
  | [] => true
  | x :: xs => okD x && okAll xs
end
theorem strLen (a b : Str) : (a ++ b).length = a.length + b.length := by
  show (a.cps ++ b.cps).size = a.cps.size + b.cps.size
  simp
theorem textFrom_le : ∀ (ts : List Str) (k : Nat) (acc : Str), (textFrom k acc ts).length ≤ acc.length + piled ts
  | [], k, acc => by unfold textFrom; omega
  | t :: ts, k, acc => by
    unfold textFrom
    have h := textFrom_le ts (k + 1) (acc ++ (if k > 0 then ", " else "" : String) ++ t)
    rw [strLen, strLen] at h
    rw [piled_cons]
    have : (Str.ofString (if k > 0 then ", " else "" : String)).length ≤ 2 := by
      split <;> decide +kernel
    omega
theorem listText_le (ts : List Str) : (listText ts).length ≤ 2 + piled ts := by
  unfold listText
  rw [strLen]
  have h := textFrom_le ts 0 "["
  have h1 : (Str.ofString "[").length = 1 := by decide +kernel
  have h2 : (Str.ofString "]").length = 1 := by decide +kernel
  omega
theorem tupleText_le (ts : List Str) : (tupleText ts).length ≤ 3 + piled ts := by
  unfold tupleText
  rw [strLen, strLen]
  have h1 : (Str.ofString "(").length = 1 := by decide +kernel
  have h2 : (Str.ofString (if ts.length == 1 then ",)" else ")" : String)).length ≤ 2 := by split <;> decide +kernel
  have h3 : (Str.join ", " ts).length ≤ piled ts := by
    by_cases h : ts = []
    · subst h
      exact Nat.le_of_eq (by decide +kernel)
    · have := join_length_add ts h
      omega
  omega
theorem log2_small {i : Int} (h : i.natAbs < 1000000) : i.natAbs.log2 < 20 := by
  by_cases h0 : i.natAbs = 0
  · rw [h0]; decide
  · exact (Nat.log2_lt h0).mpr (Nat.lt_of_lt_of_le h (by decide))
theorem str_le {i : Int} (h : i.natAbs < 1000000) : (Str.ofString (toString i)).length ≤ 7 := by
  have := int_text_length_le10 (a := i) (k := 6) (by decide) (by omega)
  rw [ofString_length]
  exact this
mutual
theorem shown_le : ∀ d : PyData, okD d = true → d.shown.length ≤ szD d ∧ d.showable = true ∧ d.hasDict = false
  | .none, _ => by
    refine ⟨?_, by unfold PyData.showable; rfl, by unfold PyData.hasDict; rfl⟩
    unfold PyData.shown szD
    exact Nat.le_of_eq (by decide +kernel)
  | .bool b, _ => by
    refine ⟨?_, by unfold PyData.showable; rfl, by unfold PyData.hasDict; rfl⟩
    unfold PyData.shown szD
    cases b <;> exact Nat.le_of_ble_eq_true (by decide +kernel)
  | .int i, h => by
    have hi : i.natAbs < 1000000 := by unfold okD at h; exact of_decide_eq_true h
    refine ⟨?_, ?_, by unfold PyData.hasDict; rfl⟩
    · unfold PyData.shown szD
      exact str_le hi
    · unfold PyData.showable
      exact decide_eq_true (Nat.lt_of_lt_of_le (log2_small hi) (by decide))
  | .str x, _ => by
    refine ⟨?_, by unfold PyData.showable; rfl, by unfold PyData.hasDict; rfl⟩
    unfold PyData.shown szD
    exact Nat.le_refl _
  | .list xs, h => by
    unfold okD at h
    obtain ⟨h1, h2, h3⟩ := shownAll_le xs h
    refine ⟨?_, by unfold PyData.showable; exact h2, by unfold PyData.hasDict; exact h3⟩
    unfold PyData.shown szD
    have := listText_le (PyData.shownAll xs)
    omega
  | .tuple xs, h => by
    unfold okD at h
    obtain ⟨h1, h2, h3⟩ := shownAll_le xs h
    refine ⟨?_, by unfold PyData.showable; exact h2, by unfold PyData.hasDict; exact h3⟩
    unfold PyData.shown szD
    have := tupleText_le (PyData.shownAll xs)
    omega
  | .dict _, h => by unfold okD at h; cases h
theorem shownAll_le : ∀ xs : List PyData, okAll xs = true → piled (PyData.shownAll xs) ≤ szAll xs ∧ PyData.showableAll xs = true ∧ PyData.hasDictAll xs = false
  | [], _ => ⟨by unfold PyData.shownAll szAll; rw [piled_nil]; exact Nat.le_refl _, by unfold PyData.showableAll; rfl, by unfold PyData.hasDictAll; rfl⟩
  | x :: xs, h => by
    unfold okAll at h
    rw [Bool.and_eq_true] at h
    obtain ⟨h1, h2, h3⟩ := shown_le x h.1
    obtain ⟨g1, g2, g3⟩ := shownAll_le xs h.2
    refine ⟨?_, by unfold PyData.showableAll; rw [h2, g2]; rfl, by unfold PyData.hasDictAll; rw [h3, g3]; rfl⟩
    unfold PyData.shownAll szAll
    rw [piled_cons]
    omega
end
theorem OpW.reprD {x : AV} {al : Bool} {s : AS} {Q : AV → AS → Prop} (d : PyData) (h1 : toPy s.cells DPT x = some d) (h2 : okD d = true) (h3 : szD d ≤ 16777216) (h4 : d.depth ≤ 64) (h : Q (.str d.shown) s) : OpW (bltM .repr al [x] s) Q := by
  obtain ⟨g1, g2, g3⟩ := shown_le d h2
  exact OpW.repr d ⟨h1, ⟨g2, g3, Nat.le_trans g1 h3, h4⟩, h⟩
theorem ok_app {a b : Str} (h1 : PyData.strOk a = true) (h2 : PyData.strOk b = true) : PyData.strOk (a ++ b) = true := by
  show (a.cps ++ b.cps).all _ = true
  unfold PyData.strOk at h1 h2
  rw [Array.all_append, h1, h2]; rfl
theorem ok_ofString (x : String) : PyData.strOk (Str.ofString x) = true := by
  rw [Str.ofString_eq_toList]
  unfold PyData.strOk
  rw [List.all_toArray, List.all_eq_true]
  intro n hn
  obtain ⟨c, _, rfl⟩ := List.mem_map.mp hn
  have h := c.valid
  refine decide_eq_true ?_
  rcases h with h | h
  · exact Nat.lt_trans h (by decide)
  · exact h.2
theorem ok_from : ∀ (ts : List Str) (k : Nat) (acc : Str), PyData.strOk acc = true → (∀ t ∈ ts, PyData.strOk t = true) → PyData.strOk (textFrom k acc ts) = true
  | [], k, acc, h, _ => by unfold textFrom; exact h
  | t :: ts, k, acc, h, ht => by
    unfold textFrom
    exact ok_from ts _ _ (ok_app (ok_app h (ok_ofString _)) (ht t List.mem_cons_self)) fun u hu => ht u (List.mem_cons_of_mem _ hu)
theorem ok_join : ∀ (ts : List Str), (∀ t ∈ ts, PyData.strOk t = true) → PyData.strOk (Str.join ", " ts) = true
  | [], _ => by decide +kernel
  | [x], h => h x List.mem_cons_self
  | x :: y :: r, h => by
    unfold Str.join
    exact ok_app (ok_app (h x List.mem_cons_self) (ok_ofString _)) (ok_join (y :: r) fun u hu => h u (List.mem_cons_of_mem _ hu))
mutual
theorem shown_ok : ∀ d : PyData, okD d = true → PyData.strOk d.shown = true
  | .none, _ => by unfold PyData.shown; exact ok_ofString _
  | .bool b, _ => by unfold PyData.shown; cases b <;> exact ok_ofString _
  | .int i, h => by unfold PyData.shown; exact ok_ofString _
  | .str x, h => by unfold okD at h; unfold PyData.shown; exact h
  | .list xs, h => by
    unfold okD at h
    unfold PyData.shown
    exact ok_app (ok_from _ _ _ (ok_ofString _) (shownAll_ok xs h)) (ok_ofString _)
  | .tuple xs, h => by
    unfold okD at h
    unfold PyData.shown
    exact ok_app (ok_app (ok_ofString _) (ok_join _ (shownAll_ok xs h))) (ok_ofString _)
  | .dict _, h => by unfold okD at h; cases h
theorem shownAll_ok : ∀ xs : List PyData, okAll xs = true → ∀ t ∈ PyData.shownAll xs, PyData.strOk t = true
  | [], _, t, ht => by unfold PyData.shownAll at ht; cases ht
  | x :: xs, h, t, ht => by
    unfold okAll at h
    rw [Bool.and_eq_true] at h
    unfold PyData.shownAll at ht
    rcases List.mem_cons.mp ht with e | e
    · subst e; exact shown_ok x h.1
    · exact shownAll_ok xs h.2 t e
end
theorem shaped_shown {d : PyData} (h : okD d = true) : SeqAt.shaped (.str d.shown) = true := by
  unfold SeqAt.shaped PyData.canLay0 PyData.depth
  rw [shown_ok d h]; rfl
/-- two reprs of one thing -/
theorem OpW.neRepr {d : PyData} {s : AS} {Q : AV → AS → Prop} (hd : okD d = true) (h : Q (.bl false) s) : OpW (cmpM .ne (.str d.shown) (.str d.shown) s) Q :=
  OpW.neS ⟨⟨shaped_shown hd, shaped_shown hd⟩, by rw [beq_self_eq_true]; exact h⟩
theorem OpW.eqRepr {d : PyData} {s : AS} {Q : AV → AS → Prop} (hd : okD d = true) (h : Q (.bl true) s) : OpW (cmpM .eq (.str d.shown) (.str d.shown) s) Q :=
  OpW.eqS ⟨⟨shaped_shown hd, shaped_shown hd⟩, by rw [beq_self_eq_true]; exact h⟩

/-! ### lists of pairs, sorted -/
def pr (p : Int × Int) : List Int := [p.1, p.2]
def rp : List Int → Int × Int
  | [a, b] => (a, b)
  | _ => (0, 0)
theorem rp_pr (p : Int × Int) : rp (pr p) = p := rfl
theorem of_pr (p : Int × Int) : ofTup (pr p) = tp2 p := rfl
theorem back_pr {l : List (List Int)} (h : ∀ t ∈ l, ∃ p, t = pr p) : (l.map rp).map pr = l := by
  induction l with
  | nil => rfl
  | cons t l ih =>
    obtain ⟨p, rfl⟩ := h t List.mem_cons_self
    rw [List.map_cons, List.map_cons, ih fun u hu => h u (List.mem_cons_of_mem _ hu), rp_pr]
def LeP (p q : Int × Int) : Prop := lexB (pr p) (pr q) = true
def sortP (xs : List (Int × Int)) : List (Int × Int) := (sortT (xs.map pr)).map rp
def setP (xs : List (Int × Int)) : List (Int × Int) := (setT (xs.map pr)).map rp
theorem sortP_pr (xs : List (Int × Int)) : (sortP xs).map pr = sortT (xs.map pr) := back_pr fun t ht => by
  obtain ⟨p, _, e⟩ := List.mem_map.mp ((sortT_perm _).mem_iff.mp ht)
  exact ⟨p, e.symm⟩
theorem setP_pr (xs : List (Int × Int)) : (setP xs).map pr = setT (xs.map pr) := back_pr fun t ht => by
  obtain ⟨p, _, e⟩ := List.mem_map.mp (mem_setT.mp ht)
  exact ⟨p, e.symm⟩
theorem map_rp (xs : List (Int × Int)) : (xs.map pr).map rp = xs := by
  rw [List.map_map]
  exact List.map_id xs
theorem sortP_perm (xs : List (Int × Int)) : (sortP xs).Perm xs := by
  have := (sortT_perm (xs.map pr)).map rp
  rw [map_rp] at this
  exact this
theorem pr_inj {p q : Int × Int} (h : pr p = pr q) : p = q := by
  have := congrArg rp h
  exact this
theorem mem_setP {xs : List (Int × Int)} {p : Int × Int} : p ∈ setP xs ↔ p ∈ xs := by
  constructor
  · intro h
    have h1 : pr p ∈ (setP xs).map pr := List.mem_map.mpr ⟨p, h, rfl⟩
    rw [setP_pr, mem_setT] at h1
    obtain ⟨q, hq, e⟩ := List.mem_map.mp h1
    rw [← pr_inj e]; exact hq
  · intro h
    have h1 : pr p ∈ setT (xs.map pr) := mem_setT.mpr (List.mem_map.mpr ⟨p, h, rfl⟩)
    rw [← setP_pr] at h1
    obtain ⟨q, hq, e⟩ := List.mem_map.mp h1
    rw [← pr_inj e]; exact hq
theorem setP_pw (xs : List (Int × Int)) : (setP xs).Pairwise LeP := by
  have h := setT_pw (xs.map pr)
  rw [← setP_pr] at h
  exact (List.pairwise_map.mp h).imp fun h => h.1
theorem setP_nodup (xs : List (Int × Int)) : (setP xs).Nodup := by
  have h := setT_nodup (xs.map pr)
  rw [← setP_pr] at h
  exact (List.pairwise_map.mp h).imp fun h e => h (by rw [e])
theorem sortP_of {xs ys : List (Int × Int)} (p : ys.Perm xs) (h : ys.Pairwise LeP) : sortP xs = ys := by
  have h1 := sortT_uniq (p.map pr) (List.pairwise_map.mpr h)
  unfold sortP
  rw [← h1, map_rp]
theorem setP_of {xs ys : List (Int × Int)} (hn : ys.Nodup) (hm : ∀ z, z ∈ ys ↔ z ∈ xs) (h : ys.Pairwise LeP) : setP xs = ys := by
  have hn' : (ys.map pr).Nodup := List.pairwise_map.mpr (hn.imp fun h e => h (pr_inj e))
  have h1 := setT_uniq (xs := xs.map pr) hn' (fun z => by
    constructor
    · intro hz
      obtain ⟨p, hp, rfl⟩ := List.mem_map.mp hz
      exact List.mem_map.mpr ⟨p, (hm p).mp hp, rfl⟩
    · intro hz
      obtain ⟨p, hp, rfl⟩ := List.mem_map.mp hz
      exact List.mem_map.mpr ⟨p, (hm p).mpr hp, rfl⟩) (List.pairwise_map.mpr h)
  unfold setP
  rw [← h1, map_rp]
theorem ints_none {xs : List (Int × Int)} (h : xs ≠ []) : intsOf (xs.map tp2) = none := by
  cases xs with
  | nil => exact absurd rfl h
  | cons x xs => rfl
theorem ints_of : ∀ ns : List Int, intsOf (ns.map AV.int) = some ns := fun ns => by
  have := mapO_map (f := fun v => match v with | AV.int i => some i | _ => none) (g := AV.int) (h := id) (xs := ns) fun x => rfl
  rw [List.map_id] at this
  exact this
theorem tups_of (xs : List (Int × Int)) : tupsOf (xs.map tp2) = some (xs.map pr) := mapO_map fun x => rfl
theorem ok_pr {xs : List (Int × Int)} (h : ∀ p ∈ xs, 0 ≤ p.1 ∧ 0 ≤ p.2) : tupsOk (xs.map pr) = true := by
  cases xs with
  | nil => rfl
  | cons x xs =>
    show (decide (1 ≤ (pr x).length) && ((x :: xs).map pr).all fun u => u.length == (pr x).length && u.all fun i => decide (0 ≤ i)) = true
    rw [Bool.and_eq_true]
    refine ⟨rfl, List.all_eq_true.mpr fun u hu => ?_⟩
    obtain ⟨p, hp, rfl⟩ := List.mem_map.mp hu
    obtain ⟨h1, h2⟩ := h p hp
    show (true && (decide (0 ≤ p.1) && (decide (0 ≤ p.2) && true))) = true
    rw [decide_eq_true h1, decide_eq_true h2]; rfl
section
variable {s : AS} {Q : AV → AS → Prop}
theorem map_tp {l : List (List Int)} {ys : List (Int × Int)} (h : ys.map pr = l) : l.map ofTup = ys.map tp2 := by
  subst h
  rw [List.map_map]; rfl
theorem OpW.sortedP {v : AV} {xs : List (Int × Int)} (hs : seqOf s.cells v = some (false, xs.map tp2)) (h0 : ∀ p ∈ xs, 0 ≤ p.1 ∧ 0 ≤ p.2) (hl : xs.length < 64) (h : Q (.lst ((sortP xs).map tp2)) s) : OpW (bltM .sorted false [v] s) Q := ⟨fun X => by
  have e : bltM .sorted false [v] s = .ok (.lst ((sortP xs).map tp2)) s := by
    unfold bltM
    simp only
    rw [hs]
    by_cases hx : xs = []
    · subst hx; rfl
    · simp only
      rw [ints_none hx, tups_of]
      simp only
      rw [if_pos ⟨ok_pr h0, by simpa using hl⟩, map_tp (sortP_pr xs)]
      rfl
  rw [e]; exact h⟩
theorem OpW.sortedI {v : AV} {b : Bool} {ns : List Int} (hs : seqOf s.cells v = some (b, ns.map AV.int)) (h : Q (.lst ((sortI ns).map AV.int)) s) : OpW (bltM .sorted false [v] s) Q := ⟨fun X => by
  have e : bltM .sorted false [v] s = .ok (.lst ((sortI ns).map AV.int)) s := by
    unfold bltM
    simp only
    rw [hs]
    cases b <;> (simp only; rw [ints_of]; rfl)
  rw [e]; exact h⟩
theorem OpW.sortset {v : AV} {xs : List (Int × Int)} (hs : seqOf s.cells v = some (false, xs.map tp2)) (h0 : ∀ p ∈ xs, 0 ≤ p.1 ∧ 0 ≤ p.2) (hl : xs.length < 64) (h : Q (.lst ((setP xs).map tp2)) s) : OpW (blcM .sortset v s) Q := ⟨fun X => by
  have e : blcM .sortset v s = .ok (.lst ((setP xs).map tp2)) s := by
    unfold blcM
    simp only
    rw [hs]
    simp only
    rw [tups_of]
    simp only
    rw [if_pos ⟨ok_pr h0, by simpa using hl⟩, map_tp (setP_pr xs)]
  rw [e]; exact h⟩
theorem ddup_map {α β : Type} [DecidableEq α] [DecidableEq β] {f : α → β} (hf : ∀ x y, f x = f y → x = y) : ∀ {xs : List α}, ddup (xs.map f) = (ddup xs).map f
  | [] => rfl
  | x :: xs => by
    rw [List.map_cons]
    unfold ddup
    rw [ddup_map hf]
    have e : f x ∈ (ddup xs).map f ↔ x ∈ ddup xs := ⟨fun h => by
      obtain ⟨y, hy, e⟩ := List.mem_map.mp h
      rw [← hf _ _ e]; exact hy, fun h => List.mem_map_of_mem h⟩
    by_cases h : x ∈ ddup xs
    · rw [if_pos h, if_pos (e.mpr h)]
    · rw [if_neg h, if_neg (fun z => h (e.mp z)), List.map_cons]
theorem OpW.lenI {v : AV} {b : Bool} {ns : List Int} (hs : seqOf s.cells v = some (b, ns.map AV.int)) (hl : ns.length < 64) (h : Q (.int (ddup ns).length) s) : OpW (blcM .lenI v s) Q := ⟨fun X => by
  have e : blcM .lenI v s = .ok (.int (ddup ns).length) s := by
    unfold blcM
    simp only
    rw [hs]
    simp only
    rw [ints_of]
    simp only
    rw [if_pos hl]
  rw [e]; exact h⟩
theorem OpW.lenT {v : AV} {xs : List (Int × Int)} (hs : seqOf s.cells v = some (false, xs.map tp2)) (hl : xs.length < 64) (h : Q (.int (ddup xs).length) s) : OpW (blcM .lenT v s) Q := ⟨fun X => by
  have e : blcM .lenT v s = .ok (.int (ddup xs).length) s := by
    unfold blcM
    simp only
    rw [hs]
    simp only
    rw [tups_of]
    simp only
    rw [if_pos (by simpa using hl), ddup_map (fun x y e => pr_inj e), List.length_map]
  rw [e]; exact h⟩
theorem OpW.lenS {v : AV} {al b : Bool} {xs : List AV} (hs : seqOf s.cells v = some (b, xs)) (h : Q (.int xs.length) s) : OpW (bltM .len al [v] s) Q := ⟨fun X => wn_len ⟨_, hs, h⟩⟩
theorem OpW.tuple {v : AV} {al b : Bool} {xs : List AV} (hs : seqOf s.cells v = some (b, xs)) (h : Q (.tup xs) s) : OpW (bltM .tuple al [v] s) Q := ⟨fun X => wn_tuple ⟨_, hs, h⟩⟩
theorem OpW.lrng {i : Int} {al : Bool} (h0 : i < 16777216) (h1 : -(2 ^ 62) ≤ i) (h : OpW (mkL al ((List.range i.toNat).map fun k => AV.int (k : Nat)) s) Q) : OpW (lrngM al [.int i] s) Q := ⟨fun X => by
  have e : lrngM al [.int i] s = mkL al ((List.range i.toNat).map fun k => AV.int (k : Nat)) s := by
    unfold lrngM
    simp only
    rw [if_pos (by constructor <;> omega)]
  rw [e]; exact h.run X⟩
theorem OpW.setAt {k c : Nat} {f : Str} {v : AV} {fs : List (Str × AV)} {Q : Unit → AS → Prop} (hk : s.cells[k]? = some (.ins c fs)) (hl : fs.length < 900) (hn : newer k 12 v = false) (h : Q () ⟨s.cells.set k (.ins c (putFA f v fs)), s.opn⟩) : OpW (setAtM (.ref k) f v s) Q := ⟨fun X => by
  have e : setAtM (.ref k) f v s = .ok () ⟨s.cells.set k (.ins c (putFA f v fs)), s.opn⟩ := by
    unfold setAtM
    simp only
    rw [hk]
    simp only
    rw [if_pos hl, hn, Bool.or_false]
  rw [e]; exact h⟩
theorem OpW.attr {x v : AV} {f : Str} {c : Nat} {fs : List (Str × AV)} (hi : insOf s.cells x = some (c, fs)) (hl : fs.lookup f = some v) (h : Q v s) : OpW (attrM x f s) Q := ⟨fun X => by
  unfold attrM; rw [hi]; simp only; rw [hl]; exact h⟩
theorem OpW.isc {x : AV} {c : Nat} {subs : List Nat} {fs : List (Str × AV)} (hi : insOf s.cells x = some (c, fs)) (h : Q (.bl (subs.contains c)) s) : OpW (iscM x subs s) Q := ⟨fun X => by
  unfold iscM; rw [hi]; exact h⟩
theorem OpW.iscN {x : AV} {subs : List Nat} {T : String} (hi : insOf s.cells x = none) (ht : tyName s.cells x = some T) (h : Q (.bl false) s) : OpW (iscM x subs s) Q := ⟨fun X => by
  unfold iscM; rw [hi]; simp only; rw [ht]; exact h⟩
theorem OpW.src {v : AV} {b : Bool} {xs : List AV} {Q : Src → AS → Prop} (e : v = reseq b xs) (h : Q (.items xs) s) : OpW (srcOf v s) Q := by
  subst e
  cases b <;> exact OpW.of rfl h
end
end Ev

set_option linter.all false
set_option maxRecDepth 100000
set_option maxHeartbeats 4000000
/-! EvCo: what the laws' plain parts share. Own work. -/
namespace Ev
open PySem PySem.Spec PyProof.Rows L2
section
variable {d b : Nat} {s : AS} {c0 : AO} {rest : List AO} {o keep : Bool} {Q : AV → AS → Prop} {X : AV → AS → Prop}
theorem bls_map {bs : List Bool} : blsOf (bs.map AV.bl) = some bs := by
  have := mapO_map (f := fun v => match v with | AV.bl b => some b | _ => none) (g := AV.bl) (h := id) (xs := bs) fun x => rfl
  rw [List.map_id] at this
  exact this
theorem OpW.allb {bs : List Bool} {al : Bool} (h : Q (.bl (bs.all id)) s) : OpW (bltM .all al [.lst (bs.map AV.bl)] s) Q := ⟨fun X => wn_all ⟨_, rfl, bs, bls_map, h⟩⟩
theorem comp_map {α : Type} {xs : List α} {inj : α → AV} {out : α → AV} {R : List AV → AS → Prop} {f : AV → AS → (Option AV → AS → Prop) → Prop} (hf : ∀ x ∈ xs, ∀ K, K (some (out x)) s → f (inj x) s K) (h : R (xs.map out) s) : CompW f (xs.map inj) [] s R := by
  refine CompW.inv (fun i acc s' => s' = s ∧ acc = (xs.take i).map out) ⟨rfl, rfl⟩ (fun i x acc s' hx ⟨e1, e2⟩ => ?_) fun acc s' ⟨e1, e2⟩ => ?_
  · subst e1 e2
    rw [List.getElem?_map] at hx
    cases hy : xs[i]? with
    | none => rw [hy] at hx; cases hx
    | some y =>
      rw [hy] at hx; cases hx
      refine hf y (List.mem_of_getElem? hy) _ ⟨rfl, ?_⟩
      rw [List.take_add_one, hy, List.map_append]; rfl
  · subst e1 e2
    rw [List.length_map, List.take_length]; exact h
theorem comp_filter {α : Type} {xs : List α} {inj out : α → AV} {p : α → Bool} {R : List AV → AS → Prop} {f : AV → AS → (Option AV → AS → Prop) → Prop} (hf : ∀ x ∈ xs, ∀ K, K (if p x = true then some (out x) else none) s → f (inj x) s K) (h : R ((xs.filter p).map out) s) : CompW f (xs.map inj) [] s R := by
  refine CompW.inv (fun i acc s' => s' = s ∧ acc = ((xs.take i).filter p).map out) ⟨rfl, rfl⟩ (fun i x acc s' hx ⟨e1, e2⟩ => ?_) fun acc s' ⟨e1, e2⟩ => ?_
  · subst e1 e2
    rw [List.getElem?_map] at hx
    cases hy : xs[i]? with
    | none => rw [hy] at hx; cases hx
    | some y =>
      rw [hy] at hx; cases hx
      refine hf y (List.mem_of_getElem? hy) _ ⟨rfl, ?_⟩
      rw [List.take_add_one, hy, List.filter_append, List.map_append]
      show _ = _ ++ List.map out (List.filter p [y])
      cases hp : p y with
      | true => rw [if_pos rfl, List.filter_cons_of_pos hp]; rfl
      | false => rw [if_neg (by decide), List.filter_cons_of_neg (by rw [hp]; decide)]; simp [accO]
  · subst e1 e2
    rw [List.length_map, List.take_length]; exact h
theorem get_end {cs : List AO} {x : AO} : (cs ++ [x])[cs.length]? = some x := by
  rw [List.getElem?_append_right (Nat.le_refl _), Nat.sub_self]; rfl
theorem set_end {cs : List AO} {x y : AO} : (cs ++ [x]).set cs.length y = cs ++ [y] := by
  rw [List.set_append_right _ _ (Nat.le_refl _), Nat.sub_self]; rfl
theorem frz_tup2 {cs : List AO} {k m : Nat} (xs : List (Int × Int)) (h : 2 < m) : frzV cs k m (.tup (xs.map tp2)) = some (.tup (xs.map tp2)) := frz_pv (n := 2) (pv_T (α := Int × Int) xs) h
theorem get_end1 {c c' x : AO} : (c :: (rest ++ [x]))[(c' :: rest).length]? = some x := by
  rw [List.length_cons, List.getElem?_cons_succ]
  exact get_end
theorem set_end1 {c c' x y : AO} : (c :: (rest ++ [x])).set (c' :: rest).length y = c :: (rest ++ [y]) := by
  rw [List.length_cons, List.set_cons_succ, set_end]
theorem take_end1 {c c' x : AO} : (c :: (rest ++ [x])).take (c' :: rest).length = c :: rest := by
  rw [List.length_cons, List.take_succ_cons, List.take_left]
theorem seq_ref {cs : List AO} {k : Nat} {xs : List AV} (h : cs[k]? = some (.lst xs)) : seqOf cs (.ref k) = some (false, xs) := by
  unfold seqOf
  simp only
  rw [h]
theorem frz_lst2 {cs : List AO} {k m : Nat} (xs : List (Int × Int)) (h : 2 < m) : frzV cs k m (.lst (xs.map tp2)) = some (.lst (xs.map tp2)) := frz_pv (n := 2) (pv_L (α := Int × Int) xs) h
theorem get_mid1 {c c' x y : AO} : (c :: ((rest ++ [x]) ++ [y]))[(c' :: rest).length]? = some x := by
  rw [List.length_cons, List.getElem?_cons_succ, List.append_assoc, List.getElem?_append_right (Nat.le_refl _), Nat.sub_self]; rfl
theorem set_mid1 {c c' x y z : AO} : (c :: ((rest ++ [x]) ++ [y])).set (c' :: rest).length z = c :: ((rest ++ [z]) ++ [y]) := by
  rw [List.length_cons, List.set_cons_succ, List.append_assoc, List.set_append_right _ _ (Nat.le_refl _), Nat.sub_self]
  simp
theorem take_mid1 {c c' x y : AO} : (c :: ((rest ++ [x]) ++ [y])).take (c' :: rest).length = c :: rest := by
  rw [List.length_cons, List.take_succ_cons, List.append_assoc, List.take_left]
theorem pv_ints (ns : List Int) : pv 1 (.lst (ns.map AV.int)) = true := pv_L (α := Int) ns
theorem frz_ref {cs : List AO} {k j n : Nat} {xs : List AV} (e : cs[j]? = some (.lst xs)) (h : k ≤ j) (hp : ∀ x ∈ xs, pv n x = true) (hn : n < 11) : frzV cs k DPT (.ref j) = some (.lst xs) := by
  unfold DPT frzV
  simp only
  rw [if_neg (by omega), e]
  simp only
  rw [mapO_id fun x hx => frz_pv (hp x hx) hn]
def upto (many : Int) : List Int := (List.range many.toNat).map fun i : Nat => (i : Int)
theorem upto_av (many : Int) : ((List.range many.toNat).map fun i => AV.int (i : Nat)) = (upto many).map AV.int := by
  unfold upto
  rw [List.map_map]; rfl
theorem upto_nd (many : Int) : (upto many).Nodup := List.pairwise_map.mpr ((List.nodup_range).imp fun h e => h (by omega))
theorem upto_mem {many x : Int} (h : x ∈ upto many) : 0 ≤ x ∧ x < many := by
  obtain ⟨i, hi, rfl⟩ := List.mem_map.mp h
  have := List.mem_range.mp hi
  omega
theorem erase_map {f : Int → AV} : ∀ (xs : List Int) (j : Nat), (xs.map f).eraseIdx j = (xs.eraseIdx j).map f
  | [], _ => rfl
  | x :: xs, 0 => rfl
  | x :: xs, j + 1 => by
    rw [List.map_cons, List.eraseIdx_cons_succ, List.eraseIdx_cons_succ, List.map_cons, erase_map]
theorem perm_erase : ∀ {xs : List Int} {j : Nat} {z : Int}, xs[j]? = some z → xs.Perm (z :: xs.eraseIdx j)
  | [], _, _, h => by simp at h
  | x :: xs, 0, z, h => by simp at h; subst h; exact .refl _
  | x :: xs, j + 1, z, h => by
    rw [List.eraseIdx_cons_succ]
    exact ((perm_erase (xs := xs) (by simpa using h)).cons x).trans (.swap ..)
theorem src_ref {k : Nat} {xs : List AV} {Q : Src → AS → Prop} (e : s.cells[k]? = some (.lst xs)) (h : Q (.cell k xs.length) s) : OpW (srcOf (.ref k) s) Q := ⟨fun X => by
  unfold srcOf
  simp only
  rw [e]; exact h⟩
theorem comp_filterC {α : Type} {xs : List α} {inj out : α → AV} {p : α → Bool} {R : List AV → AS → Prop} {f : AV → AS → (Option AV → AS → Prop) → Prop} {k m : Nat} (hk : s.cells[k]? = some (.lst (xs.map inj))) (hm : m = (xs.map inj).length) (hf : ∀ x ∈ xs, ∀ K, K (if p x = true then some (out x) else none) s → f (inj x) s K) (h : R ((xs.filter p).map out) s) : CompCW f k m s R := by
  subst hm
  refine CompCW.inv (fun i acc s' => s' = s ∧ acc = ((xs.take i).filter p).map out) (fun i acc s' ⟨e, _⟩ => by rw [e]; exact hk) ⟨rfl, rfl⟩ (fun i x acc s' hx ⟨e1, e2⟩ => ?_) fun acc s' ⟨e1, e2⟩ => ?_
  · subst e1 e2
    rw [List.getElem?_map] at hx
    cases hy : xs[i]? with
    | none => rw [hy] at hx; cases hx
    | some y =>
      rw [hy] at hx; cases hx
      refine hf y (List.mem_of_getElem? hy) _ ⟨rfl, ?_⟩
      rw [List.take_add_one, hy, List.filter_append, List.map_append]
      show _ = _ ++ List.map out (List.filter p [y])
      cases hp : p y with
      | true => rw [if_pos rfl, List.filter_cons_of_pos hp]; rfl
      | false => rw [if_neg (by decide), List.filter_cons_of_neg (by rw [hp]; decide)]; simp [accO]
  · subst e1 e2
    rw [List.length_map, List.take_length]; exact h
theorem wB_nil {f : CS → AE → AS → (AE → AS → Prop) → (AV → AS → Prop) → Prop} {ρ : AE} {s : AS} {N : AE → AS → Prop} {R : AV → AS → Prop} (h : N ρ s) : wB f [] ρ s N R := h
theorem cut_map {α β : Type} {f : α → β} {xs : List α} {lo hi : Option Int} : cutL (xs.map f) lo hi = (cutL xs lo hi).map f := by
  unfold cutL
  rw [List.length_map, List.map_take, List.map_drop]
theorem okAll_map {α : Type} {f : α → PyData} : ∀ {xs : List α}, (∀ x ∈ xs, okD (f x) = true) → okAll (xs.map f) = true
  | [], _ => by rw [List.map_nil]; unfold okAll; rfl
  | x :: xs, h => by
    rw [List.map_cons]
    unfold okAll
    rw [h x List.mem_cons_self, okAll_map fun y hy => h y (List.mem_cons_of_mem _ hy)]; rfl
theorem szAll_map {α : Type} {f : α → PyData} {n : Nat} (h : ∀ x, szD (f x) ≤ n) : ∀ xs : List α, szAll (xs.map f) ≤ (n + 2) * xs.length
  | [] => by rw [List.map_nil]; unfold szAll; exact Nat.zero_le _
  | x :: xs => by
    rw [List.map_cons]
    unfold szAll
    have h1 := h x
    have h2 := szAll_map h xs
    rw [List.length_cons, Nat.mul_succ]
    omega
theorem insU_len (x : List Int) : ∀ xs : List (List Int), (insU x xs).length ≤ xs.length + 1
  | [] => Nat.le_refl _
  | y :: r => by
    unfold insU
    split
    · exact Nat.le_succ _
    · split
      · exact Nat.le_refl _
      · have := insU_len x r
        simp only [List.length_cons]
        omega
theorem setT_len : ∀ xs : List (List Int), (setT xs).length ≤ xs.length
  | [] => Nat.le_refl _
  | x :: xs => by
    show (insU x (setT xs)).length ≤ _
    have h1 := insU_len x (setT xs)
    have h2 := setT_len xs
    simp only [List.length_cons]
    omega

theorem comp_mapV {xs : List AV} {out : AV → AV} {R : List AV → AS → Prop} {f : AV → AS → (Option AV → AS → Prop) → Prop} (hf : ∀ x ∈ xs, ∀ K : Option AV → AS → Prop, K (some (out x)) s → f x s K) (h : R (xs.map out) s) : CompW f xs [] s R := by
  have := comp_map (inj := id) (out := out) (R := R) (f := f) hf h
  rwa [List.map_id] at this
theorem OpW.allV {xs : List AV} {p : AV → Bool} {al : Bool} (h : Q (.bl (xs.all p)) s) : OpW (bltM .all al [.lst (xs.map fun v => .bl (p v))] s) Q := by
  have e : (xs.map fun v => AV.bl (p v)) = (xs.map p).map AV.bl := by rw [List.map_map]; rfl
  rw [e]
  refine OpW.allb ?_
  have e2 : (xs.map p).all id = xs.all p := by rw [List.all_map]; rfl
  rw [e2]
  exact h
theorem OpW.allA {α : Type} {xs : List α} {p : α → Bool} {al : Bool} (h : Q (.bl (xs.all p)) s) : OpW (bltM .all al [.lst (xs.map fun v => .bl (p v))] s) Q := by
  have e : (xs.map fun v => AV.bl (p v)) = (xs.map p).map AV.bl := by rw [List.map_map]; rfl
  rw [e]
  refine OpW.allb ?_
  have e2 : (xs.map p).all id = xs.all p := by rw [List.all_map]; rfl
  rw [e2]
  exact h
theorem OpW.neNilR {k : Nat} {ns : List Int} (e : s.cells[k]? = some (.lst (ns.map AV.int))) (h : Q (.bl (!ns.isEmpty)) s) : OpW (cmpM .ne (.ref k) (.lst []) s) Q := ⟨fun X => by
  refine wk_ne ⟨.list (ns.map PyData.int), ?_, .list [], rfl, ⟨shaped_ints, by decide +kernel⟩, ?_⟩
  · show (match s.cells[k]? with | some (.lst xs) => _ | some (.frz v) => _ | _ => _) = _
    rw [e]
    simp only
    rw [toPy_ints]
  · rw [eqv_nil]
    cases ns <;> exact h⟩
theorem OpW.sum {ns : List Int} {al : Bool} (h : Q (.int ns.sum) s) : OpW (bltM .sum al [.lst (ns.map AV.int)] s) Q := by
  refine OpW.of ?_ h
  show (match intsOf (ns.map AV.int) with | some ns => _ | none => _) = _
  rw [ints_of]
def ixI (hs : List Int) (i : Int) : Int := hs.getD i.toNat 0
theorem ixI_get {hs : List Int} {i : Int} {j : Nat} {v : AV} (e : (j : Int) = i) (h : (hs.map AV.int)[j]? = some v) : v = .int (ixI hs i) := by
  subst e
  rw [List.getElem?_map] at h
  unfold ixI
  rw [Int.toNat_natCast, List.getD_eq_getElem?_getD]
  cases q : hs[j]? with
  | none => rw [q] at h; cases h
  | some x => rw [q] at h; cases h; rfl
theorem OpW.ixL {hs : List Int} {i : Int} (h0 : 0 ≤ i) (h1 : i < hs.length) (h : Q (.int (ixI hs i)) s) : OpW (idxM (.lst (hs.map AV.int)) (.int i) s) Q := by
  refine OpW.item h0 (by rw [List.length_map]; exact h1) fun j v e hv => ?_
  rw [ixI_get e hv]; exact h
theorem OpW.ixT {hs : List Int} {i : Int} (h0 : 0 ≤ i) (h1 : i < hs.length) (h : Q (.int (ixI hs i)) s) : OpW (idxM (.tup (hs.map AV.int)) (.int i) s) Q := by
  refine OpW.itemT h0 (by rw [List.length_map]; exact h1) fun j v e hv => ?_
  rw [ixI_get e hv]; exact h
theorem OpW.enmL {xs : List AV} {Q : Src → AS → Prop} (hl : xs.length ≤ 16777216) (h : Q (.items (enumA 0 xs)) s) : OpW (enmOf (.lst xs) s) Q := by
  refine OpW.of ?_ h
  show (if _ then _ else _) = _
  rw [if_pos hl]
theorem OpW.enmT {xs : List AV} {Q : Src → AS → Prop} (hl : xs.length ≤ 16777216) (h : Q (.items (enumA 0 xs)) s) : OpW (enmOf (.tup xs) s) Q := by
  refine OpW.of ?_ h
  show (if _ then _ else _) = _
  rw [if_pos hl]
theorem enum_map {α : Type} {f : α → AV} : ∀ (xs : List α) (k : Nat), enumA k (xs.map f) = (xs.zipIdx k).map fun p => .tup [.int (p.2 : Nat), f p.1]
  | [], _ => rfl
  | x :: xs, k => by
    rw [List.map_cons, List.zipIdx_cons, List.map_cons]
    unfold enumA
    rw [show ((k : Nat) : Int) + 1 = ((k + 1 : Nat) : Int) from by push_cast; rfl, enum_map xs (k + 1)]
theorem comp_mapL {α : Type} {xs : List α} {inj : α → AV} {g : α → Int} {R : List AV → AS → Prop} {f : AV → AS → (Option AV → AS → Prop) → Prop} (hf : ∀ x ∈ xs, ∀ K, K (some (.int (g x))) s → f (inj x) s K) (h : R ((xs.map g).map AV.int) s) : CompW f (xs.map inj) [] s R :=
  comp_map (out := fun x => .int (g x)) hf (by rw [List.map_map] at h; exact h)
/-- the list that draws: so many draws at most -/
def Cr (n : Nat) (c0 : AO) : Prop := ∃ (cs : List Int) (t r : Int), c0 = .lst [.lst (cs.map AV.int), .int t, .int r] ∧ 0 ≤ t ∧ t ≤ n
theorem Cr.cl {n : Nat} {c0 : AO} (h : Cr n c0) : closedC 1 [c0] = true := by
  obtain ⟨cs, t, r, rfl, _⟩ := h
  have e : topO (.lst [.lst (cs.map AV.int), .int t, .int r]) = some 0 := (inferInstance : UpL _ 0 [AV.lst (cs.map AV.int), .int t, .int r]).h (by decide)
  unfold closedC
  rw [List.all_cons, e]
  rfl
theorem Cr.le {a b : Nat} {c : AO} (h : Cr a c) (hab : a ≤ b) : Cr b c := by
  obtain ⟨cs, t, r, e, h1, h2⟩ := h
  exact ⟨cs, t, r, e, h1, by omega⟩
/-- ints of a drawn set of cells -/
structure CellsOf (many : Int) (cs : List Int) : Prop where
  nd : cs.Nodup
  bd : ∀ x ∈ cs, 0 ≤ x ∧ x < many

/-! ### calls that only read -/
/-- a call may see just the first cells -/
structure Sees (s : AS) (own : List AO) : Prop where
  pre : own <+: s.cells
  cl : own = s.cells ∨ closedC own.length own = true
def Vis (s : AS) (own : List AO) (v : AV) : Prop := own = s.cells ∨ ∀ j, RefIn j v → j < own.length
theorem Sees.get {s : AS} {own : List AO} (h : Sees s own) {j : Nat} (hj : j < own.length) : own[j]? = s.cells[j]? := by
  obtain ⟨t, e⟩ := h.pre
  rw [← e, List.getElem?_append_left hj]
theorem Vis.seq {s : AS} {own : List AO} {v : AV} {b : Bool} {xs : List AV} (S : Sees s own) (h : Vis s own v) (e : seqOf s.cells v = some (b, xs)) : seqOf own v = some (b, xs) ∧ ∀ x ∈ xs, Vis s own x := by
  rcases S.cl with z | cl
  · subst z; exact ⟨e, fun _ _ => .inl rfl⟩
  rcases h with z | h
  · subst z; exact ⟨e, fun _ _ => .inl rfl⟩
  cases v with
  | tup ys => simp only [seqOf, Option.some.injEq, Prod.mk.injEq] at e; obtain ⟨rfl, rfl⟩ := e; exact ⟨rfl, fun x hx => .inr fun j hj => h j (.tup hx hj)⟩
  | lst ys => simp only [seqOf, Option.some.injEq, Prod.mk.injEq] at e; obtain ⟨rfl, rfl⟩ := e; exact ⟨rfl, fun x hx => .inr fun j hj => h j (.lst hx hj)⟩
  | ref k =>
    have hk := h k .ref
    have g := S.get hk
    refine ⟨by unfold seqOf at e ⊢; simp only at e ⊢; rw [g]; exact e, fun x hx => .inr fun j hj => ?_⟩
    unfold seqOf at e
    simp only at e
    rw [← g] at e
    cases ho : own[k]? with
    | none => rw [ho] at e; cases e
    | some o =>
      rw [ho] at e
      have lt := closedC_lt cl (List.mem_of_getElem? ho)
      cases o with
      | lst zs => simp only [Option.some.injEq, Prod.mk.injEq] at e; obtain ⟨_, rfl⟩ := e; exact lt j ⟨x, hx, hj⟩
      | frz w =>
        cases w with
        | lst zs => simp only [Option.some.injEq, Prod.mk.injEq] at e; obtain ⟨_, rfl⟩ := e; exact lt j (show RefIn j (.lst zs) from .lst hx hj)
        | _ => cases e
      | _ => cases e
  | _ => simp [seqOf] at e
theorem leaveV_o {c : List AO} {o : Bool} {v : AV} {s1 : AS} {Q : AV → List AO → Prop} {X : AV → AS → Prop} (h : Lv c v s1 Q) : Wp (leaveV ⟨c, o⟩ false v s1) (fun w s2 => s2.opn = o ∧ Q w s2.cells) X := by
  have h := h.run NoX
  unfold leaveV at h ⊢
  split at h
  · rename_i hc
    rw [if_pos hc]
    have h1 : s1.opn = false := by have := h.1.2; simpa using this
    exact ⟨by show (o || s1.opn) = o; rw [h1, Bool.or_false], h.2⟩
  · rename_i hc
    rw [if_neg hc]
    split at h
    · rename_i w hw
      rw [show frzV s1.cells (AS.mk c o).cells.length DPT v = some w from hw]
      exact ⟨rfl, h.2⟩
    · exact h.elim
theorem leaveX_o {c : List AO} {o : Bool} {x : AV} {s1 : AS} {X : AV → List AO → Prop} {Q : AV → AS → Prop} (h : Lx c x s1 X) : Wp (leaveX ⟨c, o⟩ false x s1) Q (fun y s2 => s2.opn = o ∧ X y s2.cells) := by
  have h := h.run (fun _ _ => False)
  unfold leaveX at h ⊢
  split at h
  · rename_i hc
    rw [if_pos hc]
    have h1 : s1.opn = false := by have := h.1.2; simpa using this
    exact ⟨by show (o || s1.opn) = o; rw [h1, Bool.or_false], h.2⟩
  · rename_i hc
    rw [if_neg hc]
    split at h
    · rename_i w hw
      rw [show frzX s1.cells (AS.mk c o).cells.length x = some w from hw]
      exact ⟨rfl, h.2⟩
    · rename_i hw
      rw [show frzX s1.cells (AS.mk c o).cells.length x = none from hw]
      have h1 : s1.opn = false := by have := h.1.2; simpa using this
      exact ⟨by show (o || s1.opn) = o; rw [h1, Bool.or_false], h.2⟩
/-- a call that leaves the cells as they are -/
theorem CallW.ro {P : List FnD} {d k : Nat} {f : FnD} {args : List AV} {s : AS} {Q X : AV → AS → Prop} (hf : P[k]? = some f) (hl : args.length = f.nps) (hh : f.hd = false)
    (h : ∀ own, Sees s own → (∀ v ∈ args, Vis s own v) → wB (wS (callF P d) FU (fun x _ s1 => Lx own x s1 fun y cs => cs = own ∧ X y s)) f.body (f.env0 args) ⟨own, false⟩ (fun _ s1 => Lv own .non s1 fun w cs => cs = own ∧ Q w s) fun v s1 => Lv own v s1 fun w cs => cs = own ∧ Q w s) :
    CallW (callF P (d + 1)) k args false s Q X := ⟨by
  have plain : Wp (plainF (callF P d) f args false s) Q X := by
    refine wp_plain (WS.monoA (wB_ok (fun c ρ s N R h => wS_ok FU h) (h s.cells ⟨List.prefix_refl _, .inl rfl⟩ fun _ _ => .inl rfl)) (fun ρ s1 h => ?_) (fun v s1 h => ?_) fun x ρ s1 h => ?_)
    · exact (leaveV_o (o := s.opn) h).imp fun w s2 ⟨e1, e2, q⟩ => by cases s2; cases e1; cases e2; exact q
    · exact (leaveV_o (o := s.opn) h).imp fun w s2 ⟨e1, e2, q⟩ => by cases s2; cases e1; cases e2; exact q
    · exact (leaveX_o (o := s.opn) h).mono (fun _ _ h => h) fun w s2 ⟨e1, e2, q⟩ => by cases s2; cases e1; cases e2; exact q
  unfold callF
  rw [hf]
  simp only
  rw [if_pos hl, hh]
  show Wp (frameM (topsO (topV DPT) args) (plainF (callF P d) f args false) s) Q X
  unfold frameM
  cases e : topsO (topV DPT) args with
  | none => exact plain
  | some q =>
    simp only
    split
    · rename_i hc
      have hlen : (s.cells.take q).length = q := by rw [List.length_take]; omega
      have h2 := h (s.cells.take q) ⟨List.take_prefix _ _, .inr (by rw [hlen]; exact hc.2)⟩ fun v hv => .inr fun j hj => by rw [hlen]; exact topsO_lt e j v hv hj
      have h3 : Wp (plainF (callF P d) f args false ⟨s.cells.take q, false⟩) (fun w s2 => (s2.opn = false ∧ s2.cells = s.cells.take q) ∧ Q w s) (fun w s2 => (s2.opn = false ∧ s2.cells = s.cells.take q) ∧ X w s) := by
        refine wp_plain (WS.monoA (wB_ok (fun c ρ s N R h => wS_ok FU h) h2) (fun ρ s1 h => ?_) (fun v s1 h => ?_) fun x ρ s1 h => ?_)
        · exact (leaveV_o (o := false) h).imp fun w s2 ⟨e1, e2, q⟩ => ⟨⟨e1, e2⟩, q⟩
        · exact (leaveV_o (o := false) h).imp fun w s2 ⟨e1, e2, q⟩ => ⟨⟨e1, e2⟩, q⟩
        · exact (leaveX_o (o := false) h).mono (fun _ _ h => h) fun w s2 ⟨e1, e2, q⟩ => ⟨⟨e1, e2⟩, q⟩
      revert h3
      cases plainF (callF P d) f args false ⟨s.cells.take q, false⟩ with
      | ok v s2 =>
        intro h3
        simp only
        rw [if_pos ⟨by rw [h3.1.2, hlen], h3.1.1⟩, h3.1.2, List.take_append_drop]
        exact h3.2
      | exc x s2 =>
        intro h3
        simp only
        rw [if_pos ⟨by rw [h3.1.2, hlen], h3.1.1⟩, h3.1.2, List.take_append_drop]
        exact h3.2
      | stuck => exact fun h3 => h3.elim
    · exact plain⟩
theorem Lx.r1 {n c : Nat} {own : List AO} {f : Str} {v : AV} {s1 : AS} {X : AV → List AO → Prop} (p : PvD n v) (hn : n ≤ 11) (ho : s1.opn = false) (hl : own.length ≤ s1.cells.length) (h : X (.exc c [(f, v)]) (s1.cells.take own.length)) : Lx own (.exc c (revZ [f] [v] [])) s1 X :=
  Lx.at (n := n) ⟨by show (pv n v && true) = true; rw [p.h]; rfl⟩ hn ho hl h
theorem Lx.r2 {n m c : Nat} {own : List AO} {f g : Str} {v w : AV} {s1 : AS} {X : AV → List AO → Prop} (p : PvD n v) (q : PvD m w) (hn : max n m ≤ 11) (ho : s1.opn = false) (hl : own.length ≤ s1.cells.length) (h : X (.exc c [(g, w), (f, v)]) (s1.cells.take own.length)) : Lx own (.exc c (revZ [f, g] [v, w] [])) s1 X :=
  Lx.at (n := max n m) ⟨by show (pv (max n m) w && (pv (max n m) v && true)) = true; rw [pv_up p.h (Nat.le_max_left _ _), pv_up q.h (Nat.le_max_right _ _)]; rfl⟩ hn ho hl h
/-- a local list left -/
theorem Lv.cell {n j : Nat} {own : List AO} {xs : List AV} {s1 : AS} {Q : AV → List AO → Prop} (e : s1.cells[j]? = some (.lst xs)) (p : PvL n xs) (hn : n ≤ 10) (ho : s1.opn = false) (hj : own.length ≤ j) (h : Q (.lst xs) (s1.cells.take own.length)) : Lv own (.ref j) s1 Q :=
  Lv.frz ho (Nat.lt_of_le_of_lt hj (List.getElem?_eq_some_iff.mp e).1) (frz_ref (n := n) e hj (List.all_eq_true.mp p.h) (by omega)) h
/-- what a value is, by its type -/
def knownT : AV → Bool
  | .ins _ _ => false
  | .exc _ _ => false
  | .fn _ => false
  | .ref _ => false
  | _ => true
def isI : AV → Bool
  | .int _ => true
  | _ => false
/-- an integer from lo to hi -/
def inB (lo hi : Int) : AV → Bool
  | .int i => decide (lo ≤ i) && decide (i ≤ hi)
  | _ => false
def inB0 (lo : Int) : AV → Bool
  | .int i => decide (lo ≤ i)
  | _ => false
def isL : AV → Bool
  | .lst _ => true
  | .tup _ => true
  | _ => false
/-- a clue of a book -/
def clA (c : Int × List Int) : AV := .tup [.int c.1, .lst (c.2.map AV.int)]
def clT (c : Int × List Int) : AV := .tup [.int c.1, .tup (c.2.map AV.int)]
structure CL (many : Int) (c : Int × List Int) : Prop where
  k0 : 0 ≤ c.1
  k8 : c.1 ≤ 8
  len : c.2.length ≤ 8
  cs : CellsOf many c.2
instance : PvF 2 clA := ⟨fun c => (inferInstance : PvD 2 (.tup [.int c.1, .lst (c.2.map AV.int)])).h⟩
instance : PvF 2 clT := ⟨fun c => (inferInstance : PvD 2 (.tup [.int c.1, .tup (c.2.map AV.int)])).h⟩
theorem Lv.ro {n : Nat} {own : List AO} {v : AV} {Q : AV → List AO → Prop} (p : PvD n v) (hn : n ≤ 11) (h : Q v own) : Lv own v ⟨own, false⟩ Q := Lv.at p hn rfl (Nat.le_refl _) (by rw [List.take_length]; exact h)
theorem idx_seq {v y : AV} {i : Int} {b : Bool} {xs : List AV} (e : seqOf s.cells v = some (b, xs)) (h : L2.atI xs i = some y) : idxM v (.int i) s = .ok y s := by
  unfold idxM
  cases v with
  | str z => simp [seqOf] at e
  | _ =>
    simp only
    rw [e]
    simp only
    rw [h]
/-- how a list or tuple is walked -/
theorem seq_src {cs : List AO} {v : AV} {b : Bool} {xs : List AV} (e : seqOf cs v = some (b, xs)) : (∀ o, srcOf v ⟨cs, o⟩ = .ok (.items xs) ⟨cs, o⟩) ∨ ∃ k, cs[k]? = some (.lst xs) ∧ ∀ o, srcOf v ⟨cs, o⟩ = .ok (.cell k xs.length) ⟨cs, o⟩ := by
  cases v with
  | tup ys => simp only [seqOf, Option.some.injEq, Prod.mk.injEq] at e; obtain ⟨_, rfl⟩ := e; exact .inl fun _ => rfl
  | lst ys => simp only [seqOf, Option.some.injEq, Prod.mk.injEq] at e; obtain ⟨_, rfl⟩ := e; exact .inl fun _ => rfl
  | ref k =>
    unfold seqOf at e
    unfold srcOf
    simp only at e ⊢
    cases ho : cs[k]? with
    | none => rw [ho] at e; cases e
    | some o =>
      rw [ho] at e
      cases o with
      | lst zs => simp only [Option.some.injEq, Prod.mk.injEq] at e; obtain ⟨_, rfl⟩ := e; exact .inr ⟨k, ho, fun _ => rfl⟩
      | frz w =>
        cases w with
        | lst zs => simp only [Option.some.injEq, Prod.mk.injEq] at e; obtain ⟨_, rfl⟩ := e; exact .inl fun _ => rfl
        | _ => cases e
      | _ => cases e
  | _ => simp [seqOf] at e
theorem comp_mapC {α : Type} {xs : List α} {inj out : α → AV} {R : List AV → AS → Prop} {f : AV → AS → (Option AV → AS → Prop) → Prop} {k m : Nat} (hk : s.cells[k]? = some (.lst (xs.map inj))) (hm : m = (xs.map inj).length) (hf : ∀ x ∈ xs, ∀ K, K (some (out x)) s → f (inj x) s K) (h : R (xs.map out) s) : CompCW f k m s R := by
  subst hm
  refine CompCW.inv (fun i acc s' => s' = s ∧ acc = (xs.take i).map out) (fun i acc s' ⟨e, _⟩ => by rw [e]; exact hk) ⟨rfl, rfl⟩ (fun i x acc s' hx ⟨e1, e2⟩ => ?_) fun acc s' ⟨e1, e2⟩ => ?_
  · subst e1 e2
    rw [List.getElem?_map] at hx
    cases hy : xs[i]? with
    | none => rw [hy] at hx; cases hx
    | some y =>
      rw [hy] at hx; cases hx
      refine hf y (List.mem_of_getElem? hy) _ ⟨rfl, ?_⟩
      rw [List.take_add_one, hy, List.map_append]; rfl
  · subst e1 e2
    rw [List.length_map, List.take_length]; exact h
/-- a clue told by lists or tuples -/
structure ClueAt (cs : List AO) (v : AV) (c : Int × List Int) : Prop where
  ex : ∃ b w b2, seqOf cs v = some (b, [.int c.1, w]) ∧ seqOf cs w = some (b2, c.2.map AV.int)
theorem ClueAt.vis {own : List AO} {v : AV} {c : Int × List Int} (h : ClueAt s.cells v c) (S : Sees s own) (V : Vis s own v) : ClueAt own v c := by
  obtain ⟨b, w, b2, h1, h2⟩ := h.ex
  obtain ⟨g1, g2⟩ := V.seq S h1
  exact ⟨b, w, b2, g1, ((g2 w (by simp)).seq S h2).1⟩
def clueOk (many : Int) (c : Int × List Int) : Bool := decide (0 ≤ c.1) && decide (c.1 ≤ 8) && decide (c.2.length ≤ 8) && c.2.all (fun x => decide (0 ≤ x) && decide (x < many)) && decide c.2.Nodup
theorem clueOk_CL {many : Int} {c : Int × List Int} : clueOk many c = true ↔ CL many c := by
  unfold clueOk
  simp only [Bool.and_eq_true, decide_eq_true_eq, List.all_eq_true]
  exact ⟨fun ⟨⟨⟨⟨h1, h2⟩, h3⟩, h4⟩, h5⟩ => ⟨h1, h2, h3, h5, h4⟩, fun ⟨h1, h2, h3, h5, h4⟩ => ⟨⟨⟨⟨h1, h2⟩, h3⟩, h4⟩, h5⟩⟩
theorem ddup_eq {α : Type} [DecidableEq α] : ∀ {xs : List α}, (ddup xs).length ≤ xs.length ∧ ((ddup xs).length = xs.length ↔ xs.Nodup)
  | [] => ⟨Nat.le_refl _, fun _ => List.nodup_nil, fun _ => rfl⟩
  | x :: xs => by
    have ⟨h1, h2⟩ := @ddup_eq α _ xs
    unfold ddup
    split
    · rename_i h
      refine ⟨by rw [List.length_cons]; omega, fun e => by rw [List.length_cons] at e; omega, fun e => ?_⟩
      exact absurd (mem_ddup.mp h) (List.nodup_cons.mp e).1
    · rename_i h
      rw [List.length_cons, List.length_cons]
      refine ⟨by omega, fun e => List.nodup_cons.mpr ⟨fun z => h (mem_ddup.mpr z), h2.mp (by omega)⟩, fun e => ?_⟩
      rw [h2.mpr (List.nodup_cons.mp e).2]
theorem CallW.imp {call : Nat → List AV → Bool → MM AV} {k : Nat} {args : List AV} {keep : Bool} {Q Q' X : AV → AS → Prop} (h : CallW call k args keep s Q X) (k' : ∀ v s, Q v s → Q' v s) : CallW call k args keep s Q' X := ⟨h.run.imp k'⟩
/-! ### calls reckoned by the kernel -/
theorem frame0 {m : MM AV} {s : AS} {r : Rs AV} (h : frameM (some 0) m ⟨[], false⟩ = r) : (∀ w, r = .ok w ⟨[], false⟩ → frameM (some 0) m s = .ok w s) ∧ ∀ x, r = .exc x ⟨[], false⟩ → frameM (some 0) m s = .exc x s := by
  unfold frameM at h ⊢
  simp only [List.take_zero, List.drop_zero] at h ⊢
  rw [if_pos ⟨Nat.zero_le _, rfl⟩] at h ⊢
  cases e : m ⟨[], false⟩ with
  | ok w s2 =>
    rw [e] at h
    simp only [List.append_nil, ite_self] at h
    refine ⟨fun w' hw => ?_, fun x hx => ?_⟩
    · have h : Rs.ok w (if s2.cells.length = 0 ∧ s2.opn = false then ⟨s2.cells, false⟩ else s2) = r := by rw [← h]; split <;> rfl
      rw [hw] at h
      simp only [Rs.ok.injEq] at h
      obtain ⟨rfl, h2⟩ := h
      have g : s2.cells.length = 0 ∧ s2.opn = false := by
        split at h2
        · assumption
        · rw [h2]; exact ⟨rfl, rfl⟩
      simp only
      rw [if_pos g, List.length_eq_zero_iff.mp g.1]
      rfl
    · rw [hx] at h
      split at h <;> cases h
  | exc x s2 =>
    rw [e] at h
    simp only [List.append_nil] at h
    refine ⟨fun w' hw => ?_, fun y hy => ?_⟩
    · rw [hw] at h
      split at h <;> cases h
    · have h : Rs.exc x (if s2.cells.length = 0 ∧ s2.opn = false then ⟨s2.cells, false⟩ else s2) = r := by rw [← h]; split <;> rfl
      rw [hy] at h
      simp only [Rs.exc.injEq] at h
      obtain ⟨rfl, h2⟩ := h
      have g : s2.cells.length = 0 ∧ s2.opn = false := by
        split at h2
        · assumption
        · rw [h2]; exact ⟨rfl, rfl⟩
      simp only
      rw [if_pos g, List.length_eq_zero_iff.mp g.1]
      rfl
  | stuck =>
    rw [e] at h
    refine ⟨fun w hw => ?_, fun x hx => ?_⟩
    · rw [hw] at h; cases h
    · rw [hx] at h; cases h
theorem callF_0 {P : List FnD} {d k n : Nat} {f : FnD} {args : List AV} {s : AS} [u : UpL n 0 args] (hn : n ≤ 11) (hf : P[k]? = some f) (hh : f.hd = false) :
    (∀ w, callF P (d + 1) k args false ⟨[], false⟩ = .ok w ⟨[], false⟩ → callF P (d + 1) k args false s = .ok w s) ∧ ∀ x, callF P (d + 1) k args false ⟨[], false⟩ = .exc x ⟨[], false⟩ → callF P (d + 1) k args false s = .exc x s := by
  unfold callF
  rw [hf]
  simp only
  split
  · rw [hh, u.h hn]
    exact ⟨fun w h => (frame0 (s := s) h).1 w rfl, fun x h => (frame0 (s := s) h).2 x rfl⟩
  · exact And.intro (fun w h => nomatch h) (fun x h => nomatch h)
theorem CallW.eval {P : List FnD} {d k n : Nat} {f : FnD} {args : List AV} {w : AV} {s : AS} {Q X : AV → AS → Prop} [u : UpL n 0 args] (hn : n ≤ 11) (hf : P[k]? = some f) (hh : f.hd = false) (e : callF P (d + 1) k args false ⟨[], false⟩ = .ok w ⟨[], false⟩) (h : Q w s) : CallW (callF P (d + 1)) k args false s Q X :=
  ⟨by rw [(callF_0 hn hf hh).1 w e]; exact h⟩
theorem CallW.evalX {P : List FnD} {d k n : Nat} {f : FnD} {args : List AV} {x : AV} {s : AS} {Q X : AV → AS → Prop} [u : UpL n 0 args] (hn : n ≤ 11) (hf : P[k]? = some f) (hh : f.hd = false) (e : callF P (d + 1) k args false ⟨[], false⟩ = .exc x ⟨[], false⟩) (h : X x s) : CallW (callF P (d + 1)) k args false s Q X :=
  ⟨by rw [(callF_0 hn hf hh).2 x e]; exact h⟩
theorem NewW.evalX {call : Nat → List AV → Bool → MM AV} {c k n : Nat} {zs : List AV} {perm : List PArg} {x : AV} {s : AS} {Q X : AV → AS → Prop} [u : UpL n 0 zs] (hn : n ≤ 11) (e : newM call false c k zs perm ⟨[], false⟩ = .exc x ⟨[], false⟩) (h : X x s) : NewW call false c k zs perm s Q X := ⟨by
  unfold newM at e ⊢
  simp only at e ⊢
  rw [u.h hn] at e ⊢
  rw [(frame0 (s := s) e).2 x rfl]
  exact h⟩
/-- the same cells but for an instance -/
theorem seq_set {cs : List AO} {j c : Nat} {fs gs : List (Str × AV)} {v : AV} {b : Bool} {xs : List AV} (hj : cs[j]? = some (.ins c fs)) (e : seqOf cs v = some (b, xs)) : seqOf (cs.set j (.ins c gs)) v = some (b, xs) := by
  cases v with
  | ref k =>
    unfold seqOf at e ⊢
    simp only at e ⊢
    have ne : j ≠ k := fun z => by
      subst z
      rw [hj] at e
      cases e
    rw [List.getElem?_set_ne ne]
    exact e
  | _ => exact e
theorem ClueAt.set {cs : List AO} {j c : Nat} {fs gs : List (Str × AV)} {v : AV} {q : Int × List Int} (hj : cs[j]? = some (.ins c fs)) (h : ClueAt cs v q) : ClueAt (cs.set j (.ins c gs)) v q := by
  obtain ⟨b, w, b2, h1, h2⟩ := h.ex
  exact ⟨b, w, b2, seq_set hj h1, seq_set hj h2⟩
/-- an instance of Book -/
def bookF (many : Int) (cls : List (Int × List Int)) : List (Str × AV) := [("many", .int many), ("clues", .tup (cls.map clT))]
/-- a clue as a book keeps it -/
def clS (c : Int × List Int) : Int × List Int := (c.1, sortI c.2)
theorem erase_map2 {α : Type} {f : α → AV} : ∀ (xs : List α) (j : Nat), (xs.map f).eraseIdx j = (xs.eraseIdx j).map f
  | [], _ => rfl
  | x :: xs, 0 => rfl
  | x :: xs, j + 1 => by simp only [List.map_cons, List.eraseIdx_cons_succ, erase_map2 xs j]
theorem perm_erase2 {α : Type} : ∀ {xs : List α} {j : Nat} {z : α}, xs[j]? = some z → xs.Perm (z :: xs.eraseIdx j)
  | [], _, _, h => by simp at h
  | x :: xs, 0, z, h => by
    simp at h
    subst h
    exact .refl _
  | x :: xs, j + 1, z, h => by
    have := perm_erase2 (xs := xs) (j := j) (z := z) (by simpa using h)
    rw [List.eraseIdx_cons_succ]
    exact (this.cons x).trans (.swap z x _)
theorem eqvA_nil {ds : List PyData} : PyData.eqv (.list ds) (.list []) = ds.isEmpty := eqv_nil
theorem OpW.neNilA {α : Type} [DecidableEq α] [AD α] {k : Nat} {xs : List α} {s : AS} {Q : AV → AS → Prop} (e : s.cells[k]? = some (.lst (xs.map AD.toA))) (h : Q (.bl (!xs.isEmpty)) s) : OpW (cmpM .ne (.ref k) (.lst []) s) Q := ⟨fun X => by
  have hs := AD.shal (α := α)
  refine wk_ne ⟨.list (xs.map PySem.W.Datum.toD), ?_, .list [], rfl, ⟨shaped_L xs, by decide +kernel⟩, ?_⟩
  · show (match s.cells[k]? with | some (.lst xs) => _ | some (.frz v) => _ | _ => _) = _
    rw [e]
    simp only
    rw [mapO_map (h := PySem.W.Datum.toD) fun x => AD.py s.cells 11 x (by omega)]
  · rw [eqv_nil]
    cases xs <;> exact h⟩
theorem okAll_cons {x : PyData} {xs : List PyData} (h1 : okD x = true) (h2 : okAll xs = true) : okAll (x :: xs) = true := by
  unfold okAll
  rw [h1, h2]; rfl
theorem okAll_nil : okAll [] = true := by unfold okAll; rfl
theorem okD_int {i : Int} (h : i.natAbs < 1000000) : okD (.int i) = true := by unfold okD; exact decide_eq_true h
theorem okD_tup {xs : List PyData} (h : okAll xs = true) : okD (.tuple xs) = true := by unfold okD; exact h
theorem okD_lst {xs : List PyData} (h : okAll xs = true) : okD (.list xs) = true := by unfold okD; exact h
theorem szD_tup {xs : List PyData} : szD (.tuple xs) = 3 + szAll xs := by rw [szD]
theorem szD_lst {xs : List PyData} : szD (.list xs) = 3 + szAll xs := by rw [szD]
theorem szD_int {i : Int} : szD (.int i) = 7 := by rw [szD]
theorem szAll_cons {x : PyData} {xs : List PyData} : szAll (x :: xs) = szD x + 2 + szAll xs := by rw [szAll]
theorem szAll_nil : szAll [] = 0 := by rw [szAll]
theorem szAll_le {α : Type} {f : α → PyData} {n : Nat} : ∀ {xs : List α}, (∀ x ∈ xs, szD (f x) ≤ n) → szAll (xs.map f) ≤ (n + 2) * xs.length
  | [], _ => by rw [List.map_nil, szAll_nil]; exact Nat.zero_le _
  | x :: xs, h => by
    rw [List.map_cons, szAll_cons, List.length_cons, Nat.mul_succ]
    have h1 := h x List.mem_cons_self
    have h2 := szAll_le fun y hy => h y (List.mem_cons_of_mem _ hy)
    omega
theorem depth_le {α : Type} {f : α → PyData} {n : Nat} : ∀ {xs : List α}, (∀ x ∈ xs, (f x).depth ≤ n) → PyData.depthAll (xs.map f) ≤ n
  | [], _ => by rw [List.map_nil, PyData.depthAll]; exact Nat.zero_le _
  | x :: xs, h => by
    rw [List.map_cons, PyData.depthAll]
    have h1 := h x List.mem_cons_self
    have h2 := depth_le fun y hy => h y (List.mem_cons_of_mem _ hy)
    omega
theorem OpW.setIxR {k j : Nat} {i : Int} {v : AV} {xs : List AV} {s : AS} {Q : Unit → AS → Prop} (e : s.cells[k]? = some (.lst xs)) (hi : L2.ixN xs.length i = some j) (hn : newer k 12 v = false) (h : Q () ⟨s.cells.set k (.lst (xs.set j v)), s.opn⟩) : OpW (setIxM (.ref k) (.int i) v s) Q := ⟨fun X => by
  have e2 : setIxM (.ref k) (.int i) v s = .ok () ⟨s.cells.set k (.lst (xs.set j v)), s.opn⟩ := by
    unfold setIxM
    simp only
    rw [e]
    simp only
    rw [hi]
    simp only
    rw [hn, Bool.or_false]
  rw [e2]; exact h⟩
theorem sz_pair (p : Int × Int) : szD (PySem.W.Datum.toD p) = 21 := by
  show szD (.tuple [.int p.1, .int p.2]) = 21
  simp [szD, szAll]
theorem mapO_mem {α β : Type} {f : β → Option γ} {g : α → β} {h : α → γ} : ∀ {xs : List α}, (∀ x ∈ xs, f (g x) = some (h x)) → mapO f (xs.map g) = some (xs.map h)
  | [], _ => rfl
  | x :: xs, e => by
    rw [List.map_cons]
    unfold mapO
    rw [e x List.mem_cons_self, mapO_mem fun y hy => e y (List.mem_cons_of_mem _ hy)]
    rfl
class PvK (n : outParam Nat) (kvs : List (AV × AV)) : Prop where h : (kvs.map (·.1)).all (pv n) = true ∧ (kvs.map (·.2)).all (pv n) = true
instance : PvK 0 [] := ⟨rfl, rfl⟩
instance {n m k : Nat} {a b : AV} {r : List (AV × AV)} [p : PvD n a] [q : PvD m b] [t : PvK k r] : PvK (max (max n m) k) ((a, b) :: r) := ⟨by
  show (pv _ a && (r.map (·.1)).all (pv _)) = true
  rw [pv_up p.h (Nat.le_trans (Nat.le_max_left n m) (Nat.le_max_left _ k)), all_up t.h.1 (Nat.le_max_right _ _)]; rfl, by
  show (pv _ b && (r.map (·.2)).all (pv _)) = true
  rw [pv_up q.h (Nat.le_trans (Nat.le_max_right n m) (Nat.le_max_left _ k)), all_up t.h.2 (Nat.le_max_right _ _)]; rfl⟩
instance {n : Nat} {kvs : List (AV × AV)} [p : PvK n kvs] : PvD (n + 1) (.dct kvs) := ⟨by
  show ((kvs.map (·.1)).all (pv n) && (kvs.map (·.2)).all (pv n)) = true
  rw [p.h.1, p.h.2]; rfl⟩
theorem wB_app {st : CS → AE → AS → (AE → AS → Prop) → (AV → AS → Prop) → Prop} {b : List CS} : ∀ {a : List CS} {ρ : AE} {s : AS} {N : AE → AS → Prop} {R : AV → AS → Prop}, wB st (a ++ b) ρ s N R = wB st a ρ s (fun ρ s => wB st b ρ s N R) R
  | [], _, _, _, _ => rfl
  | x :: a, ρ, s, N, R => by
    show st x ρ s (fun ρ s => wB st (a ++ b) ρ s N R) R = st x ρ s (fun ρ s => wB st a ρ s _ R) R
    congr 1
    funext ρ s
    exact wB_app
theorem wB_two {st : CS → AE → AS → (AE → AS → Prop) → (AV → AS → Prop) → Prop} {l : List CS} {ρ : AE} {s : AS} {N : AE → AS → Prop} {R : AV → AS → Prop} (a k : Nat) (h : wB st ((l.drop a).take k) ρ s (fun ρ s => wB st (l.drop (a + k)) ρ s N R) R) : wB st (l.drop a) ρ s N R := by
  rw [← List.take_append_drop k (l.drop a), wB_app, List.drop_drop]
  exact h
end
end Ev

set_option maxHeartbeats 4000000
namespace K51
section
open PySem PySem.Spec PyProof.Rows Ev
local macro_rules | `(tactic| sizeOf_list_dec) => `(tactic| first
  | with_reducible refine Lv.at inferInstance (by decide) (by with_unfolding_all exact rfl) (by with_unfolding_all exact Nat.le_of_ble_eq_true rfl) ?_
  | with_reducible refine Lv.cell (by with_unfolding_all exact rfl) inferInstance (by decide) (by with_unfolding_all exact rfl) (by with_unfolding_all exact Nat.le_of_ble_eq_true rfl) ?_
  | with_reducible refine Lx.r1 inferInstance (by decide) (by with_unfolding_all exact rfl) (by with_unfolding_all exact Nat.le_of_ble_eq_true rfl) ?_
  | with_reducible refine Lx.r2 inferInstance inferInstance (by decide) (by with_unfolding_all exact rfl) (by with_unfolding_all exact Nat.le_of_ble_eq_true rfl) ?_
  | with_reducible refine Lx.at inferInstance (by decide) (by with_unfolding_all exact rfl) (by with_unfolding_all exact Nat.le_of_ble_eq_true rfl) ?_
  | with_reducible refine OpW.leave (by with_unfolding_all exact rfl) (by with_unfolding_all exact Nat.le_of_eq rfl) ?_
  | ((with_reducible refine OpW.isi [true] ?_); (refine ⟨_, rfl, ?_, ?_⟩); (· decide +kernel))
  | ((with_reducible refine OpW.isi [false] ?_); (refine ⟨_, rfl, ?_, ?_⟩); (· decide +kernel))
  | ((with_reducible refine OpW.isi [true, false] ?_); (refine ⟨_, rfl, ?_, ?_⟩); (· decide +kernel))
  | ((with_reducible refine OpW.isi [false, true] ?_); (refine ⟨_, rfl, ?_, ?_⟩); (· decide +kernel))
  | ((with_reducible refine OpW.isi [false, false] ?_); (refine ⟨_, rfl, ?_, ?_⟩); (· decide +kernel))
  | with_reducible refine OpW.eqI ?_
  | with_reducible refine OpW.neI ?_
  | with_reducible refine OpW.cat (by first | (simp only [List.length_map, List.length_append, List.length_cons, List.length_nil]; omega) | decide) ?_
  | ((fail_if_success with_reducible refine (OpW.cat ?_ ?_ : OpW (binM .add (.lst _) (.lst _) _) _)); with_reducible refine OpW.of (by with_unfolding_all exact rfl) ?_)
  | with_reducible refine br_t (by with_unfolding_all exact rfl) ?_
  | with_reducible refine br_f (by with_unfolding_all exact rfl) ?_
  | with_reducible refine And.intro (by first | omega | decide | exact And.intro rfl (Nat.le_of_ble_eq_true rfl) | with_unfolding_all exact rfl) ?_
  | ((fail_if_success with_reducible refine (id ?_ : OpW _ _)); (fail_if_success with_reducible refine (id ?_ : CallW _ _ _ _ _ _ _)); (fail_if_success with_reducible refine (id ?_ : _ ∧ _)); (fail_if_success with_reducible refine (id ?_ : ForW _ _ _ _ _ _ _)); (fail_if_success with_reducible refine (id ?_ : ForCW _ _ _ _ _ _ _ _)); (fail_if_success with_reducible refine (id ?_ : WhileW _ _ _ _ _ _ _ _)); (fail_if_success with_reducible refine (id ?_ : NewW _ _ _ _ _ _ _ _ _)); (fail_if_success with_reducible refine (id ?_ : HrdW _ _ _ _ _)); (fail_if_success with_reducible refine (id ?_ : Lv _ _ _ _)); (fail_if_success with_reducible refine (id ?_ : Lx _ _ _ _)); (fail_if_success with_reducible refine (id ?_ : XpW _ _)); (fail_if_success with_reducible refine (id ?_ : CompW _ _ _ _ _)); (fail_if_success with_reducible refine (id ?_ : CompCW _ _ _ _ _)); conv => whnf))
local macro_rules | `(tactic| array_get_dec) => `(tactic| try (sizeOf_list_dec; try (sizeOf_list_dec; try (sizeOf_list_dec; try (sizeOf_list_dec; try (sizeOf_list_dec; try (sizeOf_list_dec; try (sizeOf_list_dec; try (sizeOf_list_dec; try (sizeOf_list_dec; try (sizeOf_list_dec; try (sizeOf_list_dec; try (sizeOf_list_dec; try (sizeOf_list_dec; try (sizeOf_list_dec; try (sizeOf_list_dec; try (sizeOf_list_dec; try (sizeOf_list_dec; try (sizeOf_list_dec; try (sizeOf_list_dec; try (sizeOf_list_dec; try (sizeOf_list_dec; try (sizeOf_list_dec; try (sizeOf_list_dec; try (sizeOf_list_dec; try (sizeOf_list_dec; try (sizeOf_list_dec; try (sizeOf_list_dec; try (sizeOf_list_dec; try (sizeOf_list_dec; try (sizeOf_list_dec; try (sizeOf_list_dec; try (sizeOf_list_dec; try (sizeOf_list_dec; try (sizeOf_list_dec; try (sizeOf_list_dec; try (sizeOf_list_dec; try (sizeOf_list_dec; try (sizeOf_list_dec; try (sizeOf_list_dec; try (sizeOf_list_dec)))))))))))))))))))))))))))))))))))))))))

theorem pw1 {c t : Int} (h1 : 0 ≤ t) (h2 : t < 2 ^ 20) : 0 ≤ (5 : Int) ∧ (5 : Int) ≤ 1000000 ∧ (c % 2147483543 + 47737 * t + 2750).natAbs < 2 ^ 64 := by omega
theorem pw2 {x t : Int} (h1 : 0 ≤ t) (h2 : t < 2 ^ 20) (h3 : 0 ≤ x) (h4 : x < 2147483477) : 0 ≤ (3 : Int) ∧ (3 : Int) ≤ 1000000 ∧ (x * (2 * t + 2388) + 92381 * t * t + 47737).natAbs < 2 ^ 64 := by
  have a1 : x * (2 * t + 2388) ≤ 2147483477 * (2 * 2 ^ 20 + 2388) := Int.mul_le_mul (by omega) (by omega) (by omega) (by omega)
  have a2 : 0 ≤ x * (2 * t + 2388) := Int.mul_nonneg h3 (by omega)
  have a3 : 92381 * t * t ≤ 92381 * 2 ^ 20 * 2 ^ 20 := Int.mul_le_mul (by omega) (by omega) (by omega) (by omega)
  have a4 : 0 ≤ 92381 * t * t := Int.mul_nonneg (by omega) h1
  omega
theorem draw {d n : Nat} {m : Int} {c0 : AO} {rest : List AO} {o : Bool} {Q : AV → AS → Prop} {X} (hm : 0 < m) (hm2 : m < 1073741824) (hc : Cr n c0) (hn : n < 1048576) (h : ∀ x c1, 0 ≤ x → x < m → Cr (n + 1) c1 → Q (.int x) ⟨c1 :: rest, o⟩) :
    CallW (callF P (d + 1)) k_draw [.ref 0, .int m] false ⟨c0 :: rest, o⟩ Q X := by
  refine CallW.fr1 (f := d_draw) rfl rfl rfl (by decide) hc.cl ?_
  obtain ⟨cs, t, r, rfl, h1, h2⟩ := hc
  have fin : ∀ x t' r' : Int, 0 ≤ t' → t' ≤ t + 1 → Q (.int (x % m)) ⟨.lst [.lst (cs.map AV.int), .int t', .int r'] :: rest, o⟩ := fun x t' r' g1 g2 =>
    h _ _ (Int.emod_nonneg _ (by omega)) (Int.emod_lt_of_pos _ hm) ⟨cs, t', r', rfl, g1, by push_cast; omega⟩
  have fin0 : Q (.int 0) ⟨.lst [.lst (cs.map AV.int), .int t, .int r] :: rest, o⟩ := h 0 _ (by omega) hm ⟨cs, t, r, rfl, h1, by push_cast; omega⟩
  have hlen : ((cs.map AV.int).length : Int) = cs.length := by simp
  by_cases hcs : cs = []
  · subst hcs
    iterate 16
      array_get_dec
      first
        | exact fin0
        | exact fin _ _ _ (by omega) (by omega)
        | (refine OpW.eq_nil (ns := []) ?_)
        | (refine ⟨fun g => ?_, fun g => ?_⟩)
        | (refine And.intro (pw1 (by omega) (by omega)) ?_)
        | (refine And.intro (pw2 (by omega) (by omega) (Int.emod_nonneg _ (by decide)) (Int.emod_lt_of_pos _ (by decide))) ?_)
        | skip
  · have hl : 0 < cs.length := by cases cs <;> simp_all
    have he : cs.isEmpty = false := by cases cs <;> simp_all
    have hl2 : 0 < (cs.map AV.int).length := by simpa using hl
    have hl3 : (0 : Int) < ((cs.map AV.int).length : Nat) := by omega
    have b1 : ∀ x : Int, x % ((cs.map AV.int).length : Nat) < cs.length := fun x => by have := Int.emod_lt_of_pos x hl3; omega
    have b0 : ∀ x : Int, 0 ≤ x % ((cs.map AV.int).length : Nat) := fun x => Int.emod_nonneg _ (by omega)
    iterate 24
      array_get_dec
      first
        | exact fin _ _ _ (by omega) (by omega)
        | (refine OpW.eq_nil ?_; rw [he])
        | (refine OpW.itemI (b0 _) (b1 _) fun c => ?_)
        | (refine ⟨fun g => ?_, fun g => ?_⟩)
        | (refine And.intro (pw1 (by omega) (by omega)) ?_)
        | (refine And.intro (pw2 (by omega) (by omega) (Int.emod_nonneg _ (by decide)) (Int.emod_lt_of_pos _ (by decide))) ?_)
        | skip
section
variable {d n : Nat} {s : AS} {c0 : AO} {rest : List AO} {o keep : Bool} {Q : AV → AS → Prop} {X : AV → AS → Prop}
theorem one {xs : List AV} {a : Nat} [p : PvL a xs] (ha : a ≤ 10) (h0 : 0 < xs.length) (h1 : xs.length < 1073741824) (hc : Cr n c0) (hn : n < 1048576) (h : ∀ (j : Nat) v c1, xs[j]? = some v → Cr (n + 1) c1 → Q v ⟨c1 :: rest, o⟩) :
    CallW (callF P (d + 2)) k_one [.ref 0, .lst xs] false ⟨c0 :: rest, o⟩ Q X := by
  refine CallW.fr1 (f := d_one) rfl rfl rfl (by omega) hc.cl ?_
  array_get_dec
  refine draw (m := xs.length) (by omega) (by omega) hc hn fun x c1 g1 g2 g3 => ?_
  array_get_dec
  refine OpW.item g1 g2 fun j v _ hv => ?_
  refine Lv.at (n := a) ⟨List.all_eq_true.mp p.h v (List.mem_of_getElem? hv)⟩ (by omega) rfl (Nat.le_of_ble_eq_true rfl) ?_
  exact h j v c1 hv g3
theorem oneA (p : AV → Prop) {xs : List AV} {a : Nat} [PvL a xs] (hp : ∀ v ∈ xs, p v) (ha : a ≤ 10) (h0 : 0 < xs.length) (h1 : xs.length < 1073741824) (hc : Cr n c0) (hn : n < 1048576) (h : ∀ v c1, p v → Cr (n + 1) c1 → Q v ⟨c1 :: rest, o⟩) :
    CallW (callF P (d + 2)) k_one [.ref 0, .lst xs] false ⟨c0 :: rest, o⟩ Q X := one ha h0 h1 hc hn fun j v c1 hv hc1 => h v c1 (hp v (List.mem_of_getElem? hv)) hc1
theorem begin {ns : List Int} (h : ∀ c1, Cr 0 c1 → Q (.ref 0) ⟨[c1], false⟩) : CallW (callF P (d + 1)) k_begin [.lst (ns.map AV.int)] true ⟨[], false⟩ Q X := by
  refine CallW.fn (f := d_begin) rfl rfl rfl ?_
  array_get_dec
  rw [cut_map]
  refine comp_map (inj := AV.int) (out := AV.int) (fun x hx K hK => ?_) ?_
  · array_get_dec
    exact hK
  array_get_dec
  exact h _ ⟨_, 0, 0, rfl, by decide, by decide⟩
end

section
variable {d n : Nat} {s : AS} {c0 : AO} {rest : List AO} {o keep : Bool} {Q : AV → AS → Prop} {X : AV → AS → Prop}
/-- one of some things, cells kept -/
theorem oneK {xs : List AV} (h0 : 0 < xs.length) (h1 : xs.length < 1073741824) (hc : Cr n c0) (hn : n < 1048576) (h : ∀ (j : Nat) v c1, xs[j]? = some v → Cr (n + 1) c1 → Q v ⟨c1 :: rest, o⟩) :
    CallW (callF P (d + 2)) k_one [.ref 0, .lst xs] true ⟨c0 :: rest, o⟩ Q X := by
  refine CallW.fn (f := d_one) rfl rfl rfl ?_
  array_get_dec
  refine draw (m := xs.length) (by omega) (by omega) hc hn fun x c1 g1 g2 g3 => ?_
  array_get_dec
  refine OpW.item g1 g2 fun j v _ hv => ?_
  refine OpW.leaveK ?_
  rw [Bool.or_false]
  exact h j v c1 hv g3
/-- .. of plain values, none of them known -/
theorem oneB (p : AV → Prop) {xs : List AV} {a : Nat} (hp : ∀ v ∈ xs, p v ∧ pv a v = true) (ha : a ≤ 10) (h0 : 0 < xs.length) (h1 : xs.length < 1073741824) (hc : Cr n c0) (hn : n < 1048576) (h : ∀ v c1, p v → Cr (n + 1) c1 → Q v ⟨c1 :: rest, o⟩) :
    CallW (callF P (d + 2)) k_one [.ref 0, .lst xs] false ⟨c0 :: rest, o⟩ Q X := by
  haveI : PvL a xs := ⟨List.all_eq_true.mpr fun v hv => (hp v hv).2⟩
  exact oneA p (fun v hv => (hp v hv).1) ha h0 h1 hc hn h
end

section
variable {d n : Nat} {s : AS} {c0 : AO} {rest : List AO} {o keep : Bool} {Q : AV → AS → Prop} {X : AV → AS → Prop}
theorem isint {v : AV} {a : Nat} [PvD a v] (ha : a ≤ 11) (hv : knownT v = true) (h : Q (.bl (isI v)) s) : CallW (callF P (d + 1)) k_is_integer [v] false s Q X := by
  refine CallW.fr0 (f := d_is_integer) rfl rfl rfl (by omega) ?_
  cases v with
  | ins _ _ => cases hv
  | exc _ _ => cases hv
  | fn _ => cases hv
  | ref _ => cases hv
  | _ =>
    array_get_dec
    exact h
theorem within {v : AV} {a : Nat} {lo hi : Int} [PvD a v] (ha : a ≤ 11) (hv : knownT v = true) (h : Q (.bl (inB lo hi v)) s) : CallW (callF P (d + 2)) k_is_within [v, .int lo, .int hi] false s Q X := by
  refine CallW.fr0 (f := d_is_within) rfl rfl rfl (by omega) ?_
  array_get_dec
  refine isint ha hv ?_
  cases v with
  | int i =>
    array_get_dec
    refine ⟨fun g => ?_, fun g => ?_⟩
    · have h : Q (.bl (decide (lo ≤ i) && decide (i ≤ hi))) s := h
      rw [g, Bool.true_and] at h
      array_get_dec
      exact h
    · have h : Q (.bl (decide (lo ≤ i) && decide (i ≤ hi))) s := h
      rw [g, Bool.false_and] at h
      rw [g]
      array_get_dec
      exact h
  | ref _ => cases hv
  | fn _ => cases hv
  | _ =>
    array_get_dec
    exact h
theorem islist {v : AV} {b : Bool} {xs : List AV} (hv : seqOf s.cells v = some (b, xs)) (h : Q (.bl true) s) : CallW (callF P (d + 1)) k_is_list [v] false s Q X := by
  refine CallW.ro (f := d_is_list) rfl rfl rfl fun own S V => ?_
  have hv := ((V v List.mem_cons_self).seq S hv).1
  array_get_dec
  have e : tyName own v = some (if b then "tuple" else "list") := by
    cases v with
    | tup ys => simp only [seqOf, Option.some.injEq, Prod.mk.injEq] at hv; obtain ⟨rfl, rfl⟩ := hv; rfl
    | lst ys => simp only [seqOf, Option.some.injEq, Prod.mk.injEq] at hv; obtain ⟨rfl, rfl⟩ := hv; rfl
    | ref k =>
      unfold seqOf at hv
      unfold tyName
      simp only at hv ⊢
      cases ho : own[k]? with
      | none => rw [ho] at hv; cases hv
      | some o =>
        rw [ho] at hv
        cases o with
        | lst zs => simp only [Option.some.injEq, Prod.mk.injEq] at hv; obtain ⟨rfl, rfl⟩ := hv; rfl
        | frz w =>
          cases w with
          | lst zs => simp only [Option.some.injEq, Prod.mk.injEq] at hv; obtain ⟨rfl, rfl⟩ := hv; rfl
          | _ => cases hv
        | _ => cases hv
    | _ => simp [seqOf] at hv
  have e2 : isiM v ["list", "tuple"] ⟨own, false⟩ = .ok (.bl true) ⟨own, false⟩ := by
    unfold isiM
    simp only
    rw [e]
    cases b <;> rfl
  refine OpW.of e2 ?_
  refine Lv.at inferInstance (by decide) rfl (Nat.le_refl _) ?_
  exact ⟨List.take_length, h⟩
theorem islistF {v : AV} {a : Nat} [PvD a v] (ha : a ≤ 11) (hv : knownT v = true) (hn : isL v = false) (h : Q (.bl false) s) : CallW (callF P (d + 1)) k_is_list [v] false s Q X := by
  refine CallW.fr0 (f := d_is_list) rfl rfl rfl (by omega) ?_
  cases v with
  | ins _ _ => cases hv
  | exc _ _ => cases hv
  | fn _ => cases hv
  | ref _ => cases hv
  | lst _ => cases hn
  | tup _ => cases hn
  | _ =>
    array_get_dec
    exact h
theorem need_integer {v : AV} {a : Nat} {x : Str} {lo hi : Int} [PvD a v] (ha : a ≤ 11) (hv : knownT v = true) (h1 : inB lo hi v = true → Q .non s) (h2 : inB lo hi v = false → X (.exc x_BadNumber [("part", .str x)]) s) :
    CallW (callF P (d + 3)) k_need_integer [v, .str x, .int lo, .int hi] false s Q X := by
  refine CallW.fr0 (f := d_need_integer) rfl rfl rfl (by omega) ?_
  array_get_dec
  refine within ha hv ?_
  array_get_dec
  refine ⟨fun g => ?_, fun g => ?_⟩
  · array_get_dec
    exact h2 (by simpa using g)
  · array_get_dec
    exact h1 (by simpa using g)
end

section
variable {d n : Nat} {s : AS} {c0 : AO} {rest : List AO} {o keep : Bool} {Q : AV → AS → Prop} {X : AV → AS → Prop}
theorem unlike {v : AV} {b : Bool} {ns : List Int} (hv : seqOf s.cells v = some (b, ns.map AV.int)) (hl : ns.length < 64) (h : Q (.bl (decide ns.Nodup)) s) : CallW (callF P (d + 1)) k_are_unlike [v] false s Q X := by
  refine CallW.ro (f := d_are_unlike) rfl rfl rfl fun own S V => ?_
  have hv := ((V v List.mem_cons_self).seq S hv).1
  array_get_dec
  refine OpW.lenI hv hl ?_
  array_get_dec
  refine OpW.lenS hv ?_
  array_get_dec
  have e : decide (((ddup ns).length : Int) = ((ns.map AV.int).length : Nat)) = decide ns.Nodup := by
    rw [List.length_map]
    by_cases h : ns.Nodup
    · rw [decide_eq_true h, decide_eq_true]
      rw [ddup_eq.2.mpr h]
    · rw [decide_eq_false h, decide_eq_false]
      intro e
      exact h (ddup_eq.2.mp (by omega))
  rw [e]
  refine Lv.ro inferInstance (by decide) ⟨rfl, h⟩
theorem isclue {v : AV} {many : Int} {c : Int × List Int} (hv : ClueAt s.cells v c) (h : Q (.bl (clueOk many c)) s) : CallW (callF P (d + 3)) k_is_clue [v, .int many] false s Q X := by
  refine CallW.ro (f := d_is_clue) rfl rfl rfl fun own S V => ?_
  obtain ⟨b, w, b2, hv, hw⟩ := (hv.vis S (V v List.mem_cons_self)).ex
  array_get_dec
  refine islist hv ?_
  array_get_dec
  refine OpW.lenS hv ?_
  array_get_dec
  refine OpW.of (a := .int c.1) (s := ⟨own, false⟩) (idx_seq hv rfl) ?_
  array_get_dec
  refine within (by decide) rfl ?_
  have out : ∀ (b : Bool), clueOk many c = b → Lv own (.bl b) ⟨own, false⟩ fun w cs => cs = own ∧ Q w s := fun b e => by
    rw [e] at h
    exact Lv.ro inferInstance (by decide) ⟨rfl, h⟩
  have idx : idxM v (.int 1) ⟨own, false⟩ = .ok w ⟨own, false⟩ := idx_seq hv rfl
  array_get_dec
  refine ⟨fun g => ?_, fun g => ?_⟩
  · array_get_dec
    refine out false ?_
    have g : inB 0 8 (.int c.1) = false := by simpa using g
    have g : (decide (0 ≤ c.1) && decide (c.1 ≤ 8)) = false := g
    unfold clueOk
    rw [g]; rfl
  have g1 : inB 0 8 (.int c.1) = true := by simpa using g
  have g1 : (decide (0 ≤ c.1) && decide (c.1 ≤ 8)) = true := g1
  array_get_dec
  refine OpW.of idx ?_
  array_get_dec
  refine islist hw ?_
  array_get_dec
  refine OpW.of idx ?_
  array_get_dec
  refine OpW.lenS hw ?_
  array_get_dec
  refine ⟨fun g => ?_, fun g => ?_⟩
  · array_get_dec
    refine out false ?_
    have g : (8 : Int) < ((c.2.map AV.int).length : Nat) := by simpa using g
    rw [List.length_map] at g
    unfold clueOk
    rw [g1, decide_eq_false (p := c.2.length ≤ 8) (by omega)]; simp
  have g2 : c.2.length ≤ 8 := by
    have g : ¬ (8 : Int) < ((c.2.map AV.int).length : Nat) := by simpa using g
    rw [List.length_map] at g
    omega
  array_get_dec
  refine OpW.of idx ?_
  have turn : ∀ x ∈ c.2, ∀ K : Option AV → AS → Prop, K (some (.bl (decide (0 ≤ x) && decide (x < many)))) ⟨own, false⟩ → CallW (callF P (d + 2)) k_is_within [.int x, .int 0, .int (many - 1)] false ⟨own, false⟩ (fun v s2 => K (some v) s2) NoX := fun x hx K hK => by
    refine within (by decide) rfl ?_
    have e : inB 0 (many - 1) (.int x) = (decide (0 ≤ x) && decide (x < many)) := by
      show (decide (0 ≤ x) && decide (x ≤ many - 1)) = _
      rw [show decide (x ≤ many - 1) = decide (x < many) from decide_eq_decide.mpr (by omega)]
    rw [e]; exact hK
  rcases seq_src hw with hs | ⟨k, hk, hs⟩
  all_goals
    refine OpW.of (hs false) ?_
    array_get_dec
    first
      | refine comp_map (xs := c.2) (inj := AV.int) (out := fun x => .bl (decide (0 ≤ x) && decide (x < many))) (fun x hx K hK => ?_) ?_
      | refine comp_mapC (xs := c.2) (inj := AV.int) (out := fun x => .bl (decide (0 ≤ x) && decide (x < many))) hk rfl (fun x hx K hK => ?_) ?_
    · array_get_dec
      exact turn x hx K hK
    array_get_dec
    refine OpW.allA ?_
    array_get_dec
    refine ⟨fun g => ?_, fun g => ?_⟩
    · array_get_dec
      refine OpW.of idx ?_
      array_get_dec
      refine unlike hw (by omega) ?_
      array_get_dec
      refine out _ ?_
      unfold clueOk
      rw [g1, g, decide_eq_true g2]; simp
    · rw [g]
      array_get_dec
      refine out _ ?_
      unfold clueOk
      rw [g]; simp
end

section
variable {d n : Nat} {s : AS} {c0 : AO} {rest : List AO} {o keep : Bool} {Q : AV → AS → Prop} {X : AV → AS → Prop}
abbrev bookV (many : Int) (cls : List (Int × List Int)) : AV := .ins c_Book (bookF many cls)
theorem asgT_seq {cs : List AO} {ts : List Tg} {v : AV} {ρ : AE} {b : Bool} {xs : List AV} (e : seqOf cs v = some (b, xs)) : asgT cs (.tup ts) v ρ = asgTs cs ts xs ρ := by
  unfold asgT
  rw [e]
theorem set_len {j : Nat} {a : AO} (hj : s.cells[j]? = some a) : j < s.cells.length := (List.getElem?_eq_some_iff.mp hj).1
theorem book_init {j : Nat} {cv : AV} {b : Bool} {many : Int} {L : List (AV × (Int × List Int))} (hj : s.cells[j]? = some (.ins c_Book [])) (hv : seqOf s.cells cv = some (b, L.map (·.1))) (hL : ∀ p ∈ L, ClueAt s.cells p.1 p.2) (h0 : 0 ≤ many) (h1 : many ≤ 60000) (hl : L.length ≤ 120000) (ok : ∀ p ∈ L, CL many p.2)
    (h : Q .non ⟨s.cells.set j (.ins c_Book (bookF many (L.map fun p => clS p.2))), s.opn⟩) : CallW (callF P (d + 4)) k_Book___init__ [.ref j, .int many, cv] true s Q X := by
  refine CallW.fn (f := d_Book___init__) rfl rfl rfl ?_
  array_get_dec
  refine need_integer (by decide) rfl (fun _ => ?_) fun g => ?_
  rotate_left
  · have g : (decide (0 ≤ many) && decide (many ≤ 60000)) = false := g
    rw [decide_eq_true h0, decide_eq_true h1] at g
    cases g
  array_get_dec
  refine islist hv ?_
  array_get_dec
  refine OpW.lenS hv ?_
  array_get_dec
  rw [List.length_map, decide_eq_false (by omega)]
  array_get_dec
  have hlt := set_len hj
  have big : (L.map fun p => AV.bl (clueOk many p.2)).all (fun _ => true) = true := by simp
  rcases seq_src hv with hs | ⟨k, hk, hs⟩
  all_goals
    refine OpW.of (hs false) ?_
    array_get_dec
    first
      | refine comp_map (xs := L) (inj := (·.1)) (out := fun p => .bl (clueOk many p.2)) (fun p hp K hK => ?_) ?_
      | refine comp_mapC (xs := L) (inj := (·.1)) (out := fun p => .bl (clueOk many p.2)) hk rfl (fun p hp K hK => ?_) ?_
    · array_get_dec
      exact isclue (hL p hp) hK
    array_get_dec
    refine OpW.allA ?_
    rw [show L.all (fun p => clueOk many p.2) = true from List.all_eq_true.mpr fun p hp => clueOk_CL.mpr (ok p hp)]
    array_get_dec
    refine OpW.setAt hj (by decide) (newer_d (by decide)) ?_
    array_get_dec
    have hv2 := seq_set (gs := [("many", AV.int many)]) hj hv
    have hL2 : ∀ p ∈ L, ClueAt _ p.1 p.2 := fun p hp => (hL p hp).set (gs := [("many", AV.int many)]) hj
    have fin : ∀ st : AS, st = ⟨s.cells.set j (.ins c_Book [("many", .int many)]), false⟩ → OpW (setAtM (.ref j) "clues" (.tup ((L.map fun p => clS p.2).map clT)) st) fun _ s2 => OpW (leaveV s true .non s2) Q := fun st e => by
      subst e
      refine OpW.setAt (c := c_Book) (fs := [("many", .int many)]) (by show (s.cells.set j _)[j]? = _; rw [List.getElem?_set_self hlt]) (Nat.le_of_ble_eq_true rfl) (newer_d (n := 3) (by decide)) ?_
      refine OpW.leaveK ?_
      show Q .non ⟨(s.cells.set j _).set j _, s.opn || false⟩
      rw [List.set_set, Bool.or_false]
      exact h
    rcases seq_src hv2 with hs | ⟨k, hk, hs⟩
    all_goals
      refine OpW.of (hs false) ?_
      array_get_dec
      first
        | refine comp_map (xs := L) (inj := (·.1)) (out := fun p => clT (clS p.2)) (fun p hp K hK => ?_) ?_
        | refine comp_mapC (xs := L) (inj := (·.1)) (out := fun p => clT (clS p.2)) hk rfl (fun p hp K hK => ?_) ?_
      · obtain ⟨b3, w, b4, e1, e2⟩ := (hL2 p hp).ex
        rw [asgT_seq e1]
        array_get_dec
        refine OpW.sortedI e2 ?_
        array_get_dec
        exact hK
      array_get_dec
      have fin := fin _ rfl
      rw [List.map_map] at fin
      exact fin
end

section
variable {d n : Nat} {s : AS} {c0 : AO} {rest : List AO} {o keep : Bool} {Q : AV → AS → Prop} {X : AV → AS → Prop}
/-- a new instance, where cells are only read -/
theorem NewW.ro {call : Nat → List AV → Bool → MM AV} {c k : Nat} {zs : List AV} {perm : List PArg} {s : AS} {Q X : AV → AS → Prop}
    (h : ∀ own, Sees s own → (∀ v ∈ zs, Vis s own v) → ∃ args, mapO (argOf (.ref own.length :: zs)) perm = some args ∧ CallW call k args true ⟨own ++ [.ins c []], false⟩ (fun v s2 => v = .non ∧ Lv own (.ref own.length) s2 fun w cs => cs = own ∧ Q w s) fun x s2 => Lx own x s2 fun y cs => cs = own ∧ X y s) : NewW call false c k zs perm s Q X := ⟨by
  have plain : Wp (newP call false c k zs perm s) Q X := by
    obtain ⟨args, e, h⟩ := h s.cells ⟨List.prefix_refl _, .inl rfl⟩ fun _ _ => .inl rfl
    have h := h.run
    unfold newP
    rw [e]
    simp only
    revert h
    cases call k args true { cells := s.cells ++ [.ins c []], opn := false } with
    | ok v s2 => exact fun ⟨e, h⟩ => by subst e; exact (leaveV_o (o := s.opn) h).imp fun w s2 ⟨e1, e2, q⟩ => by cases s2; cases e1; cases e2; exact q
    | exc x s2 => exact fun h => (leaveX_o (o := s.opn) h).mono (fun _ _ h => h) fun w s2 ⟨e1, e2, q⟩ => by cases s2; cases e1; cases e2; exact q
    | stuck => exact fun h => h.elim
  show Wp (frameM (topsO (topV DPT) zs) (newP call false c k zs perm) s) Q X
  unfold frameM
  cases e : topsO (topV DPT) zs with
  | none => exact plain
  | some q =>
    simp only
    split
    · rename_i hc
      have hlen : (s.cells.take q).length = q := by rw [List.length_take]; omega
      obtain ⟨args, e1, h2⟩ := h (s.cells.take q) ⟨List.take_prefix _ _, .inr (by rw [hlen]; exact hc.2)⟩ fun v hv => .inr fun j hj => by rw [hlen]; exact topsO_lt e j v hv hj
      have h3 : Wp (newP call false c k zs perm ⟨s.cells.take q, false⟩) (fun w s2 => (s2.opn = false ∧ s2.cells = s.cells.take q) ∧ Q w s) (fun w s2 => (s2.opn = false ∧ s2.cells = s.cells.take q) ∧ X w s) := by
        have h2 := h2.run
        unfold newP
        rw [e1]
        simp only
        revert h2
        cases call k args true { cells := s.cells.take q ++ [.ins c []], opn := false } with
        | ok v s2 => exact fun ⟨e, h⟩ => by subst e; exact (leaveV_o (o := false) h).imp fun w s2 ⟨e1, e2, q⟩ => ⟨⟨e1, e2⟩, q⟩
        | exc x s2 => exact fun h => (leaveX_o (o := false) h).mono (fun _ _ h => h) fun w s2 ⟨e1, e2, q⟩ => ⟨⟨e1, e2⟩, q⟩
        | stuck => exact fun h => h.elim
      revert h3
      cases newP call false c k zs perm ⟨s.cells.take q, false⟩ with
      | ok v s2 =>
        intro h3
        simp only
        rw [if_pos ⟨by rw [h3.1.2, hlen], h3.1.1⟩, h3.1.2, List.take_append_drop]
        exact h3.2
      | exc x s2 =>
        intro h3
        simp only
        rw [if_pos ⟨by rw [h3.1.2, hlen], h3.1.1⟩, h3.1.2, List.take_append_drop]
        exact h3.2
      | stuck => exact fun h3 => h3.elim
    · exact plain⟩
theorem seq_more {cs more : List AO} {v : AV} {b : Bool} {xs : List AV} (e : seqOf cs v = some (b, xs)) : seqOf (cs ++ more) v = some (b, xs) := by
  cases v with
  | ref k =>
    unfold seqOf at e ⊢
    simp only at e ⊢
    cases ho : cs[k]? with
    | none => rw [ho] at e; cases e
    | some a =>
      rw [List.getElem?_append_left (List.getElem?_eq_some_iff.mp ho).1, ho]
      rw [ho] at e
      exact e
  | _ => exact e
theorem ClueAt.more {cs more : List AO} {v : AV} {q : Int × List Int} (h : ClueAt cs v q) : ClueAt (cs ++ more) v q := by
  obtain ⟨b, w, b2, h1, h2⟩ := h.ex
  exact ⟨b, w, b2, seq_more h1, seq_more h2⟩
theorem get_new {cs : List AO} {a : AO} : (cs ++ [a])[cs.length]? = some a := get_end
/-- a live instance left -/
theorem Lv.ins {n j c : Nat} {own : List AO} {fs : List (Str × AV)} {s1 : AS} {Q : AV → List AO → Prop} (e : s1.cells[j]? = some (.ins c fs)) (p : PvL n (fs.map (·.2))) (hn : n ≤ 10) (ho : s1.opn = false) (hj : own.length ≤ j) (h : Q (.ins c fs) (s1.cells.take own.length)) : Lv own (.ref j) s1 Q := by
  refine Lv.frz ho (Nat.lt_of_le_of_lt hj (List.getElem?_eq_some_iff.mp e).1) (w := .ins c fs) ?_ h
  unfold DPT frzV
  simp only
  rw [if_neg (by omega), e]
  simp only
  rw [mapO_id fun x hx => frz_pv (List.all_eq_true.mp p.h x hx) (show n < 11 by omega)]
  simp only
  rw [zip_map]
theorem book_new {zs : List AV} {perm : List PArg} {cv : AV} {b : Bool} {many : Int} {L : List (AV × (Int × List Int))} (hz : cv ∈ zs) (hp : ∀ j, mapO (argOf (.ref j :: zs)) perm = some [.ref j, .int many, cv]) (hv : seqOf s.cells cv = some (b, L.map (·.1))) (hL : ∀ p ∈ L, ClueAt s.cells p.1 p.2) (h0 : 0 ≤ many) (h1 : many ≤ 60000) (hl : L.length ≤ 120000) (ok : ∀ p ∈ L, CL many p.2)
    (h : Q (bookV many (L.map fun p => clS p.2)) s) : NewW (callF P (d + 4)) false c_Book k_Book___init__ zs perm s Q X := by
  refine NewW.ro fun own S V => ⟨_, hp _, ?_⟩
  have V := V cv hz
  obtain ⟨v1, v2⟩ := V.seq S hv
  refine book_init (s := ⟨own ++ [.ins c_Book []], false⟩) (b := b) (L := L) get_new (seq_more v1) (fun p hp => ClueAt.more (ClueAt.vis (hL p hp) S (v2 _ (List.mem_map_of_mem hp)))) h0 h1 hl ok ?_
  refine ⟨rfl, ?_⟩
  have e : (own ++ [AO.ins c_Book []]).set own.length (.ins c_Book (bookF many (L.map fun p => clS p.2))) = own ++ [.ins c_Book (bookF many (L.map fun p => clS p.2))] := set_end
  rw [e]
  refine Lv.ins (n := 3) get_new ⟨?_⟩ (by decide) rfl (Nat.le_refl _) ?_
  · exact (inferInstance : PvL 3 [AV.int many, .tup ((L.map fun p => clS p.2).map clT)]).h
  · exact ⟨List.take_left' rfl, h⟩
/-- .. of plain clues -/
theorem book_newP {zs : List AV} {perm : List PArg} {many : Int} {cls : List (Int × List Int)} (hz : AV.lst (cls.map clA) ∈ zs) (hp : ∀ j, mapO (argOf (.ref j :: zs)) perm = some [.ref j, .int many, .lst (cls.map clA)]) (h0 : 0 ≤ many) (h1 : many ≤ 60000) (hl : cls.length ≤ 120000) (ok : ∀ c ∈ cls, CL many c)
    (h : Q (bookV many (cls.map clS)) s) : NewW (callF P (d + 4)) false c_Book k_Book___init__ zs perm s Q X := by
  refine book_new (b := false) (L := cls.map fun c => (clA c, c)) hz hp ?_ (fun p hp => ?_) h0 h1 (by rw [List.length_map]; exact hl) (fun p hp => ?_) ?_
  · rw [List.map_map]; rfl
  · obtain ⟨c, _, rfl⟩ := List.mem_map.mp hp
    exact ⟨true, _, false, rfl, rfl⟩
  · obtain ⟨c, hc, rfl⟩ := List.mem_map.mp hp
    exact ok c hc
  · rw [List.map_map]; exact h
/-- bad many -/
theorem book_many {zs : List AV} {perm : List PArg} {cv mv : AV} {a : Nat} [PvD a mv] (ha : a ≤ 11) (hk : knownT mv = true) (hb : inB 0 60000 mv = false) (hp : ∀ j, mapO (argOf (.ref j :: zs)) perm = some [.ref j, mv, cv]) (h : X (.exc x_BadNumber [("part", .str "many")]) s) : NewW (callF P (d + 4)) false c_Book k_Book___init__ zs perm s Q X := by
  refine NewW.ro fun own S V => ⟨_, hp _, ?_⟩
  refine CallW.fn (f := d_Book___init__) rfl rfl rfl ?_
  array_get_dec
  refine need_integer ha hk (fun g => ?_) fun _ => ?_
  · rw [hb] at g; cases g
  array_get_dec
  refine XpW.keep ?_
  refine Lx.at (n := 0) ⟨rfl⟩ (by decide) rfl (by show own.length ≤ (own ++ [_]).length; simp) ⟨?_, h⟩
  exact List.take_left' rfl
/-- bad clues -/
theorem book_clues {zs : List AV} {perm : List PArg} {cv : AV} {many : Int} {xs : List AV} {f : AV → Bool} (hz : cv ∈ zs) (hp : ∀ j, mapO (argOf (.ref j :: zs)) perm = some [.ref j, .int many, cv]) (h0 : 0 ≤ many) (h1 : many ≤ 60000) (hv : cv = .lst xs) (hl : xs.length ≤ 120000) (hf : ∀ v ∈ xs, ∀ (s : AS) (Q X : AV → AS → Prop), Q (.bl (f v)) s → CallW (callF P (d + 3)) k_is_clue [v, .int many] false s Q X) (hb : xs.all f = false)
    (h : X (.exc x_BadBook [("part", .str "clues")]) s) : NewW (callF P (d + 4)) false c_Book k_Book___init__ zs perm s Q X := by
  subst hv
  refine NewW.ro fun own S V => ⟨_, hp _, ?_⟩
  refine CallW.fn (f := d_Book___init__) rfl rfl rfl ?_
  array_get_dec
  refine need_integer (by decide) rfl (fun _ => ?_) fun g => ?_
  rotate_left
  · have g : (decide (0 ≤ many) && decide (many ≤ 60000)) = false := g
    rw [decide_eq_true h0, decide_eq_true h1] at g
    cases g
  array_get_dec
  refine islist (b := false) (xs := xs) rfl ?_
  array_get_dec
  rw [decide_eq_false (by omega)]
  array_get_dec
  refine comp_mapV (out := fun v => .bl (f v)) (fun v hv K hK => ?_) ?_
  · array_get_dec
    exact hf v hv _ _ _ hK
  array_get_dec
  refine OpW.allV ?_
  rw [hb]
  array_get_dec
  refine XpW.keep ?_
  refine Lx.r1 (n := 0) inferInstance (by decide) rfl (by show own.length ≤ (own ++ [_]).length; simp) ⟨?_, h⟩
  exact List.take_left' rfl
/-- many ones too many -/
theorem book_most {zs : List AV} {perm : List PArg} {cv : AV} {many : Int} {xs : List AV} (hz : cv ∈ zs) (hp : ∀ j, mapO (argOf (.ref j :: zs)) perm = some [.ref j, .int many, cv]) (h0 : 0 ≤ many) (h1 : many ≤ 60000) (hv : cv = .lst xs) (hl : 120000 < xs.length)
    (h : X (.exc x_BadBook [("part", .str "clues")]) s) : NewW (callF P (d + 4)) false c_Book k_Book___init__ zs perm s Q X := by
  subst hv
  refine NewW.ro fun own S V => ⟨_, hp _, ?_⟩
  refine CallW.fn (f := d_Book___init__) rfl rfl rfl ?_
  array_get_dec
  refine need_integer (by decide) rfl (fun _ => ?_) fun g => ?_
  rotate_left
  · have g : (decide (0 ≤ many) && decide (many ≤ 60000)) = false := g
    rw [decide_eq_true h0, decide_eq_true h1] at g
    cases g
  array_get_dec
  refine islist (b := false) (xs := xs) rfl ?_
  array_get_dec
  rw [decide_eq_true (by omega)]
  array_get_dec
  refine XpW.keep ?_
  refine Lx.r1 (n := 0) inferInstance (by decide) rfl (by show own.length ≤ (own ++ [_]).length; simp) ⟨?_, h⟩
  exact List.take_left' rfl
def tupc (c : Int × List Int) : Int × PySem.W.Tup Int := (c.1, PySem.W.Tup.mk c.2)
end

instance : PvF 1 tp2 := ⟨fun p => rfl⟩
section
variable {d n : Nat} {s : AS} {c0 : AO} {rest : List AO} {o keep : Bool} {Q : AV → AS → Prop} {X : AV → AS → Prop}
def kindB (p : Int × Int) : Bool := (decide (1 ≤ p.2) && decide (p.2 ≤ 8)) && (decide (0 ≤ p.1) && decide (p.1 ≤ p.2))
theorem kind_nn {p : Int × Int} (h : kindB p = true) : 0 ≤ p.1 ∧ 0 ≤ p.2 := by
  unfold kindB at h
  simp only [Bool.and_eq_true, decide_eq_true_eq] at h
  omega
/-- a pair, as a tuple or a list -/
structure KindAt (cs : List AO) (v : AV) (p : Int × Int) : Prop where
  ex : ∃ b, seqOf cs v = some (b, [.int p.1, .int p.2])
theorem KindAt.vis {own : List AO} {v : AV} {p : Int × Int} (h : KindAt s.cells v p) (S : Sees s own) (V : Vis s own v) : KindAt own v p := by
  obtain ⟨b, e⟩ := h.ex
  exact ⟨b, (V.seq S e).1⟩
theorem KindAt.more {cs more : List AO} {v : AV} {p : Int × Int} (h : KindAt cs v p) : KindAt (cs ++ more) v p := by
  obtain ⟨b, e⟩ := h.ex
  exact ⟨b, seq_more e⟩
theorem iskind {v : AV} {p : Int × Int} (hv : KindAt s.cells v p) (h : Q (.bl (kindB p)) s) : CallW (callF P (d + 3)) k_is_kind [v] false s Q X := by
  refine CallW.ro (f := d_is_kind) rfl rfl rfl fun own S V => ?_
  obtain ⟨b, hv⟩ := (hv.vis S (V v List.mem_cons_self)).ex
  have ix0 : idxM v (.int 0) ⟨own, false⟩ = .ok (.int p.1) ⟨own, false⟩ := idx_seq hv rfl
  have ix1 : idxM v (.int 1) ⟨own, false⟩ = .ok (.int p.2) ⟨own, false⟩ := idx_seq hv rfl
  array_get_dec
  refine islist hv ?_
  array_get_dec
  refine OpW.lenS hv ?_
  array_get_dec
  refine OpW.of ix1 ?_
  array_get_dec
  refine within (by decide) rfl ?_
  array_get_dec
  refine ⟨fun g => ?_, fun g => ?_⟩
  · array_get_dec
    have g : inB 1 8 (.int p.2) = false := by simpa using g
    have g : (decide (1 ≤ p.2) && decide (p.2 ≤ 8)) = false := g
    refine Lv.ro inferInstance (by decide) ⟨rfl, ?_⟩
    unfold kindB at h
    rw [g] at h
    exact h
  have g1 : inB 1 8 (.int p.2) = true := by simpa using g
  have g1 : (decide (1 ≤ p.2) && decide (p.2 ≤ 8)) = true := g1
  array_get_dec
  refine OpW.of ix0 ?_
  array_get_dec
  refine OpW.of ix1 ?_
  array_get_dec
  refine within (by decide) rfl ?_
  array_get_dec
  refine Lv.ro inferInstance (by decide) ⟨rfl, ?_⟩
  unfold kindB at h
  rw [g1] at h
  exact h
abbrev kitF (ks : List (Int × Int)) : List (Str × AV) := [("kinds", .tup (ks.map tp2))]
abbrev kitV (ks : List (Int × Int)) : AV := .ins c_Kit (kitF ks)
instance {ks : List (Int × Int)} : PvD 3 (kitV ks) := ⟨(inferInstance : PvL 2 [AV.tup (ks.map tp2)]).h⟩
abbrev xKinds : AV := .exc x_BadKit [("part", .str "kinds")]
theorem kit_init {j : Nat} {cv : AV} {b : Bool} {L : List (AV × (Int × Int))} (hj : s.cells[j]? = some (.ins c_Kit [])) (hv : seqOf s.cells cv = some (b, L.map (·.1))) (hL : ∀ p ∈ L, KindAt s.cells p.1 p.2) (hk : ∀ p ∈ L, kindB p.2 = true) (hl : L.length < 64)
    (h : (L.map (·.2)).Nodup → Q .non ⟨s.cells.set j (.ins c_Kit (kitF (sortP (L.map (·.2))))), s.opn⟩) (hx : ¬ (L.map (·.2)).Nodup → X xKinds s) : CallW (callF P (d + 4)) k_Kit___init__ [.ref j, cv] true s Q X := by
  refine CallW.fn (f := d_Kit___init__) rfl rfl rfl ?_
  have h0 : ∀ p ∈ L.map (·.2), 0 ≤ p.1 ∧ 0 ≤ p.2 := fun p hp => by
    obtain ⟨q, hq, rfl⟩ := List.mem_map.mp hp
    exact kind_nn (hk q hq)
  have hl2 : (sortP (L.map (·.2))).length = L.length := by rw [(sortP_perm _).length_eq, List.length_map]
  array_get_dec
  refine islist hv ?_
  array_get_dec
  rcases seq_src hv with hs | ⟨k, hkk, hs⟩
  all_goals
    refine OpW.of (hs false) ?_
    array_get_dec
    first
      | refine comp_map (xs := L) (inj := (·.1)) (out := fun p => .bl (kindB p.2)) (fun p hp K hK => ?_) ?_
      | refine comp_mapC (xs := L) (inj := (·.1)) (out := fun p => .bl (kindB p.2)) hkk rfl (fun p hp K hK => ?_) ?_
    · array_get_dec
      exact iskind (hL p hp) hK
    array_get_dec
    refine OpW.allA ?_
    rw [show L.all (fun p => kindB p.2) = true from List.all_eq_true.mpr fun p hp => hk p hp]
    array_get_dec
    refine OpW.of (hs false) ?_
    array_get_dec
    first
      | refine comp_map (xs := L) (inj := (·.1)) (out := fun p => tp2 p.2) (fun p hp K hK => ?_) ?_
      | refine comp_mapC (xs := L) (inj := (·.1)) (out := fun p => tp2 p.2) hkk rfl (fun p hp K hK => ?_) ?_
    · obtain ⟨b3, e1⟩ := (hL p hp).ex
      array_get_dec
      refine OpW.tuple e1 ?_
      exact hK
    array_get_dec
    rw [show (L.map fun p => tp2 p.2) = (L.map (·.2)).map tp2 by rw [List.map_map]; rfl]
    refine OpW.sortedP rfl h0 (by rw [List.length_map]; exact hl) ?_
    array_get_dec
    refine OpW.lenT rfl (by rw [hl2]; exact hl) ?_
    array_get_dec
    have dd := ddup_eq (xs := sortP (L.map (·.2)))
    have nn : (sortP (L.map (·.2))).Nodup ↔ (L.map (·.2)).Nodup := (sortP_perm _).nodup_iff
    refine ⟨fun g => ?_, fun g => ?_⟩
    · have g := of_decide_eq_true g
      rw [List.length_map] at g
      array_get_dec
      refine XpW.keep ?_
      rw [Bool.or_false]
      refine hx fun hn => ?_
      have := dd.2.mpr (nn.mpr hn)
      omega
    · have g := of_decide_eq_false g
      rw [List.length_map] at g
      have hn := nn.mp (dd.2.mp (by have := dd.1; omega))
      array_get_dec
      refine OpW.setAt hj (by decide) (newer_d (by decide)) ?_
      array_get_dec
      show Q .non ⟨s.cells.set j _, s.opn || false⟩
      rw [Bool.or_false]
      exact h hn
theorem kit_new {zs : List AV} {perm : List PArg} {cv : AV} {b : Bool} {L : List (AV × (Int × Int))} (hz : cv ∈ zs) (hp : ∀ j, mapO (argOf (.ref j :: zs)) perm = some [.ref j, cv]) (hv : seqOf s.cells cv = some (b, L.map (·.1))) (hL : ∀ p ∈ L, KindAt s.cells p.1 p.2) (hk : ∀ p ∈ L, kindB p.2 = true) (hl : L.length < 64)
    (h : (L.map (·.2)).Nodup → Q (kitV (sortP (L.map (·.2)))) s) (hx : ¬ (L.map (·.2)).Nodup → X xKinds s) : NewW (callF P (d + 4)) false c_Kit k_Kit___init__ zs perm s Q X := by
  refine NewW.ro fun own S V => ⟨_, hp _, ?_⟩
  have V := V cv hz
  obtain ⟨v1, v2⟩ := V.seq S hv
  refine kit_init (s := ⟨own ++ [.ins c_Kit []], false⟩) (b := b) (L := L) get_new (seq_more v1) (fun p hp => KindAt.more (KindAt.vis (hL p hp) S (v2 _ (List.mem_map_of_mem hp)))) hk hl (fun hn => ?_) fun hn => ?_
  · refine ⟨rfl, ?_⟩
    have e : (own ++ [AO.ins c_Kit []]).set own.length (.ins c_Kit (kitF (sortP (L.map (·.2))))) = own ++ [.ins c_Kit (kitF (sortP (L.map (·.2))))] := set_end
    rw [e]
    refine Lv.ins (n := 2) get_new ⟨?_⟩ (by decide) rfl (Nat.le_refl _) ?_
    · exact (inferInstance : PvL 2 [AV.tup ((sortP (L.map (·.2))).map tp2)]).h
    · exact ⟨List.take_left' rfl, h hn⟩
  · refine Lx.at (n := 0) ⟨rfl⟩ (by decide) rfl (by show own.length ≤ (own ++ [_]).length; simp) ⟨?_, hx hn⟩
    exact List.take_left' rfl
/-- .. of plain kinds -/
theorem kit_newP {zs : List AV} {perm : List PArg} {ks : List (Int × Int)} (hz : AV.lst (ks.map tp2) ∈ zs) (hp : ∀ j, mapO (argOf (.ref j :: zs)) perm = some [.ref j, .lst (ks.map tp2)]) (hk : ∀ p ∈ ks, kindB p = true) (hn : ks.Nodup) (hl : ks.length < 64)
    (h : Q (kitV (sortP ks)) s) : NewW (callF P (d + 4)) false c_Kit k_Kit___init__ zs perm s Q X := by
  have e2 : (ks.map fun p => (tp2 p, p)).map (·.2) = ks := by rw [List.map_map]; exact List.map_id _
  refine kit_new (b := false) (L := ks.map fun p => (tp2 p, p)) hz hp ?_ (fun p hp => ?_) (fun p hp => ?_) (by rw [List.length_map]; exact hl) (fun _ => ?_) fun h => ?_
  · rw [List.map_map]; rfl
  · obtain ⟨q, _, rfl⟩ := List.mem_map.mp hp
    exact ⟨true, rfl⟩
  · obtain ⟨q, hq, rfl⟩ := List.mem_map.mp hp
    exact hk q hq
  · rw [e2]; exact h
  · rw [e2] at h
    exact absurd hn h
/-- some value of a list is no kind -/
theorem kit_bad {zs : List AV} {perm : List PArg} {xs : List AV} {f : AV → Bool} (hz : AV.lst xs ∈ zs) (hp : ∀ j, mapO (argOf (.ref j :: zs)) perm = some [.ref j, .lst xs]) (hf : ∀ v ∈ xs, ∀ (s : AS) (Q X : AV → AS → Prop), Q (.bl (f v)) s → CallW (callF P (d + 3)) k_is_kind [v] false s Q X) (hb : xs.all f = false)
    (h : X xKinds s) : NewW (callF P (d + 4)) false c_Kit k_Kit___init__ zs perm s Q X := by
  refine NewW.ro fun own S V => ⟨_, hp _, ?_⟩
  refine CallW.fn (f := d_Kit___init__) rfl rfl rfl ?_
  array_get_dec
  refine islist (b := false) (xs := xs) rfl ?_
  array_get_dec
  refine comp_mapV (out := fun v => .bl (f v)) (fun v hv K hK => ?_) ?_
  · array_get_dec
    exact hf v hv _ _ _ hK
  array_get_dec
  refine OpW.allV ?_
  rw [hb]
  array_get_dec
  refine XpW.keep ?_
  refine Lx.r1 (n := 0) inferInstance (by decide) rfl (by show own.length ≤ (own ++ [_]).length; simp) ⟨?_, h⟩
  exact List.take_left' rfl
theorem kit_eq {a c : List (Int × Int)} (h : Q (.bl (decide (a = c))) s) : CallW (callF P (d + 1)) k_Kit___eq__ [kitV a, kitV c] false s Q X := by
  refine CallW.fr0 (f := d_Kit___eq__) rfl rfl rfl (by decide) ?_
  array_get_dec
  refine OpW.eqTs (α := Int × Int) ?_
  array_get_dec
  exact h
/-- own == of two kits -/
theorem OpW.eqK {a c : List (Int × Int)} {neg : Bool} (h : Q (.bl (if neg = true then !decide (a = c) else decide (a = c))) s) : OpW ((MM.bind (bothM c_Kit (kitV a) (kitV c)) fun _ => MM.bind (nox (callF P (d + 1) k_Kit___eq__ [kitV a, kitV c] false)) (negM neg)) s) Q :=
  OpW.eqi rfl (kit_eq ⟨_, rfl, h⟩)
/-- .. of a kit with a list or tuple -/
theorem OpW.eqKx {a : List (Int × Int)} {v : AV} {m : Nat} [PvD m v] (hm : m ≤ 11) (hb : bothM c_Kit (kitV a) v s = .ok () s) (hv : iscM v [c_Kit] ⟨[], false⟩ = .ok (.bl false) ⟨[], false⟩) (h : Q (.bl false) s) : OpW ((MM.bind (bothM c_Kit (kitV a) v) fun _ => MM.bind (nox (callF P (d + 1) k_Kit___eq__ [kitV a, v] false)) (negM false)) s) Q := by
  refine OpW.eqi hb ?_
  refine CallW.fr0 (f := d_Kit___eq__) rfl rfl rfl (by omega) ?_
  array_get_dec
  refine OpW.of hv ?_
  array_get_dec
  exact ⟨_, rfl, h⟩
end

section
variable {d n : Nat} {s : AS} {c0 : AO} {rest : List AO} {o keep : Bool} {Q : AV → AS → Prop} {X : AV → AS → Prop}
theorem stirred {ks : List (Int × Int)} (hl : ks.length < 64) (hcr : Cr n c0) (hn : n + 64 < 1048576) (h : ∀ (xs : List (Int × Int)) c1, xs.Perm ks → Cr (n + 64) c1 → Q (.lst (xs.map tp2)) ⟨c1 :: rest, o⟩) :
    CallW (callF P (d + 2)) k_stirred [.ref 0, .lst (ks.map tp2)] false ⟨c0 :: rest, o⟩ Q X := by
  refine CallW.fr1 (f := d_stirred) rfl rfl rfl (by decide) hcr.cl ?_
  array_get_dec
  refine WhileW.inv (fun i ρ s => ∃ c lf fd, s = ⟨[c, .lst (lf.map tp2), .lst (fd.map tp2)], false⟩ ∧ Cr (n + fd.length) c ∧ lf.length = i ∧ (fd ++ lf).Perm ks ∧ ρ = [some (.ref 0), some (.lst (ks.map tp2)), some (.ref 1), some (.ref 2)])
    (m := ks.length) (by unfold FUW; omega) ⟨c0, ks, [], rfl, hcr.le (Nat.le_add_right _ _), rfl, .refl _, rfl⟩ (fun i ρ s ⟨c, lf, fd, e1, hc, e3, e4, e5⟩ => ?_)
  subst e1 e5
  have hln := e4.length_eq
  rw [List.length_append] at hln
  array_get_dec
  refine OpW.neNilA (α := Int × Int) (xs := lf) rfl ?_
  array_get_dec
  cases lf with
  | nil =>
    array_get_dec
    rw [List.append_nil] at e4
    exact h fd c e4 (hc.le (by omega))
  | cons l0 lt =>
    refine br_t rfl ?_
    obtain ⟨j, rfl⟩ : ∃ j, i = j + 1 := ⟨i - 1, by rw [List.length_cons] at e3; omega⟩
    array_get_dec
    refine ⟨j, rfl, ?_⟩
    array_get_dec
    rw [List.length_map]
    refine draw (m := (l0 :: lt).length) (by simp) (by rw [List.length_cons] at *; omega) hc (by omega) fun z c6 k5 k6 hc6 => ?_
    array_get_dec
    refine OpW.pop (xs := (l0 :: lt).map tp2) rfl k5 (by rw [List.length_map]; exact k6) (by rw [List.length_map, e3]; omega) fun j2 y hj hy => ?_
    rw [List.getElem?_map] at hy
    cases hz : (l0 :: lt)[j2]? with
    | none => rw [hz] at hy; cases hy
    | some w =>
      rw [hz] at hy; cases hy
      refine OpW.append (xs := fd.map tp2) rfl (newer_d (n := 1) (by decide)) (by rw [List.length_map]; omega) ?_
      have hjl := (List.getElem?_eq_some_iff.mp hz).1
      refine ⟨c6, (l0 :: lt).eraseIdx j2, fd ++ [w], ?_, hc6.le (by rw [List.length_append]; exact Nat.le_refl _), by rw [List.length_eraseIdx_of_lt hjl]; omega, ?_, rfl⟩
      · rw [← erase_map2, List.map_append]; rfl
      · rw [List.append_assoc]
        exact ((perm_erase2 hz).symm.append_left fd).trans e4
end

section
variable {d n : Nat} {s : AS} {c0 : AO} {rest : List AO} {o keep : Bool} {Q : AV → AS → Prop} {X : AV → AS → Prop}
/-- sorted kinds, none twice -/
structure GK (ks : List (Int × Int)) : Prop where
  pw : ks.Pairwise LeP
  nd : ks.Nodup
  ok : ∀ p ∈ ks, kindB p = true
  len : ks.length ≤ 4
theorem setP_len (xs : List (Int × Int)) : (setP xs).length ≤ xs.length := by
  have := setT_len (xs.map pr)
  rw [← setP_pr, List.length_map, List.length_map] at this
  exact this
theorem gk_set {xs : List (Int × Int)} (h : ∀ p ∈ xs, kindB p = true) (hl : xs.length ≤ 4) : GK (setP xs) :=
  ⟨setP_pw xs, setP_nodup xs, fun p hp => h p (mem_setP.mp hp), Nat.le_trans (setP_len xs) hl⟩
theorem kinds_end {qs : List (Int × Int)} {cs : List AO} {v : AV} {Q : AV → List AO → Prop} (hq : ∀ p ∈ qs, kindB p = true) (hl : qs.length ≤ 4) (hv : seqOf cs v = some (false, qs.map tp2)) (h1 : 1 ≤ cs.length) (h : ∀ ks, GK ks → Q (.lst (ks.map tp2)) (cs.take 1)) :
    OpW (blcM .sortset v ⟨cs, false⟩) fun r s1 => Lv [c0] r s1 Q := by
  refine OpW.sortset hv (fun p hp => kind_nn (hq p hp)) (by omega) ?_
  exact Lv.at (n := 2) inferInstance (by decide) rfl h1 (h _ (gk_set hq hl))
theorem kinds (hcr : Cr n c0) (hn : n + 20 < 1048576) (h : ∀ ks c1, GK ks → Cr (n + 20) c1 → Q (.lst (ks.map tp2)) ⟨c1 :: rest, o⟩) : CallW (callF P (d + 3)) k_kinds [.ref 0] false ⟨c0 :: rest, o⟩ Q X := by
  refine CallW.fr1 (f := d_kinds) rfl rfl rfl (by decide) hcr.cl ?_
  array_get_dec
  refine draw (m := 6) (by decide) (by decide) hcr (by omega) fun way c1 g1 g2 hc1 => ?_
  array_get_dec
  refine oneA (fun v => ∃ n : Nat, n ≤ 3 ∧ v = .int n) (fun v hv => ?_) (by decide) (by decide) (by decide) hc1 (by omega) fun v c2 hv hc2 => ?_
  · simp only [List.mem_cons, List.not_mem_nil, or_false] at hv
    rcases hv with rfl | rfl | rfl | rfl | rfl
    · exact ⟨1, by decide, rfl⟩
    · exact ⟨0, by decide, rfl⟩
    · exact ⟨2, by decide, rfl⟩
    · exact ⟨1, by decide, rfl⟩
    · exact ⟨3, by decide, rfl⟩
  obtain ⟨m, hm, rfl⟩ := hv
  refine OpW.rng (by omega) (by omega) ?_
  array_get_dec
  refine CompW.inv (fun i acc s => ∃ c ps, s = ⟨[c, .lst []], false⟩ ∧ Cr (n + 2 + i) c ∧ acc = ps.map tp2 ∧ ps.length = i ∧ ∀ p ∈ ps, kindB p = true) ⟨c2, [], rfl, hc2.le (by omega), rfl, rfl, fun p hp => nomatch hp⟩ (fun i x acc s hx ⟨c, ps, e1, hc, e2, e3, e4⟩ => ?_) fun acc s ⟨c3, ps, e1, hc3, e2, e3, e4⟩ => ?_
  · subst e1 e2
    have hi : i < 3 := by
      have := (List.getElem?_eq_some_iff.mp hx).1
      simp at this
      omega
    array_get_dec
    refine oneA (fun v => ∃ p : Int × Int, kindB p = true ∧ v = tp2 p) (fun v hv => ?_) (by decide) (by decide) (by decide) hc (by omega) fun v c4 hv hc4 => ?_
    · simp only [List.mem_cons, List.not_mem_nil, or_false] at hv
      rcases hv with rfl | rfl | rfl | rfl | rfl | rfl <;> exact ⟨(_, _), by decide, rfl⟩
    obtain ⟨p, hp, rfl⟩ := hv
    exact ⟨c4, ps ++ [p], rfl, hc4, by rw [List.map_append]; rfl, by rw [List.length_append, e3]; rfl, fun q hq => by
      rcases List.mem_append.mp hq with z | z
      · exact e4 q z
      · rw [List.mem_singleton.mp z]; exact hp⟩
  subst e1 e2
  have hps : ps.length ≤ 3 := by simp at e3; omega
  rw [List.length_map, List.length_range] at hc3
  have hc3 := hc3.le (b := n + 5) (by omega)
  have hw : way = 0 ∨ way = 1 ∨ way = 2 ∨ way = 3 ∨ (way = 4 ∨ way = 5) := by omega
  rcases hw with rfl | rfl | rfl | rfl | hw
  · array_get_dec
    exact kinds_end e4 (by omega) rfl (Nat.le_of_ble_eq_true rfl) fun ks hk => h ks c3 hk (hc3.le (by omega))
  · array_get_dec
    refine oneA (fun v => ∃ l : List (Int × Int), (∀ p ∈ l, kindB p = true) ∧ l.length ≤ 3 ∧ v = .lst (l.map tp2)) (fun v hv => ?_) (by decide) (Nat.le_of_ble_eq_true rfl) (Nat.le_of_ble_eq_true rfl) hc3 (by omega) fun v c4 hv hc4 => ?_
    · simp only [List.mem_cons, List.not_mem_nil, or_false] at hv
      rcases hv with rfl | rfl
      · exact ⟨ps, e4, hps, rfl⟩
      · exact ⟨[], fun p hp => (nomatch hp), by decide, rfl⟩
    obtain ⟨l, l1, l2, rfl⟩ := hv
    array_get_dec
    refine OpW.catC rfl rfl (by rw [List.length_map]; show 1 + l.length ≤ 16777216; omega) ?_
    array_get_dec
    refine kinds_end (qs := (1, 2) :: l) (fun p hp => ?_) (by simp only [List.length_cons]; omega) rfl (Nat.le_of_ble_eq_true rfl) fun ks hk => h ks c4 hk (hc4.le (by omega))
    rcases List.mem_cons.mp hp with rfl | hp
    · decide
    · exact l1 p hp
  · array_get_dec
    refine oneK (Nat.le_of_ble_eq_true rfl) (Nat.le_of_ble_eq_true rfl) hc3 (by omega) fun j v c4 hv hc4 => ?_
    match j, hv with
    | 0, hv =>
      cases hv
      array_get_dec
      show Lv [c0] (.lst ((setP [(2, 4)]).map tp2)) _ _
      exact Lv.at (n := 2) inferInstance (by decide) rfl (Nat.le_of_ble_eq_true rfl) (h _ c4 (gk_set (List.all_eq_true.mp (by decide)) (by decide)) (hc4.le (by omega)))
    | 1, hv =>
      cases hv
      array_get_dec
      show Lv [c0] (.lst ((setP [(1, 2), (3, 6)]).map tp2)) _ _
      exact Lv.at (n := 2) inferInstance (by decide) rfl (Nat.le_of_ble_eq_true rfl) (h _ c4 (gk_set (List.all_eq_true.mp (by decide)) (by decide)) (hc4.le (by omega)))
    | 2, hv =>
      cases hv
      array_get_dec
      show Lv [c0] (.lst ((setP [(4, 8), (2, 4)]).map tp2)) _ _
      exact Lv.at (n := 2) inferInstance (by decide) rfl (Nat.le_of_ble_eq_true rfl) (h _ c4 (gk_set (List.all_eq_true.mp (by decide)) (by decide)) (hc4.le (by omega)))
    | 3, hv =>
      cases hv
      array_get_dec
      show Lv [c0] (.lst ((setP [(1, 2), (2, 4), (3, 6), (4, 8)]).map tp2)) _ _
      exact Lv.at (n := 2) inferInstance (by decide) rfl (Nat.le_of_ble_eq_true rfl) (h _ c4 (gk_set (List.all_eq_true.mp (by decide)) (by decide)) (hc4.le (by omega)))
    | j + 4, hv => simp at hv
  · array_get_dec
    refine oneA (fun v => ∃ p : Int × Int, kindB p = true ∧ v = tp2 p) (fun v hv => ?_) (by decide) (by decide) (by decide) hc3 (by omega) fun v c4 hv hc4 => ?_
    · simp only [List.mem_cons, List.not_mem_nil, or_false] at hv
      rcases hv with rfl | rfl | rfl <;> exact ⟨(_, _), by decide, rfl⟩
    obtain ⟨q, hq, rfl⟩ := hv
    array_get_dec
    refine oneA (fun v => ∃ l : List (Int × Int), (∀ p ∈ l, kindB p = true) ∧ l.length ≤ 3 ∧ v = .lst (l.map tp2)) (fun v hv => ?_) (by decide) (Nat.le_of_ble_eq_true rfl) (Nat.le_of_ble_eq_true rfl) hc4 (by omega) fun v c5 hv hc5 => ?_
    · simp only [List.mem_cons, List.not_mem_nil, or_false] at hv
      rcases hv with rfl | rfl | rfl
      · exact ⟨ps, e4, hps, rfl⟩
      · exact ⟨[(0, 1)], List.all_eq_true.mp (by decide), by decide, rfl⟩
      · exact ⟨[(1, 2), (3, 3)], List.all_eq_true.mp (by decide), by decide, rfl⟩
    obtain ⟨l, l1, l2, rfl⟩ := hv
    array_get_dec
    refine OpW.catC rfl rfl (by rw [List.length_map]; show 1 + l.length ≤ 16777216; omega) ?_
    array_get_dec
    refine kinds_end (qs := q :: l) (fun p hp => ?_) (by simp only [List.length_cons]; omega) rfl (Nat.le_of_ble_eq_true rfl) fun ks hk => h ks c5 hk (hc5.le (by omega))
    rcases List.mem_cons.mp hp with rfl | hp
    · exact hq
    · exact l1 p hp
  · have hw1 : decide (way = 0) = false := decide_eq_false (by omega)
    have hw2 : decide (way = 1) = false := decide_eq_false (by omega)
    have hw3 : decide (way = 2) = false := decide_eq_false (by omega)
    have hw4 : decide (way = 3) = false := decide_eq_false (by omega)
    have hw5 : decide (3 < way) = true := decide_eq_true (by omega)
    array_get_dec
    refine br_f hw1 ?_
    array_get_dec
    refine br_f hw2 ?_
    array_get_dec
    refine br_f hw3 ?_
    array_get_dec
    refine br_f hw4 ?_
    array_get_dec
    refine br_t hw5 ?_
    array_get_dec
    refine draw (m := 4) (by decide) (by decide) hc3 (by omega) fun m c4 k1 k2 hc4 => ?_
    array_get_dec
    refine OpW.rng (by omega) (by omega) ?_
    array_get_dec
    refine ForW.inv (fun i ρ s => ∃ c qs t z, s = ⟨[c, .lst (qs.map tp2)], false⟩ ∧ Cr (n + 6 + 2 * i) c ∧ qs.length = i ∧ (∀ p ∈ qs, kindB p = true) ∧ ρ = [some (.ref 0), some (.int way), some (.ref 1), some (.lst (ps.map tp2)), t, z]) ⟨c4, [], _, _, rfl, hc4.le (by omega), rfl, fun p hp => (nomatch hp), rfl⟩ (fun i x ρ s hx ⟨c, qs, t, z, e1, hc, e3, e5, e6⟩ => ?hs) fun ρ s ⟨c, qs, t, z, e1, hc, e3, e5, e6⟩ => ?hd
    case hs =>
      subst e1 e6
      have hi : i < 4 := by
        have := (List.getElem?_eq_some_iff.mp hx).1
        simp at this
        omega
      array_get_dec
      refine draw (m := 8) (by decide) (by decide) hc (by omega) fun z c5 k3 k4 hc5 => ?_
      array_get_dec
      refine draw (m := 1 + z + 1) (by omega) (by omega) hc5 (by omega) fun y c6 k5 k6 hc6 => ?_
      array_get_dec
      refine OpW.append (xs := qs.map tp2) rfl (newer_d (n := 1) (by decide)) (by rw [List.length_map]; omega) ?_
      refine ⟨c6, qs ++ [(y, 1 + z)], _, _, ?_, hc6.le (by omega), by rw [List.length_append, e3]; rfl, fun p hp => ?_, rfl⟩
      · rw [List.map_append]; rfl
      · rcases List.mem_append.mp hp with z2 | z2
        · exact e5 p z2
        · rw [List.mem_singleton.mp z2]
          unfold kindB
          rw [decide_eq_true (show 1 ≤ ((y, 1 + z) : Int × Int).2 by show 1 ≤ 1 + z; omega), decide_eq_true (show ((y, 1 + z) : Int × Int).2 ≤ 8 by show 1 + z ≤ 8; omega), decide_eq_true (show 0 ≤ ((y, 1 + z) : Int × Int).1 from k5), decide_eq_true (show ((y, 1 + z) : Int × Int).1 ≤ ((y, 1 + z) : Int × Int).2 by show y ≤ 1 + z; omega)]
          rfl
    case hd =>
      subst e1 e6
      have hl : qs.length ≤ 4 := by
        rw [e3]
        simp
        omega
      array_get_dec
      exact kinds_end e5 (by omega) rfl (Nat.le_of_ble_eq_true rfl) fun ks hk => h ks c hk (hc.le (by simp; omega))
end

section
variable {d n : Nat} {s : AS} {c0 : AO} {rest : List AO} {o keep : Bool} {Q : AV → AS → Prop} {X : AV → AS → Prop}
abbrev pD (p : Int × Int) : PyData := .tuple [.int p.1, .int p.2]
theorem ok_pD {p : Int × Int} (h : kindB p = true) : okAll [.int p.1, .int p.2] = true := by
  unfold kindB at h
  simp only [Bool.and_eq_true, decide_eq_true_eq] at h
  exact okAll_cons (okD_int (by omega)) (okAll_cons (okD_int (by omega)) okAll_nil)
theorem ok_1 {xs : List (Int × Int)} (h : ∀ p ∈ xs, kindB p = true) : okD (.tuple (xs.map pD)) = true := okD_tup (okAll_map fun p hp => okD_tup (ok_pD (h p hp)))
theorem repr1 {xs : List (Int × Int)} {al : Bool} (h : ∀ p ∈ xs, kindB p = true) (hl : xs.length ≤ 100) (hq : Q (.str (PyData.tuple (xs.map pD)).shown) s) : OpW (bltM .repr al [.tup (xs.map tp2)] s) Q := by
  refine OpW.reprD (.tuple (xs.map pD)) (py_T (α := Int × Int) xs (by decide)) (ok_1 h) ?_ ?_ hq
  · rw [szD_tup]
    have := szAll_map (n := 21) (f := pD) (fun p => Nat.le_of_eq (sz_pair p)) xs
    omega
  · have := PySem.W.Datum.depth_le (⟨xs⟩ : PySem.W.Tup (Int × Int))
    exact Nat.le_trans this (by decide)
/-! what is told: kinds as tuples, or as lists that may be changed -/
abbrev cellK (p : Int × Int) : AO := .lst [.int p.1, .int p.2]
def ToldAt (i : Nat) (L : List (AV × (Int × Int))) : Prop := ∀ (j : Nat) q, L[j]? = some q → q.1 = tp2 q.2 ∨ q.1 = .ref (j + i)
def cellsL (L : List (AV × (Int × Int))) : List AO := L.map fun q => cellK q.2
def dOf : AV × (Int × Int) → PyData
  | (.ref _, p) => .list [.int p.1, .int p.2]
  | (_, p) => pD p
theorem told_get {L : List (AV × (Int × Int))} {c x : AO} {j : Nat} {q : AV × (Int × Int)} (h : L[j]? = some q) : (c :: (cellsL L ++ [x]))[j + 1]? = some (cellK q.2) := by
  rw [List.getElem?_cons_succ, List.getElem?_append_left]
  · unfold cellsL
    rw [List.getElem?_map, h]; rfl
  · unfold cellsL
    rw [List.length_map]
    exact (List.getElem?_eq_some_iff.mp h).1
theorem told_at {L : List (AV × (Int × Int))} {c x : AO} (h : ToldAt 1 L) : ∀ q ∈ L, KindAt (c :: (cellsL L ++ [x])) q.1 q.2 := fun q hq => by
  obtain ⟨j, hj⟩ := List.getElem?_of_mem hq
  rcases h j q hj with e | e
  · rw [e]; exact ⟨true, rfl⟩
  · rw [e]; exact ⟨false, seq_ref (told_get hj)⟩
theorem told_py {L : List (AV × (Int × Int))} {c x : AO} (h : ToldAt 1 L) : mapO (toPy (c :: (cellsL L ++ [x])) 11) (L.map (·.1)) = some (L.map dOf) := by
  refine mapO_mem fun q hq => ?_
  obtain ⟨j, hj⟩ := List.getElem?_of_mem hq
  obtain ⟨v, p⟩ := q
  rcases h j (v, p) hj with e | e
  · simp only at e
    subst e
    rfl
  · simp only at e
    subst e
    show (match (c :: (cellsL L ++ [x]))[j + 1]? with | some (.lst xs) => _ | some (.frz v) => _ | _ => _) = _
    rw [told_get hj]
    rfl
theorem reprTold {L : List (AV × (Int × Int))} {c x : AO} {k : Nat} (hk : (c :: (cellsL L ++ [x]))[k]? = some (.lst (L.map (·.1)))) (h : ToldAt 1 L) (ok : ∀ q ∈ L, kindB q.2 = true) (hl : L.length ≤ 100) (hq : Q (.str (PyData.list (L.map dOf)).shown) ⟨c :: (cellsL L ++ [x]), o⟩) : OpW (bltM .repr false [.ref k] ⟨c :: (cellsL L ++ [x]), o⟩) Q := by
  refine OpW.reprD (.list (L.map dOf)) ?_ ?_ ?_ ?_ hq
  · show (match (c :: (cellsL L ++ [x]))[k]? with | some (.lst xs) => _ | some (.frz v) => _ | _ => _) = _
    rw [hk]
    simp only
    rw [told_py h]
  · refine okD_lst (okAll_map fun q hq => ?_)
    have := ok_pD (ok q hq)
    obtain ⟨v, p⟩ := q
    cases v <;> first | exact okD_tup this | exact okD_lst this
  · rw [szD_lst]
    have := szAll_map (n := 21) (f := dOf) (fun q => by
      obtain ⟨v, p⟩ := q
      cases v <;> first | exact Nat.le_of_eq (sz_pair p) | (show szD (.list [.int p.1, .int p.2]) ≤ 21; simp [szD, szAll])) L
    omega
  · rw [PyData.depth]
    have : PyData.depthAll (L.map dOf) ≤ 10 := depth_le fun q _ => by
      obtain ⟨v, p⟩ := q
      cases v <;> simp [dOf, pD, PyData.depth, PyData.depthAll]
    omega
theorem ok_told {L : List (AV × (Int × Int))} (ok : ∀ q ∈ L, kindB q.2 = true) : okD (.list (L.map dOf)) = true := by
  refine okD_lst (okAll_map fun q hq => ?_)
  have := ok_pD (ok q hq)
  obtain ⟨v, p⟩ := q
  cases v <;> first | exact okD_tup this | exact okD_lst this
end

section
variable {d n : Nat} {s : AS} {c0 : AO} {rest : List AO} {o keep : Bool} {Q : AV → AS → Prop} {X : AV → AS → Prop}
theorem cellsL_snoc {L : List (AV × (Int × Int))} {v : AV} {p : Int × Int} : cellsL (L ++ [(v, p)]) = cellsL L ++ [cellK p] := by
  unfold cellsL
  rw [List.map_append]; rfl
theorem told_snoc {L : List (AV × (Int × Int))} {v : AV} {p : Int × Int} (h : ToldAt 1 L) (hv : v = tp2 p ∨ v = .ref (L.length + 1)) : ToldAt 1 (L ++ [(v, p)]) := fun j q hq => by
  by_cases hj : j < L.length
  · rw [List.getElem?_append_left hj] at hq
    exact h j q hq
  · rw [List.getElem?_append_right (by omega)] at hq
    have h0 : j - L.length = 0 := by
      have := (List.getElem?_eq_some_iff.mp hq).1
      simp only [List.length_cons, List.length_nil] at this
      omega
    rw [h0] at hq
    cases hq
    rw [show j = L.length by omega]
    exact hv
theorem cut_tail {α : Type} (xs : List α) : cutL xs (some 1) none = xs.tail := by
  unfold cutL
  rw [HT.sIx_none, show (1 : Int) = ((1 : Nat) : Int) from rfl, HT.sIx_nat]
  cases xs with
  | nil => rfl
  | cons x xs => simp
theorem more_ex {ks : List (Int × Int)} (hl : ks.length ≤ 4) : ∃ m ms, [((1, 7) : Int × Int), (3, 8), (0, 6), (2, 7), (6, 8)].filter (fun q => !decide (q ∈ ks)) = m :: ms := by
  cases e : [((1, 7) : Int × Int), (3, 8), (0, 6), (2, 7), (6, 8)].filter (fun q => !decide (q ∈ ks)) with
  | cons m ms => exact ⟨m, ms, rfl⟩
  | nil =>
    exfalso
    have key : ∀ (xs ks : List (Int × Int)), xs.Nodup → (∀ q ∈ xs, q ∈ ks) → xs.length ≤ ks.length := by
      intro xs
      induction xs with
      | nil => intro ks _ _; exact Nat.zero_le _
      | cons x xs ih =>
        intro ks hn hm
        obtain ⟨h1, h2⟩ := List.nodup_cons.mp hn
        have := ih (ks.erase x) h2 fun q hq => (List.mem_erase_of_ne (fun e => h1 (by rw [← e]; exact hq))).mpr (hm q (List.mem_cons_of_mem _ hq))
        rw [List.length_erase_of_mem (hm x List.mem_cons_self)] at this
        have := List.length_pos_of_mem (hm x List.mem_cons_self)
        rw [List.length_cons]
        omega
    have := key [((1, 7) : Int × Int), (3, 8), (0, 6), (2, 7), (6, 8)] ks (by decide) fun q hq => by
      have := List.filter_eq_nil_iff.mp e q hq
      simpa using this
    simp only [List.length_cons, List.length_nil] at this
    omega
theorem kept_right (hcr : Cr n c0) (hn : n + 200 < 1048576) (h : ∀ c1, Cr (n + 200) c1 → Q (.bl true) ⟨c1 :: rest, o⟩) : CallW (callF P 10) k_kept_right [.ref 0] false ⟨c0 :: rest, o⟩ Q X := by
  refine CallW.fr1 (f := d_kept_right) rfl rfl rfl (by decide) hcr.cl ?_
  array_get_dec
  refine kinds hcr (by omega) fun ks c1 hk hc1 => ?_
  have hkl := hk.len
  array_get_dec
  refine stirred (ks := ks) (by omega) hc1 (by omega) fun xs c2 hp hc2 => ?_
  have hxl := hp.length_eq
  array_get_dec
  refine CompW.inv (fun i acc s => ∃ c L, s = ⟨c :: cellsL L, false⟩ ∧ Cr (n + 84 + i) c ∧ acc = L.map (·.1) ∧ L.map (·.2) = xs.take i ∧ ToldAt 1 L) ⟨c2, [], rfl, hc2.le (by omega), rfl, rfl, fun j q h => by simp at h⟩ (fun i x acc s hx ⟨c, L, e1, hc, e2, e3, e4⟩ => ?_) fun acc s ⟨c3, L, e1, hc3, e2, e3, e4⟩ => ?_
  · subst e1 e2
    rw [List.getElem?_map] at hx
    obtain ⟨p, hp, rfl⟩ : ∃ p, xs[i]? = some p ∧ x = tp2 p := by
      cases e : xs[i]? with
      | none => rw [e] at hx; cases hx
      | some p => rw [e] at hx; cases hx; exact ⟨p, rfl, rfl⟩
    have hi := (List.getElem?_eq_some_iff.mp hp).1
    have hLi : L.length = i := by
      have := congrArg List.length e3
      rw [List.length_map, List.length_take] at this
      omega
    have htk : xs.take (i + 1) = xs.take i ++ [p] := by
      rw [List.take_succ, hp]; rfl
    array_get_dec
    refine oneK (Nat.le_of_ble_eq_true rfl) (Nat.le_of_ble_eq_true rfl) hc (by omega) fun j v c4 hv hc4 => ?_
    have fin : ∀ v, (v = tp2 p ∨ v = .ref (L.length + 1)) → ∃ c L2, (⟨c4 :: (cellsL L ++ [cellK p]), false⟩ : AS) = ⟨c :: cellsL L2, false⟩ ∧ Cr (n + 84 + (i + 1)) c ∧ L.map (·.1) ++ [v] = L2.map (·.1) ∧ L2.map (·.2) = xs.take (i + 1) ∧ ToldAt 1 L2 := fun v hv =>
      ⟨c4, L ++ [(v, p)], by rw [cellsL_snoc], hc4, by rw [List.map_append]; rfl, by rw [List.map_append, e3, htk]; rfl, told_snoc e4 hv⟩
    match j, hv with
    | 0, hv =>
      cases hv
      exact fin _ (.inl rfl)
    | 1, hv =>
      cases hv
      refine fin _ (.inr ?_)
      show AV.ref (c :: cellsL L).length = _
      unfold cellsL
      rw [List.length_cons, List.length_map]
    | j + 2, hv => simp at hv
  subst e1 e2
  rw [List.length_map] at hc3 e3
  rw [List.take_length] at e3
  have hLl : L.length = xs.length := by rw [← e3, List.length_map]
  have okL : ∀ q ∈ L, kindB q.2 = true := fun q hq => hk.ok _ (hp.mem_iff.mp (by rw [← e3]; exact List.mem_map_of_mem hq))
  have hsort : sortP (L.map (·.2)) = ks := by rw [e3]; exact sortP_of hp.symm hk.pw
  have hnd : (L.map (·.2)).Nodup := by rw [e3]; exact hp.nodup_iff.mpr hk.nd
  have hps : (c3 :: cellsL L).length = L.length + 1 := by unfold cellsL; rw [List.length_cons, List.length_map]
  have hk1 : ∀ c : AO, (c :: (cellsL L ++ [.lst (L.map (·.1))]))[(c3 :: cellsL L).length]? = some (.lst (L.map (·.1))) := fun c => by
    rw [hps, List.getElem?_cons_succ, List.getElem?_append_right (by unfold cellsL; rw [List.length_map]; exact Nat.le_refl _)]
    unfold cellsL
    rw [List.length_map, Nat.sub_self]; rfl
  array_get_dec
  refine reprTold (hk1 c3) e4 okL (by omega) ?_
  array_get_dec
  refine kit_new (cv := .ref (c3 :: cellsL L).length) (b := false) (L := L) (by simp) (fun j => rfl) (seq_ref (hk1 c3)) (told_at e4) okL (by omega) (fun _ => ?_) fun h => absurd hnd h
  rw [hsort]
  array_get_dec
  refine OpW.tuple (seq_ref (hk1 c3)) ?_
  array_get_dec
  refine kit_new (cv := .tup (L.map (·.1))) (b := true) (L := L) (by simp) (fun j => rfl) rfl (told_at e4) okL (by omega) (fun _ => ?_) fun h => absurd hnd h
  rw [hsort]
  array_get_dec
  refine oneA (fun v => v = kitV ks) (fun v hv => ?_) (by decide) (Nat.le_of_ble_eq_true rfl) (Nat.le_of_ble_eq_true rfl) hc3 (by omega) fun v c4 hv hc4 => ?_
  · simp only [List.mem_cons, List.not_mem_nil, or_false] at hv
    rcases hv with rfl | rfl <;> rfl
  subst hv
  array_get_dec
  refine repr1 hk.ok (by omega) ?_
  array_get_dec
  refine repr1 hk.ok (by omega) ?_
  array_get_dec
  refine OpW.neRepr (ok_1 hk.ok) ?_
  array_get_dec
  refine reprTold (hk1 c4) e4 okL (by omega) ?_
  array_get_dec
  refine OpW.neRepr (ok_told okL) ?_
  array_get_dec
  rw [← List.map_reverse]
  refine kit_newP (ks := ks.reverse) (by simp) (fun j => rfl) (fun p hp => hk.ok p (List.mem_reverse.mp hp)) ((List.reverse_perm ks).nodup_iff.mpr hk.nd) (by rw [List.length_reverse]; omega) ?_
  rw [show sortP ks.reverse = ks from sortP_of (List.reverse_perm ks).symm hk.pw]
  array_get_dec
  refine OpW.eqK ?_
  rw [if_pos rfl, decide_eq_true rfl]
  array_get_dec
  refine src_ref (hk1 c4) ?_
  rw [List.length_map]
  have inv0 : ∀ j, j < L.length → ∃ a b, (cellsL L ++ [AO.lst (L.map (·.1))])[j]? = some (.lst [a, b]) := fun j hj => by
    refine ⟨.int (L[j]'hj).2.1, .int (L[j]'hj).2.2, ?_⟩
    rw [List.getElem?_append_left (by unfold cellsL; rw [List.length_map]; exact hj)]
    unfold cellsL
    rw [List.getElem?_map, List.getElem?_eq_getElem hj]
    rfl
  refine ForCW.inv (fun i ρ s => ∃ D x3, s = ⟨c4 :: D, false⟩ ∧ D[L.length]? = some (.lst (L.map (·.1))) ∧ (∀ j, j < L.length → ∃ a b, D[j]? = some (.lst [a, b])) ∧ ρ = [some (.ref 0), some (.lst (ks.map tp2)), some (.ref (L.length + 1)), x3, some (.str (PyData.list (L.map dOf)).shown), some (kitV ks), none, none, none])
    (fun i ρ s ⟨D, x3, e1, e2, _⟩ => ⟨L.map (·.1), by subst e1; rw [hps]; exact e2, by rw [List.length_map]⟩) ⟨_, none, rfl, by have := hk1 c4; rw [hps] at this; exact this, inv0, by rw [← hps]; rfl⟩ (fun i x ys ρ s hi hys hx ⟨D, x3, e1, e2, e3, e5⟩ => ?hs) fun ρ s ⟨D, x3, e1, e2, e3, e5⟩ => ?hd
  case hs =>
    subst e1 e5
    rw [hps] at hys
    rw [show (c4 :: D)[L.length + 1]? = some (.lst (L.map (·.1))) from e2] at hys
    cases hys
    rw [List.getElem?_map] at hx
    obtain ⟨q, hq, rfl⟩ : ∃ q, L[i]? = some q ∧ x = q.1 := by
      cases e : L[i]? with
      | none => rw [e] at hx; cases hx
      | some q => rw [e] at hx; cases hx; exact ⟨q, rfl, rfl⟩
    obtain ⟨v, p⟩ := q
    rcases e4 i _ hq with e | e
    · simp only at e
      subst e
      array_get_dec
      exact ⟨D, _, rfl, e2, e3, rfl⟩
    · simp only at e
      subst e
      obtain ⟨a, b, hab⟩ := e3 i hi
      have hab1 : (c4 :: D)[i + 1]? = some (.lst [a, b]) := hab
      array_get_dec
      refine OpW.isi [true] ⟨"list", ?_, by decide +kernel, ?_⟩
      · show (match (c4 :: D)[i + 1]? with | some (.lst _) => some "list" | some (.frz (.lst _)) => some "list" | some (.frz (.dct _)) => some "dict" | some (.dct _) => some "dict" | _ => none) = _
        rw [hab1]
      array_get_dec
      refine OpW.setIxR hab1 (j := 0) rfl (newer_d (by decide)) ?_
      array_get_dec
      refine ⟨D.set i (.lst [.int 9, b]), _, rfl, ?_, fun j hj => ?_, rfl⟩
      · rw [List.getElem?_set_ne (by omega)]; exact e2
      · by_cases hij : i = j
        · subst hij
          rw [List.getElem?_set_self (List.getElem?_eq_some_iff.mp hab).1]
          exact ⟨_, _, rfl⟩
        · rw [List.getElem?_set_ne hij]
          exact e3 j hj
  case hd =>
    subst e1 e5
    have e2 : (c4 :: D)[L.length + 1]? = some (.lst (L.map (·.1))) := e2
    array_get_dec
    refine And.intro (chk_append e2) ?_
    array_get_dec
    refine OpW.append e2 (newer_d (n := 1) (by decide)) (by rw [List.length_map]; omega) ?_
    show wB _ _ _ ⟨c4 :: D.set L.length _, false⟩ _ _
    generalize D.set L.length _ = D2
    array_get_dec
    refine repr1 hk.ok (by omega) ?_
    array_get_dec
    refine repr1 hk.ok (by omega) ?_
    array_get_dec
    refine OpW.neRepr (ok_1 hk.ok) ?_
    array_get_dec
    refine OpW.eqKx (m := 2) (by decide) rfl rfl ?_
    array_get_dec
    refine OpW.eqKx (m := 2) (by decide) rfl rfl ?_
    array_get_dec
    refine comp_filter (xs := [((1, 7) : Int × Int), (3, 8), (0, 6), (2, 7), (6, 8)]) (inj := tp2) (out := tp2) (p := fun q => !decide (q ∈ ks)) (fun p hp K hK => ?_) ?_
    · array_get_dec
      refine OpW.ninL (α := Int × Int) (x := p) (xs := ks) (inst := inferInstance) ?_
      array_get_dec
      refine ⟨fun g => ?_, fun g => ?_⟩
      · array_get_dec
        rw [if_pos g] at hK
        exact hK
      · rw [if_neg (by rw [g]; decide)] at hK
        exact hK
    obtain ⟨m, ms, hms⟩ := more_ex hkl
    rw [hms]
    have hm : m ∈ [((1, 7) : Int × Int), (3, 8), (0, 6), (2, 7), (6, 8)] ∧ m ∉ ks := by
      have : m ∈ [((1, 7) : Int × Int), (3, 8), (0, 6), (2, 7), (6, 8)].filter (fun q => !decide (q ∈ ks)) := by rw [hms]; exact List.mem_cons_self
      obtain ⟨h1, h2⟩ := List.mem_filter.mp this
      exact ⟨h1, by simpa using h2⟩
    have hmk : kindB m = true := List.all_eq_true.mp (by decide : [((1, 7) : Int × Int), (3, 8), (0, 6), (2, 7), (6, 8)].all kindB = true) m hm.1
    array_get_dec
    refine OpW.item (xs := (m :: ms).map tp2) (by decide) (by rw [List.length_map, List.length_cons]; omega) fun j v hj hv => ?_
    obtain rfl : j = 0 := by omega
    cases hv
    array_get_dec
    rw [show ks.map tp2 ++ [tp2 m] = (ks ++ [m]).map tp2 by rw [List.map_append]; rfl]
    refine kit_newP (ks := ks ++ [m]) (by simp) (fun j => rfl) (fun p hp => ?_) ?_ (by rw [List.length_append]; show ks.length + 1 < 64; omega) ?_
    · rcases List.mem_append.mp hp with hp | hp
      · exact hk.ok p hp
      · rw [List.mem_singleton.mp hp]; exact hmk
    · refine List.nodup_append.mpr ⟨hk.nd, List.nodup_cons.mpr ⟨fun h => (nomatch h), List.nodup_nil⟩, fun a ha b hb e => ?_⟩
      rw [List.mem_singleton.mp hb] at e
      exact hm.2 (e ▸ ha)
    array_get_dec
    rw [cut_map, cut_tail]
    refine kit_newP (ks := ks.tail) (by simp) (fun j => rfl) (fun p hp => hk.ok p (List.mem_of_mem_tail hp)) (hk.nd.sublist (List.tail_sublist ks)) (by rw [List.length_tail]; omega) ?_
    array_get_dec
    have n1 : sortP (ks ++ [m]) ≠ ks := fun e => by
      have := congrArg List.length e
      rw [(sortP_perm _).length_eq, List.length_append] at this
      simp only [List.length_cons, List.length_nil] at this
      omega
    refine OpW.neL (α := Int × Int) (xs := ks) (ys := []) ?_
    have fin : ∀ Ls : List (List (Int × Int)), (∀ z ∈ Ls, z ≠ ks) → ∀ (x6 x8 : Option AV), wB (wS (callF P 9) FU fun x x_1 s1 => Lx [c0] x s1 fun y cs => X y { cells := cs ++ rest, opn := o }) (d_kept_right.body.drop 10) [some (.ref 0), some (.lst (ks.map tp2)), some (.ref (L.length + 1)), x3, some (.str (PyData.list (L.map dOf)).shown), some (kitV ks), x6, some (.lst (Ls.map kitV)), x8] ⟨c4 :: D2, false⟩ (fun x s1 => Lv [c0] .non s1 fun w cs => Q w ⟨cs ++ rest, o⟩) fun v s1 => Lv [c0] v s1 fun w cs => Q w ⟨cs ++ rest, o⟩ := fun Ls hL x6 x8 => by
      array_get_dec
      refine comp_filter (xs := Ls) (inj := kitV) (out := kitV) (p := fun _ => false) (fun z hz K hK => ?_) ?_
      · have ne := hL z hz
        array_get_dec
        refine OpW.eqK ?_
        rw [if_neg (by decide), decide_eq_false ne]
        array_get_dec
        refine OpW.eqK ?_
        rw [if_pos rfl, decide_eq_false ne]
        array_get_dec
        exact hK
      rw [show Ls.filter (fun _ => false) = [] by simp]
      array_get_dec
      exact h c4 (hc4.le (by omega))
    by_cases hz : ks = []
    · rw [decide_eq_true hz]
      array_get_dec
      refine OpW.cat (Nat.le_of_ble_eq_true rfl) ?_
      exact fin [sortP (ks ++ [m])] (fun z hz => by rw [List.mem_singleton.mp hz]; exact n1) _ _
    · rw [decide_eq_false hz]
      array_get_dec
      refine OpW.cat (Nat.le_of_ble_eq_true rfl) ?_
      refine fin [sortP (ks ++ [m]), sortP ks.tail] (fun z hzm => ?_) _ _
      simp only [List.mem_cons, List.not_mem_nil, or_false] at hzm
      rcases hzm with rfl | rfl
      · exact n1
      · intro e
        have := congrArg List.length e
        rw [(sortP_perm _).length_eq, List.length_tail] at this
        have := List.length_pos_iff.mpr hz
        omega
end

section
variable {d n : Nat} {s : AS} {c0 : AO} {rest : List AO} {o keep : Bool} {Q : AV → AS → Prop} {X : AV → AS → Prop}
/-- a plain value that is no kind -/
def NoKind (v : AV) : Prop := pv 4 v = true ∧ ∀ (s : AS) (Q X : AV → AS → Prop), Q (.bl false) s → CallW (callF P 9) k_is_kind [v] false s Q X
theorem nokind {v : AV} {a : Nat} [u : UpL a 0 [v]] (ha : a ≤ 11) (hp : pv 4 v = true) (e : callF P 9 k_is_kind [v] false ⟨[], false⟩ = .ok (.bl false) ⟨[], false⟩) : NoKind v :=
  ⟨hp, fun s Q X h => CallW.eval (d := 8) (f := d_is_kind) ha rfl rfl e h⟩
variable {E : AV → AE → AS → Prop} {N : AE → AS → Prop} {R : AV → AS → Prop}
theorem kind_a (hcr : Cr n c0) (hn : n + 10 < 1048576) (hN : ∀ k1 n1 c2, Cr (n + 2) c2 → N [some (.ref 0), some (.int (k1 - 1)), some (.int (n1 - 1)), some (.bl (kindB (k1 - 1, n1 - 1))), none] ⟨[c2], false⟩) :
    wB (wS (callF P 9) FU E) ((d_kind_right.body.drop 0).take 2) [some (.ref 0), none, none, none, none] ⟨[c0], false⟩ N R := by
  array_get_dec
  refine draw (m := 11) (by decide) (by decide) hcr (by omega) fun k1 c1 g1 g2 hc1 => ?_
  array_get_dec
  refine draw (m := 11) (by decide) (by decide) hc1 (by omega) fun n1 c2 g3 g4 hc2 => ?_
  have hN := hN k1 n1 c2 hc2
  have kB : ∀ a b c d : Bool, decide ((1 : Int) ≤ n1 - 1) = a → decide (n1 - 1 ≤ 8) = b → decide ((0 : Int) ≤ k1 - 1) = c → decide (k1 - 1 ≤ n1 - 1) = d → kindB (k1 - 1, n1 - 1) = ((a && b) && (c && d)) := fun a b c d e1 e2 e3 e4 => by
    unfold kindB
    rw [e1, e2, e3, e4]
  array_get_dec
  by_cases a1 : 1 ≤ n1 - 1
  · rw [decide_eq_true a1]
    array_get_dec
    refine ⟨fun a2 => ?_, fun a2 => ?_⟩
    · array_get_dec
      refine ⟨fun a3 => ?_, fun a3 => ?_⟩
      · array_get_dec
        rw [kB _ _ _ _ (decide_eq_true a1) a2 a3 rfl] at hN
        exact hN
      · array_get_dec
        rw [kB _ _ _ _ (decide_eq_true a1) a2 a3 rfl] at hN
        exact hN
    · rw [a2]
      array_get_dec
      rw [kB _ _ _ _ (decide_eq_true a1) a2 rfl rfl] at hN
      exact hN
  · rw [decide_eq_false a1]
    array_get_dec
    rw [kB _ _ _ _ (decide_eq_false a1) rfl rfl rfl] at hN
    exact hN
theorem kind_right (hcr : Cr n c0) (hn : n + 10 < 1048576) (h : ∀ c1, Cr (n + 10) c1 → Q (.bl true) ⟨c1 :: rest, o⟩) : CallW (callF P 10) k_kind_right [.ref 0] false ⟨c0 :: rest, o⟩ Q X := by
  refine CallW.fr1 (f := d_kind_right) rfl rfl rfl (by decide) hcr.cl ?_
  refine wB_two (l := d_kind_right.body) 0 2 (kind_a hcr hn fun k1 n1 c2 hc2 => ?_)
  generalize hb : kindB (k1 - 1, n1 - 1) = b
  array_get_dec
  refine oneB (a := 4) NoKind (fun v hv => ?_) (by decide) (Nat.le_of_ble_eq_true rfl) (Nat.le_of_ble_eq_true rfl) hc2 (by omega) fun v c3 hv hc3 => ?_
  · suffices h : NoKind v from ⟨h, h.1⟩
    revert v
    repeat' refine List.forall_mem_cons.mpr (And.intro ?_ ?_)
    all_goals first
      | exact fun _ h => nomatch h
      | exact nokind (by decide) (by kernel_rfl) (by kernel_rfl)
      | exact nokind (v := .dct [(.int 0, .int 1), (.int 1, .int 2)]) (by decide) (by kernel_rfl) (by kernel_rfl)
  haveI : PvD 4 v := ⟨hv.1⟩
  array_get_dec
  refine iskind (p := (k1 - 1, n1 - 1)) ⟨true, rfl⟩ ?_
  array_get_dec
  refine iskind (p := (k1 - 1, n1 - 1)) ⟨false, rfl⟩ ?_
  array_get_dec
  refine hv.2 _ _ _ ?_
  array_get_dec
  rw [hb]
  refine OpW.reprD (.list [.bool b, .bool b, .bool false]) rfl (by cases b <;> decide +kernel) (by cases b <;> decide +kernel) (by cases b <;> decide +kernel) ?_
  array_get_dec
  refine OpW.reprD (.list [.bool b, .bool b, .bool false]) rfl (by cases b <;> decide +kernel) (by cases b <;> decide +kernel) (by cases b <;> decide +kernel) ?_
  array_get_dec
  refine OpW.eqRepr (by cases b <;> decide +kernel) ?_
  array_get_dec
  exact h c3 (hc3.le (by omega))
end

section
variable {d n : Nat} {s : AS} {c0 : AO} {rest : List AO} {o keep : Bool} {Q : AV → AS → Prop} {X : AV → AS → Prop}
abbrev xKit : AV := .exc x_BadKit [("part", .str "kit")]
abbrev xBook : AV := .exc x_BadBook [("part", .str "book")]
abbrev xMis : AV := .exc x_Misfit [("part", .str "clues")]
theorem heardKinds (h : Q (.tup [.str "kit", .str "kinds"]) s) : CallW (callF P (d + 1)) k_heard [xKinds] false s Q X := by
  refine CallW.fn (f := d_heard) rfl rfl rfl ?_
  array_get_dec
  refine comp_filter (xs := [((Str.ofString "book" : Str), false), ("kit", true), ("misfit", false)]) (inj := fun p => .tup [.str p.1, .bl p.2]) (out := fun p => .str p.1) (p := fun p => p.2) (fun p hp K hK => ?_) ?_
  · obtain ⟨p1, p2⟩ := p
    cases p2 with
    | true =>
      array_get_dec
      exact hK
    | false =>
      array_get_dec
      exact hK
  array_get_dec
  exact h
theorem heardKit (h : Q (.tup [.str "kit", .str "kit"]) s) : CallW (callF P (d + 1)) k_heard [xKit] false s Q X := by
  refine CallW.fn (f := d_heard) rfl rfl rfl ?_
  array_get_dec
  refine comp_filter (xs := [((Str.ofString "book" : Str), false), ("kit", true), ("misfit", false)]) (inj := fun p => .tup [.str p.1, .bl p.2]) (out := fun p => .str p.1) (p := fun p => p.2) (fun p hp K hK => ?_) ?_
  · obtain ⟨p1, p2⟩ := p
    cases p2 with
    | true =>
      array_get_dec
      exact hK
    | false =>
      array_get_dec
      exact hK
  array_get_dec
  exact h
theorem heardBook (h : Q (.tup [.str "book", .str "book"]) s) : CallW (callF P (d + 1)) k_heard [xBook] false s Q X := by
  refine CallW.fn (f := d_heard) rfl rfl rfl ?_
  array_get_dec
  refine comp_filter (xs := [((Str.ofString "book" : Str), true), ("kit", false), ("misfit", false)]) (inj := fun p => .tup [.str p.1, .bl p.2]) (out := fun p => .str p.1) (p := fun p => p.2) (fun p hp K hK => ?_) ?_
  · obtain ⟨p1, p2⟩ := p
    cases p2 with
    | true =>
      array_get_dec
      exact hK
    | false =>
      array_get_dec
      exact hK
  array_get_dec
  exact h
theorem heardMis (h : Q (.tup [.str "misfit", .str "clues"]) s) : CallW (callF P (d + 1)) k_heard [xMis] false s Q X := by
  refine CallW.fn (f := d_heard) rfl rfl rfl ?_
  array_get_dec
  refine comp_filter (xs := [((Str.ofString "book" : Str), false), ("kit", false), ("misfit", true)]) (inj := fun p => .tup [.str p.1, .bl p.2]) (out := fun p => .str p.1) (p := fun p => p.2) (fun p hp K hK => ?_) ?_
  · obtain ⟨p1, p2⟩ := p
    cases p2 with
    | true =>
      array_get_dec
      exact hK
    | false =>
      array_get_dec
      exact hK
  array_get_dec
  exact h
/-- a plain value that is no kit, no book -/
def NoKit (v : AV) : Prop := pv 4 v = true ∧ iscM v [c_Kit] ⟨[], false⟩ = .ok (.bl false) ⟨[], false⟩
def NoBook (v : AV) : Prop := pv 4 v = true ∧ iscM v [c_Book] ⟨[], false⟩ = .ok (.bl false) ⟨[], false⟩
theorem need_kit {v : AV} (hv : NoKit v) (h : X xKit s) : CallW (callF P (d + 1)) k_need_kit [v] false s Q X := by
  haveI : PvD 4 v := ⟨hv.1⟩
  refine CallW.fr0 (f := d_need_kit) rfl rfl rfl (by decide) ?_
  array_get_dec
  refine OpW.of hv.2 ?_
  array_get_dec
  exact h
theorem need_book {v : AV} (hv : NoBook v) (h : X xBook s) : CallW (callF P (d + 1)) k_need_book [v] false s Q X := by
  haveI : PvD 4 v := ⟨hv.1⟩
  refine CallW.fr0 (f := d_need_book) rfl rfl rfl (by decide) ?_
  array_get_dec
  refine OpW.of hv.2 ?_
  array_get_dec
  exact h
theorem need_book1 {m : Int} {cls : List (Int × List Int)} (h : Q .non s) : CallW (callF P (d + 1)) k_need_book [bookV m cls] false s Q X := by
  refine CallW.ro (f := d_need_book) rfl rfl rfl fun own S V => ?_
  array_get_dec
  exact Lv.ro inferInstance (by decide) ⟨rfl, h⟩
theorem sort_of {v : AV} (hv : NoKit v) (h : X xKit s) : CallW (callF P (d + 2)) k_sort_of [v] false s Q X := by
  haveI : PvD 4 v := ⟨hv.1⟩
  refine CallW.fr0 (f := d_sort_of) rfl rfl rfl (by decide) ?_
  array_get_dec
  refine need_kit hv ?_
  exact Lx.at (n := 0) ⟨rfl⟩ (by decide) rfl (Nat.le_refl _) h
theorem turned_kit {v : AV} (hv : NoKit v) (h : X xKit s) : CallW (callF P (d + 2)) k_turned_kit [v] false s Q X := by
  haveI : PvD 4 v := ⟨hv.1⟩
  refine CallW.fr0 (f := d_turned_kit) rfl rfl rfl (by decide) ?_
  array_get_dec
  refine need_kit hv ?_
  exact Lx.at (n := 0) ⟨rfl⟩ (by decide) rfl (Nat.le_refl _) h
theorem kinds_of {v : AV} (hv : NoBook v) (h : X xBook s) : CallW (callF P (d + 2)) k_kinds_of [v] false s Q X := by
  haveI : PvD 4 v := ⟨hv.1⟩
  refine CallW.fr0 (f := d_kinds_of) rfl rfl rfl (by decide) ?_
  array_get_dec
  refine need_book hv ?_
  exact Lx.at (n := 0) ⟨rfl⟩ (by decide) rfl (Nat.le_refl _) h
theorem kit_of {v : AV} (hv : NoBook v) (h : X xBook s) : CallW (callF P (d + 2)) k_kit_of [v] false s Q X := by
  haveI : PvD 4 v := ⟨hv.1⟩
  refine CallW.fr0 (f := d_kit_of) rfl rfl rfl (by decide) ?_
  array_get_dec
  refine need_book hv ?_
  exact Lx.at (n := 0) ⟨rfl⟩ (by decide) rfl (Nat.le_refl _) h
theorem is_of {v w : AV} (hv : NoBook v) (hw : pv 4 w = true) (h : X xBook s) : CallW (callF P (d + 2)) k_is_of [v, w] false s Q X := by
  haveI : PvD 4 v := ⟨hv.1⟩
  haveI : PvD 4 w := ⟨hw⟩
  refine CallW.fr0 (f := d_is_of) rfl rfl rfl (by decide) ?_
  array_get_dec
  refine need_book hv ?_
  exact Lx.at (n := 0) ⟨rfl⟩ (by decide) rfl (Nat.le_refl _) h
instance {m : Int} {cls : List (Int × List Int)} : PvD 4 (bookV m cls) := ⟨(inferInstance : PvL 3 [AV.int m, .tup (cls.map clT)]).h⟩
theorem is_of1 {w : AV} {m : Int} {cls : List (Int × List Int)} (hw : NoKit w) (h : X xKit s) : CallW (callF P (d + 2)) k_is_of [bookV m cls, w] false s Q X := by
  haveI : PvD 4 w := ⟨hw.1⟩
  haveI : PvD 4 (bookV m cls) := ⟨(inferInstance : PvL 3 [AV.int m, .tup (cls.map clT)]).h⟩
  refine CallW.fr0 (f := d_is_of) rfl rfl rfl (by decide) ?_
  array_get_dec
  refine need_book1 ?_
  array_get_dec
  refine need_kit hw ?_
  exact Lx.at (n := 0) ⟨rfl⟩ (by decide) rfl (Nat.le_refl _) h
end

section
variable {d n : Nat} {s : AS} {c0 : AO} {rest : List AO} {o keep : Bool} {Q : AV → AS → Prop} {X : AV → AS → Prop}
/-- a plain value of which no kit is made -/
def BadK (v : AV) : Prop := pv 6 v = true ∧ ∀ (s : AS) (Q X : AV → AS → Prop), X xKinds s → NewW (callF P 9) false c_Kit k_Kit___init__ [v] [.at 0, .at 1] s Q X
theorem badk_pure {v : AV} {a : Nat} [u : UpL a 0 [v]] (ha : a ≤ 11) (hp : pv 6 v = true) (e : newM (callF P 9) false c_Kit k_Kit___init__ [v] [.at 0, .at 1] ⟨[], false⟩ = .exc xKinds ⟨[], false⟩) : BadK v :=
  ⟨hp, fun s Q X hX => NewW.evalX ha e hX⟩
theorem badk_odd {ks : List (Int × Int)} {b : AV} {lo1 hi1 lo2 hi2 : Option Int} (hk : ∀ p ∈ ks, kindB p = true) (hp : pv 4 b = true) (hb : ∀ (s : AS) (Q X : AV → AS → Prop), Q (.bl false) s → CallW (callF P 8) k_is_kind [b] false s Q X) : BadK (.lst (cutL (ks.map tp2) lo1 hi1 ++ [b] ++ cutL (ks.map tp2) lo2 hi2)) := by
  classical
  have pc : ∀ lo hi, (cutL (ks.map tp2) lo hi).all (pv 5) = true := fun lo hi => List.all_eq_true.mpr fun v hv => by
    obtain ⟨p, _, rfl⟩ := List.mem_map.mp (cutL_mem hv)
    rfl
  refine ⟨?_, fun s Q X hX => ?_⟩
  · show (cutL (ks.map tp2) lo1 hi1 ++ [b] ++ cutL (ks.map tp2) lo2 hi2).all (pv 5) = true
    rw [List.all_append, List.all_append, pc, pc]
    simp [pv_up hp (show 4 ≤ 5 by decide)]
  · refine kit_bad (d := 5) (xs := cutL (ks.map tp2) lo1 hi1 ++ [b] ++ cutL (ks.map tp2) lo2 hi2) (f := fun v => !decide (v = b)) (by simp) (fun j => rfl) (fun v hv s Q X hQ => ?_) ?_ hX
    · by_cases e : v = b
      · subst e
        rw [decide_eq_true rfl] at hQ
        exact hb s Q X hQ
      · rw [decide_eq_false e] at hQ
        have hm : v ∈ ks.map tp2 := by
          rcases List.mem_append.mp hv with hv | hv
          · rcases List.mem_append.mp hv with hv | hv
            · exact cutL_mem hv
            · exact absurd (List.mem_singleton.mp hv) e
          · exact cutL_mem hv
        obtain ⟨p, hp, rfl⟩ := List.mem_map.mp hm
        refine iskind (p := p) ⟨true, rfl⟩ ?_
        rw [hk p hp]
        exact hQ
    · rw [List.all_append, List.all_append]
      simp
theorem badk_twice {ks : List (Int × Int)} (hk : ∀ p ∈ ks, kindB p = true) (hl : ks.length ≤ 4) : BadK (.lst (ks.map tp2 ++ [AV.tup [.int 2, .int 7], AV.lst [.int 2, .int 7]])) := by
  refine ⟨?_, fun s Q X hX => ?_⟩
  · show (ks.map tp2 ++ [AV.tup [.int 2, .int 7], AV.lst [.int 2, .int 7]]).all (pv 5) = true
    rw [List.all_append, (List.all_eq_true.mpr fun v hv => ?_ : (ks.map tp2).all (pv 5) = true)]
    · rfl
    · obtain ⟨p, _, rfl⟩ := List.mem_map.mp hv
      rfl
  · refine kit_new (d := 5) (cv := .lst (ks.map tp2 ++ [AV.tup [.int 2, .int 7], AV.lst [.int 2, .int 7]])) (b := false) (L := (ks.map fun p => (tp2 p, p)) ++ [(.tup [.int 2, .int 7], (2, 7)), (.lst [.int 2, .int 7], (2, 7))]) (by simp) (fun j => rfl) ?_ (fun p hp => ?_) (fun p hp => ?_) (by rw [List.length_append, List.length_map]; show ks.length + 2 < 64; omega) (fun hn => ?_) fun _ => hX
    · rw [List.map_append, List.map_map]; rfl
    · rcases List.mem_append.mp hp with hp | hp
      · obtain ⟨q, _, rfl⟩ := List.mem_map.mp hp
        exact ⟨true, rfl⟩
      · simp only [List.mem_cons, List.not_mem_nil, or_false] at hp
        rcases hp with rfl | rfl
        · exact ⟨true, rfl⟩
        · exact ⟨false, rfl⟩
    · rcases List.mem_append.mp hp with hp | hp
      · obtain ⟨q, hq, rfl⟩ := List.mem_map.mp hp
        exact hk q hq
      · simp only [List.mem_cons, List.not_mem_nil, or_false] at hp
        rcases hp with rfl | rfl <;> decide
    · exfalso
      rw [List.map_append] at hn
      have := (List.nodup_append.mp hn).2.1
      exact absurd this (by decide)
/-- .. one deeper -/
def NoKind8 (v : AV) : Prop := pv 4 v = true ∧ ∀ (s : AS) (Q X : AV → AS → Prop), Q (.bl false) s → CallW (callF P 8) k_is_kind [v] false s Q X
theorem nokind8 {v : AV} {a : Nat} [u : UpL a 0 [v]] (ha : a ≤ 11) (hp : pv 4 v = true) (e : callF P 8 k_is_kind [v] false ⟨[], false⟩ = .ok (.bl false) ⟨[], false⟩) : NoKind8 v :=
  ⟨hp, fun s Q X h => CallW.eval (d := 7) (f := d_is_kind) ha rfl rfl e h⟩
theorem badk {v : AV} (hv : BadK v) (h : X xKinds s) : NewW (callF P 9) false c_Kit k_Kit___init__ [v] [.at 0, .at 1] s Q X := hv.2 s Q X h
variable {E : AV → AE → AS → Prop} {N : AE → AS → Prop} {R : AV → AS → Prop}
theorem ref_a (hcr : Cr n c0) (hn : n + 50 < 1048576) (hN : ∀ a b bad none noB x c1, BadK bad → NoKit none → NoBook noB → Cr (n + 30) c1 → N [some (.ref 0), some x, a, b, some bad, some none, some noB, Option.none, Option.none, Option.none] ⟨[c1], false⟩) :
    wB (wS (callF P 9) FU E) ((d_refused_right.body.drop 0).take 5) [some (.ref 0), none, none, none, none, none, none, none, none, none] ⟨[c0], false⟩ N R := by
  array_get_dec
  refine kinds hcr (by omega) fun ks c1 hk hc1 => ?_
  array_get_dec
  rw [List.length_map]
  have hkl := hk.len
  refine draw (m := ks.length + 1) (by omega) (by omega) hc1 (by omega) fun at_ c2 g1 g2 hc2 => ?_
  array_get_dec
  refine oneB (a := 4) NoKind8 (fun v hv => ?_) (by decide) (Nat.le_of_ble_eq_true rfl) (Nat.le_of_ble_eq_true rfl) hc2 (by omega) fun odd c3 hodd hc3 => ?_
  · suffices h : NoKind8 v from ⟨h, h.1⟩
    revert v
    repeat' refine List.forall_mem_cons.mpr (And.intro ?_ ?_)
    all_goals first
      | exact fun _ h => nomatch h
      | exact nokind8 (by decide) (by kernel_rfl) (by kernel_rfl)
  haveI : PvD 4 odd := ⟨hodd.1⟩
  array_get_dec
  refine OpW.cat (by have := cutL_len (xs := ks.map tp2) (lo := none) (hi := some at_); rw [List.length_map] at this; show _ + 1 ≤ 16777216; omega) ?_
  array_get_dec
  have l1 := cutL_len (xs := ks.map tp2) (lo := none) (hi := some at_)
  have l2 := cutL_len (xs := ks.map tp2) (lo := some at_) (hi := none)
  rw [List.length_map] at l1 l2
  refine OpW.cat (by rw [List.length_append]; show (_ + 1) + _ ≤ 16777216; omega) ?_
  array_get_dec
  refine oneB (a := 6) BadK (fun v hv => ?_) (by decide) (Nat.le_of_ble_eq_true rfl) (Nat.le_of_ble_eq_true rfl) hc3 (by omega) fun bad c4 hbad hc4 => ?_
  · suffices h : BadK v from ⟨h, h.1⟩
    revert v
    repeat' refine List.forall_mem_cons.mpr (And.intro ?_ ?_)
    all_goals first
      | exact fun _ h => nomatch h
      | exact badk_odd hk.ok hodd.1 hodd.2
      | exact badk_twice hk.ok hkl
      | exact badk_pure (by decide) (by kernel_rfl) (by kernel_rfl)
      | exact badk_pure (v := .dct [(.tup [.int 1, .int 2], .int 1)]) (by decide) (by kernel_rfl) (by kernel_rfl)
  haveI : PvD 6 bad := ⟨hbad.1⟩
  array_get_dec
  refine oneB (a := 4) NoKit (fun v hv => ?_) (by decide) (Nat.le_of_ble_eq_true rfl) (Nat.le_of_ble_eq_true rfl) hc4 (by omega) fun none_ c5 hnone hc5 => ?_
  · suffices h : NoKit v from ⟨h, h.1⟩
    simp only [List.mem_cons, List.not_mem_nil, or_false] at hv
    rcases hv with rfl | rfl | rfl | rfl | rfl
    · exact ⟨rfl, rfl⟩
    · exact ⟨pv_up (n := 2) (inferInstance : PvD 2 (.lst (ks.map tp2))).h (by decide), rfl⟩
    · exact ⟨rfl, rfl⟩
    · exact ⟨rfl, rfl⟩
    · exact ⟨rfl, rfl⟩
  haveI : PvD 4 none_ := ⟨hnone.1⟩
  array_get_dec
  refine kit_newP (d := 5) (ks := []) (by simp) (fun j => rfl) (fun p hp => nomatch hp) List.nodup_nil (by decide) ?_
  array_get_dec
  refine oneB (a := 4) NoBook (fun v hv => ?_) (by decide) (Nat.le_of_ble_eq_true rfl) (Nat.le_of_ble_eq_true rfl) hc5 (by omega) fun noB c6 hnoB hc6 => ?_
  · suffices h : NoBook v from ⟨h, h.1⟩
    simp only [List.mem_cons, List.not_mem_nil, or_false] at hv
    rcases hv with rfl | rfl | rfl | rfl | rfl <;> exact ⟨rfl, rfl⟩
  haveI : PvD 4 noB := ⟨hnoB.1⟩
  array_get_dec
  exact hN _ _ _ _ _ _ _ hbad hnone hnoB (hc6.le (by omega))
end

section
variable {d n : Nat} {s : AS} {c0 : AO} {rest : List AO} {o keep : Bool} {Q : AV → AS → Prop} {X : AV → AS → Prop}
variable {E : AV → AE → AS → Prop} {N : AE → AS → Prop} {R : AV → AS → Prop}
def hA : List AV := [.tup [.str "kit", .str "kinds"], .tup [.str "kit", .str "kit"], .tup [.str "kit", .str "kit"]]
def hB : List AV := [.tup [.str "kit", .str "kinds"], .tup [.str "kit", .str "kit"], .tup [.str "kit", .str "kit"], .tup [.str "book", .str "book"], .tup [.str "book", .str "book"], .tup [.str "book", .str "book"], .tup [.str "kit", .str "kit"]]
theorem ref_b {a b : Option AV} {x bad none_ noB : AV} (hbad : BadK bad) (hnone : NoKit none_) (hnoB : NoBook noB) (hN : N [some (.ref 0), some x, a, b, some bad, some none_, some noB, some (.ref 2), Option.none, Option.none] ⟨[c0, .lst hA, .lst hB], false⟩) :
    wB (wS (callF P 9) FU E) ((d_refused_right.body.drop 5).take 3) [some (.ref 0), some x, a, b, some bad, some none_, some noB, none, none, none] ⟨[c0], false⟩ N R := by
  array_get_dec
  refine HrdW.exc xKinds ⟨[c0], false⟩ (fun Q' X' hx => ?_) (heardKinds (d := 8) ?_)
  · array_get_dec
    exact badk hbad hx
  array_get_dec
  refine HrdW.exc xKit ⟨[c0], false⟩ (fun Q' X' hx => ?_) (heardKit (d := 8) ?_)
  · array_get_dec
    exact sort_of (d := 7) hnone hx
  array_get_dec
  refine HrdW.exc xKit ⟨[c0], false⟩ (fun Q' X' hx => ?_) (heardKit (d := 8) ?_)
  · array_get_dec
    exact turned_kit (d := 7) hnone hx
  array_get_dec
  refine HrdW.exc xBook ⟨[c0, .lst hA], false⟩ (fun Q' X' hx => ?_) (heardBook (d := 8) ?_)
  · array_get_dec
    exact kinds_of (d := 7) hnoB hx
  array_get_dec
  refine HrdW.exc xBook ⟨[c0, .lst hA], false⟩ (fun Q' X' hx => ?_) (heardBook (d := 8) ?_)
  · array_get_dec
    exact kit_of (d := 7) hnoB hx
  array_get_dec
  refine HrdW.exc xBook ⟨[c0, .lst hA], false⟩ (fun Q' X' hx => ?_) (heardBook (d := 8) ?_)
  · array_get_dec
    exact is_of (d := 7) hnoB hnone.1 hx
  array_get_dec
  refine HrdW.exc xKit ⟨[c0, .lst hA, .lst (hB.take 6)], false⟩ (fun Q' X' hx => ?_) (heardKit (d := 8) ?_)
  · array_get_dec
    refine book_newP (d := 5) (cls := [(1, [0, 1])]) (List.mem_cons_of_mem _ List.mem_cons_self) (fun j => rfl) (by decide) (by decide) (by decide) (fun c hc => ?_) ?_
    · rw [List.mem_singleton.mp hc]
      exact clueOk_CL.mp (by decide)
    array_get_dec
    exact is_of1 (d := 7) hnone hx
  array_get_dec
  exact hN
end

section
variable {d n : Nat} {s : AS} {c0 : AO} {rest : List AO} {o keep : Bool} {Q : AV → AS → Prop} {X : AV → AS → Prop}
variable {E : AV → AE → AS → Prop} {N : AE → AS → Prop} {R : AV → AS → Prop}
def hD : PyData := .list [.tuple [.str "kit", .str "kinds"], .tuple [.str "kit", .str "kit"], .tuple [.str "kit", .str "kit"], .tuple [.str "book", .str "book"], .tuple [.str "book", .str "book"], .tuple [.str "book", .str "book"], .tuple [.str "kit", .str "kit"], .tuple [.str "misfit", .str "clues"]]
def strange : List (Int × List Int) := [(0, []), (1, []), (2, [1]), (8, [0, 1])]
def base2 : List (Int × List Int) := [(1, [0]), (1, [1, 0])]
def odd2 (i : Nat) (c : Int × List Int) : List (Int × List Int) := base2.take i ++ [c] ++ base2.drop i
theorem kitof_bad {i : Nat} {c : Int × List Int} (hi : i < 3) (hc : c ∈ strange) (hx : X xMis s) : CallW (callF P 9) k_kit_of [bookV 2 ((odd2 i c).map clS)] false s Q X := by
  have hi : i = 0 ∨ i = 1 ∨ i = 2 := by omega
  simp only [strange, List.mem_cons, List.not_mem_nil, or_false] at hc
  rcases hi with rfl | rfl | rfl <;> rcases hc with rfl | rfl | rfl | rfl <;> exact CallW.evalX (d := 8) (f := d_kit_of) (by decide) rfl rfl (by kernel_rfl) hx
theorem ref_c {a b : Option AV} {x bad none_ noB : AV} {y : Option AV} (hcr : Cr n c0) (hn : n + 10 < 1048576) (h : ∀ c1 more, Cr (n + 10) c1 → R (.bl true) ⟨c1 :: more, false⟩) :
    wB (wS (callF P 9) FU E) (d_refused_right.body.drop 8) [some (.ref 0), some x, a, b, some bad, some none_, some noB, some (.ref 2), none, none] ⟨[c0, .lst hA, .lst hB], false⟩ N R := by
  array_get_dec
  refine draw (m := 3) (by decide) (by decide) hcr (by omega) fun i c1 g1 g2 hc1 => ?_
  array_get_dec
  refine oneA (fun v => ∃ c ∈ strange, v = clA c) (fun v hv => ?_) (by decide) (Nat.le_of_ble_eq_true rfl) (Nat.le_of_ble_eq_true rfl) hc1 (by omega) fun v c2 hv hc2 => ?_
  · simp only [List.mem_cons, List.not_mem_nil, or_false] at hv
    rcases hv with rfl | rfl | rfl | rfl
    · exact ⟨(0, []), by decide, rfl⟩
    · exact ⟨(1, []), by decide, rfl⟩
    · exact ⟨(2, [1]), by decide, rfl⟩
    · exact ⟨(8, [0, 1]), by decide, rfl⟩
  obtain ⟨c, hc, rfl⟩ := hv
  array_get_dec
  refine OpW.insert (xs := base2.map clA) rfl g1 (by omega) (newer_d (n := 2) (by decide)) (by decide) ?_
  obtain ⟨j, hj⟩ : ∃ j : Nat, i.toNat = j := ⟨_, rfl⟩
  rw [hj]
  have e : (base2.map clA).take j ++ [clA c] ++ (base2.map clA).drop j = (odd2 j c).map clA := by
    unfold odd2
    rw [List.map_append, List.map_append, List.map_take, List.map_drop]; rfl
  rw [e]
  have okc : ∀ z ∈ odd2 j c, CL 2 z := by
    have : (odd2 j c).all (clueOk 2) = true := by
      have hi : j = 0 ∨ j = 1 ∨ j = 2 := by omega
      simp only [strange, List.mem_cons, List.not_mem_nil, or_false] at hc
      rcases hi with rfl | rfl | rfl <;> rcases hc with rfl | rfl | rfl | rfl <;> decide
    exact fun z hz => clueOk_CL.mp (List.all_eq_true.mp this z hz)
  array_get_dec
  refine HrdW.exc xMis ⟨[c2, .lst hA, .lst hB, .lst ((odd2 j c).map clA)], false⟩ (fun Q' X' hx => ?_) (heardMis (d := 8) ?_)
  · array_get_dec
    refine book_new (d := 5) (cv := .ref 3) (b := false) (L := (odd2 j c).map fun c => (clA c, c)) (List.mem_cons_of_mem _ List.mem_cons_self) (fun j => rfl) ?_ (fun p hp => ?_) (by decide) (by decide) ?_ (fun p hp => ?_) ?_
    · rw [List.map_map]; rfl
    · obtain ⟨q, _, rfl⟩ := List.mem_map.mp hp
      exact ⟨true, _, false, rfl, rfl⟩
    · rw [List.length_map]
      unfold odd2
      rw [List.length_append, List.length_append, List.length_take, List.length_drop]
      show min j 2 + 1 + (2 - j) ≤ 120000
      omega
    · obtain ⟨q, hq, rfl⟩ := List.mem_map.mp hp
      exact okc q hq
    array_get_dec
    rw [List.map_map]
    exact kitof_bad (by omega) hc hx
  array_get_dec
  show R (.bl (hD.eqv hD)) _
  rw [show hD.eqv hD = true by decide +kernel]
  exact h c2 [.lst hA, .lst (hB ++ [.tup [.str "misfit", .str "clues"]]), .lst ((odd2 j c).map clA)] (hc2.le (by omega))
theorem refused_right (hcr : Cr n c0) (hn : n + 100 < 1048576) (h : ∀ c1, Cr (n + 60) c1 → Q (.bl true) ⟨c1 :: rest, o⟩) : CallW (callF P 10) k_refused_right [.ref 0] false ⟨c0 :: rest, o⟩ Q X := by
  refine CallW.fr1 (f := d_refused_right) rfl rfl rfl (by decide) hcr.cl ?_
  refine wB_two (l := d_refused_right.body) 0 5 (ref_a hcr (by omega) fun a b bad none_ noB x c1 hb hk hnb hc1 => ?_)
  refine wB_two (l := d_refused_right.body) 5 3 (ref_b hb hk hnb ?_)
  refine ref_c (y := none) hc1 (by omega) fun c2 more hc2 => ?_
  exact Lv.at (n := 0) inferInstance (by decide) rfl (Nat.le_add_left 1 _) (h c2 (hc2.le (by omega)))
end

section
variable {d n : Nat} {s : AS} {c0 : AO} {rest : List AO} {o keep : Bool} {Q : AV → AS → Prop} {X : AV → AS → Prop}
/-- stirred: of a list that is a cell -/
theorem stirred1 {ks : List (Int × Int)} (hl : ks.length < 64) (hcr : Cr n c0) (hn : n + 64 < 1048576) (h : ∀ (xs : List (Int × Int)) c1, xs.Perm ks → Cr (n + 64) c1 → Q (.lst (xs.map tp2)) ⟨c1 :: .lst (ks.map tp2) :: rest, o⟩) :
    CallW (callF P (d + 2)) k_stirred [.ref 0, .ref 1] false ⟨c0 :: .lst (ks.map tp2) :: rest, o⟩ Q X := by
  refine CallW.fr (own := [c0, .lst (ks.map tp2)]) (f := d_stirred) rfl rfl rfl rfl ?_ ?_
  · have h1 := hcr.cl
    unfold closedC at h1 ⊢
    rw [List.all_cons] at h1
    have h1 := (Bool.and_eq_true _ _ ▸ h1 : _ ∧ _).1
    have h2 : topO (.lst (ks.map tp2)) = some 0 := topsO_0 fun x hx => by
      obtain ⟨p, _, rfl⟩ := List.mem_map.mp hx
      rfl
    rw [List.all_cons, List.all_cons, h2]
    cases e : topO c0 with
    | none => rw [e] at h1; cases h1
    | some j =>
      rw [e] at h1
      have h1 := of_decide_eq_true h1
      show (decide (j ≤ 2) && (decide (0 ≤ 2) && true)) = true
      rw [decide_eq_true (show j ≤ 2 by omega)]
      rfl
  array_get_dec
  refine WhileW.inv (fun i ρ s => ∃ c lf fd, s = ⟨[c, .lst (ks.map tp2), .lst (lf.map tp2), .lst (fd.map tp2)], false⟩ ∧ Cr (n + fd.length) c ∧ lf.length = i ∧ (fd ++ lf).Perm ks ∧ ρ = [some (.ref 0), some (.ref 1), some (.ref 2), some (.ref 3)])
    (m := ks.length) (by unfold FUW; omega) ⟨c0, ks, [], rfl, hcr.le (Nat.le_add_right _ _), rfl, .refl _, rfl⟩ (fun i ρ s ⟨c, lf, fd, e1, hc, e3, e4, e5⟩ => ?_)
  subst e1 e5
  have hln := e4.length_eq
  rw [List.length_append] at hln
  array_get_dec
  refine OpW.neNilA (α := Int × Int) (xs := lf) rfl ?_
  array_get_dec
  cases lf with
  | nil =>
    array_get_dec
    rw [List.append_nil] at e4
    exact h fd c e4 (hc.le (by omega))
  | cons l0 lt =>
    refine br_t rfl ?_
    obtain ⟨j, rfl⟩ : ∃ j, i = j + 1 := ⟨i - 1, by rw [List.length_cons] at e3; omega⟩
    array_get_dec
    refine ⟨j, rfl, ?_⟩
    array_get_dec
    rw [List.length_map]
    refine draw (m := (l0 :: lt).length) (by simp) (by rw [List.length_cons] at *; omega) hc (by omega) fun z c6 k5 k6 hc6 => ?_
    array_get_dec
    refine OpW.pop (xs := (l0 :: lt).map tp2) rfl k5 (by rw [List.length_map]; exact k6) (by rw [List.length_map, e3]; omega) fun j2 y hj hy => ?_
    rw [List.getElem?_map] at hy
    cases hz : (l0 :: lt)[j2]? with
    | none => rw [hz] at hy; cases hy
    | some w =>
      rw [hz] at hy; cases hy
      refine OpW.append (xs := fd.map tp2) rfl (newer_d (n := 1) (by decide)) (by rw [List.length_map]; omega) ?_
      have hjl := (List.getElem?_eq_some_iff.mp hz).1
      refine ⟨c6, (l0 :: lt).eraseIdx j2, fd ++ [w], ?_, hc6.le (by rw [List.length_append]; exact Nat.le_refl _), by rw [List.length_eraseIdx_of_lt hjl]; omega, ?_, rfl⟩
      · rw [← erase_map2, List.map_append]; rfl
      · rw [List.append_assoc]
        exact ((perm_erase2 hz).symm.append_left fd).trans e4
def every (i : Nat) : List (Int × Int) := ((List.range i).map fun (j : Nat) => (List.range (j + 2)).map fun (k : Nat) => ((k : Int), (j : Int) + 1)).flatten
theorem every_zero : every 0 = [] := rfl
theorem every_succ (i : Nat) : every (i + 1) = every i ++ (List.range (i + 2)).map fun (k : Nat) => ((k : Int), (i : Int) + 1) := by
  unfold every
  rw [List.range_succ, List.map_append, List.flatten_append]
  simp
variable {E : AV → AE → AS → Prop} {N : AE → AS → Prop} {R : AV → AS → Prop}
theorem last_ok {ρ : AE} (h : ∀ c more, R (.bl true) ⟨c :: more, false⟩) : wB (wS (callF P 10) FU E) (d_law.body.drop 3) ρ ⟨c0 :: rest, false⟩ N R := by
  array_get_dec
  refine kit_newP (d := 6) (ks := []) (by simp) (fun j => rfl) (fun p hp => nomatch hp) List.nodup_nil (by decide) ?_
  array_get_dec
  refine kit_new (d := 6) (cv := .tup []) (b := true) (L := []) (by simp) (fun j => rfl) rfl (fun p hp => nomatch hp) (fun p hp => nomatch hp) (by decide) (fun _ => ?_) fun h => absurd List.nodup_nil h
  array_get_dec
  refine kit_newP (d := 6) (ks := []) (by simp) (fun j => rfl) (fun p hp => nomatch hp) List.nodup_nil (by decide) ?_
  array_get_dec
  exact h _ _
theorem eight : every 8 = [(0, 1), (1, 1), (0, 2), (1, 2), (2, 2), (0, 3), (1, 3), (2, 3), (3, 3), (0, 4), (1, 4), (2, 4), (3, 4), (4, 4), (0, 5), (1, 5), (2, 5), (3, 5), (4, 5), (5, 5), (0, 6), (1, 6), (2, 6), (3, 6), (4, 6), (5, 6), (6, 6), (0, 7), (1, 7), (2, 7), (3, 7), (4, 7), (5, 7), (6, 7), (7, 7), (0, 8), (1, 8), (2, 8), (3, 8), (4, 8), (5, 8), (6, 8), (7, 8), (8, 8)] := by decide +kernel
abbrev fullK : List (Int × Int) := sortP (every 8)
theorem turned_full (h : Q (kitV fullK) s) : CallW (callF P 10) k_turned_kit [kitV fullK] false s Q X :=
  CallW.eval (d := 9) (f := d_turned_kit) (by decide) rfl rfl (by kernel_rfl) h
theorem sort_full (h : Q (.str "all") s) : CallW (callF P 10) k_sort_of [kitV fullK] false s Q X :=
  CallW.eval (d := 9) (f := d_sort_of) (by decide) rfl rfl (by kernel_rfl) h
theorem sortP_pw (xs : List (Int × Int)) : (sortP xs).Pairwise LeP := by
  have : (sortP xs).map pr = sortT (xs.map pr) := sortP_pr xs
  have h := sortT_pw (xs.map pr)
  rw [← this, List.pairwise_map] at h
  exact h
theorem every_ok : (∀ p ∈ every 8, kindB p = true) ∧ (every 8).Nodup ∧ (every 8).length = 44 ∧ ∀ i < 8, (every i).length ≤ 100 :=
  ⟨List.all_eq_true.mp (by decide +kernel), by decide +kernel, by decide +kernel, by decide +kernel⟩
theorem facts : ∃ fu : List (Int × Int), fu = sortP (every 8) ∧ (∀ (s : AS) (Q X : AV → AS → Prop), Q (kitV fu) s → CallW (callF P 10) k_turned_kit [kitV fu] false s Q X) ∧ ∀ (s : AS) (Q X : AV → AS → Prop), Q (.str "all") s → CallW (callF P 10) k_sort_of [kitV fu] false s Q X :=
  ⟨fullK, rfl, fun s Q X h => turned_full h, fun s Q X h => sort_full h⟩
end

section
variable {d n : Nat} {s : AS} {c0 : AO} {rest : List AO} {o keep : Bool} {Q : AV → AS → Prop} {X : AV → AS → Prop}
variable {E : AV → AE → AS → Prop} {N : AE → AS → Prop} {R : AV → AS → Prop}
theorem law_mid {ns : List Int} {c : AO} {y2 : Option AV} (hc : Cr 1200 c) (hN : ∀ ρ c more, N ρ ⟨c :: more, false⟩) : wB (wS (callF P 10) FU E) ((d_law.body.drop 2).take 1) [some (.lst (ns.map AV.int)), some (.ref 0), y2, none, none, none, none] ⟨[c], false⟩ N R := by
  array_get_dec
  refine draw (m := 10) (by decide) (by decide) hc (by omega) fun w c2 g1 g2 hc2 => ?_
  array_get_dec
  refine ⟨fun g => ?_, fun g => ?_⟩
  · array_get_dec
    array_get_dec
    refine ForW.inv (fun i ρ s => ∃ y4 y5, s = ⟨[c2, .lst ((every i).map tp2)], false⟩ ∧ ρ = [some (.lst (ns.map AV.int)), some (.ref 0), y2, some (.ref 1), y4, y5, none])
      ⟨none, none, by rw [every_zero]; rfl, rfl⟩ (fun i x ρ s hx ⟨y4, y5, e1, e2⟩ => ?hs2) fun ρ s ⟨y4, y5, e1, e2⟩ => ?hd2
    case hs2 =>
      subst e1 e2
      have hi : i < 8 := by
        have := (List.getElem?_eq_some_iff.mp hx).1
        simpa using this
      obtain ⟨z, hz, rfl⟩ : ∃ z : Int, z = (i : Int) + 1 ∧ x = .int z := by
        rw [List.getElem?_map, show (9 - 1 : Int).toNat = 8 from rfl, List.getElem?_range hi] at hx
        exact ⟨_, Int.add_comm _ _, (Option.some.inj hx).symm⟩
      array_get_dec
      refine OpW.rng (by omega) (by omega) ?_
      array_get_dec
      refine comp_map (xs := List.range (z + 1).toNat) (inj := fun k : Nat => AV.int k) (out := fun k : Nat => tp2 ((k : Int), z)) (fun k hk K hK => ?_) ?_
      · array_get_dec
        exact hK
      array_get_dec
      have el : (every i).length ≤ 100 := every_ok.2.2.2 i hi
      have tn : (z + 1).toNat = i + 2 := by omega
      rw [tn]
      refine OpW.extend (b := false) (xs := (every i).map tp2) (ys := (List.range (i + 2)).map fun k : Nat => tp2 ((k : Int), z)) rfl rfl ?_ (by rw [List.length_map, List.length_map, List.length_range]; omega) ?_
      · rw [List.any_map]
        exact List.any_eq_false.mpr fun k _ => by
          show ¬ newer 1 12 (tp2 _) = true
          rw [newer_d (n := 1) (by decide)]; decide
      refine ⟨_, _, ?_, rfl⟩
      rw [every_succ, List.map_append, List.map_map, ← hz]
      rfl
    case hd2 =>
      rw [List.length_map, List.length_range, show (9 - 1 : Int).toNat = 8 from rfl] at e1
      obtain ⟨f1, f2, f3, _⟩ := every_ok
      obtain ⟨fu, f4, f5, f6⟩ := facts
      obtain ⟨ev, hev⟩ : ∃ ev, ev = every 8 := ⟨_, rfl⟩
      rw [← hev] at e1 f1 f2 f3 f4
      have f7 : ∀ p ∈ fu, kindB p = true := fun p hp => f1 p (by rw [f4] at hp; exact (sortP_perm _).mem_iff.mp hp)
      subst e1 e2
      have fl : fu.length = 44 := by rw [f4, (sortP_perm _).length_eq, f3]
      array_get_dec
      refine stirred1 (ks := ev) (by omega) hc2 (by omega) fun xs c3 hp hc3 => ?_
      array_get_dec
      refine kit_newP (d := 6) (ks := xs) (by simp) (fun j => rfl) (fun p h => f1 p (hp.mem_iff.mp h)) (hp.nodup_iff.mpr f2) (by rw [hp.length_eq]; omega) ?_
      have es : sortP xs = fu := by
        rw [f4]
        exact sortP_of ((sortP_perm _).trans hp.symm) (sortP_pw _)
      rw [es]
      array_get_dec
      refine repr1 f7 (by omega) ?_
      array_get_dec
      refine OpW.sortedP (xs := ev) rfl (fun p h => kind_nn (f1 p h)) (by omega) ?_
      rw [← f4]
      array_get_dec
      refine repr1 f7 (by omega) ?_
      array_get_dec
      refine OpW.neRepr (ok_1 f7) ?_
      array_get_dec
      refine f5 _ _ _ ?_
      array_get_dec
      refine OpW.eqK ?_
      rw [if_pos rfl, decide_eq_true rfl]
      array_get_dec
      refine f6 _ _ _ ?_
      array_get_dec
      exact hN _ _ _
  · exact hN _ _ _
theorem law_ok {ns : List Int} (h : ∀ s, Q (.bl true) s) : CallW (callF P 11) k_law [.lst (ns.map AV.int)] false ⟨[], false⟩ Q X := by
  refine CallW.fr0 (f := d_law) rfl rfl rfl (by decide) ?_
  array_get_dec
  refine begin fun c1 hc1 => ?_
  array_get_dec
  refine ForW.inv (fun i ρ s => ∃ c y2, s = ⟨[c], false⟩ ∧ Cr (300 * i) c ∧ ρ = [some (.lst (ns.map AV.int)), some (.ref 0), y2, none, none, none, none])
    ⟨c1, none, rfl, hc1, rfl⟩ (fun i x ρ s hx ⟨c, y2, e1, hc, e2⟩ => ?hs) fun ρ s ⟨c, y2, e1, hc, e2⟩ => ?hd
  case hs =>
    subst e1 e2
    have hi : i < 4 := by
      have := (List.getElem?_eq_some_iff.mp hx).1
      simpa using this
    array_get_dec
    refine kept_right hc (by omega) fun c2 hc2 => ?_
    array_get_dec
    refine kind_right hc2 (by omega) fun c3 hc3 => ?_
    array_get_dec
    refine refused_right hc3 (by omega) fun c4 hc4 => ?_
    array_get_dec
    exact ⟨c4, _, rfl, hc4.le (by omega), rfl⟩
  case hd =>
    subst e1 e2
    have hc : Cr 1200 c := hc
    exact wB_two (l := d_law.body) 2 1 (law_mid hc fun ρ c more => last_ok fun c more => Lv.at (n := 0) inferInstance (by decide) rfl (Nat.zero_le _) (h _))
theorem holds0 : ∀ ns : List Int, ∃ s', callF P 11 k_law [.lst (ns.map AV.int)] false ⟨[], false⟩ = .ok (.bl true) s' := fun ns => by
  obtain ⟨a, s, e, h⟩ := ((law_ok (ns := ns) (Q := fun v _ => v = .bl true) (X := NoX) fun _ => rfl).run).out
  exact ⟨s, by rw [← h]; exact e⟩
end
theorem holds (ns : List Int) (h1 : ns.length ≤ 63) (h2 : ∀ k ∈ ns, PySem.Builtin.Int.intBits k ≤ 1048576) : ∃ s', callF (dsOf S0) (10 + 1) k_law [.lst (ns.map AV.int)] false ⟨[], false⟩ = .ok (.bl true) s' := holds0 ns

end
end K51
open PySem PySem.W PyProof.Rows
set_option maxHeartbeats 0 in
theorem PySem.Challenge.cw_stonerounds_k51_kits_kept_and_refused_holds : PySem.Challenge.rw_stonerounds_k51_kits_kept_and_refused.Holds := by
  w_on; o_law
  refine HandSHeadRun.head_any (r := OpenLaw.row PySem.Challenge.rw_stonerounds_k51_kits_kept_and_refused) (q := view (OpenLaw.row PySem.Challenge.rw_stonerounds_k51_kits_kept_and_refused).prog [54]) (H := K51.hk) (ob := K51.ob) (M := 40000) (loose := K51.names) (d := HandSHeadRun.topDef (OpenLaw.row PySem.Challenge.rw_stonerounds_k51_kits_kept_and_refused).prog 54) (kwd := []) K51.ob_eq
    (by kernel_rfl) (fun s => by kernel_rfl) K51.run (by kernel_rfl) (by kernel_rfl) (by kernel_rfl) (by rfl) (by first | assumption | decide +kernel) (by decide +kernel) ⟨rfl, rfl, rfl, rfl, rfl, by decide +kernel⟩ ?hw ?hc
  case hw => w_witness2
  case hc =>
    exact Ev.walk_ev (l := PySem.Challenge.rw_stonerounds_k51_kits_kept_and_refused) (n := 63) (x := "script") K51.S0 K51.sites0 10 26 rfl (by decide) (by kernel_rfl) ⟨rfl, by decide, by decide⟩ (fun w h Y => Y) rfl rfl (by kernel_rfl) rfl rfl K51.chk (List.Mem.head _) K51.st K51.xst K51.holds
