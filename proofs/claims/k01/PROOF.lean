import PyProof.Rows.All
import Wide.All
import OpenK.AllK
import Wide.FinOn
import HandS.ForMost
import HandS.ForExc
import HandS.IsInst
import HandS.TupAny
import HandS.Walk
import HandS.Style
import HandS.Conv
import HandS.Flow
import HandS.Ends
import PySem.Challenge.RW_stonerounds_k01_plain_values_told
set_option Elab.async false
set_option linter.all false
set_option maxRecDepth 100000
/-! EvA: a plain evaluator of a small core language. Own work. Values are data; lists, dicts and instances are values unless they are cells. -/
namespace Ev
open PySem

/-- values -/
inductive AV where
  | non | bl (b : Bool) | int (i : Int) | str (x : Str) | fn (k : Nat)
  | tup (xs : List AV) | lst (xs : List AV) | dct (kvs : List (AV × AV))
  | ins (c : Nat) (fs : List (Str × AV)) | exc (c : Nat) (fs : List (Str × AV))
  | ref (n : Nat)
  deriving Inhabited

/-- cells: what may be changed; frz: what was -/
inductive AO where
  | lst (xs : List AV) | dct (kvs : List (AV × AV)) | ins (c : Nat) (fs : List (Str × AV)) | frz (v : AV)
  deriving Inhabited

structure AS where
  cells : List AO
  opn : Bool

inductive Rs (α : Type) where
  | ok (a : α) (s : AS) | exc (x : AV) (s : AS) | stuck

abbrev MM (α : Type) : Type := AS → Rs α
def MM.pure {α : Type} (a : α) : MM α := fun s => .ok a s
def MM.bind {α β : Type} (m : MM α) (f : α → MM β) : MM β := fun s => match m s with
  | .ok a s' => f a s'
  | .exc x s' => .exc x s'
  | .stuck => .stuck
theorem MM.assoc {α β γ : Type} (m : MM α) (f : α → MM β) (g : β → MM γ) : MM.bind (MM.bind m f) g = MM.bind m fun a => MM.bind (f a) g := by
  funext s
  unfold MM.bind
  cases m s <;> rfl
theorem MM.pure_bind {α β : Type} (a : α) (f : α → MM β) : MM.bind (MM.pure a) f = f a := rfl
theorem MM.bind_pure {α : Type} (m : MM α) : MM.bind m MM.pure = m := by
  funext s
  unfold MM.bind
  cases m s <;> rfl
def stuck {α : Type} : MM α := fun _ => .stuck
def ofO {α : Type} : Option α → MM α
  | some a => fun s => .ok a s
  | none => fun _ => .stuck
def guardM (b : Bool) : MM Unit := fun s => if b = true then .ok () s else .stuck

/-- the core language -/
inductive BOp where | add | sub | mul | div | mod | pow deriving DecidableEq
inductive COp where | lt | le | gt | ge | eq | ne | isN | notN | isB | inn | nin deriving DecidableEq
inductive Blt where | len | int | str | abs | repr | all | tuple | list deriving DecidableEq
inductive BM where | join | append deriving DecidableEq
inductive Tg where | var (i : Nat) | tup (ts : List Tg)

/-- a parameter's value: the j-th that is written, or a default -/
inductive PArg where | at (j : Nat) | dv (a : AV)
inductive CE where
  | var (i : Nat) | int (i : Int) | str (x : Str) | bl (b : Bool) | non
  | bin (o : BOp) (a b : CE) | neg (a : CE) | not (a : CE) | and (a b : CE) | or (a b : CE)
  | cmp (o : COp) (a b : CE) | ite (c a b : CE)
  | tup (es : List CE) | lst (al : Bool) (es : List CE) | dct (al : Bool) (ks vs : List CE)
  | idx (a i : CE) | slc (a : CE) (lo hi : Option CE)
  | comp (al : Bool) (ws : List Nat) (tg : Tg) (it : CE) (ifs : List CE) (elt : CE)
  | rng (es : List CE)
  | call (k : Nat) (es ws : List CE) (ks : List Str) (perm : List PArg) (keep : Bool)
  | blt (b : Blt) (al : Bool) (es : List CE)
  | isi (e : CE) (ts : List String)
  | bm (m : BM) (a : CE) (es : List CE)

inductive CS where
  | expr (e : CE) | asg (t : Tg) (e : CE) | setIx (a i e : CE)
  | ifS (c : CE) (a b : List CS) | forS (t : Tg) (it : CE) (body : List CS) | ret (e : CE) | retN

abbrev AE := List (Option AV)

/-! ### values -/
/-- a key of a dict -/
def kA : L2.Key → AV
  | .inl i => .int i
  | .inr x => .str x
def keyOf : AV → Option L2.Key
  | .int i => some (.inl i)
  | .str x => some (.inr x)
  | _ => none
def keyEq : AV → AV → Bool
  | .int i, .int j => decide (i = j)
  | .str x, .str y => decide (x = y)
  | _, _ => false
/-- a value at a key: stored where it stood, or behind all -/
def putA (kvs : List (AV × AV)) (k v : AV) : List (AV × AV) :=
  if kvs.any (fun p => keyEq p.1 k) = true then kvs.map fun p => if keyEq p.1 k = true then (p.1, v) else p else kvs ++ [(k, v)]
def getA (kvs : List (AV × AV)) (k : AV) : Option AV := (kvs.find? fun p => keyEq p.1 k).map (·.2)
def mergeA (kvs more : List (AV × AV)) : List (AV × AV) := more.foldl (fun acc p => putA acc p.1 p.2) kvs
def mapO {α β : Type} (f : α → Option β) : List α → Option (List β)
  | [] => some []
  | x :: xs => match f x with
    | none => none
    | some y => match mapO f xs with
      | none => none
      | some ys => some (y :: ys)

/-- as plain data, cells read -/
def toPy (cs : List AO) : Nat → AV → Option PyData
  | 0, _ => none
  | n + 1, v => match v with
    | .non => some .none
    | .bl b => some (.bool b)
    | .int i => some (.int i)
    | .str x => some (.str x)
    | .tup xs => match mapO (toPy cs n) xs with | some ds => some (.tuple ds) | none => none
    | .lst xs => match mapO (toPy cs n) xs with | some ds => some (.list ds) | none => none
    | .ref k => match cs[k]? with
      | some (.lst xs) => match mapO (toPy cs n) xs with | some ds => some (.list ds) | none => none
      | some (.frz v) => toPy cs n v
      | _ => none
    | _ => none
def DPT : Nat := 12

/-- what stands in a list or tuple: false for a list -/
def seqOf (cs : List AO) : AV → Option (Bool × List AV)
  | .tup xs => some (true, xs)
  | .lst xs => some (false, xs)
  | .ref k => match cs[k]? with
    | some (.lst xs) => some (false, xs)
    | some (.frz (.lst xs)) => some (false, xs)
    | _ => none
  | _ => none

def truth (cs : List AO) : AV → Option Bool
  | .non => some false
  | .bl b => some b
  | .int i => some (i != 0)
  | .str x => if x.length ≤ 16777216 then some (x.length != 0) else none
  | v => match seqOf cs v with
    | some (_, xs) => some (!xs.isEmpty)
    | none => none

def truM (v : AV) : MM Bool := fun s => match truth s.cells v with
  | some b => .ok b s
  | none => .stuck

/-- a new list: a value, or a cell -/
def mkL (al : Bool) (xs : List AV) : MM AV := fun s =>
  if al = true then .ok (.ref s.cells.length) { s with cells := s.cells ++ [.lst xs] } else .ok (.lst xs) s
def mkD (al : Bool) (kvs : List (AV × AV)) : MM AV := fun s =>
  if al = true then .ok (.ref s.cells.length) { s with cells := s.cells ++ [.dct kvs] } else .ok (.dct kvs) s

def LIM : Nat := 16777216

/-! ### operators -/
def binM (o : BOp) (x y : AV) : MM AV := fun s => match o, x, y with
  | .add, .int i, .int j => .ok (.int (i + j)) s
  | .sub, .int i, .int j => .ok (.int (i - j)) s
  | .mul, .int i, .int j => if i.natAbs < 2 ^ 64 ∨ j.natAbs < 2 ^ 64 then .ok (.int (i * j)) s else .stuck
  | .div, .int i, .int j => if 0 < j ∧ j < 1073741824 then .ok (.int (i / j)) s else .stuck
  | .mod, .int i, .int j => if 0 < j then .ok (.int (i % j)) s else .stuck
  | .pow, .int i, .int j => if 0 ≤ j ∧ j ≤ 1000000 ∧ i.natAbs < 2 ^ 64 then .ok (.int (i ^ j.toNat)) s else .stuck
  | .add, .str a, .str b => if a.length + b.length ≤ LIM then .ok (.str (a ++ b)) s else .stuck
  | .add, a, b => match seqOf s.cells a, seqOf s.cells b with
    | some (false, xs), some (false, ys) => if xs.length + ys.length ≤ LIM then .ok (.lst (xs ++ ys)) s else .stuck
    | some (true, xs), some (true, ys) => if xs.length + ys.length ≤ LIM then .ok (.tup (xs ++ ys)) s else .stuck
    | _, _ => .stuck
  | _, _, _ => .stuck

def eqM (x y : AV) : MM Bool := fun s => match toPy s.cells DPT x, toPy s.cells DPT y with
  | some d, some e => if SeqAt.shaped d = true ∧ SeqAt.shaped e = true then .ok (PyData.eqv d e) s else .stuck
  | _, _ => .stuck

def cmpM (o : COp) (x y : AV) : MM AV := match o with
  | .eq => MM.bind (eqM x y) fun b => MM.pure (.bl b)
  | .ne => MM.bind (eqM x y) fun b => MM.pure (.bl (!b))
  | .lt => match x, y with | .int i, .int j => MM.pure (.bl (decide (i < j))) | _, _ => stuck
  | .le => match x, y with | .int i, .int j => MM.pure (.bl (decide (i ≤ j))) | _, _ => stuck
  | .gt => match x, y with | .int i, .int j => MM.pure (.bl (decide (j < i))) | _, _ => stuck
  | .ge => match x, y with | .int i, .int j => MM.pure (.bl (decide (j ≤ i))) | _, _ => stuck
  | .isB => match x, y with | .bl a, .bl b => MM.pure (.bl (decide (a = b))) | _, _ => stuck
  | _ => stuck

def isNone : AV → Bool
  | .non => true
  | _ => false

def idxM (x y : AV) : MM AV := fun s => match y with
  | .int i => match x with
    | .str z => if z.length ≤ LIM then (match L2.atI z.cps.toList i with | some c => .ok (.str ⟨#[c]⟩) s | none => .stuck) else .stuck
    | x => match seqOf s.cells x with
      | some (_, xs) => match L2.atI xs i with
        | some v => .ok v s
        | none => .stuck
      | none => .stuck
  | _ => .stuck

def cutL {α : Type} (xs : List α) (lo hi : Option Int) : List α :=
  (xs.drop (HT.sIx xs.length 0 lo)).take (HT.sIx xs.length xs.length hi - HT.sIx xs.length 0 lo)
def slcM (x : AV) (lo hi : Option Int) : MM AV := fun s => match seqOf s.cells x with
  | some (false, xs) => .ok (.lst (cutL xs lo hi)) s
  | some (true, xs) => .ok (.tup (cutL xs lo hi)) s
  | _ => .stuck

/-- whether a value may name a cell behind k -/
def newer (k : Nat) : Nat → AV → Bool
  | 0, _ => true
  | n + 1, v => match v with
    | .ref j => decide (k < j)
    | .tup xs => xs.any (newer k n)
    | .lst xs => xs.any (newer k n)
    | .dct kvs => kvs.any fun p => newer k n p.1 || newer k n p.2
    | .ins _ fs => fs.any fun p => newer k n p.2
    | .exc _ fs => fs.any fun p => newer k n p.2
    | _ => false
def setIxM (x y v : AV) : MM Unit := fun s => match x, y with
  | .ref k, .int i => match s.cells[k]? with
    | some (.lst xs) => match L2.ixN xs.length i with
      | some j => .ok () { cells := s.cells.set k (.lst (xs.set j v)), opn := s.opn || newer k 12 v }
      | none => .stuck
    | _ => .stuck
  | _, _ => .stuck

/-- the type's name, of what is built in -/
def tyName (cs : List AO) : AV → Option String
  | .non => some "NoneType"
  | .bl _ => some "bool"
  | .int _ => some "int"
  | .str _ => some "str"
  | .tup _ => some "tuple"
  | .lst _ => some "list"
  | .dct _ => some "dict"
  | .ref k => match cs[k]? with
    | some (.lst _) => some "list"
    | some (.frz (.lst _)) => some "list"
    | some (.frz (.dct _)) => some "dict"
    | some (.dct _) => some "dict"
    | _ => none
  | _ => none
def isiM (x : AV) (ts : List String) : MM AV := fun s => match tyName s.cells x with
  | some t => match mapO (L2.kitB t) ts with
    | some bs => .ok (.bl (bs.any id)) s
    | none => .stuck
  | none => .stuck

def strsOf : List AV → Option (List Str)
  | [] => some []
  | .str x :: r => match strsOf r with | some xs => some (x :: xs) | none => none
  | _ :: _ => none

def blsOf : List AV → Option (List Bool) := mapO fun v => match v with | AV.bl b => some b | _ => none
def bltM (b : Blt) (al : Bool) (vs : List AV) : MM AV := fun s => match b, vs with
  | .len, [.str x] => if x.length ≤ LIM then .ok (.int x.length) s else .stuck
  | .len, [v] => match seqOf s.cells v with | some (_, xs) => .ok (.int xs.length) s | none => .stuck
  | .int, [.int i] => .ok (.int i) s
  | .int, [.bl b] => .ok (.int (if b then 1 else 0)) s
  | .str, [.int i] => if i.natAbs.log2 < 1920 then .ok (.str (toString i)) s else .stuck
  | .abs, [.int i] => .ok (.int (if i < 0 then -i else i)) s
  | .repr, [v] => match toPy s.cells DPT v with
    | some d => if d.showable = true ∧ d.hasDict = false ∧ d.shown.length ≤ LIM ∧ d.depth ≤ 64 then .ok (.str d.shown) s else .stuck
    | none => .stuck
  | .all, [v] => match seqOf s.cells v with
    | some (false, xs) => match blsOf xs with
      | some bs => .ok (.bl (bs.all id)) s
      | none => .stuck
    | _ => .stuck
  | .tuple, [v] => match seqOf s.cells v with | some (_, xs) => .ok (.tup xs) s | none => .stuck
  | .list, [v] => match seqOf s.cells v with | some (_, xs) => mkL al xs s | none => .stuck
  | _, _ => .stuck

def bmM (m : BM) (x : AV) (vs : List AV) : MM AV := fun s => match m, x, vs with
  | .join, .str a, [v] => match seqOf s.cells v with
    | some (_, xs) => match strsOf xs with
      | some ys => if (ys.map (·.length)).sum + ys.length * a.length ≤ LIM then .ok (.str (Txt.join a ys)) s else .stuck
      | none => .stuck
    | none => .stuck
  | _, _, _ => .stuck

/-- the receiver's kind -/
def bmChk (m : BM) (x : AV) : MM Unit := fun s => match m, x with
  | .join, .str _ => .ok () s
  | _, _ => .stuck

/-! ### targets -/
mutual
def asgT (cs : List AO) : Tg → AV → AE → Option AE
  | .var i, v, ρ => if i < ρ.length then some (ρ.set i (some v)) else none
  | .tup ts, v, ρ => match v with
    | .tup xs => asgTs cs ts xs ρ
    | _ => none
def asgTs (cs : List AO) : List Tg → List AV → AE → Option AE
  | [], [], ρ => some ρ
  | t :: ts, x :: xs, ρ => match asgT cs t x ρ with
    | some ρ' => asgTs cs ts xs ρ'
    | none => none
  | _, _, _ => none
end
def wipeE (ρ : AE) : List Nat → AE
  | [] => ρ
  | v :: vs => (wipeE ρ vs).set v none

/-! ### the evaluator -/
def evList (f : CE → MM AV) : List CE → MM (List AV)
  | [] => MM.pure []
  | e :: es => MM.bind (f e) fun v => MM.bind (evList f es) fun vs => MM.pure (v :: vs)
/-- no exception within -/
def nox {α : Type} (m : MM α) : MM α := fun s => match m s with
  | .ok a s' => .ok a s'
  | _ => .stuck

def evPairs (f : CE → MM AV) : List CE → List CE → MM (List (AV × AV))
  | [], [] => MM.pure []
  | k :: ks, v :: vs => MM.bind (f k) fun a => MM.bind (f v) fun b => MM.bind (evPairs f ks vs) fun r => MM.pure ((a, b) :: r)
  | _, _ => stuck
/-- a display's dict -/
def mkDisp (al : Bool) (ps : List (AV × AV)) : MM AV := fun s =>
  if ps.all (fun p => (keyOf p.1).isSome) = true ∧ ps.length ≤ 15 then mkD al (mergeA [] ps) s else .stuck
def asIntM : AV → MM (Option Int)
  | .int i => MM.pure (some i)
  | _ => stuck
def evOpt (f : CE → MM AV) : Option CE → MM (Option Int)
  | none => MM.pure none
  | some e => MM.bind (f e) asIntM
def evTests (f : CE → MM AV) : List CE → MM Bool
  | [] => MM.pure true
  | [c] => MM.bind (f c) truM
  | _ => stuck

/-- what is walked: written items, or a cell's list -/
inductive Src where
  | items (xs : List AV)
  | cell (k n : Nat)
/-- a comprehension's loop over items: f makes of an item nothing or one more -/
def accO (acc : List AV) : Option AV → List AV
  | none => acc
  | some v => acc ++ [v]
def compL (f : AV → MM (Option AV)) : List AV → List AV → MM (List AV)
  | [], acc => MM.pure acc
  | x :: xs, acc => MM.bind (f x) fun o => compL f xs (accO acc o)
def itemAt (k i : Nat) : MM (Option AV) := fun s => match s.cells[k]? with
  | some (.lst xs) => .ok xs[i]? s
  | _ => .stuck
def compC (f : AV → MM (Option AV)) (k : Nat) : Nat → Nat → List AV → MM (List AV)
  | 0, i, acc => MM.bind (itemAt k i) fun o => match o with
    | none => MM.pure acc
    | some _ => stuck
  | m + 1, i, acc => MM.bind (itemAt k i) fun o => match o with
    | none => MM.pure acc
    | some x => MM.bind (f x) fun o => compC f k m (i + 1) (accO acc o)
/-- what is left of a comprehension's loop at turn i -/
def compR (turn : AV → MM (Option AV)) (src : Src) (i : Nat) (acc : List AV) : MM (List AV) := match src with
  | .items xs => compL turn (xs.drop i) acc
  | .cell k n => compC turn k (n - i) i acc

/-- what a for walks -/
def srcOf (v : AV) : MM Src := fun s => match v with
  | .tup xs => .ok (.items xs) s
  | .lst xs => .ok (.items xs) s
  | .ref k => match s.cells[k]? with
    | some (.lst xs) => .ok (.cell k xs.length) s
    | some (.frz (.lst xs)) => .ok (.items xs) s
    | _ => .stuck
  | _ => .stuck
def rngM (vs : List AV) : MM Src := fun s => match vs with
  | [.int j] => if j < 16777216 ∧ -(2 ^ 62) ≤ j then .ok (.items ((List.range j.toNat).map fun i => AV.int (i : Nat))) s else .stuck
  | [.int i, .int j] => if j - i < 16777216 ∧ -(2 ^ 62) ≤ i ∧ i < 2 ^ 62 ∧ -(2 ^ 62) ≤ j ∧ j < 2 ^ 62 then .ok (.items ((List.range (j - i).toNat).map fun k => AV.int (i + (k : Nat)))) s else .stuck
  | _ => .stuck
def evI (f : CE → MM AV) : CE → MM Src
  | .rng es => MM.bind (evList f es) rngM
  | e => MM.bind (f e) srcOf

/-- the turn of a comprehension -/
def cTurn (fg : AS → AV → AE → Option AE) (ft : AE → MM Bool) (fe : AE → MM AV) (ρ : AE) : AV → MM (Option AV) := fun x =>
  nox (MM.bind (fun s => ofO (fg s x ρ) s) fun ρ' => MM.bind (ft ρ') fun b => if b = true then MM.bind (fe ρ') fun v => MM.pure (some v) else MM.pure none)

def argOf (vs : List AV) : PArg → Option AV
  | .at j => vs[j]?
  | .dv a => some a
def evE (call : Nat → List AV → Bool → MM AV) : Nat → CE → AE → MM AV
  | 0, _, _ => stuck
  | n + 1, c, ρ => match c with
    | .var i => ofO ((ρ[i]?).bind id)
    | .int i => MM.pure (.int i)
    | .str x => MM.pure (.str x)
    | .bl b => MM.pure (.bl b)
    | .non => MM.pure .non
    | .bin o a b => MM.bind (evE call n a ρ) fun x => MM.bind (evE call n b ρ) fun y => binM o x y
    | .neg a => MM.bind (evE call n a ρ) fun x => match x with | .int i => MM.pure (.int (-i)) | _ => stuck
    | .not a => MM.bind (evE call n a ρ) fun x => MM.bind (truM x) fun b => MM.pure (.bl (!b))
    | .and a b => MM.bind (evE call n a ρ) fun x => MM.bind (truM x) fun t => if t = true then evE call n b ρ else MM.pure x
    | .or a b => MM.bind (evE call n a ρ) fun x => MM.bind (truM x) fun t => if t = true then MM.pure x else evE call n b ρ
    | .cmp .isN a _ => MM.bind (evE call n a ρ) fun x => MM.pure (.bl (isNone x))
    | .cmp .notN a _ => MM.bind (evE call n a ρ) fun x => MM.pure (.bl (!isNone x))
    | .cmp o a b => MM.bind (evE call n a ρ) fun x => MM.bind (evE call n b ρ) fun y => cmpM o x y
    | .ite c a b => MM.bind (evE call n c ρ) fun x => MM.bind (truM x) fun t => if t = true then evE call n a ρ else evE call n b ρ
    | .tup es => MM.bind (evList (fun e => evE call n e ρ) es) fun vs => MM.pure (.tup vs)
    | .lst al es => MM.bind (evList (fun e => evE call n e ρ) es) fun vs => mkL al vs
    | .dct al ks vs => MM.bind (nox (evPairs (fun e => evE call n e ρ) ks vs)) fun ps => mkDisp al ps
    | .idx a i => MM.bind (evE call n a ρ) fun x => MM.bind (evE call n i ρ) fun y => idxM x y
    | .slc a lo hi => MM.bind (evE call n a ρ) fun x => MM.bind (evOpt (fun e => evE call n e ρ) lo) fun l => MM.bind (evOpt (fun e => evE call n e ρ) hi) fun h => slcM x l h
    | .comp al ws tg it ifs elt => MM.bind (evI (fun e => evE call n e ρ) it) fun src =>
        MM.bind (compR (cTurn (fun s v ρ => asgT s.cells tg v ρ) (fun ρ' => evTests (fun e => evE call n e ρ') ifs) (fun ρ' => evE call n elt ρ') (wipeE ρ ws)) src 0 []) fun vs => mkL al vs
    | .rng _ => stuck
    | .call k es ws ks perm keep => MM.bind (evList (fun e => evE call n e ρ) es) fun v1 => MM.bind (evList (fun e => evE call n e ρ) ws) fun v2 => match mapO (argOf (v1 ++ v2)) perm with
        | some args => call k args keep
        | none => stuck
    | .blt b al es => MM.bind (evList (fun e => evE call n e ρ) es) fun vs => bltM b al vs
    | .isi e ts => MM.bind (evE call n e ρ) fun x => isiM x ts
    | .bm m a es => MM.bind (evE call n a ρ) fun x => MM.bind (bmChk m x) fun _ => MM.bind (evList (fun e => evE call n e ρ) es) fun vs => bmM m x vs

/-! ### statements -/
inductive SRs where
  | next (ρ : AE) (s : AS) | ret (a : AV) (s : AS) | brk (ρ : AE) (s : AS) | cont (ρ : AE) (s : AS) | exc (x : AV) (ρ : AE) (s : AS) | stuck
/-- an expression, then a statement's rest -/
def sBind {α : Type} (ρ : AE) (m : MM α) (f : α → AS → SRs) : AS → SRs := fun s => match m s with
  | .ok a s' => f a s'
  | .exc x s' => .exc x ρ s'
  | .stuck => .stuck
def sSeq (r : SRs) (f : AE → AS → SRs) : SRs := match r with
  | .next ρ s => f ρ s
  | o => o
/-- a for's loop over items -/
def forL (f : AV → AE → AS → SRs) : List AV → AE → AS → SRs
  | [], ρ, s => .next ρ s
  | x :: xs, ρ, s => match f x ρ s with
    | .next ρ' s' => forL f xs ρ' s'
    | .cont ρ' s' => forL f xs ρ' s'
    | .brk ρ' s' => .next ρ' s'
    | o => o
def forC (f : AV → AE → AS → SRs) (k : Nat) : Nat → Nat → AE → AS → SRs
  | 0, i, ρ, s => match itemAt k i s with
    | .ok none s' => .next ρ s'
    | _ => .stuck
  | m + 1, i, ρ, s => match itemAt k i s with
    | .ok none s' => .next ρ s'
    | .ok (some x) s0 => match f x ρ s0 with
      | .next ρ' s' => forC f k m (i + 1) ρ' s'
      | .cont ρ' s' => forC f k m (i + 1) ρ' s'
      | .brk ρ' s' => .next ρ' s'
      | o => o
    | _ => .stuck
def evB (st : CS → AE → AS → SRs) : List CS → AE → AS → SRs
  | [], ρ, s => .next ρ s
  | c :: cs, ρ, s => sSeq (st c ρ s) (evB st cs)
def evS (call : Nat → List AV → Bool → MM AV) : Nat → CS → AE → AS → SRs
  | 0, _, _, _ => .stuck
  | n + 1, c, ρ, s => match c with
    | .expr e => sBind ρ (evE call n e ρ) (fun _ s' => .next ρ s') s
    | .asg t e => sBind ρ (evE call n e ρ) (fun v s' => match asgT s'.cells t v ρ with | some ρ' => .next ρ' s' | none => .stuck) s
    | .setIx a i e => sBind ρ (MM.bind (evE call n e ρ) fun v => MM.bind (evE call n a ρ) fun x => MM.bind (evE call n i ρ) fun y => setIxM x y v) (fun _ s' => .next ρ s') s
    | .ifS c a b => sBind ρ (MM.bind (evE call n c ρ) truM) (fun t s' => if t = true then evB (evS call n) a ρ s' else evB (evS call n) b ρ s') s
    | .forS t it body => sBind ρ (evI (fun e => evE call n e ρ) it) (fun src s' =>
        let turn : AV → AE → AS → SRs := fun x ρ' s1 => match asgT s1.cells t x ρ' with | some ρ2 => evB (evS call n) body ρ2 s1 | none => .stuck
        match src with
        | .items xs => forL turn xs ρ s'
        | .cell k m => forC turn k m 0 ρ s') s
    | .ret e => sBind ρ (evE call n e ρ) (fun v s' => .ret v s') s
    | .retN => .ret .non s

/-! ### calls -/
structure FnD where
  name : Str
  nps : Nat
  nsl : Nat
  body : List CS

/-- the cells from k on made values -/
def frzV (cs : List AO) (k : Nat) : Nat → AV → Option AV
  | 0, _ => none
  | n + 1, v => match v with
    | .tup xs => match mapO (frzV cs k n) xs with | some ys => some (.tup ys) | none => none
    | .lst xs => match mapO (frzV cs k n) xs with | some ys => some (.lst ys) | none => none
    | .ref j => if j < k then some (.ref j) else match cs[j]? with
      | some (.lst xs) => match mapO (frzV cs k n) xs with | some ys => some (.lst ys) | none => none
      | some (.dct kvs) => match mapO (frzV cs k n) (kvs.map (·.2)) with | some ys => some (.dct ((kvs.map (·.1)).zip ys)) | none => none
      | some (.ins c fs) => match mapO (frzV cs k n) (fs.map (·.2)) with | some ys => some (.ins c ((fs.map (·.1)).zip ys)) | none => none
      | some (.frz v) => frzV cs k n v
      | _ => none
    | .dct kvs => match mapO (frzV cs k n) (kvs.map (·.2)) with | some ys => some (.dct ((kvs.map (·.1)).zip ys)) | none => none
    | .ins c fs => match mapO (frzV cs k n) (fs.map (·.2)) with | some ys => some (.ins c ((fs.map (·.1)).zip ys)) | none => none
    | .exc _ _ => none
    | v => some v

/-- a def left: s0 ahead of the call -/
def leaveF (s0 : AS) (keep : Bool) : SRs → Rs AV
  | .next _ s => leaveV s0 keep .non s
  | .ret v s => leaveV s0 keep v s
  | .exc x _ s => .stuck
  | _ => .stuck
where leaveV (s0 : AS) (keep : Bool) (v : AV) (s : AS) : Rs AV :=
  if keep = true ∨ s.opn = true ∨ s.cells.length ≤ s0.cells.length then .ok v { cells := s.cells, opn := s0.opn || s.opn }
  else match frzV s.cells s0.cells.length DPT v with
    | some w => .ok w { cells := s.cells.take s0.cells.length, opn := s0.opn }
    | none => .stuck

def FU : Nat := 40
def callF (p : List FnD) : Nat → Nat → List AV → Bool → MM AV
  | 0, _, _, _ => stuck
  | d + 1, k, args, keep => match p[k]? with
    | none => stuck
    | some f => if args.length = f.nps then
        fun s => leaveF s keep (evB (evS (callF p d) FU) f.body (args.map some ++ List.replicate (f.nsl - f.nps) none) { cells := s.cells, opn := false })
      else stuck
end Ev

set_option linter.all false
set_option maxRecDepth 100000
set_option maxHeartbeats 1000000
/-! EvB: how the evaluator's values and cells stand in the layer's heap. Own work. -/
namespace Ev
open PySem PySem.Spec PyProof.Rows L2

/-- what the program's defs and classes are called by -/
structure GS where
  K : PySem.W.Frag
  fnA : Nat → Option Addr
  clA : Nat → Option Addr

mutual
inductive Den (G : GS) (F : Hp) (ι : List Addr) : V → AV → Prop
  | non : Den G F ι .non .non
  | bl (b : Bool) : Den G F ι (.bl b) (.bl b)
  | int (i : Int) : Den G F ι (.int i) (.int i)
  | str (x : Str) : Den G F ι (.str x) (.str x)
  | fn {k : Nat} {f : Addr} : G.fnA k = some f → Den G F ι (.ref f) (.fn k)
  | tup {a : Addr} {vs : List V} {xs : List AV} : SqT G.K F a vs → DenAll G F ι vs xs → Den G F ι (.ref a) (.tup xs)
  | lst {a : Addr} {vs : List V} {xs : List AV} : SqL G.K F a vs → DenAll G F ι vs xs → Den G F ι (.ref a) (.lst xs)
  | dctK {a : Addr} {ks : List (Key × V)} {kvs : List (AV × AV)} : F a = some (.dK ks) → ks.map (fun p => kA p.1) = kvs.map (·.1) → DenAll G F ι (ks.map (·.2)) (kvs.map (·.2)) → Den G F ι (.ref a) (.dct kvs)
  | ins {a C dx : Addr} {c : Nat} {vfs : List (Str × V)} {fs : List (Str × AV)} : G.clA c = some C → F a = some (.ins C dx vfs) → vfs.map (·.1) = fs.map (·.1) → DenAll G F ι (vfs.map (·.2)) (fs.map (·.2)) → Den G F ι (.ref a) (.ins c fs)
  | ref {n : Nat} {a : Addr} : ι[n]? = some a → Den G F ι (.ref a) (.ref n)
inductive DenAll (G : GS) (F : Hp) (ι : List Addr) : List V → List AV → Prop
  | nil : DenAll G F ι [] []
  | cons {v : V} {vs : List V} {x : AV} {xs : List AV} : Den G F ι v x → DenAll G F ι vs xs → DenAll G F ι (v :: vs) (x :: xs)
end

section
variable {G : GS} {F F' : Hp} {ι ι' : List Addr}
theorem rd_mono {a : Addr} {o : HO} (s : Same F F') (h : Rd F a o) : Rd F' a o := by
  rcases h with h | ⟨u, h⟩
  · exact .inl (s _ _ h)
  · exact .inr ⟨u, s _ _ h⟩
theorem sqT_mono {K : PySem.W.Frag} {a : Addr} {vs : List V} (s : Same F F') (h : SqT K F a vs) : SqT K F' a vs := by
  rcases h with h | h
  · exact .inl (rd_mono s h)
  · exact .inr h
theorem sqL_mono {K : PySem.W.Frag} {a : Addr} {vs : List V} (s : Same F F') (h : SqL K F a vs) : SqL K F' a vs := by
  rcases h with h | h
  · exact .inl (rd_mono s h)
  · exact .inr h
theorem pre_get {n : Nat} {a : Addr} (p : ι <+: ι') (h : ι[n]? = some a) : ι'[n]? = some a := by
  obtain ⟨t, rfl⟩ := p
  obtain ⟨hn, _⟩ := List.getElem?_eq_some_iff.mp h
  rw [List.getElem?_append_left hn]
  exact h
mutual
theorem Den.mono (s : Same F F') (p : ι <+: ι') : ∀ {v : V} {x : AV}, Den G F ι v x → Den G F' ι' v x
  | _, _, .non => .non
  | _, _, .bl b => .bl b
  | _, _, .int i => .int i
  | _, _, .str x => .str x
  | _, _, .fn h => .fn h
  | _, _, .tup h r => .tup (sqT_mono s h) (DenAll.mono s p r)
  | _, _, .lst h r => .lst (sqL_mono s h) (DenAll.mono s p r)
  | _, _, .dctK h e r => .dctK (s _ _ h) e (DenAll.mono s p r)
  | _, _, .ins c h e r => .ins c (s _ _ h) e (DenAll.mono s p r)
  | _, _, .ref h => .ref (pre_get p h)
theorem DenAll.mono (s : Same F F') (p : ι <+: ι') : ∀ {vs : List V} {xs : List AV}, DenAll G F ι vs xs → DenAll G F' ι' vs xs
  | _, _, .nil => .nil
  | _, _, .cons h r => .cons (Den.mono s p h) (DenAll.mono s p r)
end
theorem DenAll.length : ∀ {vs : List V} {xs : List AV}, DenAll G F ι vs xs → vs.length = xs.length
  | _, _, .nil => rfl
  | _, _, .cons _ r => by simp [DenAll.length r]
theorem DenAll.get : ∀ {vs : List V} {xs : List AV} {i : Nat} {x : AV}, DenAll G F ι vs xs → xs[i]? = some x → ∃ v, vs[i]? = some v ∧ Den G F ι v x
  | _, _, _, _, .nil, e => by simp at e
  | _, _, 0, _, .cons h r, e => by simp at e; subst e; exact ⟨_, rfl, h⟩
  | _, _, i + 1, _, .cons h r, e => by
    obtain ⟨v, e1, d⟩ := DenAll.get (i := i) r (by simpa using e)
    exact ⟨v, by simpa using e1, d⟩
theorem DenAll.getV : ∀ {vs : List V} {xs : List AV} {i : Nat} {v : V}, DenAll G F ι vs xs → vs[i]? = some v → ∃ x, xs[i]? = some x ∧ Den G F ι v x
  | _, _, _, _, .nil, e => by simp at e
  | _, _, 0, _, .cons h r, e => by simp at e; subst e; exact ⟨_, rfl, h⟩
  | _, _, i + 1, _, .cons h r, e => by
    obtain ⟨v, e1, d⟩ := DenAll.getV (i := i) r (by simpa using e)
    exact ⟨v, by simpa using e1, d⟩
theorem DenAll.append : ∀ {vs ws : List V} {xs ys : List AV}, DenAll G F ι vs xs → DenAll G F ι ws ys → DenAll G F ι (vs ++ ws) (xs ++ ys)
  | _, _, _, _, .nil, t => t
  | _, _, _, _, .cons h r, t => .cons h (DenAll.append r t)
theorem DenAll.take : ∀ {vs : List V} {xs : List AV} (n : Nat), DenAll G F ι vs xs → DenAll G F ι (vs.take n) (xs.take n)
  | _, _, 0, _ => by simp; exact .nil
  | _, _, _ + 1, .nil => by simp; exact .nil
  | _, _, n + 1, .cons h r => .cons h (DenAll.take n r)
theorem DenAll.drop : ∀ {vs : List V} {xs : List AV} (n : Nat), DenAll G F ι vs xs → DenAll G F ι (vs.drop n) (xs.drop n)
  | _, _, 0, r => r
  | _, _, _ + 1, .nil => by simp; exact .nil
  | _, _, n + 1, .cons _ r => DenAll.drop n r
theorem DenAll.set : ∀ {vs : List V} {xs : List AV} {v : V} {x : AV} (i : Nat), Den G F ι v x → DenAll G F ι vs xs → DenAll G F ι (vs.set i v) (xs.set i x)
  | _, _, _, _, _, _, .nil => .nil
  | _, _, _, _, 0, d, .cons _ r => .cons d r
  | _, _, _, _, i + 1, d, .cons h r => .cons h (DenAll.set i d r)
theorem DenAll.one {v : V} {x : AV} (h : Den G F ι v x) : DenAll G F ι [v] [x] := .cons h .nil
end

/-! ### cells -/
/-- a cell's object as it stands at a -/
def CellOk (G : GS) (F : Hp) (ι : List Addr) (H : Hp) (a : Addr) : AO → Prop
  | .lst xs => F a = none ∧ ∃ vs, H a = some (.lst vs) ∧ DenAll G F ι vs xs
  | .dct kvs => F a = none ∧ ∃ ks : List (Key × V), H a = some (.dK ks) ∧ ks.map (fun p => kA p.1) = kvs.map (·.1) ∧ DenAll G F ι (ks.map (·.2)) (kvs.map (·.2))
  | .ins c fs => F a = none ∧ ∃ C dx vfs, H a = some (.ins C dx vfs) ∧ G.clA c = some C ∧ vfs.map (·.1) = fs.map (·.1) ∧ DenAll G F ι (vfs.map (·.2)) (fs.map (·.2))
  | .frz v => Den G F ι (.ref a) v
theorem CellOk.mono {G : GS} {F F' : Hp} {ι ι' : List Addr} {H H' : Hp} {a : Addr} {o : AO} (sm : Same F F') (p : ι <+: ι') (hF : F a = none → F' a = none) (hH : ∀ u, H a = some u → H' a = some u) (h : CellOk G F ι H a o) : CellOk G F' ι' H' a o := by
  cases o with
  | lst xs => obtain ⟨h1, vs, h2, h3⟩ := h; exact ⟨hF h1, vs, hH _ h2, h3.mono sm p⟩
  | dct kvs => obtain ⟨h1, ks, h2, h3, h4⟩ := h; exact ⟨hF h1, ks, hH _ h2, h3, h4.mono sm p⟩
  | ins c fs => obtain ⟨h1, C, dx, vfs, h2, h3, h4, h5⟩ := h; exact ⟨hF h1, C, dx, vfs, hH _ h2, h3, h4, h5.mono sm p⟩
  | frz v => exact Den.mono sm p h

/-- B: what others hold and may change; it is let alone -/
structure Rel (G : GS) (B : Hp) (F : Hp) (ι : List Addr) (H : Hp) (s : AS) : Prop where
  sub : Same F H
  out : ∀ a o, B a = some o → H a = some o ∧ F a = none ∧ a ∉ ι
  len : ι.length = s.cells.length
  nd : ι.Nodup
  here : ∀ a ∈ ι, ∃ o, H a = some o
  cell : ∀ (n : Nat) (a : Addr) (o : AO), ι[n]? = some a → s.cells[n]? = some o → CellOk G F ι H a o

/-- the cells that a value names -/
inductive RefIn (j : Nat) : AV → Prop
  | ref : RefIn j (.ref j)
  | tup {x : AV} {xs : List AV} : x ∈ xs → RefIn j x → RefIn j (.tup xs)
  | lst {x : AV} {xs : List AV} : x ∈ xs → RefIn j x → RefIn j (.lst xs)
  | dctK {p : AV × AV} {kvs : List (AV × AV)} : p ∈ kvs → RefIn j p.1 → RefIn j (.dct kvs)
  | dctV {p : AV × AV} {kvs : List (AV × AV)} : p ∈ kvs → RefIn j p.2 → RefIn j (.dct kvs)
  | ins {p : Str × AV} {c : Nat} {fs : List (Str × AV)} : p ∈ fs → RefIn j p.2 → RefIn j (.ins c fs)
  | exc {p : Str × AV} {c : Nat} {fs : List (Str × AV)} : p ∈ fs → RefIn j p.2 → RefIn j (.exc c fs)
def RefO (j : Nat) : AO → Prop
  | .lst xs => ∃ x ∈ xs, RefIn j x
  | .dct kvs => ∃ p ∈ kvs, RefIn j p.1 ∨ RefIn j p.2
  | .ins _ fs => ∃ p ∈ fs, RefIn j p.2
  | .frz v => RefIn j v

/-- cells only come to be; what is changed while opn is false names no later cell anew -/
structure Clo (s s' : AS) : Prop where
  len : s.cells.length ≤ s'.cells.length
  opn : s.opn = true → s'.opn = true
  old : s'.opn = false → ∀ n, n < s.cells.length → ∀ o', s'.cells[n]? = some o' → ∀ j, RefO j o' → j ≤ n ∨ ∃ o, s.cells[n]? = some o ∧ RefO j o
theorem Clo.refl (s : AS) : Clo s s := ⟨Nat.le_refl _, id, fun _ _ _ o' h _ r => .inr ⟨o', h, r⟩⟩
theorem Clo.trans {a b c : AS} (p : Clo a b) (q : Clo b c) : Clo a c where
  len := Nat.le_trans p.len q.len
  opn := fun h => q.opn (p.opn h)
  old := fun h n hn o' ho j hj => by
    have hb : b.opn = false := by
      cases e : b.opn with
      | false => rfl
      | true => rw [q.opn e] at h; cases h
    rcases q.old h n (Nat.lt_of_lt_of_le hn p.len) o' ho j hj with e | ⟨o, e1, e2⟩
    · exact .inl e
    · exact p.old hb n hn o e1 j e2
theorem Clo.keep {s s' : AS} (h : s.cells <+: s'.cells) (e : s'.opn = s.opn) : Clo s s' := by
  obtain ⟨t, ht⟩ := h
  refine ⟨by rw [← ht]; simp, fun q => by rw [e]; exact q, fun _ n hn o' ho j hj => .inr ⟨o', ?_, hj⟩⟩
  rw [← ht, List.getElem?_append_left hn] at ho
  exact ho

structure Stp (G : GS) (F : Hp) (ι : List Addr) (s : AS) (F' : Hp) (ι' : List Addr) (s' : AS) : Prop where
  sm : Same F F'
  pre : ι <+: ι'
  clo : Clo s s'
theorem Stp.refl {G : GS} {F : Hp} {ι : List Addr} {s : AS} : Stp G F ι s F ι s := ⟨Same.refl _, List.prefix_refl _, Clo.refl _⟩
theorem Stp.trans {G : GS} {F F1 F2 : Hp} {ι ι1 ι2 : List Addr} {s s1 s2 : AS} (a : Stp G F ι s F1 ι1 s1) (b : Stp G F1 ι1 s1 F2 ι2 s2) : Stp G F ι s F2 ι2 s2 :=
  ⟨a.sm.trans b.sm, a.pre.trans b.pre, a.clo.trans b.clo⟩
theorem Den.stp {G : GS} {F F' : Hp} {ι ι' : List Addr} {s s' : AS} {v : V} {x : AV} (d : Den G F ι v x) (p : Stp G F ι s F' ι' s') : Den G F' ι' v x := d.mono p.sm p.pre
theorem DenAll.stp {G : GS} {F F' : Hp} {ι ι' : List Addr} {s s' : AS} {v : List V} {x : List AV} (d : DenAll G F ι v x) (p : Stp G F ι s F' ι' s') : DenAll G F' ι' v x := d.mono p.sm p.pre

/-- the slots -/
def EnvR (G : GS) (F : Hp) (ι : List Addr) (σ : L2.St) (ρ : AE) : Prop :=
  σ.length = ρ.length ∧ ∀ (i : Nat) (x : AV), ρ[i]? = some (some x) → ∃ v, σ[i]? = some (some v) ∧ Den G F ι v x
section
variable {G : GS} {F F' : Hp} {ι ι' : List Addr} {s s' : AS} {σ : L2.St} {ρ : AE}
theorem EnvR.stp (e : EnvR G F ι σ ρ) (p : Stp G F ι s F' ι' s') : EnvR G F' ι' σ ρ :=
  ⟨e.1, fun i x h => let ⟨v, h1, h2⟩ := e.2 i x h; ⟨v, h1, h2.stp p⟩⟩
theorem EnvR.set {i : Nat} {v : V} {x : AV} (e : EnvR G F ι σ ρ) (d : Den G F ι v x) : EnvR G F ι (σ.set i (some v)) (ρ.set i (some x)) := by
  refine ⟨by simp [e.1], fun j y h => ?_⟩
  by_cases hj : i = j
  · subst hj
    have hl : i < ρ.length := by
      have := (List.getElem?_eq_some_iff.mp h).1
      simpa using this
    rw [List.getElem?_set_self hl] at h
    cases h
    exact ⟨v, by rw [List.getElem?_set_self (by rw [e.1]; exact hl)], d⟩
  · rw [List.getElem?_set_ne hj] at h
    obtain ⟨w, h1, h2⟩ := e.2 j y h
    exact ⟨w, by rw [List.getElem?_set_ne hj]; exact h1, h2⟩
theorem EnvR.none {i : Nat} (e : EnvR G F ι σ ρ) : EnvR G F ι (σ.set i Option.none) (ρ.set i Option.none) := by
  refine ⟨by simp [e.1], fun j y h => ?_⟩
  by_cases hj : i = j
  · subst hj
    have hl : i < ρ.length := by
      have := (List.getElem?_eq_some_iff.mp h).1
      simpa using this
    rw [List.getElem?_set_self hl] at h
    cases h
  · rw [List.getElem?_set_ne hj] at h
    obtain ⟨w, h1, h2⟩ := e.2 j y h
    exact ⟨w, by rw [List.getElem?_set_ne hj]; exact h1, h2⟩
theorem EnvR.wipe (e : EnvR G F ι σ ρ) : ∀ vs : List Nat, EnvR G F ι (L2.wipe σ vs) (wipeE ρ vs)
  | [] => e
  | v :: vs => (EnvR.wipe e vs).none
end

/-- an exception in flight -/
def ExD (G : GS) (F : Hp) (ι : List Addr) (cls : Value) (d : Option Addr) : AV → Prop
  | .exc c fs => ∃ C, G.clA c = some C ∧ cls = .ref C ∧ ((d = none ∧ fs = []) ∨ ∃ dx vfs, d = some dx ∧ F dx = some (.xd vfs) ∧ vfs.map (·.1) = fs.map (·.1) ∧ DenAll G F ι (vfs.map (·.2)) (fs.map (·.2)))
  | _ => False

/-- what is wanted behind a run of the evaluator -/
def Po {α β : Type} (G : GS) (B : Hp) (E : XK) (F : Hp) (ι : List Addr) (s : AS) (D : Hp → List Addr → β → α → Prop) (r : Rs α) (Q : β → Hp → Prop) : Prop :=
  match r with
  | .ok a s' => ∀ v H' F' ι', Stp G F ι s F' ι' s' → Rel G B F' ι' H' s' → D F' ι' v a → Q v H'
  | .exc x s' => ∀ cls d H' F' ι', Stp G F ι s F' ι' s' → Rel G B F' ι' H' s' → ExD G F' ι' cls d x → E cls d H'
  | .stuck => False

section
variable {α β γ δ : Type} {G : GS} {B : Hp} {E : XK} {F F' : Hp} {ι ι' : List Addr} {s s' : AS} {D : Hp → List Addr → β → α → Prop} {D' : Hp → List Addr → δ → γ → Prop} {Q : β → Hp → Prop} {H : Hp}
theorem Po.base {r : Rs α} (p : Stp G F ι s F' ι' s') (h : Po G B E F ι s D r Q) : Po G B E F' ι' s' D r Q := by
  cases r with
  | ok a s2 => exact fun v H' F2 ι2 st => h v H' F2 ι2 (p.trans st)
  | exc x s2 => exact fun c d H' F2 ι2 st => h c d H' F2 ι2 (p.trans st)
  | stuck => exact h
/-- the first part of a run -/
theorem Po.firstE {m : MM α} {f : α → MM γ} {R : δ → Hp → Prop} (h : Po G B E F ι s D' (MM.bind m f s) R)
    (k : ∀ v H1 F1 ι1 a s1, m s = .ok a s1 → Stp G F ι s F1 ι1 s1 → Rel G B F1 ι1 H1 s1 → D F1 ι1 v a → Po G B E F1 ι1 s1 D' (f a s1) R → Q v H1) : Po G B E F ι s D (m s) Q := by
  unfold MM.bind at h
  revert h k
  cases m s with
  | ok a s1 => exact fun h k v H1 F1 ι1 st R1 d => k v H1 F1 ι1 a s1 rfl st R1 d (Po.base st h)
  | exc x s1 => exact fun h _ => h
  | stuck => exact fun h _ => h
theorem Po.first {m : MM α} {f : α → MM γ} {R : δ → Hp → Prop} (h : Po G B E F ι s D' (MM.bind m f s) R)
    (k : ∀ v H1 F1 ι1 a s1, Stp G F ι s F1 ι1 s1 → Rel G B F1 ι1 H1 s1 → D F1 ι1 v a → Po G B E F1 ι1 s1 D' (f a s1) R → Q v H1) : Po G B E F ι s D (m s) Q := by
  unfold MM.bind at h
  revert h
  cases m s with
  | ok a s1 => exact fun h v H1 F1 ι1 st R1 d => k v H1 F1 ι1 a s1 st R1 d (Po.base st h)
  | exc x s1 => exact fun h => h
  | stuck => exact fun h => h
theorem Po.ok {a : α} {v : β} (h : Po G B E F ι s D (.ok a s') Q) (st : Stp G F ι s F' ι' s') (R : Rel G B F' ι' H s') (d : D F' ι' v a) : Q v H := h v H F' ι' st R d
theorem Po.mono {r : Rs α} {Q' : β → Hp → Prop} (h : Po G B E F ι s D r Q) (k : ∀ v H, Q v H → Q' v H) : Po G B E F ι s D r Q' := by
  cases r with
  | ok a s2 => exact fun v H' F2 ι2 st R d => k _ _ (h v H' F2 ι2 st R d)
  | exc x s2 => exact h
  | stuck => exact h
end

/-! ### reading -/
section
variable {G : GS} {B : Hp} {F : Hp} {ι : List Addr} {H : Hp} {s : AS}
theorem Rel.cellOf {n : Nat} {o : AO} (R : Rel G B F ι H s) (h : s.cells[n]? = some o) : ∃ a, ι[n]? = some a ∧ CellOk G F ι H a o := by
  have hn : n < ι.length := by rw [R.len]; exact (List.getElem?_eq_some_iff.mp h).1
  exact ⟨ι[n], by simp [hn], R.cell n _ o (by simp [hn]) h⟩
theorem DenAll.py (n : Nat) (ih : ∀ {v x d}, Den G F ι v x → toPy s.cells n x = some d → Dp G.K H v d) : ∀ {vs : List V} {xs : List AV} {ds : List PyData}, DenAll G F ι vs xs → mapO (toPy s.cells n) xs = some ds → DpAll G.K H vs ds
  | _, _, _, .nil, e => by simp [mapO] at e; subst e; exact .nil
  | _, _, _, .cons (x := x) (xs := xs) d r, e => by
    unfold mapO at e
    cases e1 : toPy s.cells n x with
    | none => rw [e1] at e; cases e
    | some y =>
      rw [e1] at e
      cases e2 : mapO (toPy s.cells n) xs with
      | none => rw [e2] at e; cases e
      | some ys =>
        rw [e2] at e
        cases e
        exact .cons (ih d e1) (DenAll.py n ih r e2)
theorem Rel.sqL {a : Addr} {vs : List V} (R : Rel G B F ι H s) (h : SqL G.K F a vs) : SqL G.K H a vs := sqL_mono R.sub h
theorem Rel.sqT {a : Addr} {vs : List V} (R : Rel G B F ι H s) (h : SqT G.K F a vs) : SqT G.K H a vs := sqT_mono R.sub h
theorem Rel.py (R : Rel G B F ι H s) : ∀ (n : Nat) {v : V} {x : AV} {d : PyData}, Den G F ι v x → toPy s.cells n x = some d → Dp G.K H v d
  | 0, _, _, _, _, e => by simp [toPy] at e
  | n + 1, v, x, d, h, e => by
    have ih := @Rel.py R n
    cases h with
    | non => simp [toPy] at e; subst e; exact .non
    | bl b => simp [toPy] at e; subst e; exact .bl b
    | int i => simp [toPy] at e; subst e; exact .int i
    | str z => simp [toPy] at e; subst e; exact .str z
    | fn _ => simp [toPy] at e
    | dctK _ _ _ => simp [toPy] at e
    | ins _ _ _ _ => simp [toPy] at e
    | @tup a vs xs q r =>
      simp only [toPy] at e
      cases e2 : mapO (toPy s.cells n) xs with
      | none => rw [e2] at e; cases e
      | some ds =>
        rw [e2] at e; cases e
        exact .tup (R.sqT q) (DenAll.py n ih r e2)
    | @lst a vs xs q r =>
      simp only [toPy] at e
      cases e2 : mapO (toPy s.cells n) xs with
      | none => rw [e2] at e; cases e
      | some ds =>
        rw [e2] at e; cases e
        exact .lst (R.sqL q) (DenAll.py n ih r e2)
    | @ref k a hk =>
      simp only [toPy] at e
      cases ec : s.cells[k]? with
      | none => rw [ec] at e; cases e
      | some o =>
        obtain ⟨a', ha', ok⟩ := R.cellOf ec
        rw [hk] at ha'; cases ha'
        rw [ec] at e
        cases o with
        | lst xs =>
          simp only at e
          cases e2 : mapO (toPy s.cells n) xs with
          | none => rw [e2] at e; cases e
          | some ds =>
            rw [e2] at e; cases e
            obtain ⟨_, vs, hH, r⟩ := ok
            exact .lst (SqL.of hH) (DenAll.py n ih r e2)
        | frz w => exact ih ok e
        | dct _ => simp at e
        | ins _ _ => simp at e
theorem Rel.seq (R : Rel G B F ι H s) {v : V} {x : AV} {b : Bool} {xs : List AV} (h : Den G F ι v x) (e : seqOf s.cells x = some (b, xs)) :
    ∃ a vs, v = .ref a ∧ DenAll G F ι vs xs ∧ (b = true → SqT G.K F a vs) ∧ (b = false → SqL G.K H a vs) := by
  cases h with
  | non => simp [seqOf] at e
  | bl b => simp [seqOf] at e
  | int i => simp [seqOf] at e
  | str z => simp [seqOf] at e
  | fn _ => simp [seqOf] at e
  | dctK _ _ _ => simp [seqOf] at e
  | ins _ _ _ _ => simp [seqOf] at e
  | @tup a vs xs q r => simp [seqOf] at e; obtain ⟨rfl, rfl⟩ := e; exact ⟨a, vs, rfl, r, fun _ => q, (fun z => nomatch z)⟩
  | @lst a vs xs q r => simp [seqOf] at e; obtain ⟨rfl, rfl⟩ := e; exact ⟨a, vs, rfl, r, (fun z => nomatch z), fun _ => sqL_mono R.sub q⟩
  | @ref k a hk =>
    simp only [seqOf] at e
    cases ec : s.cells[k]? with
    | none => rw [ec] at e; cases e
    | some o =>
      obtain ⟨a', ha', ok⟩ := R.cellOf ec
      rw [hk] at ha'; cases ha'
      rw [ec] at e
      cases o with
      | lst ys =>
        simp only [Option.some.injEq, Prod.mk.injEq] at e
        obtain ⟨rfl, rfl⟩ := e
        obtain ⟨_, vs, hH, r⟩ := ok
        exact ⟨a, vs, rfl, r, (fun z => nomatch z), fun _ => SqL.of hH⟩
      | frz w =>
        cases w with
        | lst ys =>
          simp only [Option.some.injEq, Prod.mk.injEq] at e
          obtain ⟨rfl, rfl⟩ := e
          cases (show Den G F ι (.ref a) (.lst ys) from ok) with
          | lst q r => exact ⟨a, _, rfl, r, (fun z => nomatch z), fun _ => sqL_mono R.sub q⟩
        | _ => simp at e
      | dct _ => simp at e
      | ins _ _ => simp at e
/-- a new tracked object, a value from now on -/
theorem Rel.fresh (R : Rel G B F ι H s) {p : Addr} (o : HO) (hp : H p = none) : Stp G F ι s (upd F p o) ι s ∧ Rel G B (upd F p o) ι (upd H p o) s := by
  have hF : F p = none := by
    cases e : F p with
    | none => rfl
    | some u => rw [R.sub _ _ e] at hp; cases hp
  have sm : Same F (upd F p o) := fun b u e => by rw [upd_ne (ne_of_none e hF)]; exact e
  refine ⟨⟨sm, List.prefix_refl _, Clo.refl _⟩, ⟨fun b u e => ?_, fun b u e => ?_, R.len, R.nd, fun a ha => ?_, fun n a ob hn hc => ?_⟩⟩
  · by_cases hb : b = p
    · subst hb; rw [upd_same] at e ⊢; exact e
    · rw [upd_ne hb] at e ⊢; exact R.sub _ _ e
  · obtain ⟨h1, h2, h3⟩ := R.out b u e
    have ne := ne_of_none h1 hp
    exact ⟨by rw [upd_ne ne]; exact h1, by rw [upd_ne ne]; exact h2, h3⟩
  · obtain ⟨u, hu⟩ := R.here a ha
    exact ⟨u, by rw [upd_ne (ne_of_none hu hp)]; exact hu⟩
  · obtain ⟨u, hu⟩ := R.here a (List.mem_of_getElem? hn)
    have ne : a ≠ p := ne_of_none hu hp
    exact (R.cell n a ob hn hc).mono sm (List.prefix_refl _) (fun h => by rw [upd_ne ne]; exact h) fun u h => by rw [upd_ne ne]; exact h
/-- a new cell -/
theorem Rel.newCell (R : Rel G B F ι H s) {p : Addr} {ho : HO} {ob0 : AO} (hp : H p = none) (d : F p = none → CellOk G F (ι ++ [p]) (upd H p ho) p ob0) :
    Stp G F ι s F (ι ++ [p]) { s with cells := s.cells ++ [ob0] } ∧ Rel G B F (ι ++ [p]) (upd H p ho) { s with cells := s.cells ++ [ob0] } := by
  have hF : F p = none := by
    cases e : F p with
    | none => rfl
    | some u => rw [R.sub _ _ e] at hp; cases hp
  have pre : ι <+: ι ++ [p] := ⟨[p], rfl⟩
  have sm := Same.refl F
  have np : p ∉ ι := fun hm => by
    obtain ⟨u, hu⟩ := R.here p hm
    rw [hp] at hu; cases hu
  refine ⟨⟨sm, pre, Clo.keep ⟨_, rfl⟩ rfl⟩, ⟨fun b u e => by rw [upd_ne (ne_of_none (R.sub _ _ e) hp)]; exact R.sub _ _ e, fun b u e => ?_, by simp [R.len], ?_, fun a ha => ?_, fun n a ob hn hc => ?_⟩⟩
  · obtain ⟨h1, h2, h3⟩ := R.out b u e
    have ne := ne_of_none h1 hp
    exact ⟨by rw [upd_ne ne]; exact h1, h2, by simp [h3, ne]⟩
  · rw [List.nodup_append]
    refine ⟨R.nd, by simp, fun a ha b hb e => ?_⟩
    simp at hb
    subst hb; subst e
    exact np ha
  · rcases List.mem_append.mp ha with ha | ha
    · obtain ⟨u, hu⟩ := R.here a ha
      exact ⟨u, by rw [upd_ne (ne_of_none hu hp)]; exact hu⟩
    · simp at ha
      subst ha
      exact ⟨_, upd_same⟩
  · by_cases hl : n < ι.length
    · rw [List.getElem?_append_left hl] at hn
      rw [List.getElem?_append_left (by rw [← R.len]; exact hl)] at hc
      have ne : a ≠ p := fun e => np (by rw [← e]; exact List.mem_of_getElem? hn)
      exact (R.cell n a ob hn hc).mono sm pre id fun u h => by rw [upd_ne ne]; exact h
    · have e : n = ι.length := by
        have h1 := (List.getElem?_eq_some_iff.mp hn).1
        simp at h1
        omega
      subst e
      rw [List.getElem?_append_right (Nat.le_refl _)] at hn
      rw [R.len, List.getElem?_append_right (Nat.le_refl _)] at hc
      simp at hn hc
      subst hn; subst hc
      exact d hF
/-- an object that we hold for a while -/
theorem Rel.hold (R : Rel G B F ι H s) {p : Addr} (o : HO) (hp : H p = none) : Rel G (upd B p o) F ι (upd H p o) s := by
  have hF : F p = none := by
    cases e : F p with
    | none => rfl
    | some u => rw [R.sub _ _ e] at hp; cases hp
  have np : p ∉ ι := fun hm => by
    obtain ⟨u, hu⟩ := R.here p hm
    rw [hp] at hu; cases hu
  refine ⟨fun b u e => by rw [upd_ne (ne_of_none (R.sub _ _ e) hp)]; exact R.sub _ _ e, fun b u e => ?_, R.len, R.nd, fun a ha => ?_, fun n a ob hn hc => ?_⟩
  · by_cases hb : b = p
    · subst hb; rw [upd_same] at e ⊢; exact ⟨e, hF, np⟩
    · rw [upd_ne hb] at e ⊢; exact R.out b u e
  · obtain ⟨u, hu⟩ := R.here a ha
    exact ⟨u, by rw [upd_ne (ne_of_none hu hp)]; exact hu⟩
  · obtain ⟨u, hu⟩ := R.here a (List.mem_of_getElem? hn)
    have ne : a ≠ p := ne_of_none hu hp
    exact (R.cell n a ob hn hc).mono (Same.refl _) (List.prefix_refl _) id fun u h => by rw [upd_ne ne]; exact h
/-- .. changed by us -/
theorem Rel.held {p : Addr} {o : HO} (R : Rel G (upd B p o) F ι H s) (o' : HO) : Rel G (upd B p o') F ι (upd H p o') s := by
  obtain ⟨hH, hF, np⟩ := R.out p o upd_same
  refine ⟨fun b u e => ?_, fun b u e => ?_, R.len, R.nd, fun a ha => ?_, fun n a ob hn hc => ?_⟩
  · have ne : b ≠ p := fun z => by rw [z, hF] at e; cases e
    rw [upd_ne ne]; exact R.sub _ _ e
  · by_cases hb : b = p
    · subst hb; rw [upd_same] at e ⊢; exact ⟨e, hF, np⟩
    · rw [upd_ne hb] at e ⊢
      exact R.out b u (by rw [upd_ne hb]; exact e)
  · have ne : a ≠ p := fun z => np (z ▸ ha)
    obtain ⟨u, hu⟩ := R.here a ha
    exact ⟨u, by rw [upd_ne ne]; exact hu⟩
  · have ne : a ≠ p := fun z => np (z ▸ List.mem_of_getElem? hn)
    exact (R.cell n a ob hn hc).mono (Same.refl _) (List.prefix_refl _) id fun u h => by rw [upd_ne ne]; exact h
/-- .. let alone from now on -/
theorem Rel.release {p : Addr} {o : HO} (R : Rel G (upd B p o) F ι H s) (hB : B p = none) : Stp G F ι s (upd F p o) ι s ∧ Rel G B (upd F p o) ι H s := by
  obtain ⟨hH, hF, np⟩ := R.out p o upd_same
  have sm : Same F (upd F p o) := fun b u e => by rw [upd_ne (ne_of_none e hF)]; exact e
  refine ⟨⟨sm, List.prefix_refl _, Clo.refl _⟩, ⟨fun b u e => ?_, fun b u e => ?_, R.len, R.nd, R.here, fun n a ob hn hc => ?_⟩⟩
  · by_cases hb : b = p
    · subst hb; rw [upd_same] at e; cases e; exact hH
    · rw [upd_ne hb] at e; exact R.sub _ _ e
  · have ne : b ≠ p := ne_of_none e hB
    obtain ⟨h1, h2, h3⟩ := R.out b u (by rw [upd_ne ne]; exact e)
    exact ⟨h1, by rw [upd_ne ne]; exact h2, h3⟩
  · have ne : a ≠ p := fun z => np (z ▸ List.mem_of_getElem? hn)
    exact (R.cell n a ob hn hc).mono sm (List.prefix_refl _) (fun h => by rw [upd_ne ne]; exact h) fun u h => h
/-- .. a cell from now on -/
theorem Rel.toCell {p : Addr} {ho : HO} {ob0 : AO} (R : Rel G (upd B p ho) F ι H s) (hB : B p = none) (d : F p = none → H p = some ho → CellOk G F (ι ++ [p]) H p ob0) :
    Stp G F ι s F (ι ++ [p]) { s with cells := s.cells ++ [ob0] } ∧ Rel G B F (ι ++ [p]) H { s with cells := s.cells ++ [ob0] } := by
  obtain ⟨hH, hF, np⟩ := R.out p _ upd_same
  have pre : ι <+: ι ++ [p] := ⟨[p], rfl⟩
  have sm := Same.refl F
  refine ⟨⟨sm, pre, Clo.keep ⟨_, rfl⟩ rfl⟩, ⟨R.sub, fun b u e => ?_, by simp [R.len], ?_, fun a ha => ?_, fun n a ob hn hc => ?_⟩⟩
  · have ne : b ≠ p := ne_of_none e hB
    obtain ⟨h1, h2, h3⟩ := R.out b u (by rw [upd_ne ne]; exact e)
    exact ⟨h1, h2, by simp [h3, ne]⟩
  · rw [List.nodup_append]
    refine ⟨R.nd, by simp, fun a ha b hb e => ?_⟩
    simp at hb
    subst hb; subst e
    exact np ha
  · rcases List.mem_append.mp ha with ha | ha
    · exact R.here a ha
    · simp at ha
      subst ha
      exact ⟨_, hH⟩
  · by_cases hl : n < ι.length
    · rw [List.getElem?_append_left hl] at hn
      rw [List.getElem?_append_left (by rw [← R.len]; exact hl)] at hc
      exact (R.cell n a ob hn hc).mono sm pre id fun u h => h
    · have e : n = ι.length := by
        have h1 := (List.getElem?_eq_some_iff.mp hn).1
        simp at h1
        omega
      subst e
      rw [List.getElem?_append_right (Nat.le_refl _)] at hn
      rw [R.len, List.getElem?_append_right (Nat.le_refl _)] at hc
      simp at hn hc
      subst hn; subst hc
      exact d hF hH
end
end Ev

set_option linter.all false
set_option maxRecDepth 100000
set_option maxHeartbeats 1000000
/-! EvC: operators and built-ins of the evaluator, by the layer's rules. Own work. -/
namespace Ev
open PySem PySem.Spec PyProof.Rows L2

structure GN where
  fnA : Nat → Option Addr
  clA : Nat → Option Addr
abbrev gsOf (X : Cx) (g : GN) : GS := ⟨X.K, g.fnA, g.clA⟩

def opOf : BOp → Operator
  | .add => .Add | .sub => .Sub | .mul => .Mult | .div => .FloorDiv | .mod => .Mod | .pow => .Pow
def copOf : COp → CmpOp
  | .lt => .Lt | .le => .LtE | .gt => .Gt | .ge => .GtE | .eq => .Eq | .ne => .NotEq | .isN => .Is | .notN => .IsNot | .isB => .Is | .inn => .In | .nin => .NotIn

def rBin (G : GS) (o : BOp) : R2 := fun x y H Q => ∃ B E F ι s a b, Rel G B F ι H s ∧ Den G F ι x a ∧ Den G F ι y b ∧ Po G B E F ι s (Den G) (binM o a b s) Q

section
variable {X : Cx} {g : GN}
theorem lstR {pins : List (Addr × Obj)} {σ : L2.St} {H : Hp} {s : Shared} (I : Inv X pins σ H s) {a : Addr} {xs : List V} (h : Rd H a (.lst xs)) :
    xs.length ≤ sizeLine ∧ ∃ its n, Vals xs its ∧ xs.length = its.length ∧ s.heap.get? a = some { cls := .type "list", data := .seq its.toArray n } := by
  obtain ⟨z, its, n, r, e⟩ := (Rd.ok h I.hok : ObjOk X.prog X.w H s.heap a (.lst xs))
  exact ⟨z, its, n, r, r.length, e⟩
/-- lists put together: a script's list may be any list -/
theorem op_catL : OpR X (binaryOp .Add) (fun x y H Q => ∃ l b xs zs, x = .ref l ∧ y = .ref b ∧ SqL X.K H l xs ∧ SqL X.K H b zs ∧ xs.length + zs.length ≤ sizeLine ∧ ∀ p, H p = none → Q (.ref p) (upd H p (.lst (xs ++ zs)))) := by
  intro pins s σ H x y v u Q I rx ry h
  obtain ⟨l, b, xs, zs, rfl, rfl, h1, h2, hz, q⟩ := h
  cases rx
  cases ry
  obtain ⟨i1, r1, ⟨⟨c1, d1, dt1, sl1⟩, n1, g1, e11, e12, e13⟩, _⟩ := I.list h1
  obtain ⟨i2, r2, ⟨⟨c2, d2, dt2, sl2⟩, n2, g2, e21, e22, e23⟩, _⟩ := I.list h2
  simp only at e11 e12 e13 e21 e22 e23
  subst e11 e12 e13 e21 e22 e23
  have el : i1.length + i2.length ≤ sizeLine := by rw [← r1.length, ← r2.length]; exact hz
  have et : i1.toArray ++ i2.toArray = (i1 ++ i2).toArray := by simp
  refine concat_meets ⟨_, g1, rfl⟩ ⟨_, g2, rfl⟩ noFill_list_add seq_list_add PySem.F.slot_list_add PySem.F.entry_list_add (PySem.F.args_list_add_2 _ _)
    (list_addW l b i1.toArray i2.toArray n1 n2 none none sl1 sl2 (by simpa using el)) ⟨g1, g2, ?_⟩
  rw [et]
  exact ⟨.ref _, _, I.lnew (t' := s.toks) (r1.append r2) (by rw [List.length_append]; omega), rfl, q _ I.fresh⟩

theorem LIM_eq : (LIM : Nat) = sizeLine := by decide

/-- a new list as a value -/
theorem Po.newL {G : GS} {B : Hp} {E : XK} {F : Hp} {ι : List Addr} {H : Hp} {s : AS} {vs : List V} {xs : List AV} {Q : VK} {p : Addr} {al : Bool} (R : Rel G B F ι H s) (d : DenAll G F ι vs xs)
    (h : Po G B E F ι s (Den G) (mkL al xs s) Q) (hp : H p = none) : Q (.ref p) (upd H p (.lst vs)) := by
  unfold mkL at h
  cases al with
  | true =>
    obtain ⟨st, R'⟩ := R.newCell (ho := .lst vs) (ob0 := .lst xs) hp fun hF => ⟨hF, vs, upd_same, d.mono (Same.refl _) ⟨[p], rfl⟩⟩
    refine h _ _ _ _ st R' (.ref ?_)
    rw [← R.len, List.getElem?_append_right (Nat.le_refl _)]
    simp
  | false =>
    obtain ⟨st, R'⟩ := R.fresh (.lst vs) hp
    exact h _ _ _ _ st R' (.lst (SqL.of upd_same) (d.stp st))
theorem Po.newT {G : GS} {B : Hp} {E : XK} {F : Hp} {ι : List Addr} {H : Hp} {s : AS} {vs : List V} {xs : List AV} {Q : VK} {p : Addr} (R : Rel G B F ι H s) (d : DenAll G F ι vs xs)
    (h : Po G B E F ι s (Den G) (.ok (.tup xs) s) Q) (hp : H p = none) : Q (.ref p) (upd H p (.tup vs)) := by
  obtain ⟨st, R'⟩ := R.fresh (.tup vs) hp
  exact h _ _ _ _ st R' (.tup (.inl (.inl upd_same)) (d.stp st))
theorem mkL_false {xs : List AV} {s : AS} : mkL false xs s = .ok (.lst xs) s := rfl

theorem bin_ok (o : BOp) : OpR X (binaryOp (opOf o)) (rBin (gsOf X g) o) := by
  intro pins s σ H x y v u Q I rx ry h
  obtain ⟨B, E, F, ι, st, a, b, R, da, db, h⟩ := h
  unfold binM at h
  split at h
  · cases da; cases db
    exact op_add pins s σ H _ _ v u Q I rx ry ⟨_, _, rfl, rfl, h _ _ _ _ Stp.refl R (.int _)⟩
  · cases da; cases db
    exact op_sub pins s σ H _ _ v u Q I rx ry ⟨_, _, rfl, rfl, h _ _ _ _ Stp.refl R (.int _)⟩
  · rename_i i j
    cases da; cases db
    split at h
    · rename_i hc
      refine op_mul pins s σ H _ _ v u Q I rx ry ⟨_, _, rfl, rfl, ?_, h _ _ _ _ Stp.refl R (.int _)⟩
      rcases hc with hc | hc
      · exact .inl ⟨by omega, by omega⟩
      · exact .inr ⟨by omega, by omega⟩
    · exact h.elim
  · cases da; cases db
    split at h
    · rename_i hc
      exact op_fdiv pins s σ H _ _ v u Q I rx ry ⟨_, _, rfl, rfl, hc, h _ _ _ _ Stp.refl R (.int _)⟩
    · exact h.elim
  · cases da; cases db
    split at h
    · rename_i hc
      exact op_mod pins s σ H _ _ v u Q I rx ry ⟨_, _, rfl, rfl, hc, h _ _ _ _ Stp.refl R (.int _)⟩
    · exact h.elim
  · cases da; cases db
    split at h
    · rename_i hc
      exact op_pow pins s σ H _ _ v u Q I rx ry ⟨_, _, rfl, rfl, hc, h _ _ _ _ Stp.refl R (.int _)⟩
    · exact h.elim
  · cases da; cases db
    split at h
    · rename_i hc
      exact op_add_str pins s σ H _ _ v u Q I rx ry ⟨_, _, rfl, rfl, hc, h _ _ _ _ Stp.refl R (.str _)⟩
    · exact h.elim
  · split at h
    · rename_i xs ys e1 e2
      obtain ⟨p, vs, rfl, r1, _, l1⟩ := R.seq da e1
      obtain ⟨q, ws, rfl, r2, _, l2⟩ := R.seq db e2
      split at h
      · rename_i hc
        refine op_catL pins s σ H _ _ v u Q I rx ry ⟨_, _, _, _, rfl, rfl, l1 rfl, l2 rfl, ?_, fun z hz => ?_⟩
        · rw [r1.length, r2.length, ← LIM_eq]; exact hc
        · exact Po.newL (al := false) R (r1.append r2) h hz
      · exact h.elim
    · rename_i xs ys e1 e2
      obtain ⟨p, vs, rfl, r1, l1, _⟩ := R.seq da e1
      obtain ⟨q, ws, rfl, r2, l2, _⟩ := R.seq db e2
      split at h
      · rename_i hc
        refine op_catA pins s σ H _ _ v u Q I rx ry ⟨_, _, _, _, rfl, rfl, R.sqT (l1 rfl), R.sqT (l2 rfl), ?_, fun hz => ?_, fun hz hz2 => ?_, fun _ _ z hz => ?_⟩
        · rw [r1.length, r2.length, ← LIM_eq]; exact hc
        · subst hz
          cases r1
          exact h _ _ _ _ Stp.refl R (.tup (l2 rfl) r2)
        · subst hz2
          cases r2
          rw [List.append_nil] at h
          exact h _ _ _ _ Stp.refl R (.tup (l1 rfl) r1)
        · exact Po.newT R (r1.append r2) h hz
      · exact h.elim
    · exact h.elim
  · exact h.elim

/-! ### comparisons -/
def rCmp (G : GS) (o : COp) : R2 := fun x y H Q => ∃ B E F ι s a b, Rel G B F ι H s ∧ Den G F ι x a ∧ Den G F ι y b ∧ Po G B E F ι s (Den G) (cmpM o a b s) Q
theorem eq_cases {G : GS} {B : Hp} {E : XK} {F : Hp} {ι : List Addr} {H : Hp} {s : AS} {x y : V} {a b : AV} {f : Bool → AV} {Q : VK} (R : Rel G B F ι H s) (da : Den G F ι x a) (db : Den G F ι y b)
    (h : Po G B E F ι s (Den G) (MM.bind (eqM a b) (fun b => MM.pure (f b)) s) Q) :
    ∃ d e, Dp G.K H x d ∧ Dp G.K H y e ∧ SeqAt.shaped d = true ∧ SeqAt.shaped e = true ∧ Po G B E F ι s (Den G) (.ok (f (PyData.eqv d e)) s) Q := by
  unfold MM.bind eqM at h
  cases e1 : toPy s.cells DPT a with
  | none => simp only [e1] at h; exact h.elim
  | some d =>
    cases e2 : toPy s.cells DPT b with
    | none => simp only [e1, e2] at h; exact h.elim
    | some e =>
      simp only [e1, e2] at h
      by_cases hc : SeqAt.shaped d = true ∧ SeqAt.shaped e = true
      · rw [if_pos hc] at h
        exact ⟨d, e, R.py _ da e1, R.py _ db e2, hc.1, hc.2, h⟩
      · rw [if_neg hc] at h
        exact h.elim
theorem cmp_ok (o : COp) (hu : X.A.units + 64 < cLine) : OpR X (compareOp (copOf o)) (rCmp (gsOf X g) o) := by
  intro pins s σ H x y v u Q I rx ry h
  obtain ⟨B, E, F, ι, st, a, b, R, da, db, h⟩ := h
  unfold cmpM at h
  cases o with
  | eq =>
    obtain ⟨d, e, p, q, h1, h2, h⟩ := eq_cases R da db h
    exact op_eqD hu pins s σ H _ _ v u Q I rx ry ⟨d, e, p, q, h1, h2, h _ _ _ _ Stp.refl R (.bl _)⟩
  | ne =>
    obtain ⟨d, e, p, q, h1, h2, h⟩ := eq_cases (f := fun b => AV.bl (!b)) R da db h
    exact op_neD hu pins s σ H _ _ v u Q I rx ry ⟨d, e, p, q, h1, h2, h _ _ _ _ Stp.refl R (.bl _)⟩
  | lt =>
    simp only at h
    split at h
    · cases da; cases db
      exact op_lt pins s σ H _ _ v u Q I rx ry ⟨_, _, rfl, rfl, h _ _ _ _ Stp.refl R (.bl _)⟩
    · exact h.elim
  | le =>
    simp only at h
    split at h
    · cases da; cases db
      exact op_le pins s σ H _ _ v u Q I rx ry ⟨_, _, rfl, rfl, h _ _ _ _ Stp.refl R (.bl _)⟩
    · exact h.elim
  | gt =>
    simp only at h
    split at h
    · cases da; cases db
      exact op_gt pins s σ H _ _ v u Q I rx ry ⟨_, _, rfl, rfl, h _ _ _ _ Stp.refl R (.bl _)⟩
    · exact h.elim
  | ge =>
    simp only at h
    split at h
    · cases da; cases db
      exact op_ge pins s σ H _ _ v u Q I rx ry ⟨_, _, rfl, rfl, h _ _ _ _ Stp.refl R (.bl _)⟩
    · exact h.elim
  | isB =>
    simp only at h
    split at h
    · cases da; cases db
      exact op_isBl pins s σ H _ _ v u Q I rx ry ⟨_, _, rfl, rfl, h _ _ _ _ Stp.refl R (.bl _)⟩
    · exact h.elim
  | isN => exact h.elim
  | notN => exact h.elim
  | inn => exact h.elim
  | nin => exact h.elim

/-! ### truth -/
theorem seq_truth {G : GS} {B : Hp} {F : Hp} {ι : List Addr} {H : Hp} {s : AS} {v : V} {x : AV} {b : Bool} {xs : List AV} (R : Rel G B F ι H s) (d : Den G F ι v x) (e : seqOf s.cells x = some (b, xs)) : TruV G.K v H (!xs.isEmpty) := by
  obtain ⟨p, vs, rfl, r1, l1, l2⟩ := R.seq d e
  have hl : vs.isEmpty = xs.isEmpty := by cases r1 <;> rfl
  cases b with
  | true => exact .inr (.inl ⟨vs, R.sqT (l1 rfl), by rw [hl]⟩)
  | false => exact .inl ⟨vs, l2 rfl, by rw [hl]⟩
theorem tru_of {G : GS} {B : Hp} {F : Hp} {ι : List Addr} {H : Hp} {s : AS} {v : V} {x : AV} {b : Bool} (R : Rel G B F ι H s) (d : Den G F ι v x) (e : truth s.cells x = some b) : TruV G.K v H b := by
  unfold truth at e
  split at e
  · cases d; cases e; exact rfl
  · cases d; cases e; exact rfl
  · cases d; cases e; exact rfl
  · cases d
    split at e
    · rename_i hz
      cases e
      refine ⟨by rw [sizeLine_eq]; exact hz, ?_⟩
      rename_i z
      cases hq : z.length with
      | zero => rfl
      | succ k => rfl
    · cases e
  · split at e
    · rename_i hs
      cases e
      exact seq_truth R d hs
    · cases e

/-! ### subscripts -/
def rIdx (G : GS) : R2 := fun x y H Q => ∃ B E F ι s a b, Rel G B F ι H s ∧ Den G F ι x a ∧ Den G F ι y b ∧ Po G B E F ι s (Den G) (idxM a b s) Q
theorem atI_den {G : GS} {F : Hp} {ι : List Addr} {vs : List V} {xs : List AV} {i : Int} {x : AV} (r : DenAll G F ι vs xs) (e : atI xs i = some x) : ∃ v, atI vs i = some v ∧ Den G F ι v x := by
  unfold atI at e ⊢
  rw [r.length]
  cases h : ixN xs.length i with
  | none => rw [h] at e; cases e
  | some j =>
    rw [h] at e
    exact r.get (i := j) e
theorem idx_ok : IxR X (rIdx (gsOf X g)) := by
  intro value slice pins s σ H x y v u Q I rx ry h hs
  obtain ⟨B, E, F, ι, st, a, b, R, da, db, h⟩ := h
  unfold idxM at h
  split at h
  · cases db
    split at h
    · cases da
      split at h
      · rename_i hz
        split at h
        · rename_i hc
          exact ix_seq value slice pins s σ H _ _ v u Q I rx ry (.inr (.inr ⟨_, _, _, rfl, rfl, by rw [sizeLine_eq]; exact hz, hc, h _ _ _ _ Stp.refl R (.str _)⟩)) hs
        · exact h.elim
      · exact h.elim
    · split at h
      · rename_i bb xs hq
        obtain ⟨p, vs, rfl, r1, l1, l2⟩ := R.seq da hq
        split at h
        · rename_i hc
          obtain ⟨w, hw, dw⟩ := atI_den r1 hc
          cases bb with
          | true => exact ix_seq value slice pins s σ H _ _ v u Q I rx ry (.inr (.inl ⟨p, vs, _, w, rfl, rfl, R.sqT (l1 rfl), hw, h _ _ _ _ Stp.refl R dw⟩)) hs
          | false => exact ix_seq value slice pins s σ H _ _ v u Q I rx ry (.inl ⟨p, vs, _, w, rfl, rfl, l2 rfl, hw, h _ _ _ _ Stp.refl R dw⟩) hs
        · exact h.elim
      · exact h.elim
  · exact h.elim

theorem cut_den {G : GS} {F : Hp} {ι : List Addr} {vs : List V} {xs : List AV} {lo hi : Option Int} (r : DenAll G F ι vs xs) : DenAll G F ι (cutV vs lo hi) (cutL xs lo hi) := by
  unfold cutV cutL
  rw [r.length]
  exact (r.drop _).take _
def rSlc (G : GS) : V → Option Int → Option Int → Hp → VK → Prop := fun x lo hi H Q => ∃ B E F ι s a, Rel G B F ι H s ∧ Den G F ι x a ∧ Po G B E F ι s (Den G) (slcM a lo hi s) Q
theorem slc_ok : SlR X (rSlc (gsOf X g)) := by
  intro pins s σ H x v vl vu lo hi sl Q I rx hs pl pu h
  obtain ⟨B, E, F, ι, st, a, R, da, h⟩ := h
  unfold slcM at h
  split at h
  · rename_i xs hq
    obtain ⟨p, vs, rfl, r1, l1, l2⟩ := R.seq da hq
    exact sl_list pins s σ H _ v vl vu lo hi sl Q I rx hs pl pu ⟨p, vs, rfl, l2 rfl, fun z hz => Po.newL (al := false) R (cut_den r1) h hz⟩
  · rename_i xs hq
    obtain ⟨p, vs, rfl, r1, l1, l2⟩ := R.seq da hq
    refine sl_tupA pins s σ H _ v vl vu lo hi sl Q I rx hs pl pu ⟨p, vs, rfl, R.sqT (l1 rfl), fun hw => ?_, fun hw z hz => Po.newT R (cut_den r1) h hz⟩
    have e : cutL xs lo hi = xs := by
      unfold cutL
      rw [r1.length] at hw
      rw [hw.1, hw.2]
      simp
    rw [e] at h
    exact h _ _ _ _ Stp.refl R (.tup (l1 rfl) r1)
  · exact h.elim

/-! ### isinstance -/
theorem ty_of {G : GS} {B : Hp} {F : Hp} {ι : List Addr} {H : Hp} {s : AS} {v : V} {x : AV} {T : String} (R : Rel G B F ι H s) (d : Den G F ι v x) (e : tyName s.cells x = some T) : TyX G.K H v (.type T) := by
  cases d with
  | non => cases e; exact .base .non
  | bl b => cases e; exact .base (.bl b)
  | int i => cases e; exact .base (.int i)
  | str z => cases e; exact .base (.str z)
  | fn _ => cases e
  | tup h r =>
    cases e
    rcases R.sqT h with (h | ⟨o, h⟩) | ⟨o, its, n, h1, h2, _⟩
    · exact .base (.tup h)
    · exact .fTuple h
    · exact .kTuple h1 h2
  | lst h r =>
    cases e
    rcases R.sqL h with (h | ⟨o, h⟩) | ⟨o, its, n, h1, h2, _⟩
    · exact .base (.lst h)
    · exact .base (.frz h)
    · exact .kList h1 h2
  | dctK h _ r => cases e; exact .base (.dK (R.sub _ _ h))
  | ins _ _ _ _ => cases e
  | @ref k a hk =>
    simp only [tyName] at e
    cases ec : s.cells[k]? with
    | none => rw [ec] at e; cases e
    | some o =>
      obtain ⟨a', ha', ok⟩ := R.cellOf ec
      rw [hk] at ha'; cases ha'
      rw [ec] at e
      cases o with
      | lst xs => cases e; obtain ⟨_, vs, hH, _⟩ := ok; exact .base (.lst hH)
      | dct _ => cases e; obtain ⟨_, ks, hH, _⟩ := ok; exact .base (.dK hH)
      | ins _ _ => cases e
      | frz w =>
        cases w with
        | lst ys =>
          cases e
          cases (show Den G F ι (.ref a) (.lst ys) from ok) with
          | lst h r =>
            rcases R.sqL h with (h | ⟨o, h⟩) | ⟨o, its, n, h1, h2, _⟩
            · exact .base (.lst h)
            · exact .base (.frz h)
            · exact .kList h1 h2
        | dct ys =>
          cases e
          cases (show Den G F ι (.ref a) (.dct ys) from ok) with
          | dctK h _ r => exact .base (.dK (R.sub _ _ h))
        | _ => cases e
theorem kitAny_of {K : PySem.W.Frag} {T : String} : ∀ {ts : List String} {bs : List Bool}, mapO (kitB T) ts = some bs → PySem.W.kitAny K (.type T) (ts.map Value.type) = some (bs.any id)
  | [], _, e => by simp [mapO] at e; subst e; exact kitAny_nil
  | t :: ts, _, e => by
    unfold mapO at e
    cases e1 : kitB T t with
    | none => rw [e1] at e; cases e
    | some b =>
      rw [e1] at e
      cases e2 : mapO (kitB T) ts with
      | none => rw [e2] at e; cases e
      | some bs =>
        rw [e2] at e
        cases e
        exact kitAny_cons (kit_ty e1) (fun hb => by rw [hb]; simpa using kitAny_of e2) (fun hb => by rw [hb]; rfl)
/-- x, then a class or a tuple of classes -/
def rIsi1 (G : GS) (t : String) : List V → Hp → VK → Prop := fun vs H Q => ∃ B E F ι s x a, vs = [x, .ty t] ∧ Rel G B F ι H s ∧ Den G F ι x a ∧ Po G B E F ι s (Den G) (isiM a [t] s) Q
theorem isi_ok (t : String) : CallR X (.builtin "isinstance") (rIsi1 (gsOf X g) t) := by
  intro pins s σ H vs us Q I r h
  obtain ⟨B, E, F, ι, st, x, a, rfl, R, da, h⟩ := h
  unfold isiM at h
  split at h
  · rename_i T hT
    split at h
    · rename_i bs hb
      unfold mapO at hb
      cases e1 : kitB T t with
      | none => rw [e1] at hb; cases hb
      | some b =>
        rw [e1] at hb
        simp [mapO] at hb
        subst hb
        refine call_isi pins s σ H _ us Q I r ⟨x, .ty t, _, _, b, rfl, .ty t, ty_of R da hT, kit_ty e1, ?_⟩
        have h2 := h _ _ _ _ Stp.refl R (.bl _)
        simpa using h2
    · exact h.elim
  · exact h.elim
def rIsiN (G : GS) (ts : List String) : List V → Hp → VK → Prop := fun vs H Q => ∃ B E F ι s x a p, vs = [x, .ref p] ∧ H p = some (.tup (ts.map V.ty)) ∧ Rel G B F ι H s ∧ Den G F ι x a ∧ Po G B E F ι s (Den G) (isiM a ts s) Q
theorem clsV_all : ∀ ts : List String, Paired ClsV (ts.map V.ty) (ts.map Value.type)
  | [] => .nil
  | t :: ts => .cons (.ty t) (clsV_all ts)
theorem isiN_ok (ts : List String) : CallR X (.builtin "isinstance") (rIsiN (gsOf X g) ts) := by
  intro pins s σ H vs us Q I r h
  obtain ⟨B, E, F, ι, st, x, a, p, rfl, hp, R, da, h⟩ := h
  unfold isiM at h
  split at h
  · rename_i T hT
    split at h
    · rename_i bs hb
      exact call_isiT pins s σ H _ us Q I r ⟨x, p, ts.map V.ty, _, ts.map Value.type, bs.any id, rfl, hp, clsV_all ts, ty_of R da hT, kitAny_of hb, h _ _ _ _ Stp.refl R (.bl _)⟩
    · exact h.elim
  · exact h.elim
end
end Ev

set_option linter.all false
set_option maxRecDepth 100000
set_option maxHeartbeats 1000000
/-! EvD: built-ins and methods. Own work. -/
namespace Ev
open PySem PySem.Spec PyProof.Rows L2

def bltV : Blt → Value
  | .len => .builtin "len" | .int => .type "int" | .str => .type "str" | .abs => .builtin "abs" | .repr => .builtin "repr" | .all => .builtin "all" | .tuple => .type "tuple" | .list => .type "list"
def bltN : Blt → Str
  | .len => "len" | .int => "int" | .str => "str" | .abs => "abs" | .repr => "repr" | .all => "all" | .tuple => "tuple" | .list => "list"

/-- what a body's context must bear beside the layer's own -/
structure Fit (X : Cx) : Prop where
  calm : X.calm = true
  un : X.A.units + 100 < cLine
  gd : X.A.guards = some []
  dp : X.A.depth < recursionLimit

def rBlt (G : GS) (b : Blt) (al : Bool) : List V → Hp → VK → Prop := fun vs H Q => ∃ B E F ι s as, Rel G B F ι H s ∧ DenAll G F ι vs as ∧ Po G B E F ι s (Den G) (bltM b al as s) Q

section
variable {X : Cx} {g : GN}
theorem mapO_bl : ∀ {xs : List AV} {bs : List Bool}, mapO (fun v => match v with | AV.bl b => some b | _ => none) xs = some bs → xs = bs.map AV.bl
  | [], _, e => by simp [mapO] at e; subst e; rfl
  | x :: xs, bs, e => by
    unfold mapO at e
    cases x with
    | bl b =>
      simp only at e
      cases e2 : mapO (fun v => match v with | AV.bl b => some b | _ => none) xs with
      | none => rw [e2] at e; cases e
      | some ys => rw [e2] at e; cases e; rw [mapO_bl e2]; rfl
    | _ => simp at e
theorem den_bls {G : GS} {F : Hp} {ι : List Addr} : ∀ {vs : List V} {bs : List Bool}, DenAll G F ι vs (bs.map AV.bl) → vs = bs.map V.bl
  | [], [], _ => rfl
  | _, b :: bs, h => by
    rw [List.map_cons] at h
    cases h with
    | cons d r => cases d; rw [den_bls r]; rfl
  | _ :: _, [], h => by cases h
theorem strsOf_den {G : GS} {F : Hp} {ι : List Addr} : ∀ {vs : List V} {xs : List AV} {ys : List Str}, DenAll G F ι vs xs → strsOf xs = some ys → vs = ys.map V.str
  | _, _, _, .nil, e => by simp [strsOf] at e; subst e; rfl
  | _, _, _, .cons (x := x) (xs := xs) d r, e => by
    cases x with
    | str z =>
      simp only [strsOf] at e
      cases e2 : strsOf xs with
      | none => rw [e2] at e; cases e
      | some zs => rw [e2] at e; cases e; cases d; rw [strsOf_den r e2]; rfl
    | _ => simp [strsOf] at e
theorem repr_data (ft : Fit X) : CallR X (.builtin "repr") (fun xs H Q => ∃ x d, xs = [x] ∧ Dp X.K H x d ∧ d.showable = true ∧ d.hasDict = false ∧ d.shown.length ≤ sizeLine ∧ d.depth ≤ 64 ∧ Q (.str d.shown) H) := by
  intro pins s σ H xs us Q I r h
  obtain ⟨x, d, rfl, dp, h1, h2, h3, h4, q⟩ := h
  obtain ⟨u, rfl, rx⟩ := vals1 r
  obtain ⟨as, rd⟩ := Dp.reads I d x u dp rx
  have fin : ∀ h' (u tk : Tok), (∀ b o, s.heap.get? b = some o → h'.get? b = some o) → EP X pins σ Q (.str d.shown u) { s with heap := h', toks := tk } := fun h' u tk hk =>
    ⟨.str d.shown, H, I.kept hk, ⟨_, rfl⟩, q⟩
  cases dp with
  | non =>
    cases rx
    simp only [PyData.shown] at fin
    exact PySem.P.repr_of_none (fin s.heap _ _ fun _ _ e => e)
  | bl b =>
    cases rx
    simp only [PyData.shown] at fin
    exact PySem.P.repr_of_bool (fin s.heap _ _ fun _ _ e => e)
  | int i =>
    obtain ⟨t, rfl⟩ := rx
    simp only [PyData.shown] at fin
    exact PySem.P.repr_of_int (by simpa [PyData.showable] using h1) (fin s.heap _ _ fun _ _ e => e)
  | str z =>
    obtain ⟨t, rfl⟩ := rx
    simp only [PyData.shown] at fin h3
    exact PySem.P.repr_of_str (fin s.heap _ _ fun _ _ e => e) h3
  | lst _ _ =>
    cases rx
    have hu := ft.un
    exact repr_of_reads' rd h1 (by rw [h2]; exact fun z => nomatch z) ft.gd (by omega) (fun _ _ e => e) fin h3
  | tup _ _ =>
    cases rx
    have hu := ft.un
    exact repr_of_reads' rd h1 (by rw [h2]; exact fun z => nomatch z) ft.gd (by omega) (fun _ _ e => e) fin h3

theorem lim_le {n : Nat} (h : n ≤ LIM) : n ≤ sizeLine := by rw [← LIM_eq]; exact h

theorem blt_ok (ft : Fit X) (b : Blt) (al : Bool) : CallR X (bltV b) (rBlt (gsOf X g) b al) := by
  intro pins s σ H vs us Q I r h
  obtain ⟨B, E, F, ι, st, as, R, d, h⟩ := h
  unfold bltM at h
  split at h
  · -- len of a text
    cases d with
    | cons d d2 =>
      cases d2; cases d
      split at h
      · rename_i hz
        exact call_len pins s σ H _ us Q I r ⟨_, _, rfl, ⟨lim_le hz, rfl⟩, h _ _ _ _ Stp.refl R (.int _)⟩
      · exact h.elim
  · split at h
    · rename_i b xs hq
      cases d with
      | cons d d2 =>
        cases d2
        obtain ⟨p, ws, rfl, r1, l1, l2⟩ := R.seq d hq
        have hl := r1.length
        refine call_len pins s σ H _ us Q I r ⟨.ref p, xs.length, rfl, ?_, h _ _ _ _ Stp.refl R (.int _)⟩
        cases b with
        | true => exact .inr ⟨ws, R.sqT (l1 rfl), hl.symm⟩
        | false => exact .inl ⟨ws, l2 rfl, hl.symm⟩
    · exact h.elim
  · cases d with
    | cons d d2 => cases d2; cases d; exact call_int1 pins s σ H _ us Q I r (.inl ⟨_, rfl, h _ _ _ _ Stp.refl R (.int _)⟩)
  · cases d with
    | cons d d2 => cases d2; cases d; exact call_int1 pins s σ H _ us Q I r (.inr ⟨_, rfl, h _ _ _ _ Stp.refl R (.int _)⟩)
  · cases d with
    | cons d d2 =>
      cases d2; cases d
      split at h
      · rename_i hz
        exact call_str_int pins s σ H _ us Q I r ⟨_, rfl, hz, h _ _ _ _ Stp.refl R (.str _)⟩
      · exact h.elim
  · cases d with
    | cons d d2 => cases d2; cases d; exact call_abs pins s σ H _ us Q I r ⟨_, rfl, h _ _ _ _ Stp.refl R (.int _)⟩
  · cases d with
    | cons d d2 =>
      cases d2
      split at h
      · rename_i y hy
        split at h
        · rename_i hc
          exact repr_data ft pins s σ H _ us Q I r ⟨_, y, rfl, R.py _ d hy, hc.1, hc.2.1, lim_le hc.2.2.1, hc.2.2.2, h _ _ _ _ Stp.refl R (.str _)⟩
        · exact h.elim
      · exact h.elim
  · cases d with
    | cons d d2 =>
      cases d2
      split at h
      · rename_i xs hq
        split at h
        · rename_i bs hb
          obtain ⟨p, ws, rfl, r1, l1, l2⟩ := R.seq d hq
          have e := mapO_bl hb
          subst e
          have e := den_bls r1
          subst e
          exact cr_all ft.calm pins s σ H _ us Q I r ⟨p, bs, rfl, l2 rfl, h _ _ _ _ Stp.refl R (.bl _)⟩
        · exact h.elim
      · exact h.elim
  · cases d with
    | cons d d2 =>
      cases d2
      split at h
      · rename_i b xs hq
        obtain ⟨p, ws, rfl, r1, l1, l2⟩ := R.seq d hq
        cases b with
        | true => exact call_tuple_of pins s σ H _ us Q I r ⟨p, ws, rfl, .inr ⟨R.sqT (l1 rfl), h _ _ _ _ Stp.refl R (.tup (l1 rfl) r1)⟩⟩
        | false => exact call_tuple_of pins s σ H _ us Q I r ⟨p, ws, rfl, .inl ⟨l2 rfl, fun z hz => Po.newT R r1 h hz⟩⟩
      · exact h.elim
  · cases d with
    | cons d d2 =>
      cases d2
      split at h
      · rename_i b xs hq
        obtain ⟨p, ws, rfl, r1, l1, l2⟩ := R.seq d hq
        refine call_list_of pins s σ H _ us Q I r ⟨p, ws, rfl, ?_, fun z hz => Po.newL R r1 h hz⟩
        cases b with
        | true => exact .inr (R.sqT (l1 rfl))
        | false => exact .inl (l2 rfl)
      · exact h.elim
  · exact h.elim

/-! ### methods of what is built in -/
def bmId : BM → String
  | .join => "str.join" | .append => "list.append"
def rBm (G : GS) (m : BM) : V → List V → Hp → VK → Prop := fun x vs H Q => ∃ B E F ι s a as, Rel G B F ι H s ∧ Den G F ι x a ∧ DenAll G F ι vs as ∧ Po G B E F ι s (Den G) (bmM m a as s) Q
theorem bm_ok (m : BM) : MtR X (bmId m) (rBm (gsOf X g) m) := by
  intro pins s σ H x xs v us Q I rx rs h
  obtain ⟨B, E, F, ι, st, a, as, R, da, d, h⟩ := h
  unfold bmM at h
  split at h
  · cases da
    cases d with
    | cons d d2 =>
      cases d2
      split at h
      · rename_i b xs hq
        split at h
        · rename_i ys hy
          split at h
          · rename_i hz
            obtain ⟨p, ws, rfl, r1, l1, l2⟩ := R.seq d hq
            have e := strsOf_den r1 hy
            subst e
            refine mt_join pins s σ H _ _ v us Q I rx rs ⟨_, p, ys, rfl, rfl, ?_, hz, h _ _ _ _ Stp.refl R (.str _)⟩
            cases b with
            | true => exact .inr (R.sqT (l1 rfl))
            | false => exact .inl (l2 rfl)
          · exact h.elim
        · exact h.elim
      · exact h.elim
  · exact h.elim

/-! ### stores -/
theorem newer_le {k : Nat} : ∀ (n : Nat) {v : AV}, newer k n v = false → ∀ j, RefIn j v → j ≤ k
  | 0, v, h, _, _ => by simp [newer] at h
  | n + 1, v, h, j, r => by
    cases r with
    | ref => simp [newer] at h; exact h
    | tup hm r =>
      simp only [newer, List.any_eq_false] at h
      exact newer_le n (by simpa using h _ hm) j r
    | lst hm r =>
      simp only [newer, List.any_eq_false] at h
      exact newer_le n (by simpa using h _ hm) j r
    | dctK hm r =>
      simp only [newer, List.any_eq_false] at h
      have := h _ hm
      simp only [Bool.or_eq_true, not_or, Bool.not_eq_true] at this
      exact newer_le n this.1 j r
    | dctV hm r =>
      simp only [newer, List.any_eq_false] at h
      have := h _ hm
      simp only [Bool.or_eq_true, not_or, Bool.not_eq_true] at this
      exact newer_le n this.2 j r
    | ins hm r =>
      simp only [newer, List.any_eq_false] at h
      exact newer_le n (by simpa using h _ hm) j r
    | exc hm r =>
      simp only [newer, List.any_eq_false] at h
      exact newer_le n (by simpa using h _ hm) j r
/-- a list cell is changed -/
theorem Rel.setL {G : GS} {B : Hp} {F : Hp} {ι : List Addr} {H : Hp} {s : AS} {k : Nat} {a : Addr} {xs ys : List AV} {vs ws : List V} {op : Bool} (R : Rel G B F ι H s) (hk : ι[k]? = some a) (hc : s.cells[k]? = some (.lst xs)) (d : DenAll G F ι ws ys)
    (ho : s.opn = true → op = true) (hr : op = false → ∀ y ∈ ys, ∀ j, RefIn j y → j ≤ k ∨ ∃ x ∈ xs, RefIn j x) :
    Stp G F ι s F ι { cells := s.cells.set k (.lst ys), opn := op } ∧ Rel G B F ι (upd H a (.lst ws)) { cells := s.cells.set k (.lst ys), opn := op } := by
  obtain ⟨hF, vs', hH, _⟩ := R.cell k a _ hk hc
  have hkl : k < s.cells.length := (List.getElem?_eq_some_iff.mp hc).1
  refine ⟨⟨Same.refl _, List.prefix_refl _, ⟨by simp, ho, fun h n hn o' ho' j hj => ?_⟩⟩, ⟨fun b u e => ?_, fun b u e => ?_, by simp [R.len], R.nd, fun b hb => ?_, fun n b o hn ho' => ?_⟩⟩
  · by_cases e : k = n
    · subst e
      simp only [List.getElem?_set_self hkl] at ho'
      cases ho'
      obtain ⟨y, hy, hj⟩ := hj
      rcases hr h y hy j hj with e | ⟨x, hx, hj⟩
      · exact .inl e
      · exact .inr ⟨_, hc, x, hx, hj⟩
    · simp only [List.getElem?_set_ne e] at ho'
      exact .inr ⟨o', ho', hj⟩
  · have ne : b ≠ a := fun z => by rw [z, hF] at e; cases e
    rw [upd_ne ne]
    exact R.sub _ _ e
  · obtain ⟨h1, h2, h3⟩ := R.out b u e
    have ne : b ≠ a := fun z => h3 (z ▸ List.mem_of_getElem? hk)
    exact ⟨by rw [upd_ne ne]; exact h1, h2, h3⟩
  · by_cases e : b = a
    · subst e; exact ⟨_, upd_same⟩
    · obtain ⟨u, hu⟩ := R.here b hb
      exact ⟨u, by rw [upd_ne e]; exact hu⟩
  · by_cases e : k = n
    · subst e
      rw [hk] at hn; cases hn
      simp only [List.getElem?_set_self hkl] at ho'
      cases ho'
      exact ⟨hF, ws, upd_same, d⟩
    · simp only [List.getElem?_set_ne e] at ho'
      have ne : b ≠ a := fun z => by
        subst z
        obtain ⟨h1, e1⟩ := List.getElem?_eq_some_iff.mp hn
        obtain ⟨h2, e2⟩ := List.getElem?_eq_some_iff.mp hk
        exact e ((List.getElem_inj R.nd).mp (e2.trans e1.symm))
      exact (R.cell n b o hn ho').mono (Same.refl _) (List.prefix_refl _) id fun u h => by rw [upd_ne ne]; exact h
def rSet (G : GS) : V → V → V → Hp → (Hp → Prop) → Prop := fun o i v H Q => ∃ B E F ι s a b c, Rel G B F ι H s ∧ Den G F ι o a ∧ Den G F ι i b ∧ Den G F ι v c ∧ Po G B E F ι s (fun _ _ (_ : Unit) (_ : Unit) => True) (setIxM a b c s) (fun _ => Q)
theorem set_ok : PSet X (rSet (gsOf X g)) := by
  intro pins s σ H o i v ov iv u Q I ro ri rv h
  obtain ⟨B, E, F, ι, st, a, b, c, R, da, db, dc, h⟩ := h
  unfold setIxM at h
  split at h
  · cases db
    rename_i k i
    cases da with
    | ref hk =>
      split at h
      · rename_i xs hc
        split at h
        · rename_i j hj
          rename_i ad
          obtain ⟨hF, vs, hH, r⟩ := R.cell _ _ _ hk hc
          refine set_list pins s σ H _ _ v ov iv u Q I ro ri rv ⟨_, vs, _, j, rfl, rfl, hH, by rw [r.length]; exact hj, ?_⟩
          obtain ⟨st', R'⟩ := R.setL (op := st.opn || newer k 12 c) (vs := vs) hk hc (r.set j dc) (fun z => by rw [z]; rfl) (fun z y hy l hl => by
            rw [Bool.or_eq_false_iff] at z
            rcases List.mem_or_eq_of_mem_set hy with hy | hy
            · exact .inr ⟨y, hy, hl⟩
            · subst hy; exact .inl (newer_le 12 z.2 l hl))
          exact h () _ _ _ st' R' trivial
        · exact h.elim
      · exact h.elim
  · exact h.elim
end
end Ev

set_option linter.all false
set_option maxRecDepth 100000
set_option maxHeartbeats 1000000
/-! EvE: expressions. Own work. -/
namespace Ev
open PySem PySem.Spec PyProof.Rows L2

/-- a reading by the evaluator -/
def Tv {α β : Type} (G : GS) (W : WX) (D : Hp → List Addr → β → α → Prop) (f : AE → MM α) : L2.St → Hp → (β → Hp → Prop) → Prop := fun σ H Q =>
  ∃ B F ι ρ s, Rel G B F ι H s ∧ EnvR G F ι σ ρ ∧ Po G B (fun c d H => W c d σ H) F ι s D (f ρ s) Q
abbrev TE1 (G : GS) (W : WX) (f : AE → MM AV) : TE := Tv G W (Den G) f
abbrev TA1 (G : GS) (W : WX) (f : AE → MM (List AV)) : TA := Tv G W (DenAll G) f
abbrev SameD {α : Type} : Hp → List Addr → α → α → Prop := fun _ _ a b => a = b
abbrev TT1 (G : GS) (W : WX) (f : AE → MM Bool) : TT := Tv G W SameD f
abbrev TO1 (G : GS) (W : WX) (f : AE → MM (Option Int)) : TO := Tv G W SameD f

section
variable {α β γ δ : Type} {G : GS} {W : WX} {B : Hp} {F : Hp} {ι : List Addr} {σ : L2.St} {ρ : AE} {H : Hp} {s : AS} {D : Hp → List Addr → β → α → Prop} {D' : Hp → List Addr → δ → γ → Prop} {Q : β → Hp → Prop}
theorem Tv.seq {m : AE → MM α} {f : α → MM γ} {R : δ → Hp → Prop} (r : Rel G B F ι H s) (e : EnvR G F ι σ ρ) (po : Po G B (fun c d H => W c d σ H) F ι s D' (MM.bind (m ρ) f s) R)
    (k : ∀ v H1 F1 ι1 a s1, Stp G F ι s F1 ι1 s1 → Rel G B F1 ι1 H1 s1 → EnvR G F1 ι1 σ ρ → D F1 ι1 v a → Po G B (fun c d H => W c d σ H) F1 ι1 s1 D' (f a s1) R → Q v H1) : Tv G W D m σ H Q :=
  ⟨B, F, ι, ρ, s, r, e, po.first fun v H1 F1 ι1 a s1 st R1 d p => k v H1 F1 ι1 a s1 st R1 (e.stp st) d p⟩
theorem Tv.mono {m : AE → MM α} {Q' : β → Hp → Prop} (h : Tv G W D m σ H Q) (k : ∀ v H, Q v H → Q' v H) : Tv G W D m σ H Q' := by
  obtain ⟨B, F, ι, ρ, s, r, e, p⟩ := h
  exact ⟨B, F, ι, ρ, s, r, e, p.mono k⟩
theorem Po.pure {E : XK} {a : α} {v : β} (h : Po G B E F ι s D (MM.pure a s) Q) (R : Rel G B F ι H s) (d : D F ι v a) : Q v H := h v H F ι Stp.refl R d
theorem Po.tru {E : XK} {a : AV} {v : V} {f : Bool → MM γ} {R : δ → Hp → Prop} (h : Po G B E F ι s D' (MM.bind (truM a) f s) R) (r : Rel G B F ι H s) (d : Den G F ι v a) : ∃ k, TruV G.K v H k ∧ Po G B E F ι s D' (f k s) R := by
  unfold MM.bind truM at h
  cases e : truth s.cells a with
  | none => rw [e] at h; exact h.elim
  | some k => rw [e] at h; exact ⟨k, tru_of r d e, h⟩
end

section
variable {X : Cx} {g : GN} {W : WX}
theorem PE.weak {e : Expr} {t t' : TE} (h : PE X e t) (w : ∀ σ H Q, t' σ H Q → t σ H Q) : PE X e t' := ⟨fun pins s σ H Q I q => h.run pins s σ H Q I (w σ H Q q)⟩
theorem PT.weak {e : Expr} {t t' : TT} (h : PT X e t) (w : ∀ σ H Q, t' σ H Q → t σ H Q) : PT X e t' := ⟨fun pins s σ H Q I q => h.run pins s σ H Q I (w σ H Q q)⟩
theorem PW.weak {e : Expr} {t t' : TT} (h : PW X e t) (w : ∀ σ H Q, t' σ H Q → t σ H Q) : PW X e t' := ⟨fun wh pins s σ H Q I q => h.run wh pins s σ H Q I (w σ H Q q)⟩
theorem PA.weak {e : List Expr} {t t' : TA} (h : PA X e t) (w : ∀ σ H Q, t' σ H Q → t σ H Q) : PA X e t' := ⟨fun p pins s σ H Q I q => h.run p pins s σ H Q I (w σ H Q q)⟩
theorem PO.weak {e : Option Expr} {t t' : TO} (h : PO X e t) (w : ∀ σ H Q, t' σ H Q → t σ H Q) : PO X e t' := ⟨fun pins s σ H Q I q => h.run pins s σ H Q I (w σ H Q q)⟩
theorem PS.weak {e : Stmt} {t t' : TS} (h : PS X e t) (w : ∀ D σ H, t' D σ H → t D σ H) : PS X e t' := ⟨fun pins s σ H D I q => h.run pins s σ H D I (w D σ H q)⟩
theorem PSs.weak {e : List Stmt} {t t' : TS} (h : PSs X e t) (w : ∀ D σ H, t' D σ H → t D σ H) : PSs X e t' := ⟨fun pins s σ H D I q => h.run pins s σ H D I (w D σ H q)⟩
theorem PI.weak {tg e : Expr} {t t' : TI} (h : PI X tg e t) (w : ∀ σ H Q, t' σ H Q → t σ H Q) : PI X tg e t' := ⟨fun pins s σ H Q I q => h.run pins s σ H Q I (w σ H Q q)⟩
theorem PG.weak {e : Expr} {t t' : TG} (h : PG X e t) (w : ∀ v σ H Q, t' v σ H Q → t v σ H Q) : PG X e t' := ⟨fun pins s σ H v u Q I r q => h.run pins s σ H v u Q I r (w v σ H Q q)⟩

/-! ### names, constants -/
theorem de_var {i : Nat} {x : Str} {pos : Pos} (hN : X.N[i]? = some x) (hv : Vis X.env.scope x) (hd : (x == ("__debug__" : Str)) = false) (hcd : (x == ("__classdict__" : Str)) = false) :
    PE X (.Name x pos) (TE1 (gsOf X g) W fun ρ => ofO ((ρ[i]?).bind id)) := by
  refine PE.weak (pe_var hN hv hd hcd) fun σ H Q h => ?_
  obtain ⟨B, F, ι, ρ, s, r, e, p⟩ := h
  simp only at p
  cases h1 : (ρ[i]?).bind id with
  | none => rw [h1] at p; exact p.elim
  | some a =>
    rw [h1] at p
    have h2 : ρ[i]? = some (some a) := by
      cases h3 : ρ[i]? with
      | none => rw [h3] at h1; cases h1
      | some o => rw [h3] at h1; exact congrArg some h1
    obtain ⟨v, hv, d⟩ := e.2 i a h2
    exact ⟨v, hv, p v H F ι Stp.refl r d⟩
theorem de_int {i : Int} {j pos} : PE X (.Constant (.int i) j pos) (TE1 (gsOf X g) W fun _ => MM.pure (.int i)) :=
  PE.weak pe_int fun σ H Q ⟨B, F, ι, ρ, s, r, e, p⟩ => p.pure r (.int i)
theorem de_str {x : Str} {j pos} : PE X (.Constant (.str x) j pos) (TE1 (gsOf X g) W fun _ => MM.pure (.str x)) :=
  PE.weak pe_str fun σ H Q ⟨B, F, ι, ρ, s, r, e, p⟩ => p.pure r (.str x)
theorem de_bl {b : Bool} {j pos} : PE X (.Constant (.bool b) j pos) (TE1 (gsOf X g) W fun _ => MM.pure (.bl b)) :=
  PE.weak pe_bl fun σ H Q ⟨B, F, ι, ρ, s, r, e, p⟩ => p.pure r (.bl b)
theorem de_non {j pos} : PE X (.Constant .none j pos) (TE1 (gsOf X g) W fun _ => MM.pure .non) :=
  PE.weak pe_non fun σ H Q ⟨B, F, ι, ρ, s, r, e, p⟩ => p.pure r .non

/-! ### operators -/
variable {a b c : Expr} {fa fb fc : AE → MM AV} {pos : Pos}
/-- two expressions, then an operator by values -/
theorem op_seq {r : R2} {op : AV → AV → MM AV} (hr : ∀ B E F ι s x y a b H Q, Rel (gsOf X g) B F ι H s → Den (gsOf X g) F ι x a → Den (gsOf X g) F ι y b → Po (gsOf X g) B E F ι s (Den (gsOf X g)) (op a b s) Q → r x y H Q)
    {σ : L2.St} {H : Hp} {Q : VK} (h : TE1 (gsOf X g) W (fun ρ => MM.bind (fa ρ) fun x => MM.bind (fb ρ) fun y => op x y) σ H Q) : tOp r (TE1 (gsOf X g) W fa) (TE1 (gsOf X g) W fb) σ H Q := by
  obtain ⟨B, F, ι, ρ, s, R, e, p⟩ := h
  refine Tv.seq R e p fun v H1 F1 ι1 a s1 st R1 e1 d p1 => ?_
  refine Tv.seq R1 e1 p1 fun w H2 F2 ι2 b s2 st2 R2 e2 d2 p2 => ?_
  exact hr B _ F2 ι2 s2 v w a b H2 Q R2 (d.stp st2) d2 p2
theorem de_bin (o : BOp) (ha : PE X a (TE1 (gsOf X g) W fa)) (hb : PE X b (TE1 (gsOf X g) W fb)) :
    PE X (.BinOp a (opOf o) b pos) (TE1 (gsOf X g) W fun ρ => MM.bind (fa ρ) fun x => MM.bind (fb ρ) fun y => binM o x y) :=
  PE.weak (pe_op (bin_ok (g := g) o) ha hb) fun σ H Q h => op_seq (fun B E F ι s x y a b H Q R d1 d2 p => ⟨B, E, F, ι, s, a, b, R, d1, d2, p⟩) h
theorem de_cmp (ft : Fit X) (o : COp) (ho : o ≠ .inn ∧ o ≠ .nin) (ha : PE X a (TE1 (gsOf X g) W fa)) (hb : PE X b (TE1 (gsOf X g) W fb)) :
    PE X (.Compare a [copOf o] [b] pos) (TE1 (gsOf X g) W fun ρ => MM.bind (fa ρ) fun x => MM.bind (fb ρ) fun y => cmpM o x y) := by
  have hu := ft.un
  have hm : behindInMarks (copOf o) b = false := nobehind b (by cases o <;> simp_all [copOf]) (by cases o <;> simp_all [copOf])
  refine PE.weak (pe_cmpR (cmp_ok (g := g) o (by omega)) ha hb hm) fun σ H Q h => op_seq (r := rCmp (gsOf X g) o) (fun B E F ι s x y a b H Q R d1 d2 p => ⟨B, E, F, ι, s, a, b, R, d1, d2, p⟩) h
theorem isNone_den {G : GS} {F : Hp} {ι : List Addr} {v : V} {x : AV} (d : Den G F ι v x) : decide (v = .non) = isNone x := by
  cases d <;> simp [isNone]
theorem de_isN {j pos'} (ha : PE X a (TE1 (gsOf X g) W fa)) : PE X (.Compare a [.Is] [.Constant .none j pos'] pos) (TE1 (gsOf X g) W fun ρ => MM.bind (fa ρ) fun x => MM.pure (.bl (isNone x))) := by
  refine PE.weak (pe_cmp (pc_isN ha)) fun σ H Q ⟨B, F, ι, ρ, s, R, e, p⟩ => ?_
  refine Tv.seq R e p fun v H1 F1 ι1 a s1 st R1 e1 d p1 => ?_
  rw [isNone_den d]
  exact p1.pure R1 (.bl _)
theorem de_notN {j pos'} (ha : PE X a (TE1 (gsOf X g) W fa)) : PE X (.Compare a [.IsNot] [.Constant .none j pos'] pos) (TE1 (gsOf X g) W fun ρ => MM.bind (fa ρ) fun x => MM.pure (.bl (!isNone x))) := by
  refine PE.weak (pe_cmp (pc_notN ha)) fun σ H Q ⟨B, F, ι, ρ, s, R, e, p⟩ => ?_
  refine Tv.seq R e p fun v H1 F1 ι1 a s1 st R1 e1 d p1 => ?_
  rw [isNone_den d]
  exact p1.pure R1 (.bl _)
theorem de_neg (ha : PE X a (TE1 (gsOf X g) W fa)) : PE X (.UnaryOp .USub a pos) (TE1 (gsOf X g) W fun ρ => MM.bind (fa ρ) fun x => match x with | .int i => MM.pure (.int (-i)) | _ => stuck) := by
  refine PE.weak (pe_un un_neg ha) fun σ H Q ⟨B, F, ι, ρ, s, R, e, p⟩ => ?_
  refine Tv.seq R e p fun v H1 F1 ι1 a s1 st R1 e1 d p1 => ?_
  cases d with
  | int i => exact ⟨i, rfl, p1.pure R1 (.int _)⟩
  | _ => exact p1.elim
theorem de_not (ha : PE X a (TE1 (gsOf X g) W fa)) : PE X (.UnaryOp .Not a pos) (TE1 (gsOf X g) W fun ρ => MM.bind (fa ρ) fun x => MM.bind (truM x) fun b => MM.pure (.bl (!b))) := by
  refine PE.weak (pe_notT ha) fun σ H Q ⟨B, F, ι, ρ, s, R, e, p⟩ => ?_
  refine Tv.seq R e p fun v H1 F1 ι1 a s1 st R1 e1 d p1 => ?_
  obtain ⟨k, hk, p2⟩ := p1.tru R1 d
  exact ⟨k, hk, p2.pure R1 (.bl _)⟩
theorem de_and {rest : List Expr} (ha : PE X a (TE1 (gsOf X g) W fa)) (hb : PE X (.BoolOp .And (b :: rest) pos) (TE1 (gsOf X g) W fb)) :
    PE X (.BoolOp .And (a :: b :: rest) pos) (TE1 (gsOf X g) W fun ρ => MM.bind (fa ρ) fun x => MM.bind (truM x) fun t => if t = true then fb ρ else MM.pure x) := by
  refine PE.weak (pe_andT ha hb) fun σ H Q ⟨B, F, ι, ρ, s, R, e, p⟩ => ?_
  refine Tv.seq R e p fun v H1 F1 ι1 a s1 st R1 e1 d p1 => ?_
  obtain ⟨k, hk, p2⟩ := p1.tru R1 d
  refine ⟨k, hk, ?_⟩
  cases k with
  | true => exact ⟨B, F1, ι1, ρ, s1, R1, e1, p2⟩
  | false => exact p2.pure R1 d
theorem de_or {rest : List Expr} (ha : PE X a (TE1 (gsOf X g) W fa)) (hb : PE X (.BoolOp .Or (b :: rest) pos) (TE1 (gsOf X g) W fb)) :
    PE X (.BoolOp .Or (a :: b :: rest) pos) (TE1 (gsOf X g) W fun ρ => MM.bind (fa ρ) fun x => MM.bind (truM x) fun t => if t = true then MM.pure x else fb ρ) := by
  refine PE.weak (pe_orT ha hb) fun σ H Q ⟨B, F, ι, ρ, s, R, e, p⟩ => ?_
  refine Tv.seq R e p fun v H1 F1 ι1 a s1 st R1 e1 d p1 => ?_
  obtain ⟨k, hk, p2⟩ := p1.tru R1 d
  refine ⟨k, hk, ?_⟩
  cases k with
  | true => exact p2.pure R1 d
  | false => exact ⟨B, F1, ι1, ρ, s1, R1, e1, p2⟩

/-! ### tests -/
/-- by the value's truth -/
theorem dt_truth (ha : PE X a (TE1 (gsOf X g) W fa)) (he : ∀ whole, isTrue a X.env whole = (do let v ← whole; standAt a.pos; holding [v] (truthy v))) : PT X a (TT1 (gsOf X g) W fun ρ => MM.bind (fa ρ) truM) := by
  refine PT.weak (pt_truth ha he) fun σ H Q ⟨B, F, ι, ρ, s, R, e, p⟩ => ?_
  refine Tv.seq R e p fun v H1 F1 ι1 a s1 st R1 e1 d p1 => ?_
  have p1' : Po (gsOf X g) B (fun c d H => W c d σ H) F1 ι1 s1 SameD (MM.bind (truM a) MM.pure s1) Q := by
    have e : MM.bind (truM a) MM.pure s1 = truM a s1 := by
      unfold MM.bind MM.pure
      cases truM a s1 <;> rfl
    rw [e]; exact p1
  obtain ⟨k, hk, p2⟩ := p1'.tru R1 d
  exact ⟨k, hk, p2.pure R1 rfl⟩
variable {ta tb : AE → MM Bool}
theorem bind_tru {m : MM AV} {f : Bool → MM Bool} : True := trivial
theorem dt_not (ha : PT X a (TT1 (gsOf X g) W ta)) : PT X (.UnaryOp .Not a pos) (TT1 (gsOf X g) W fun ρ => MM.bind (ta ρ) fun b => MM.pure (!b)) := by
  refine PT.weak (pt_not ha) fun σ H Q ⟨B, F, ι, ρ, s, R, e, p⟩ => ?_
  refine Tv.seq R e p fun v H1 F1 ι1 a s1 st R1 e1 d p1 => ?_
  cases d
  exact p1.pure R1 rfl
theorem dw_and {rest : List Expr} (ha : PT X a (TT1 (gsOf X g) W ta)) (hb : PW X (.BoolOp .And (b :: rest) pos) (TT1 (gsOf X g) W tb)) :
    PW X (.BoolOp .And (a :: b :: rest) pos) (TT1 (gsOf X g) W fun ρ => MM.bind (ta ρ) fun t => if t = true then tb ρ else MM.pure false) := by
  refine PW.weak (pw_and ha hb) fun σ H Q ⟨B, F, ι, ρ, s, R, e, p⟩ => ?_
  refine Tv.seq R e p fun v H1 F1 ι1 a s1 st R1 e1 d p1 => ?_
  cases d
  cases v with
  | true => rw [if_pos rfl]; exact ⟨B, F1, ι1, ρ, s1, R1, e1, p1⟩
  | false => rw [if_neg (by decide)]; exact p1.pure R1 rfl
theorem dw_or {rest : List Expr} (ha : PT X a (TT1 (gsOf X g) W ta)) (hb : PW X (.BoolOp .Or (b :: rest) pos) (TT1 (gsOf X g) W tb)) :
    PW X (.BoolOp .Or (a :: b :: rest) pos) (TT1 (gsOf X g) W fun ρ => MM.bind (ta ρ) fun t => if t = true then MM.pure true else tb ρ) := by
  refine PW.weak (pw_or ha hb) fun σ H Q ⟨B, F, ι, ρ, s, R, e, p⟩ => ?_
  refine Tv.seq R e p fun v H1 F1 ι1 a s1 st R1 e1 d p1 => ?_
  cases d
  cases v with
  | true => rw [if_pos rfl]; exact p1.pure R1 rfl
  | false => rw [if_neg (by decide)]; exact ⟨B, F1, ι1, ρ, s1, R1, e1, p1⟩
theorem de_ite (hc : PT X c (TT1 (gsOf X g) W ta)) (ha : PE X a (TE1 (gsOf X g) W fa)) (hb : PE X b (TE1 (gsOf X g) W fb)) :
    PE X (.IfExp c a b pos) (TE1 (gsOf X g) W fun ρ => MM.bind (ta ρ) fun t => if t = true then fa ρ else fb ρ) := by
  refine PE.weak (pe_ifExp hc ha hb) fun σ H Q ⟨B, F, ι, ρ, s, R, e, p⟩ => ?_
  refine Tv.seq R e p fun v H1 F1 ι1 a s1 st R1 e1 d p1 => ?_
  cases d
  cases v with
  | true => rw [if_pos rfl]; exact ⟨B, F1, ι1, ρ, s1, R1, e1, p1⟩
  | false => rw [if_neg (by decide)]; exact ⟨B, F1, ι1, ρ, s1, R1, e1, p1⟩

/-! ### displays, arguments -/
variable {e : Expr} {es : List Expr} {fs : AE → MM (List AV)}
theorem da_nil : PA X [] (TA1 (gsOf X g) W fun _ => MM.pure []) :=
  PA.weak pa_nil fun σ H Q ⟨B, F, ι, ρ, s, R, e, p⟩ => p.pure R .nil
theorem da_cons (ha : PE X e (TE1 (gsOf X g) W fa)) (hr : PA X es (TA1 (gsOf X g) W fs)) (hs : starEach (e :: es) X.env = (false, eval e X.env) :: starEach es X.env) :
    PA X (e :: es) (TA1 (gsOf X g) W fun ρ => MM.bind (fa ρ) fun v => MM.bind (fs ρ) fun vs => MM.pure (v :: vs)) := by
  refine PA.weak (pa_cons ha hr hs) fun σ H Q ⟨B, F, ι, ρ, s, R, e, p⟩ => ?_
  refine Tv.seq R e p fun v H1 F1 ι1 a s1 st R1 e1 d p1 => ?_
  refine Tv.seq R1 e1 p1 fun w H2 F2 ι2 b s2 st2 R2 e2 d2 p2 => ?_
  exact p2.pure R2 (.cons (d.stp st2) d2)
theorem de_tup {k} (hz : es.length ≤ sizeLine) (hl : ∀ ρ s vs s', fs ρ s = .ok vs s' → vs.length = es.length) (h : PA X es (TA1 (gsOf X g) W fs)) :
    PE X (.Tuple es k pos) (TE1 (gsOf X g) W fun ρ => MM.bind (fs ρ) fun vs => MM.pure (.tup vs)) := by
  refine PE.weak (pe_tup h) fun σ H Q ⟨B, F, ι, ρ, s, R, e, p⟩ => ?_
  exact ⟨B, F, ι, ρ, s, R, e, Po.firstE p fun v H1 F1 ι1 a s1 e1 st R1 d p1 => ⟨by rw [d.length, hl _ _ _ _ e1]; exact hz, fun z hz => Po.newT R1 d p1 hz⟩⟩
theorem de_lst {al : Bool} (hz : es.length ≤ sizeLine) (hl : ∀ ρ s vs s', fs ρ s = .ok vs s' → vs.length = es.length) (h : PA X es (TA1 (gsOf X g) W fs)) :
    PE X (.List es pos) (TE1 (gsOf X g) W fun ρ => MM.bind (fs ρ) fun vs => mkL al vs) := by
  refine PE.weak (pe_lst h) fun σ H Q ⟨B, F, ι, ρ, s, R, e, p⟩ => ?_
  exact ⟨B, F, ι, ρ, s, R, e, Po.firstE p fun v H1 F1 ι1 a s1 e1 st R1 d p1 => ⟨by rw [d.length, hl _ _ _ _ e1]; exact hz, fun z hz => Po.newL R1 d p1 hz⟩⟩

/-! ### subscripts -/
theorem de_idx (hs : PlainIx b) (ha : PE X a (TE1 (gsOf X g) W fa)) (hb : PE X b (TE1 (gsOf X g) W fb)) : PE X (.Subscript a b pos) (TE1 (gsOf X g) W fun ρ => MM.bind (fa ρ) fun x => MM.bind (fb ρ) fun y => idxM x y) :=
  PE.weak (pe_ix (idx_ok (g := g)) ha hb hs) fun σ H Q h => op_seq (r := rIdx (gsOf X g)) (fun B E F ι s x y a b H Q R d1 d2 p => ⟨B, E, F, ι, s, a, b, R, d1, d2, p⟩) h
theorem do_none : PO X none (TO1 (gsOf X g) W fun _ => MM.pure none) :=
  PO.weak po_none fun σ H Q ⟨B, F, ι, ρ, s, R, e, p⟩ => p.pure R rfl
theorem do_some (ha : PE X a (TE1 (gsOf X g) W fa)) : PO X (some a) (TO1 (gsOf X g) W fun ρ => MM.bind (fa ρ) asIntM) := by
  refine PO.weak (po_some ha) fun σ H Q ⟨B, F, ι, ρ, s, R, e, p⟩ => ?_
  refine Tv.seq R e p fun v H1 F1 ι1 a s1 st R1 e1 d p1 => ?_
  cases d with
  | int i => exact ⟨i, rfl, p1.pure R1 rfl⟩
  | _ => exact p1.elim
theorem de_slc {lo hi : Option Expr} {fl fh : AE → MM (Option Int)} {p2 : Pos} (ha : PE X a (TE1 (gsOf X g) W fa)) (hl : PO X lo (TO1 (gsOf X g) W fl)) (hh : PO X hi (TO1 (gsOf X g) W fh)) :
    PE X (.Subscript a (.Slice lo hi none p2) pos) (TE1 (gsOf X g) W fun ρ => MM.bind (fa ρ) fun x => MM.bind (fl ρ) fun l => MM.bind (fh ρ) fun h => slcM x l h) := by
  refine PE.weak (pe_slice (slc_ok (g := g)) ha hl hh) fun σ H Q ⟨B, F, ι, ρ, s, R, e, p⟩ => ?_
  refine Tv.seq R e p fun v H1 F1 ι1 a s1 st R1 e1 d p1 => ?_
  refine Tv.seq R1 e1 p1 fun l H2 F2 ι2 l' s2 st2 R2 e2 d2 p2 => ?_
  refine Tv.seq R2 e2 p2 fun h H3 F3 ι3 h' s3 st3 R3 e3 d3 p3 => ?_
  cases d2; cases d3
  exact ⟨B, _, F3, ι3, s3, a, R3, d.stp (st2.trans st3), p3⟩

/-! ### built-ins -/
theorem de_bltF {b : Blt} {al : Bool} {x : Str} {p : Pos} (ft : Fit X) (hg : Gl X x) (hm : X.mg x = none) (hv : bootBuiltins x = some (bltV b)) (hn : x ≠ "__name__") (hdb : (x == ("__debug__" : Str)) = false)
    (h : PA X (e :: es) (TA1 (gsOf X g) W fs)) (he : starEach (e :: es) X.env = (false, eval e X.env) :: starEach es X.env) (hpl : (backTo pos (starEach es X.env)).any (·.1) = false) :
    PE X (.Call (.Name x p) (e :: es) [] pos) (TE1 (gsOf X g) W fun ρ => MM.bind (fs ρ) fun vs => bltM b al vs) := by
  have fin : ∀ σ H Q, TE1 (gsOf X g) W (fun ρ => MM.bind (fs ρ) fun vs => bltM b al vs) σ H Q → TA1 (gsOf X g) W fs σ H fun vs H1 => rBlt (gsOf X g) b al vs H1 Q := fun σ H Q ⟨B, F, ι, ρ, s, R, e, p⟩ =>
    Tv.seq R e p fun v H1 F1 ι1 a s1 st R1 e1 d p1 => ⟨B, _, F1, ι1, s1, a, R1, d, p1⟩
  cases hb : bltV b with
  | builtin id =>
    have hc := blt_ok (X := X) (g := g) ft b al
    rw [hb] at hv hc
    exact PE.weak (pe_callB hc hg hm hv h hn hdb he hpl) fin
  | type T =>
    have hc := blt_ok (X := X) (g := g) ft b al
    rw [hb] at hv hc
    exact PE.weak (pe_callTy hc hg hm hv h hn hdb he hpl) fin
  | _ => cases b <;> cases hb
end
end Ev

set_option linter.all false
set_option maxRecDepth 100000
set_option maxHeartbeats 1000000
/-! EvF: what is walked, comprehensions, targets. Own work. -/
namespace Ev
open PySem PySem.Spec PyProof.Rows L2

/-! ### what is walked -/
inductive SrcD (G : GS) (F : Hp) (ι : List Addr) : It → Src → Prop
  | lst {a : Addr} {vs : List V} {xs : List AV} : SqL G.K F a vs → DenAll G F ι vs xs → vs.length ≤ sizeLine → SrcD G F ι (Itl G.K a) (.items xs)
  | tup {a : Addr} {vs : List V} {xs : List AV} : SqT G.K F a vs → DenAll G F ι vs xs → vs.length ≤ sizeLine → SrcD G F ι (Itt G.K a) (.items xs)
  | rng {lo : Int} {n : Nat} {xs : List AV} : n ≤ sizeLine → xs = (List.range n).map (fun (i : Nat) => AV.int (lo + (i : Int))) → SrcD G F ι (Itr lo n) (.items xs)
  | cell {k n : Nat} {a : Addr} : ι[k]? = some a → n ≤ sizeLine → SrcD G F ι (Itl G.K a) (.cell k n)
def srcAt (s : AS) : Src → Nat → Option (Option AV)
  | .items xs, i => some xs[i]?
  | .cell k _, i => match s.cells[k]? with
    | some (.lst xs) => some xs[i]?
    | _ => none
def srcN : Src → Nat
  | .items xs => xs.length
  | .cell _ n => n
theorem SrcD.lim {G : GS} {F : Hp} {ι : List Addr} {J : It} {src : Src} (h : SrcD G F ι J src) : srcN src ≤ sizeLine := by
  cases h with
  | lst h r z => show _ ≤ _; rw [srcN, ← r.length]; exact z
  | tup h r z => show _ ≤ _; rw [srcN, ← r.length]; exact z
  | rng z e => subst e; show _ ≤ _; simpa [srcN] using z
  | cell h z => exact z
theorem SrcD.step {G : GS} {F F' : Hp} {ι ι' : List Addr} {J : It} {src : Src} (h : SrcD G F ι J src) (sm : Same F F') (pre : ι <+: ι') {B : Hp} {H : Hp} {s : AS} (R : Rel G B F' ι' H s) (i : Nat) :
    (srcAt s src i = some none → J.stop i H) ∧ ∀ a, srcAt s src i = some (some a) → J.go i H ∧ ∀ x H', J.yld i H x H' → ∃ F'', Stp G F' ι' s F'' ι' s ∧ Rel G B F'' ι' H' s ∧ Den G F'' ι' x a := by
  cases h with
  | @lst a vs xs h r z =>
    have hq : SqL G.K H a vs := sqL_mono (fun b o e => R.sub b o (sm b o e)) h
    have r' := r.mono sm pre
    refine ⟨fun e => ⟨vs, hq, ?_⟩, fun y e => ?_⟩
    · have := List.getElem?_eq_none_iff.mp (Option.some.inj e)
      rw [r.length]; exact this
    · obtain ⟨v, hv, d⟩ := r'.get (Option.some.inj e)
      exact ⟨⟨vs, v, hq, hv⟩, fun x H' ⟨e1, e2⟩ => by
        have := e2 vs hq
        rw [hv] at this; cases this
        subst e1
        exact ⟨F', Stp.refl, R, d⟩⟩
  | @tup a vs xs h r z =>
    have hq : SqT G.K H a vs := sqT_mono (fun b o e => R.sub b o (sm b o e)) h
    have r' := r.mono sm pre
    refine ⟨fun e => ⟨vs, hq, ?_⟩, fun y e => ?_⟩
    · have := List.getElem?_eq_none_iff.mp (Option.some.inj e)
      rw [r.length]; exact this
    · obtain ⟨v, hv, d⟩ := r'.get (Option.some.inj e)
      exact ⟨⟨vs, v, hq, hv⟩, fun x H' ⟨e1, e2⟩ => by
        have := e2 vs hq
        rw [hv] at this; cases this
        subst e1
        exact ⟨F', Stp.refl, R, d⟩⟩
  | @rng lo n xs z e =>
    subst e
    refine ⟨fun e => ?_, fun y e => ?_⟩
    · have := List.getElem?_eq_none_iff.mp (Option.some.inj e)
      show n ≤ i
      simpa using this
    · have e := Option.some.inj e
      rw [List.getElem?_map] at e
      cases h1 : (List.range n)[i]? with
      | none => rw [h1] at e; cases e
      | some j =>
        rw [h1] at e
        obtain ⟨hj, hj2⟩ := List.getElem?_eq_some_iff.mp h1
        simp at hj hj2
        subst hj2
        cases e
        exact ⟨hj, fun x H' ⟨e1, e2⟩ => by
          subst e1; subst e2
          exact ⟨F', Stp.refl, R, .int _⟩⟩
  | @cell k n a hk z =>
    have hk' := pre_get pre hk
    refine ⟨fun e => ?_, fun y e => ?_⟩
    · simp only [srcAt] at e
      split at e
      · rename_i xs hc
        obtain ⟨_, vs, hH, r⟩ := R.cell k a _ hk' hc
        have := List.getElem?_eq_none_iff.mp (Option.some.inj e)
        exact ⟨vs, .of hH, by rw [r.length]; exact this⟩
      · cases e
    · simp only [srcAt] at e
      split at e
      · rename_i xs hc
        obtain ⟨_, vs, hH, r⟩ := R.cell k a _ hk' hc
        obtain ⟨v, hv, d⟩ := r.get (Option.some.inj e)
        refine ⟨⟨vs, v, .of hH, hv⟩, fun x H' ⟨e1, e2⟩ => ?_⟩
        have := e2 vs (.of hH)
        rw [hv] at this; cases this
        subst e1
        exact ⟨F', Stp.refl, R, d⟩
      · cases e

abbrev TI1 (G : GS) (W : WX) (f : AE → MM Src) : TI := Tv G W (SrcD G) f
section
variable {X : Cx} {g : GN} {W : WX} {tg e : Expr} {fa : AE → MM AV} {es : List Expr} {fs : AE → MM (List AV)} {pos : Pos}
theorem pi_den {pins : List (Addr × Obj)} {s : Shared} {σ : L2.St} {H : Hp} {R : It → Hp → Prop} {v : Value} {x : V} {B F ι E} {st : AS} {a : AV} (I : Inv X pins σ H s) (rx : RelV x v) (Rl : Rel (gsOf X g) B F ι H st) (d : Den (gsOf X g) F ι x a)
    (p : Po (gsOf X g) B E F ι st (SrcD (gsOf X g)) (srcOf a st) R) : wpAny (model X.prog X.w) X.A (pyIter v) (PIE X pins σ tg R) X.xe s := by
  have goL : ∀ {b : Addr} {vs : List V}, x = .ref b → SqL X.K H b vs → (vs.length ≤ sizeLine → R (Itl X.K b) H) → wpAny (model X.prog X.w) X.A (pyIter v) (PIE X pins σ tg R) X.xe s := fun {b vs} ex hr k => by
    subst ex
    cases rx
    obtain ⟨its, rv, pl, hz⟩ := I.list hr
    refine wpAny_pyIter_list pl.isList ?_
    refine ⟨s.heap.objs.size, [s.heap.objs.size], _, _, H, rfl, I.kept (t' := s.toks) fun b o e => Heap.get?_push_of_some _ e, turn_list b _, ⟨_, Heap.get?_push_size _ rfl, rfl, rfl⟩, fun c hc => ?_, k hz⟩
    have e : c = s.heap.objs.size := by simpa using hc
    subst e
    exact I.fpOk (Nat.le_refl _) (I.hok.fresh (Nat.le_refl _))
  have goT : ∀ {b : Addr} {vs : List V}, x = .ref b → SqT X.K H b vs → (vs.length ≤ sizeLine → R (Itt X.K b) H) → wpAny (model X.prog X.w) X.A (pyIter v) (PIE X pins σ tg R) X.xe s := fun {b vs} ex hr k => by
    subst ex
    cases rx
    obtain ⟨its, rv, pl, hz⟩ := I.tuple hr
    refine wpAny_pyIter_tuple (show s.heap.IsTuple b its.toArray from pl) ?_
    refine ⟨s.heap.objs.size, [s.heap.objs.size], _, _, H, rfl, I.kept (t' := s.toks) fun b o e => Heap.get?_push_of_some _ e, turn_tuple b _, ⟨_, Heap.get?_push_size _ rfl, rfl, rfl⟩, fun c hc => ?_, k hz⟩
    have e : c = s.heap.objs.size := by simpa using hc
    subst e
    exact I.fpOk (Nat.le_refl _) (I.hok.fresh (Nat.le_refl _))
  unfold srcOf at p
  split at p
  · cases d with
    | tup h r => exact goT rfl (Rl.sqT h) fun hz => p _ _ _ _ Stp.refl Rl (.tup h r hz)
  · cases d with
    | lst h r => exact goL rfl (Rl.sqL h) fun hz => p _ _ _ _ Stp.refl Rl (.lst h r hz)
  · rename_i k
    cases d with
    | ref hk =>
      split at p
      · rename_i xs hc
        obtain ⟨_, vs, hH, r⟩ := Rl.cell k _ _ hk hc
        exact goL rfl (SqL.of hH) fun hz => p _ _ _ _ Stp.refl Rl (.cell hk (by rw [← r.length]; exact hz))
      · rename_i xs hc
        have ok := Rl.cell k _ _ hk hc
        cases (show Den (gsOf X g) F ι _ (.lst xs) from ok) with
        | lst h r => exact goL rfl (Rl.sqL h) fun hz => p _ _ _ _ Stp.refl Rl (.lst h r hz)
      · exact p.elim
  · exact p.elim
theorem di_val (he : PE X e (TE1 (gsOf X g) W fa)) : PI X tg e (TI1 (gsOf X g) W fun ρ => MM.bind (fa ρ) srcOf) := by
  refine ⟨fun pins s σ H R I h => ?_⟩
  obtain ⟨B, F, ι, ρ, st, r, ev, p⟩ := h
  have h2 : TE1 (gsOf X g) W fa σ H (fun x H1 => ∃ B E F ι st a, Rel (gsOf X g) B F ι H1 st ∧ Den (gsOf X g) F ι x a ∧ Po (gsOf X g) B E F ι st (SrcD (gsOf X g)) (srcOf a st) R) :=
    Tv.seq r ev p fun v H1 F1 ι1 a s1 st1 R1 e1 d p1 => ⟨B, _, F1, ι1, s1, a, R1, d, p1⟩
  refine thn (he.run pins s σ H _ I h2) fun v s1 ⟨x, H1, I1, r1, B1, E1, F1, ι1, st1, a1, R1, d1, p1⟩ => ?_
  exact pi_den I1 r1 R1 d1 p1
theorem di_rng1 {p : Pos} (hg : Gl X "range") (hm : X.mg "range" = none) (h : PA X [e] (TA1 (gsOf X g) W fs)) (hl : ∀ ρ s vs s', fs ρ s = .ok vs s' → vs.length = 1) (hs : starEach [e] X.env = [(false, eval e X.env)]) :
    PI X tg (.Call (.Name "range" p) [e] [] pos) (TI1 (gsOf X g) W fun ρ => MM.bind (fs ρ) rngM) := by
  refine PI.weak (pi_range1 hg hm h hs) fun σ H Q ⟨B, F, ι, ρ, s, R, e, p⟩ => ?_
  refine ⟨B, F, ι, ρ, s, R, e, Po.firstE p fun v H1 F1 ι1 a s1 e1 st R1 d p1 => ?_⟩
  have hl := hl _ _ _ _ e1
  unfold rngM at p1
  split at p1
  · rename_i j
    split at p1
    · rename_i hc
      cases d with
      | cons d d2 =>
        cases d2; cases d
        refine ⟨j, rfl, hc.2, by omega, ?_⟩
        exact p1 _ _ _ _ Stp.refl R1 (.rng (by rw [sizeLine_eq]; omega) (by simp))
    · exact p1.elim
  · simp at hl
  · exact p1.elim
theorem di_rng2 {e2 : Expr} {p : Pos} (hg : Gl X "range") (hm : X.mg "range" = none) (h : PA X [e, e2] (TA1 (gsOf X g) W fs)) (hl : ∀ ρ s vs s', fs ρ s = .ok vs s' → vs.length = 2)
    (hs : starEach [e, e2] X.env = [(false, eval e X.env), (false, eval e2 X.env)]) (hs2 : starEach [e2] X.env = [(false, eval e2 X.env)]) :
    PI X tg (.Call (.Name "range" p) [e, e2] [] pos) (TI1 (gsOf X g) W fun ρ => MM.bind (fs ρ) rngM) := by
  refine PI.weak (pi_range2 hg hm h hs hs2) fun σ H Q ⟨B, F, ι, ρ, s, R, e, p⟩ => ?_
  refine ⟨B, F, ι, ρ, s, R, e, Po.firstE p fun v H1 F1 ι1 a s1 e1 st R1 d p1 => ?_⟩
  have hl := hl _ _ _ _ e1
  unfold rngM at p1
  split at p1
  · simp at hl
  · rename_i i j
    split at p1
    · rename_i hc
      cases d with
      | cons d d2 =>
        cases d2 with
        | cons d2 d3 =>
          cases d3; cases d; cases d2
          refine ⟨i, j, rfl, ⟨hc.2.1, hc.2.2.1, hc.2.2.2.1, hc.2.2.2.2⟩, ?_⟩
          exact p1 _ _ _ _ Stp.refl R1 (.rng (by rw [sizeLine_eq]; omega) rfl)
    · exact p1.elim
  · exact p1.elim
end

/-! ### targets -/
mutual
def tgIn (vs : List Nat) : Tg → Bool
  | .var i => vs.contains i
  | .tup ts => tgsIn vs ts
def tgsIn (vs : List Nat) : List Tg → Bool
  | [] => true
  | t :: ts => tgIn vs t && tgsIn vs ts
end
theorem wipe_set {σ : L2.St} {i : Nat} {v : Option V} : ∀ {vs : List Nat}, i ∈ vs → wipe (σ.set i v) vs = wipe σ vs
  | [], h => by cases h
  | j :: vs, h => by
    show (wipe (σ.set i v) vs).set j none = (wipe σ vs).set j none
    by_cases hj : i ∈ vs
    · rw [wipe_set hj]
    · have e : i = j := by
        rcases List.mem_cons.mp h with e | e
        · exact e
        · exact absurd e hj
      subst e
      have key : ∀ {σ : L2.St} {vs : List Nat}, i ∉ vs → wipe (σ.set i v) vs = (wipe σ vs).set i v := by
        intro σ vs
        induction vs with
        | nil => intro _; rfl
        | cons k vs ih =>
          intro hk
          have h1 : i ≠ k := fun e => hk (by simp [e])
          have h2 : i ∉ vs := fun e => hk (by simp [e])
          show (wipe (σ.set i v) vs).set k none = ((wipe σ vs).set k none).set i v
          rw [ih h2, List.set_comm _ _ h1]
      rw [key hj, List.set_set]
/-- what a target's store reaches: the slots as the evaluator has them -/
def TG1 (G : GS) (f : AS → AV → AE → Option AE) (inn : List Nat → Bool) : TG := fun v σ H Q =>
  ∃ B F ι ρ s a ρ', Rel G B F ι H s ∧ EnvR G F ι σ ρ ∧ Den G F ι v a ∧ f s a ρ = some ρ' ∧ ∀ σ', EnvR G F ι σ' ρ' → (∀ vs, inn vs = true → wipe σ' vs = wipe σ vs) → Q σ' H
def TGs1 (G : GS) (f : AS → List AV → AE → Option AE) (inn : List Nat → Bool) : TGs := fun v σ H Q =>
  ∃ B F ι ρ s a ρ', Rel G B F ι H s ∧ EnvR G F ι σ ρ ∧ DenAll G F ι v a ∧ f s a ρ = some ρ' ∧ ∀ σ', EnvR G F ι σ' ρ' → (∀ vs, inn vs = true → wipe σ' vs = wipe σ vs) → Q σ' H
section
variable {X : Cx} {g : GN} {e : Expr} {es : List Expr} {pos : Pos}
theorem PGs.weak {t t' : TGs} (h : PGs X es t) (w : ∀ v σ H Q, t' v σ H Q → t v σ H Q) : PGs X es t' := ⟨fun pins s σ H v u Q I r q => h.run pins s σ H v u Q I r (w v σ H Q q)⟩
theorem dg_var {i : Nat} {x : Str} (hN : X.N.Nodup) (hi : X.N[i]? = some x) (hx : Loc X.env.scope x) (hf : X.fn x = true ∨ X.env.scope.names.lookup x = some .local) :
    PG X (.Name x pos) (TG1 (gsOf X g) (fun s v ρ => asgT s.cells (.var i) v ρ) (fun vs => tgIn vs (.var i))) := by
  refine PG.weak (pg_name hN hi hx hf) fun v σ H Q ⟨B, F, ι, ρ, s, a, ρ', R, ev, d, h, k⟩ => ?_
  simp only [asgT] at h
  split at h
  · cases h
    exact k _ (ev.set d) fun vs hv => wipe_set (by simpa [tgIn] using hv)
  · cases h
theorem dgs_nil : PGs X [] (TGs1 (gsOf X g) (fun s v ρ => asgTs s.cells [] v ρ) (fun vs => tgsIn vs [])) := by
  refine PGs.weak pgs_nil fun v σ H Q ⟨B, F, ι, ρ, s, a, ρ', R, ev, d, h, k⟩ => ?_
  cases d with
  | nil => simp [asgTs] at h; subst h; exact ⟨rfl, k σ ev fun _ _ => rfl⟩
  | cons _ _ => simp [asgTs] at h
theorem dgs_cons {t : Tg} {ts : List Tg} (h1 : PG X e (TG1 (gsOf X g) (fun s v ρ => asgT s.cells t v ρ) (fun vs => tgIn vs t))) (h2 : PGs X es (TGs1 (gsOf X g) (fun s v ρ => asgTs s.cells ts v ρ) (fun vs => tgsIn vs ts)))
    (hs : (assignEach (e :: es) X.env).map (·.2) = assign e X.env :: (assignEach es X.env).map (·.2)) :
    PGs X (e :: es) (TGs1 (gsOf X g) (fun s v ρ => asgTs s.cells (t :: ts) v ρ) (fun vs => tgsIn vs (t :: ts))) := by
  refine PGs.weak (pgs_cons h1 h2 hs) fun v σ H Q ⟨B, F, ι, ρ, s, a, ρ', R, ev, d, h, k⟩ => ?_
  cases d with
  | nil => simp [asgTs] at h
  | @cons w ws x xs d d2 =>
    simp only [asgTs] at h
    split at h
    · rename_i ρ1 h1
      refine ⟨w, ws, rfl, B, F, ι, ρ, s, x, ρ1, R, ev, d, h1, fun σ1 ev1 w1 => ?_⟩
      refine ⟨B, F, ι, ρ1, s, xs, ρ', R, ev1, d2, h, fun σ2 ev2 w2 => k σ2 ev2 fun vs hv => ?_⟩
      have hv' : tgIn vs t = true ∧ tgsIn vs ts = true := by simpa [tgsIn] using hv
      rw [w2 vs hv'.2, w1 vs hv'.1]
    · cases h
theorem dg_tup {k : Nat} {ts : List Tg} (hc : X.calm = true) (h : PGs X es (TGs1 (gsOf X g) (fun s v ρ => asgTs s.cells ts v ρ) (fun vs => tgsIn vs ts))) (hlen : es.length = ts.length)
    (hn : (assignEach es X.env).length = es.length) (hst : (assignEach es X.env).findIdx? (·.1) = none) :
    PG X (.Tuple es k pos) (TG1 (gsOf X g) (fun s v ρ => asgT s.cells (.tup ts) v ρ) (fun vs => tgIn vs (.tup ts))) := by
  refine PG.weak (pg_tup hc h hn hst) fun v σ H Q ⟨B, F, ι, ρ, s, a, ρ', R, ev, d, h, k⟩ => ?_
  simp only [asgT] at h
  split at h
  · rename_i xs
    cases d with
    | tup hq r =>
      have hl : ∀ {ts : List Tg} {xs : List AV} {ρ ρ' : AE}, asgTs s.cells ts xs ρ = some ρ' → xs.length = ts.length := by
        intro ts
        induction ts with
        | nil => intro xs ρ ρ' h; cases xs with
          | nil => rfl
          | cons _ _ => simp [asgTs] at h
        | cons t ts ih => intro xs ρ ρ' h; cases xs with
          | nil => simp [asgTs] at h
          | cons x xs =>
            simp only [asgTs] at h
            split at h
            · simp [ih h]
            · cases h
      exact ⟨_, _, rfl, R.sqT hq, by rw [r.length, hl h, hlen], B, F, ι, ρ, s, xs, ρ', R, ev, r, h, k⟩
  · cases h
end

/-! ### list comprehensions -/
/-- an item or none -/
def DenO (G : GS) (F : Hp) (ι : List Addr) : Option V → Option AV → Prop
  | some v, some a => Den G F ι v a
  | none, none => True
  | _, _ => False
section
variable {G : GS} {B B' : Hp} {E : XK} {F : Hp} {ι : List Addr} {s : AS} {α β γ δ : Type} {D : Hp → List Addr → β → α → Prop} {D' : Hp → List Addr → δ → γ → Prop} {Q : β → Hp → Prop}
/-- a part that raises nothing, while we hold more -/
theorem Po.nox {m : MM α} {f : α → MM γ} {R : δ → Hp → Prop} (h : Po G B E F ι s D' (MM.bind (nox m) f s) R) :
    Po G B' (fun _ _ _ => False) F ι s D (m s) (fun v H1 => ∃ F1 ι1 s1 a, Stp G F ι s F1 ι1 s1 ∧ Rel G B' F1 ι1 H1 s1 ∧ D F1 ι1 v a ∧ Po G B E F1 ι1 s1 D' (f a s1) R) := by
  unfold MM.bind Ev.nox at h
  revert h
  cases m s with
  | ok a s1 => exact fun h v H1 F1 ι1 st R1 d => ⟨F1, ι1, s1, a, st, R1, d, Po.base st h⟩
  | exc x s1 => exact fun h => h.elim
  | stuck => exact fun h => h.elim
theorem Po.item {k i : Nat} {c : Option AV → MM γ} {R : δ → Hp → Prop} (h : Po G B E F ι s D' (MM.bind (itemAt k i) c s) R) : ∃ xs, s.cells[k]? = some (.lst xs) ∧ Po G B E F ι s D' (c xs[i]? s) R := by
  unfold MM.bind itemAt at h
  cases hc : s.cells[k]? with
  | none => rw [hc] at h; exact h.elim
  | some o =>
    rw [hc] at h
    cases o with
    | lst xs => exact ⟨xs, rfl, h⟩
    | dct _ => exact h.elim
    | ins _ _ => exact h.elim
    | frz _ => exact h.elim
theorem compR_turn {turn : AV → MM (Option AV)} {src : Src} {i : Nat} {acc : List AV} {f : List AV → MM γ} {R : δ → Hp → Prop} (hi : i ≤ srcN src) (h : Po G B E F ι s D' (MM.bind (compR turn src i acc) f s) R) :
    (srcAt s src i = some none ∧ Po G B E F ι s D' (f acc s) R) ∨
    ∃ x, i < srcN src ∧ srcAt s src i = some (some x) ∧ Po G B E F ι s D' (MM.bind (turn x) (fun o => MM.bind (compR turn src (i + 1) (accO acc o)) f) s) R := by
  cases src with
  | items xs =>
    show _ ∨ ∃ x, i < xs.length ∧ _
    have h : Po G B E F ι s D' (MM.bind (compL turn (xs.drop i) acc) f s) R := h
    by_cases hlt : i < xs.length
    · rw [List.drop_eq_getElem_cons hlt, compL, MM.assoc] at h
      exact .inr ⟨xs[i], hlt, by simp [srcAt, hlt], h⟩
    · have e : xs.drop i = [] := List.drop_eq_nil_of_le (by omega)
      rw [e] at h
      exact .inl ⟨by simp [srcAt]; omega, h⟩
  | cell k n =>
    show _ ∨ ∃ x, i < n ∧ _
    have hi : i ≤ n := hi
    have h : Po G B E F ι s D' (MM.bind (compC turn k (n - i) i acc) f s) R := h
    by_cases hlt : i < n
    · have e1 : n - i = (n - (i + 1)) + 1 := by omega
      rw [e1, compC, MM.assoc] at h
      obtain ⟨xs, hc, h⟩ := Po.item h
      cases hx : xs[i]? with
      | none => simp only [hx] at h; exact .inl ⟨by simp [srcAt, hc, hx], h⟩
      | some x =>
        simp only [hx, MM.assoc] at h
        exact .inr ⟨x, hlt, by simp [srcAt, hc, hx], h⟩
    · have e1 : n - i = 0 := by omega
      rw [e1, compC, MM.assoc] at h
      obtain ⟨xs, hc, h⟩ := Po.item h
      cases hx : xs[i]? with
      | none => simp only [hx] at h; exact .inl ⟨by simp [srcAt, hc, hx], h⟩
      | some x => simp only [hx] at h; exact h.elim
end
theorem bind_ofO {α γ : Type} {q : AS → Option α} {f : α → MM γ} {s : AS} {a : α} (h : q s = some a) : MM.bind (fun s => ofO (q s) s) f s = f a s := by
  show (match ofO (q s) s with | .ok a s' => f a s' | .exc x s' => .exc x s' | .stuck => .stuck) = f a s
  rw [h]
  rfl
theorem wipe_wipe (σ : L2.St) (vs : List Nat) : wipe (wipe σ vs) vs = wipe σ vs := by
  have : ∀ us : List Nat, (∀ u ∈ us, u ∈ vs) → wipe (wipe σ us) vs = wipe σ vs := by
    intro us
    induction us with
    | nil => intro _; rfl
    | cons u us ih =>
      intro hu
      show wipe ((wipe σ us).set u none) vs = _
      rw [wipe_set (hu u List.mem_cons_self), ih fun w hw => hu w (List.mem_cons_of_mem _ hw)]
  exact this vs fun _ h => h
abbrev W0 : WX := fun _ _ _ _ => False
section
variable {X : Cx} {g : GN} {W : WX}
theorem tLc_ok {fi : AE → MM Src} {fg : AS → AV → AE → Option AE} {inn : List Nat → Bool} {ft : AE → MM Bool} {fe : AE → MM AV} {al : Bool} {ws : List Nat} (hin : inn ws = true) {σ : L2.St} {H : Hp} {Q : VK}
    (h : TE1 (gsOf X g) W (fun ρ => MM.bind (fi ρ) fun src => MM.bind (compR (cTurn fg ft fe (wipeE ρ ws)) src 0 []) fun vs => mkL al vs) σ H Q) :
    tLc (TI1 (gsOf X g) W fi) (TG1 (gsOf X g) fg inn) (TT1 (gsOf X g) W0 ft) (TE1 (gsOf X g) W0 fe) ws σ H Q := by
  obtain ⟨B, F, ι, ρ, s, R, ev, p⟩ := h
  refine Tv.seq R ev p fun J H1 F1 ι1 src s1 st1 R1 ev1 d1 p1 => ?_
  intro D hD
  have hBD : B D = none := by
    cases e : B D with
    | none => rfl
    | some u => rw [(R1.out D u e).1] at hD; cases hD
  refine ⟨fun i m H => m = srcN src - i ∧ i ≤ srcN src ∧ ∃ F2 ι2 s2 acc vs, Stp (gsOf X g) F1 ι1 s1 F2 ι2 s2 ∧ Rel (gsOf X g) (upd B D (.lst vs)) F2 ι2 H s2 ∧ DenAll (gsOf X g) F2 ι2 vs acc ∧ acc.length ≤ i ∧
      Po (gsOf X g) B (fun c d H => W c d σ H) F2 ι2 s2 (Den (gsOf X g)) (MM.bind (compR (cTurn fg ft fe (wipeE ρ ws)) src i acc) (fun vs => mkL al vs) s2) Q,
    ⟨srcN src - 0, rfl, Nat.zero_le _, F1, ι1, s1, [], [], Stp.refl, R1.hold _ hD, .nil, Nat.le_refl _, p1⟩, ?_⟩
  rintro i m H2 ⟨rfl, hi, F2, ι2, s2, acc, vs, st2, R2, da, hl, p2⟩
  obtain ⟨hs1, hs2⟩ := d1.step st2.sm st2.pre R2 i
  rcases compR_turn hi p2 with ⟨e, p3⟩ | ⟨x, hlt, e, p3⟩
  · refine .inl ⟨hs1 e, ?_⟩
    unfold mkL at p3
    cases al with
    | true =>
      obtain ⟨st3, R3⟩ := R2.toCell (ob0 := .lst acc) hBD fun hF hH => ⟨hF, vs, hH, da.mono (Same.refl _) ⟨[D], rfl⟩⟩
      refine p3 _ _ _ _ st3 R3 (.ref ?_)
      rw [← R2.len, List.getElem?_append_right (Nat.le_refl _)]
      simp
    | false =>
      obtain ⟨st3, R3⟩ := R2.release hBD
      exact p3 _ _ _ _ st3 R3 (.lst (SqL.of upd_same) (da.stp st3))
  · obtain ⟨go, yl⟩ := hs2 x e
    refine .inr ⟨go, fun H' => (i + 1 ≤ srcN src ∧ ∃ F2 ι2 s2 acc vs, Stp (gsOf X g) F1 ι1 s1 F2 ι2 s2 ∧ Rel (gsOf X g) (upd B D (.lst vs)) F2 ι2 H' s2 ∧ DenAll (gsOf X g) F2 ι2 vs acc ∧ acc.length ≤ i + 1 ∧
      Po (gsOf X g) B (fun c d H => W c d σ H) F2 ι2 s2 (Den (gsOf X g)) (MM.bind (compR (cTurn fg ft fe (wipeE ρ ws)) src (i + 1) acc) (fun vs => mkL al vs) s2) Q), fun H' hH => ⟨_, ?_, rfl, hH⟩, fun y H3 hy => ?_⟩
    · omega
    · obtain ⟨F3, st3, R3, d3⟩ := yl y H3 hy
      have st13 := st2.trans st3
      have ev3 : EnvR (gsOf X g) F3 ι2 (wipe σ ws) (wipeE ρ ws) := (ev1.stp st13).wipe ws
      have p4 := (Po.nox (B' := upd B D (.lst vs)) (D := DenO (gsOf X g)) (p3.base st3))
      cases hfg : fg s2 x (wipeE ρ ws) with
      | none =>
        unfold MM.bind at p4
        simp only [hfg, ofO] at p4
        exact p4.elim
      | some ρ' =>
        rw [bind_ofO hfg] at p4
        refine ⟨upd B D (.lst vs), F3, ι2, wipeE ρ ws, s2, x, ρ', R3, ev3, d3, hfg, fun σ2 ev2 w2 => ⟨?_, ?_⟩⟩
        · rw [w2 ws hin, wipe_wipe]
        · refine Tv.seq (W := W0) R3 ev2 p4 fun b H4 F4 ι4 b' s4 st4 R4 ev4 d4 p7 => ?_
          cases d4
          cases b with
          | false =>
            rw [if_neg (by decide)] at p7 ⊢
            obtain ⟨F5, ι5, s5, oa, st5, R5, d5, p8⟩ := p7 none H4 F4 ι4 Stp.refl R4 trivial
            cases oa with
            | some _ => exact d5.elim
            | none => exact ⟨hlt, F5, ι5, s5, acc, vs, st13.trans st5, R5, da.stp (st3.trans st5), by omega, p8⟩
          | true =>
            rw [if_pos rfl] at p7 ⊢
            refine Tv.seq (W := W0) R4 ev4 p7 fun v H5 F5 ι5 a s5 st5 R5 ev5 d5 p8 => ?_
            obtain ⟨F6, ι6, s6, oa, st6, R6, d6, p9⟩ := p8 (some v) H5 F5 ι5 Stp.refl R5 d5
            cases oa with
            | none => exact d6.elim
            | some w =>
              have hvl : vs.length = acc.length := da.length
              have := d1.lim
              refine ⟨vs, (R6.out D _ upd_same).1, by omega, hlt, F6, ι6, s6, acc ++ [w], vs ++ [v], st13.trans st6, R6.held _, (da.stp (st3.trans st6)).append (.cons d6 .nil), by simp; omega, p9⟩
theorem de_comp {tg it elt : Expr} {ifs : List Expr} {scope : Scope} {own : List (Str × Nat)} {pos : Pos} {fi : AE → MM Src} {fg : AS → AV → AE → Option AE} {inn : List Nat → Bool} {ft : AE → MM Bool} {fe : AE → MM AV} {al : Bool}
    (hc : X.calm = true) (hN : X.N.Nodup) (ok : BlkOk X.N X.env.scope scope own) (hin : inn (own.map (·.2)) = true) (hi : PI X tg it (TI1 (gsOf X g) W fi))
    (hg : ∀ (s : Shared) (H : Hp) (C : Addr) (cl : List (Str × Addr)) (fp : List Addr), PG (X.blk s H scope (compEnvC scope cl C X.env) fp) tg (TG1 (gsOf X g) fg inn))
    (ht : ∀ (s : Shared) (H : Hp) (C : Addr) (cl : List (Str × Addr)) (fp : List Addr), PTs (X.blk s H scope (compEnvC scope cl C X.env) fp) ifs (TT1 (gsOf X g) W0 ft))
    (he : ∀ (s : Shared) (H : Hp) (C : Addr) (cl : List (Str × Addr)) (fp : List Addr), PE (X.blk s H scope (compEnvC scope cl C X.env) fp) elt (TE1 (gsOf X g) W0 fe)) (hs : ∀ x, foldedSetIterable it X.env x = pure x) :
    PE X (.ListComp elt [⟨tg, it, ifs, 0⟩] scope pos) (TE1 (gsOf X g) W fun ρ => MM.bind (fi ρ) fun src => MM.bind (compR (cTurn fg ft fe (wipeE ρ (own.map (·.2)))) src 0 []) fun vs => mkL al vs) :=
  PE.weak (pe_lc hc hN hi ok hg ht he hs) fun _ _ _ h => tLc_ok hin h
/-- name = [..] -/
theorem ds_setLc {i : Nat} {y : Str} {py : Pos} {tg it elt : Expr} {ifs : List Expr} {scope : Scope} {own : List (Str × Nat)} {pos spos : Pos} {fi : AE → MM Src} {fg : AS → AV → AE → Option AE} {inn : List Nat → Bool} {ft : AE → MM Bool} {fe : AE → MM AV} {al : Bool}
    (hc : X.calm = true) (hN : X.N.Nodup) (hy : X.N[i]? = some y) (hyl : X.env.scope.names.lookup y = some .local) (hsw : swapsWith (.ListComp elt [⟨tg, it, ifs, 0⟩] scope pos) (some (.Name y py)) spos.line X.env = pure true)
    (ok : BlkOk X.N X.env.scope scope own) (hin : inn (own.map (·.2)) = true) (hi : PI X tg it (TI1 (gsOf X g) W fi))
    (hg : ∀ (s : Shared) (H : Hp) (C : Addr) (cl : List (Str × Addr)) (fp : List Addr), PG (X.blk s H scope (compEnvC scope cl C X.env) fp) tg (TG1 (gsOf X g) fg inn))
    (ht : ∀ (s : Shared) (H : Hp) (C : Addr) (cl : List (Str × Addr)) (fp : List Addr), PTs (X.blk s H scope (compEnvC scope cl C X.env) fp) ifs (TT1 (gsOf X g) W0 ft))
    (he : ∀ (s : Shared) (H : Hp) (C : Addr) (cl : List (Str × Addr)) (fp : List Addr), PE (X.blk s H scope (compEnvC scope cl C X.env) fp) elt (TE1 (gsOf X g) W0 fe)) (hs : ∀ x, foldedSetIterable it X.env x = pure x) :
    PS X (.Assign [.Name y py] (.ListComp elt [⟨tg, it, ifs, 0⟩] scope pos) spos) (tAsg (TE1 (gsOf X g) W fun ρ => MM.bind (fi ρ) fun src => MM.bind (compR (cTurn fg ft fe (wipeE ρ (own.map (·.2)))) src 0 []) fun vs => mkL al vs) (gName i)) :=
  PS.weak (ps_setLc hc hN hy hyl hsw hi ok hg ht he hs) fun _ _ _ h => tLc_ok hin h
end
end Ev

set_option linter.all false
set_option maxRecDepth 100000
set_option maxHeartbeats 1000000
/-! EvF2: dict displays. Own work. -/
namespace Ev
open PySem PySem.Spec PyProof.Rows L2

def DenKV (G : GS) (F : Hp) (ι : List Addr) (ks : List (Key × V)) (kvs : List (AV × AV)) : Prop := ks.map (fun p => kA p.1) = kvs.map (·.1) ∧ DenAll G F ι (ks.map (·.2)) (kvs.map (·.2))
def DenPs (G : GS) (F : Hp) (ι : List Addr) (ps : List (V × V)) (as : List (AV × AV)) : Prop := DenAll G F ι (ps.map (·.1)) (as.map (·.1)) ∧ DenAll G F ι (ps.map (·.2)) (as.map (·.2))
section
variable {G : GS} {F F' : Hp} {ι ι' : List Addr}
theorem keyEq_kA {k l : Key} : keyEq (kA k) (kA l) = decide (k = l) := by
  cases k <;> cases l <;> simp [kA, keyEq]
theorem kA_inj {k l : Key} (h : kA k = kA l) : k = l := by
  cases k <;> cases l <;> simp_all [kA]
theorem DenKV.nil : DenKV G F ι [] [] := ⟨rfl, .nil⟩
theorem DenKV.cons {k : Key} {v : V} {x : AV} {ks : List (Key × V)} {kvs : List (AV × AV)} (d : Den G F ι v x) (h : DenKV G F ι ks kvs) : DenKV G F ι ((k, v) :: ks) ((kA k, x) :: kvs) :=
  ⟨by simp [h.1], .cons d h.2⟩
theorem DenKV.out {p : Key × V} {ks : List (Key × V)} {kvs : List (AV × AV)} (h : DenKV G F ι (p :: ks) kvs) : ∃ x r, kvs = (kA p.1, x) :: r ∧ Den G F ι p.2 x ∧ DenKV G F ι ks r := by
  obtain ⟨h1, h2⟩ := h
  cases kvs with
  | nil => simp at h1
  | cons q r =>
    simp at h1
    cases h2 with
    | cons d t => exact ⟨q.2, r, by rw [h1.1], d, h1.2, t⟩
theorem DenKV.empty {kvs : List (AV × AV)} (h : DenKV G F ι [] kvs) : kvs = [] := by
  obtain ⟨h1, _⟩ := h
  cases kvs with
  | nil => rfl
  | cons _ _ => simp at h1
theorem DenKV.stp {ks : List (Key × V)} {kvs : List (AV × AV)} {s s' : AS} (h : DenKV G F ι ks kvs) (p : Stp G F ι s F' ι' s') : DenKV G F' ι' ks kvs := ⟨h.1, h.2.stp p⟩
theorem DenKV.any {k : Key} : ∀ {ks : List (Key × V)} {kvs : List (AV × AV)}, DenKV G F ι ks kvs → (kvs.any fun p => keyEq p.1 (kA k)) = ks.any fun p => decide (p.1 = k)
  | [], kvs, h => by rw [h.empty]; rfl
  | p :: ks, kvs, h => by
    obtain ⟨x, r, rfl, d, h2⟩ := h.out
    rw [List.any_cons, List.any_cons, h2.any, keyEq_kA]
theorem DenKV.app : ∀ {ks ls : List (Key × V)} {kvs lvs : List (AV × AV)}, DenKV G F ι ks kvs → DenKV G F ι ls lvs → DenKV G F ι (ks ++ ls) (kvs ++ lvs)
  | _, _, _, _, ⟨h1, h2⟩, ⟨h3, h4⟩ => ⟨by simp [h1, h3], by rw [List.map_append, List.map_append]; exact h2.append h4⟩
theorem DenKV.map {k : Key} {v : V} {x : AV} (d : Den G F ι v x) : ∀ {ks : List (Key × V)} {kvs : List (AV × AV)}, DenKV G F ι ks kvs →
    DenKV G F ι (ks.map fun kv => if kv.1 = k then (kv.1, v) else kv) (kvs.map fun p => if keyEq p.1 (kA k) = true then (p.1, x) else p)
  | [], kvs, h => by rw [h.empty]; exact .nil
  | p :: ks, kvs, h => by
    obtain ⟨y, r, rfl, dy, h2⟩ := h.out
    rw [List.map_cons, List.map_cons, keyEq_kA]
    by_cases e : p.1 = k
    · rw [if_pos e, if_pos (decide_eq_true e)]; exact .cons d (h2.map d)
    · rw [if_neg e, if_neg (by rw [decide_eq_false e]; decide)]; exact .cons dy (h2.map d)
theorem DenKV.put {k : Key} {v : V} {x : AV} {ks : List (Key × V)} {kvs : List (AV × AV)} (h : DenKV G F ι ks kvs) (d : Den G F ι v x) : DenKV G F ι (putK ks k v) (putA kvs (kA k) x) := by
  unfold putK putA
  rw [h.any]
  split
  · exact h.map d
  · exact h.app (.cons d .nil)
theorem DenKV.merge : ∀ {more ks : List (Key × V)} {mvs kvs : List (AV × AV)}, DenKV G F ι more mvs → DenKV G F ι ks kvs → DenKV G F ι (mergeK ks more) (mergeA kvs mvs)
  | [], ks, mvs, kvs, h, h2 => by rw [h.empty]; exact h2
  | p :: more, ks, mvs, kvs, h, h2 => by
    obtain ⟨x, r, rfl, d, h3⟩ := h.out
    show DenKV G F ι (mergeK (putK ks p.1 p.2) more) (mergeA (putA kvs (kA p.1) x) r)
    exact DenKV.merge h3 (h2.put d)
theorem DenKV.get {k : Key} : ∀ {ks : List (Key × V)} {kvs : List (AV × AV)} {x : AV}, DenKV G F ι ks kvs → getA kvs (kA k) = some x → ∃ v, valV ks k = some v ∧ Den G F ι v x
  | [], kvs, x, h, e => by rw [h.empty] at e; cases e
  | p :: ks, kvs, x, h, e => by
    obtain ⟨y, r, rfl, d, h2⟩ := h.out
    unfold getA at e
    rw [List.find?_cons, keyEq_kA] at e
    by_cases hk : p.1 = k
    · rw [decide_eq_true hk] at e
      cases e
      exact ⟨p.2, valV_pos hk, d⟩
    · rw [decide_eq_false hk] at e
      obtain ⟨v, h3, h4⟩ := DenKV.get (x := x) h2 e
      exact ⟨v, by rw [valV_neg hk]; exact h3, h4⟩
theorem DenKV.none {k : Key} : ∀ {ks : List (Key × V)} {kvs : List (AV × AV)}, DenKV G F ι ks kvs → getA kvs (kA k) = none → valV ks k = none
  | [], kvs, h, e => rfl
  | p :: ks, kvs, h, e => by
    obtain ⟨y, r, rfl, d, h2⟩ := h.out
    unfold getA at e
    rw [List.find?_cons, keyEq_kA] at e
    by_cases hk : p.1 = k
    · rw [decide_eq_true hk] at e; cases e
    · rw [decide_eq_false hk] at e
      rw [valV_neg hk]
      exact DenKV.none h2 e
theorem key_den {v : V} {x : AV} {k : Key} (d : Den G F ι v x) (e : keyOf x = some k) : v = kV k ∧ x = kA k := by
  cases d <;> first | (cases e; exact ⟨rfl, rfl⟩) | cases e
theorem DenPs.keys : ∀ {ps : List (V × V)} {as : List (AV × AV)}, DenPs G F ι ps as → as.all (fun p => (keyOf p.1).isSome) = true → ∃ kvs : List (Key × V), ps = kvs.map (fun kv => (kV kv.1, kv.2)) ∧ DenKV G F ι kvs as
  | [], [], _, _ => ⟨[], rfl, .nil⟩
  | [], _ :: _, ⟨h, _⟩, _ => by cases h
  | _ :: _, [], ⟨h, _⟩, _ => by cases h
  | p :: ps, a :: as, ⟨h1, h2⟩, hk => by
    rw [List.all_cons, Bool.and_eq_true] at hk
    cases h1 with
    | cons d1 r1 =>
      cases h2 with
      | cons d2 r2 =>
        obtain ⟨kvs, rfl, h3⟩ := DenPs.keys ⟨r1, r2⟩ hk.2
        obtain ⟨k, hk1⟩ := Option.isSome_iff_exists.mp hk.1
        obtain ⟨e1, e2⟩ := key_den d1 hk1
        refine ⟨(k, p.2) :: kvs, ?_, ?_⟩
        · rw [List.map_cons, ← e1]
        · have := DenKV.cons (k := k) d2 h3
          rw [← e2] at this
          exact this
end
section
variable {X : Cx} {g : GN} {W : WX} {pos : Pos} {al : Bool}
theorem mkD_post {G : GS} {B : Hp} {E : XK} {F : Hp} {ι : List Addr} {H : Hp} {s : AS} {Q : VK} {D : Addr} {ks : List (Key × V)} {kvs : List (AV × AV)} (hB : B D = none) (R : Rel G (upd B D (.dK ks)) F ι H s) (d : DenKV G F ι ks kvs)
    (p : Po G B E F ι s (Den G) (mkD al kvs s) Q) : Q (.ref D) H := by
  unfold mkD at p
  cases al with
  | true =>
    obtain ⟨st, R'⟩ := R.toCell (ob0 := .dct kvs) hB fun hF hH => ⟨hF, ks, hH, d.1, d.2.mono (Same.refl _) ⟨[D], rfl⟩⟩
    refine p _ _ _ _ st R' (.ref ?_)
    rw [← R.len, List.getElem?_append_right (Nat.le_refl _)]
    simp
  | false =>
    obtain ⟨st, R'⟩ := R.release hB
    exact p _ _ _ _ st R' (.dctK upd_same d.1 (d.2.stp st))
theorem de_dct0 : PE X (.Dict [] [] pos) (TE1 (gsOf X g) W fun ρ => MM.bind (nox (MM.pure [])) fun ps => mkDisp al ps) := by
  refine PE.weak pe_dnewK fun σ H Q ⟨B, F, ι, ρ, s, R, ev, p⟩ => fun D hD => ?_
  have hB : B D = none := by
    cases e : B D with
    | none => rfl
    | some u => rw [(R.out D u e).1] at hD; cases hD
  exact mkD_post hB (R.hold (.dK []) hD) .nil p
theorem de_dct {keys : List (Option Expr)} {values : List Expr} {trs : List (TE × TE)} {fp : AE → MM (List (AV × AV))} (h : PPs X pos keys values trs) (hall : keys.all (·.isSome) = true) (hl : keys.length = values.length) (h0 : keys ≠ []) (h15 : keys.length ≤ 15)
    (ht : ∀ {B F ι ρ s σ H Q}, Rel (gsOf X g) B F ι H s → EnvR (gsOf X g) F ι σ ρ → Po (gsOf X g) B (fun c d H => W0 c d σ H) F ι s (DenPs (gsOf X g)) (fp ρ s) Q → tPairs trs σ H Q) :
    PE X (.Dict keys values pos) (TE1 (gsOf X g) W fun ρ => MM.bind (nox (fp ρ)) fun ps => mkDisp al ps) := by
  refine PE.weak (pe_disp h hall hl h0 h15) fun σ H Q ⟨B, F, ι, ρ, s, R, ev, p⟩ => fun D hD => ?_
  have hB : B D = none := by
    cases e : B D with
    | none => rfl
    | some u => rw [(R.out D u e).1] at hD; cases hD
  have q := Po.nox (B' := upd B D (.dK [])) (D := DenPs (gsOf X g)) p
  refine ht (R.hold (.dK []) hD) ev (q.mono fun ps H2 ⟨F5, ι5, s5, as, st, R5, d, p5⟩ => ⟨(R5.out D _ upd_same).1, ?_⟩)
  unfold mkDisp at p5
  split at p5
  · rename_i hc
    obtain ⟨kvs, e, dk⟩ := d.keys hc.1
    refine ⟨kvs, e, ?_, mkD_post hB (R5.held _) (DenKV.merge dk .nil) p5⟩
    have := dk.2.length
    simp only [List.length_map] at this
    omega
  · exact p5.elim
end
end Ev

set_option linter.all false
set_option maxRecDepth 100000
set_option maxHeartbeats 1000000
/-! EvG: statements. Own work. -/
namespace Ev
open PySem PySem.Spec PyProof.Rows L2

def PoS (G : GS) (B : Hp) (W : WX) (D : Ends) (F : Hp) (ι : List Addr) (s : AS) (r : SRs) : Prop :=
  match r with
  | .next ρ' s' => ∀ σ' H' F' ι', Stp G F ι s F' ι' s' → Rel G B F' ι' H' s' → EnvR G F' ι' σ' ρ' → D.nx σ' H'
  | .ret a s' => ∀ v H' F' ι', Stp G F ι s F' ι' s' → Rel G B F' ι' H' s' → Den G F' ι' v a → D.rt v H'
  | .brk ρ' s' => ∀ σ' H' F' ι', Stp G F ι s F' ι' s' → Rel G B F' ι' H' s' → EnvR G F' ι' σ' ρ' → D.bk σ' H'
  | .cont ρ' s' => ∀ σ' H' F' ι', Stp G F ι s F' ι' s' → Rel G B F' ι' H' s' → EnvR G F' ι' σ' ρ' → D.ct σ' H'
  | .exc x ρ' s' => ∀ cls d σ' H' F' ι', Stp G F ι s F' ι' s' → Rel G B F' ι' H' s' → EnvR G F' ι' σ' ρ' → ExD G F' ι' cls d x → W cls d σ' H'
  | .stuck => False
def TS1 (G : GS) (W : WX) (f : AE → AS → SRs) : TS := fun D σ H => ∃ B F ι ρ s, Rel G B F ι H s ∧ EnvR G F ι σ ρ ∧ PoS G B W D F ι s (f ρ s)

section
variable {G : GS} {B : Hp} {W : WX} {D : Ends} {F F' : Hp} {ι ι' : List Addr} {s s' : AS} {σ : L2.St} {ρ : AE} {H : Hp}
theorem PoS.base {r : SRs} (p : Stp G F ι s F' ι' s') (h : PoS G B W D F ι s r) : PoS G B W D F' ι' s' r := by
  cases r with
  | next ρ s2 => exact fun σ' H' F2 ι2 st => h σ' H' F2 ι2 (p.trans st)
  | ret a s2 => exact fun σ' H' F2 ι2 st => h σ' H' F2 ι2 (p.trans st)
  | brk ρ s2 => exact fun σ' H' F2 ι2 st => h σ' H' F2 ι2 (p.trans st)
  | cont ρ s2 => exact fun σ' H' F2 ι2 st => h σ' H' F2 ι2 (p.trans st)
  | exc x ρ s2 => exact fun c d σ' H' F2 ι2 st => h c d σ' H' F2 ι2 (p.trans st)
  | stuck => exact h
/-- an expression's part, then the rest -/
theorem TS1.first {α β : Type} {Dn : Hp → List Addr → β → α → Prop} {m : AE → MM α} {f : α → AS → SRs} {Q : β → Hp → Prop} (R : Rel G B F ι H s) (ev : EnvR G F ι σ ρ) (p : PoS G B W D F ι s (sBind ρ (m ρ) f s))
    (k : ∀ v H1 F1 ι1 a s1, Stp G F ι s F1 ι1 s1 → Rel G B F1 ι1 H1 s1 → EnvR G F1 ι1 σ ρ → Dn F1 ι1 v a → PoS G B W D F1 ι1 s1 (f a s1) → Q v H1) : Tv G W Dn m σ H Q := by
  refine ⟨B, F, ι, ρ, s, R, ev, ?_⟩
  unfold sBind at p
  revert p
  cases m ρ s with
  | ok a s1 => exact fun p v H1 F1 ι1 st R1 d => k v H1 F1 ι1 a s1 st R1 (ev.stp st) d (PoS.base st p)
  | exc x s1 => exact fun p c d H1 F1 ι1 st R1 e => p c d σ H1 F1 ι1 st R1 (ev.stp st) e
  | stuck => exact fun p => p
end

section
variable {X : Cx} {g : GN} {W : WX} {e : Expr} {fa : AE → MM AV} {pos : Pos}
theorem ds_expr (he : PE X e (TE1 (gsOf X g) W fa)) (hs : swapsWith e none pos.line X.env = pure false) : PS X (.Expr e pos) (TS1 (gsOf X g) W fun ρ s => sBind ρ (fa ρ) (fun _ s' => .next ρ s') s) := by
  refine PS.weak (ps_expr he hs) fun D σ H ⟨B, F, ι, ρ, s, R, ev, p⟩ => ?_
  exact TS1.first R ev p fun v H1 F1 ι1 a s1 st R1 ev1 d p1 => p1 σ H1 F1 ι1 Stp.refl R1 ev1
theorem ds_ret (he : PE X e (TE1 (gsOf X g) W fa)) : PS X (.Return (some e) pos) (TS1 (gsOf X g) W fun ρ s => sBind ρ (fa ρ) (fun v s' => .ret v s') s) := by
  refine PS.weak (ps_ret he) fun D σ H ⟨B, F, ι, ρ, s, R, ev, p⟩ => ?_
  exact TS1.first R ev p fun v H1 F1 ι1 a s1 st R1 ev1 d p1 => p1 v H1 F1 ι1 Stp.refl R1 d
theorem ds_retN : PS X (.Return none pos) (TS1 (gsOf X g) W fun ρ s => .ret .non s) :=
  PS.weak ps_retN fun D σ H ⟨B, F, ι, ρ, s, R, ev, p⟩ => p .non H F ι Stp.refl R .non
/-- the store behind a value -/
theorem asg_tail {fg : AS → AV → AE → Option AE} {inn : List Nat → Bool} {D : Ends} {B : Hp} {F : Hp} {ι : List Addr} {s : AS} {σ : L2.St} {ρ : AE} {H : Hp} {v : V} {a : AV} (R : Rel (gsOf X g) B F ι H s) (ev : EnvR (gsOf X g) F ι σ ρ) (d : Den (gsOf X g) F ι v a)
    (p : PoS (gsOf X g) B W D F ι s (match fg s a ρ with | some ρ' => .next ρ' s | none => .stuck)) : TG1 (gsOf X g) fg inn v σ H D.nx := by
  cases h : fg s a ρ with
  | none => rw [h] at p; exact p.elim
  | some ρ' => rw [h] at p; exact ⟨B, F, ι, ρ, s, a, ρ', R, ev, d, h, fun σ' ev' _ => p σ' H F ι Stp.refl R ev'⟩
theorem ds_asg {tg : Expr} {fg : AS → AV → AE → Option AE} {inn : List Nat → Bool} (he : PE X e (TE1 (gsOf X g) W fa)) (hg : PG X tg (TG1 (gsOf X g) fg inn)) (hs : swapsWithSole [tg] e pos.line X.env = pure false) (hw : swappedStores [tg] e X.env = pure none)
    (h1 : (assignEach [tg] X.env).map (·.2) = [assign tg X.env]) : PS X (.Assign [tg] e pos) (TS1 (gsOf X g) W fun ρ s => sBind ρ (fa ρ) (fun v s' => match fg s' v ρ with | some ρ' => .next ρ' s' | none => .stuck) s) := by
  refine PS.weak (ps_asg he hg hs hw h1) fun D σ H ⟨B, F, ι, ρ, s, R, ev, p⟩ => ?_
  exact TS1.first R ev p fun v H1 F1 ι1 a s1 st R1 ev1 d p1 => asg_tail R1 ev1 d p1
theorem asg_name {i : Nat} {D : Ends} {B : Hp} {F : Hp} {ι : List Addr} {s : AS} {σ : L2.St} {ρ : AE} {H : Hp} {v : V} {a : AV} (R : Rel (gsOf X g) B F ι H s) (ev : EnvR (gsOf X g) F ι σ ρ) (d : Den (gsOf X g) F ι v a)
    (p : PoS (gsOf X g) B W D F ι s (match asgT s.cells (.var i) a ρ with | some ρ' => .next ρ' s | none => .stuck)) : gName i v σ H D.nx := by
  simp only [asgT] at p
  split at p
  · rename_i ρ' h
    split at h
    · cases h
      exact p _ H F ι Stp.refl R (ev.set d)
    · cases h
  · exact p.elim
theorem ds_set {i : Nat} {x : Str} {pos' : Pos} (hN : X.N.Nodup) (hi : X.N[i]? = some x) (hx : Loc X.env.scope x) (he : PE X e (TE1 (gsOf X g) W fa)) (hs : swapsWith e (some (.Name x pos')) pos.line X.env = pure false) (hf : X.fn x = true ∨ X.env.scope.names.lookup x = some .local) :
    PS X (.Assign [.Name x pos'] e pos) (TS1 (gsOf X g) W fun ρ s => sBind ρ (fa ρ) (fun v s' => match asgT s'.cells (.var i) v ρ with | some ρ' => .next ρ' s' | none => .stuck) s) := by
  refine PS.weak (ps_set hN hi hx he hs hf) fun D σ H ⟨B, F, ι, ρ, s, R, ev, p⟩ => ?_
  exact TS1.first R ev p fun v H1 F1 ι1 a s1 st R1 ev1 d p1 => asg_name R1 ev1 d p1
theorem ds_setLc' {i : Nat} {y : Str} {py spos : Pos} (h : PS X (.Assign [.Name y py] e spos) (tAsg (TE1 (gsOf X g) W fa) (gName i))) :
    PS X (.Assign [.Name y py] e spos) (TS1 (gsOf X g) W fun ρ s => sBind ρ (fa ρ) (fun v s' => match asgT s'.cells (.var i) v ρ with | some ρ' => .next ρ' s' | none => .stuck) s) := by
  refine PS.weak h fun D σ H ⟨B, F, ι, ρ, s, R, ev, p⟩ => ?_
  exact TS1.first R ev p fun v H1 F1 ι1 a s1 st R1 ev1 d p1 => asg_name R1 ev1 d p1
/-- a, b = x, y -/
theorem ds_par {i j : Nat} {x y : Str} {a b : Expr} {fs : AE → MM (List AV)} {px py pt : Pos} {kt k2 pt2} (hc : X.calm = true) (hN : X.N.Nodup) (hi : X.N[i]? = some x) (hj : X.N[j]? = some y) (hij : i ≠ j)
    (hx : X.env.scope.names.lookup x = some .local) (hy : X.env.scope.names.lookup y = some .local) (ha : PA X [a, b] (TA1 (gsOf X g) W fs)) (hl : ∀ ρ s vs s', fs ρ s = .ok vs s' → vs.length = 2)
    (hw : swappedStores [.Tuple [.Name x px, .Name y py] kt pt] (.Tuple [a, b] k2 pt2) X.env = pure (some [x, y]))
    (hs : swapsWithSole [.Tuple [.Name x px, .Name y py] kt pt] (.Tuple [a, b] k2 pt2) pos.line X.env = pure false) :
    PS X (.Assign [.Tuple [.Name x px, .Name y py] kt pt] (.Tuple [a, b] k2 pt2) pos)
      (TS1 (gsOf X g) W fun ρ s => sBind ρ (MM.bind (fs ρ) fun vs => MM.pure (AV.tup vs)) (fun v s' => match asgT s'.cells (.tup [.var i, .var j]) v ρ with | some ρ' => .next ρ' s' | none => .stuck) s) := by
  refine PS.weak (ps_par hc hN hi hj hij hx hy ha hw hs) fun D σ H ⟨B, F, ι, ρ, s, R, ev, p⟩ => ?_
  have p' : PoS (gsOf X g) B W D F ι s (sBind ρ (fs ρ) (fun vs s' => match asgT s'.cells (.tup [.var i, .var j]) (.tup vs) ρ with | some ρ' => .next ρ' s' | none => .stuck) s) := by
    dsimp only at p
    unfold sBind MM.bind MM.pure at p
    unfold sBind
    revert p
    cases fs ρ s <;> exact id
  have hl' : ∀ vs s', fs ρ s = .ok vs s' → vs.length = 2 := fun vs s' h => hl ρ s vs s' h
  refine ⟨B, F, ι, ρ, s, R, ev, ?_⟩
  unfold sBind at p'
  revert p' hl'
  cases fs ρ s with
  | exc x s1 => exact fun p' _ c d H1 F1 ι1 st R1 e => p' c d σ H1 F1 ι1 st R1 (ev.stp st) e
  | stuck => exact fun p' _ => p'
  | ok vs s1 =>
    intro p' hl' ws H1 F1 ι1 st R1 d
    have hl2 := hl' vs s1 rfl
    cases d with
    | nil => simp at hl2
    | cons d d2 =>
      cases d2 with
      | nil => simp at hl2
      | cons d2 d3 =>
        cases d3 with
        | cons _ _ => simp at hl2
        | nil =>
          refine ⟨_, _, rfl, ?_⟩
          simp only [asgT, asgTs] at p'
          split at p'
          · rename_i ρ' h
            split at h
            · rename_i ρ1 h1
              split at h1
              · cases h1
                split at h
                · rename_i ρ2 h2
                  split at h2
                  · cases h2; cases h
                    have ev1 := ev.stp st
                    exact p' _ H1 F1 ι1 st R1 ((ev1.set d).set d2)
                  · cases h2
                · cases h
              · cases h1
            · cases h
          · exact p'.elim
/-- o[i] = e -/
theorem ds_setIx {o i : Expr} {fo fi : AE → MM AV} {tpos : Pos} (ho : PE X o (TE1 (gsOf X g) W fo)) (hi : PE X i (TE1 (gsOf X g) W fi)) (he : PE X e (TE1 (gsOf X g) W fa))
    (ha : ∀ v, assign (.Subscript o i tpos) X.env v = (do
      let ov ← holding [v] (eval o X.env)
      let iv ← holding [v, ov] (eval i X.env)
      standAt tpos
      holding [v, ov, iv] (setItem ov iv v)
      release [v, ov, iv] []))
    (hs : swapsWithSole [.Subscript o i tpos] e pos.line X.env = pure false) (hw : swappedStores [.Subscript o i tpos] e X.env = pure none) (h1 : (assignEach [.Subscript o i tpos] X.env).map (·.2) = [assign (.Subscript o i tpos) X.env]) :
    PS X (.Assign [.Subscript o i tpos] e pos) (TS1 (gsOf X g) W fun ρ s => sBind ρ (MM.bind (fa ρ) fun v => MM.bind (fo ρ) fun x => MM.bind (fi ρ) fun y => setIxM x y v) (fun _ s' => .next ρ s') s) := by
  refine PS.weak (ps_asg he (pg_sub ho hi (set_ok (g := g)) ha) hs hw h1) fun D σ H ⟨B, F, ι, ρ, s, R, ev, p⟩ => ?_
  have p' : Po (gsOf X g) B (fun c d H => W c d σ H) F ι s (fun _ _ (_ : Unit) (_ : Unit) => True) ((MM.bind (fa ρ) fun v => MM.bind (fo ρ) fun x => MM.bind (fi ρ) fun y => setIxM x y v) s) (fun _ H => D.nx σ H) := by
    dsimp only at p
    unfold sBind at p
    revert p
    cases (MM.bind (fa ρ) fun v => MM.bind (fo ρ) fun x => MM.bind (fi ρ) fun y => setIxM x y v) s with
    | ok a s1 => exact fun p v H1 F1 ι1 st R1 _ => p σ H1 F1 ι1 st R1 (ev.stp st)
    | exc x s1 => exact fun p c d H1 F1 ι1 st R1 e => p c d σ H1 F1 ι1 st R1 (ev.stp st) e
    | stuck => exact fun p => p
  refine Tv.seq R ev p' fun v H1 F1 ι1 a s1 st R1 ev1 d p1 => ?_
  refine Tv.seq R1 ev1 p1 fun v2 H2 F2 ι2 a2 s2 st2 R2 ev2 d2 p2 => ?_
  refine Tv.seq R2 ev2 p2 fun v3 H3 F3 ι3 a3 s3 st3 R3 ev3 d3 p3 => ?_
  exact ⟨B, _, F3, ι3, s3, a2, a3, a, R3, d2.stp st3, d3, d.stp (st2.trans st3), p3⟩

/-! ### blocks -/
variable {st : Stmt} {rest : List Stmt} {f1 : AE → AS → SRs} {f2 : AE → AS → SRs}
theorem dss_nil : PSs X [] (TS1 (gsOf X g) W fun ρ s => .next ρ s) :=
  PSs.weak pss_nil fun D σ H ⟨B, F, ι, ρ, s, R, ev, p⟩ => p σ H F ι Stp.refl R ev
theorem dss_cons (h1 : PS X st (TS1 (gsOf X g) W f1)) (h2 : PSs X rest (TS1 (gsOf X g) W f2)) : PSs X (st :: rest) (TS1 (gsOf X g) W fun ρ s => sSeq (f1 ρ s) f2) := by
  refine PSs.weak (pss_cons h1 h2) fun D σ H ⟨B, F, ι, ρ, s, R, ev, p⟩ => ?_
  refine ⟨B, F, ι, ρ, s, R, ev, ?_⟩
  dsimp only at p
  unfold sSeq at p
  revert p
  cases f1 ρ s with
  | next ρ1 s1 => exact fun p σ1 H1 F1 ι1 st R1 ev1 => ⟨B, F1, ι1, ρ1, s1, R1, ev1, PoS.base st p⟩
  | ret a s1 => exact id
  | brk ρ1 s1 => exact id
  | cont ρ1 s1 => exact id
  | exc x ρ1 s1 => exact id
  | stuck => exact id
theorem ds_if {c : Expr} {a b : List Stmt} {tc : AE → MM Bool} (hc : PT X c (TT1 (gsOf X g) W tc)) (ha : PSs X a (TS1 (gsOf X g) W f1)) (hb : PSs X b (TS1 (gsOf X g) W f2)) :
    PS X (.If c a b pos) (TS1 (gsOf X g) W fun ρ s => sBind ρ (tc ρ) (fun t s' => if t = true then f1 ρ s' else f2 ρ s') s) := by
  refine PS.weak (ps_if hc ha hb) fun D σ H ⟨B, F, ι, ρ, s, R, ev, p⟩ => ?_
  refine TS1.first R ev p fun v H1 F1 ι1 a s1 st R1 ev1 d p1 => ?_
  cases d
  cases v with
  | true => rw [if_pos rfl] at p1 ⊢; exact ⟨B, F1, ι1, ρ, s1, R1, ev1, p1⟩
  | false => rw [if_neg (by decide)] at p1 ⊢; exact ⟨B, F1, ι1, ρ, s1, R1, ev1, p1⟩

/-! ### for -/
/-- what is left of a for's loop at turn i -/
def forR (turn : AV → AE → AS → SRs) (src : Src) (i : Nat) : AE → AS → SRs := match src with
  | .items xs => forL turn (xs.drop i)
  | .cell k n => forC turn k (n - i) i
def afterT (r : SRs) (f : AE → AS → SRs) : SRs := match r with
  | .next ρ' s' => f ρ' s'
  | .cont ρ' s' => f ρ' s'
  | .brk ρ' s' => .next ρ' s'
  | o => o
theorem forR_turn {G : GS} {B : Hp} {D : Ends} {F : Hp} {ι : List Addr} {s : AS} {turn : AV → AE → AS → SRs} {src : Src} {i : Nat} {ρ : AE} (hi : i ≤ srcN src) (h : PoS G B W D F ι s (forR turn src i ρ s)) :
    (srcAt s src i = some none ∧ PoS G B W D F ι s (.next ρ s)) ∨
    ∃ x, i < srcN src ∧ srcAt s src i = some (some x) ∧ PoS G B W D F ι s (afterT (turn x ρ s) (forR turn src (i + 1))) := by
  cases src with
  | items xs =>
    show _ ∨ ∃ x, i < xs.length ∧ _
    have h : PoS G B W D F ι s (forL turn (xs.drop i) ρ s) := h
    by_cases hlt : i < xs.length
    · rw [List.drop_eq_getElem_cons hlt, forL] at h
      refine .inr ⟨xs[i], hlt, by simp [srcAt, hlt], ?_⟩
      unfold afterT
      revert h
      cases turn xs[i] ρ s <;> exact id
    · have e : xs.drop i = [] := List.drop_eq_nil_of_le (by omega)
      rw [e] at h
      exact .inl ⟨by simp [srcAt]; omega, h⟩
  | cell k n =>
    show _ ∨ ∃ x, i < n ∧ _
    have hi : i ≤ n := hi
    have h : PoS G B W D F ι s (forC turn k (n - i) i ρ s) := h
    by_cases hlt : i < n
    · have e1 : n - i = (n - (i + 1)) + 1 := by omega
      rw [e1, forC, itemAt] at h
      cases hc : s.cells[k]? with
      | none => rw [hc] at h; exact h.elim
      | some o =>
        rw [hc] at h
        cases o with
        | lst xs =>
          simp only at h
          cases hx : xs[i]? with
          | none => rw [hx] at h; exact .inl ⟨by simp [srcAt, hc, hx], h⟩
          | some x =>
            rw [hx] at h
            refine .inr ⟨x, hlt, by simp [srcAt, hc, hx], ?_⟩
            unfold afterT
            simp only at h
            revert h
            cases turn x ρ s <;> exact id
        | dct _ => exact h.elim
        | ins _ _ => exact h.elim
        | frz _ => exact h.elim
    · have e1 : n - i = 0 := by omega
      rw [e1, forC, itemAt] at h
      cases hc : s.cells[k]? with
      | none => rw [hc] at h; exact h.elim
      | some o =>
        rw [hc] at h
        cases o with
        | lst xs =>
          simp only at h
          cases hx : xs[i]? with
          | none => rw [hx] at h; exact .inl ⟨by simp [srcAt, hc, hx], h⟩
          | some x => rw [hx] at h; exact h.elim
        | dct _ => exact h.elim
        | ins _ _ => exact h.elim
        | frz _ => exact h.elim
theorem ds_for {tg it : Expr} {body : List Stmt} {fi : AE → MM Src} {fg : AS → AV → AE → Option AE} {inn : List Nat → Bool} {fb : AE → AS → SRs} (hp : PassesOwn (model X.prog X.w) X.A X.env X.xe) (hc : X.calm = true) (hi : PI X tg it (TI1 (gsOf X g) W fi))
    (hg : PG X tg (TG1 (gsOf X g) fg inn)) (hb : PSs X body (TS1 (gsOf X g) W fb)) (hs : ∀ x, foldedSetIterable it X.env x = pure x) :
    PS X (.For tg it body [] pos) (TS1 (gsOf X g) W fun ρ s => sBind ρ (fi ρ) (fun src s' => forR (fun x ρ' s1 => match fg s1 x ρ' with | some ρ2 => fb ρ2 s1 | none => .stuck) src 0 ρ s') s) := by
  refine PS.weak (ps_for hp hc hi hg hb hs) fun D σ H ⟨B, F, ι, ρ, s, R, ev, p⟩ => ?_
  refine TS1.first R ev p fun J H1 F1 ι1 src s1 st1 R1 ev1 d1 p1 => ?_
  refine ⟨fun i m σ2 H2 => m = srcN src - i ∧ i ≤ srcN src ∧ ∃ F2 ι2 ρ2 s2, Stp (gsOf X g) F1 ι1 s1 F2 ι2 s2 ∧ Rel (gsOf X g) B F2 ι2 H2 s2 ∧ EnvR (gsOf X g) F2 ι2 σ2 ρ2 ∧
      PoS (gsOf X g) B W D F2 ι2 s2 (forR (fun x ρ' s1 => match fg s1 x ρ' with | some ρ2 => fb ρ2 s1 | none => .stuck) src i ρ2 s2),
    ⟨srcN src - 0, rfl, Nat.zero_le _, F1, ι1, ρ, s1, Stp.refl, R1, ev1, p1⟩, ?_⟩
  rintro i m σ2 H2 ⟨rfl, hi, F2, ι2, ρ2, s2, st2, R2, ev2, p2⟩
  obtain ⟨hs1, hs2⟩ := d1.step st2.sm st2.pre R2 i
  rcases forR_turn hi p2 with ⟨e, p3⟩ | ⟨x, hlt, e, p3⟩
  · exact .inl ⟨hs1 e, p3 σ2 H2 F2 ι2 Stp.refl R2 ev2⟩
  · obtain ⟨go, yl⟩ := hs2 x e
    refine .inr ⟨go, fun σ3 H3 => i + 1 ≤ srcN src ∧ ∃ F2 ι2 ρ2 s2, Stp (gsOf X g) F1 ι1 s1 F2 ι2 s2 ∧ Rel (gsOf X g) B F2 ι2 H3 s2 ∧ EnvR (gsOf X g) F2 ι2 σ3 ρ2 ∧
      PoS (gsOf X g) B W D F2 ι2 s2 (forR (fun x ρ' s1 => match fg s1 x ρ' with | some ρ2 => fb ρ2 s1 | none => .stuck) src (i + 1) ρ2 s2), fun σ3 H3 hH => ⟨_, ?_, rfl, hH⟩, fun y H3 hy => ?_⟩
    · omega
    · obtain ⟨F3, st3, R3, d3⟩ := yl y H3 hy
      have p4 := PoS.base st3 p3
      have ev3 := ev2.stp st3
      cases hfg : fg s2 x ρ2 with
      | none => simp only [hfg] at p4; exact p4.elim
      | some ρ3 =>
        simp only [hfg] at p4
        refine ⟨B, F3, ι2, ρ2, s2, x, ρ3, R3, ev3, d3, hfg, fun σ4 ev4 _ => ?_⟩
        refine ⟨B, F3, ι2, ρ3, s2, R3, ev4, ?_⟩
        unfold afterT at p4
        revert p4
        have st23 := st2.trans st3
        cases fb ρ3 s2 with
        | next ρ5 s5 => exact fun p4 σ5 H5 F5 ι5 st5 R5 ev5 => ⟨hlt, F5, ι5, ρ5, s5, st23.trans st5, R5, ev5, PoS.base st5 p4⟩
        | cont ρ5 s5 => exact fun p4 σ5 H5 F5 ι5 st5 R5 ev5 => ⟨hlt, F5, ι5, ρ5, s5, st23.trans st5, R5, ev5, PoS.base st5 p4⟩
        | brk ρ5 s5 => exact id
        | ret a s5 => exact id
        | exc x ρ5 s5 => exact id
        | stuck => exact id
end
end Ev

set_option linter.all false
set_option maxRecDepth 100000
set_option maxHeartbeats 1000000
/-! EvH: a def left; calls. Own work. -/
namespace Ev
open PySem PySem.Spec PyProof.Rows L2

/-! ### cells forgotten -/
section
variable {G : GS} {F F' : Hp} {ι ι' : List Addr}
mutual
theorem Den.lt : ∀ {v : V} {x : AV}, Den G F ι v x → ∀ j, RefIn j x → j < ι.length
  | _, _, .ref h => fun j r => by cases r; exact (List.getElem?_eq_some_iff.mp h).1
  | _, _, .tup _ d => fun j r => by
    have h := DenAll.lt d
    cases r with | tup hm r => exact h _ hm j r
  | _, _, .lst _ d => fun j r => by
    have h := DenAll.lt d
    cases r with | lst hm r => exact h _ hm j r
  | _, _, .dctK _ hk d => fun j r => by
    have h := DenAll.lt d
    cases r with
    | @dctK p _ hm r =>
      have h1 : p.1 ∈ _ := List.mem_map_of_mem (f := Prod.fst) hm
      rw [← hk] at h1
      obtain ⟨q, _, e⟩ := List.mem_map.mp h1
      rw [← e] at r
      obtain ⟨k, v⟩ := q
      cases k <;> cases r
    | dctV hm r => exact h _ (List.mem_map_of_mem (f := Prod.snd) hm) j r
  | _, _, .ins _ _ _ d => fun j r => by
    have h := DenAll.lt d
    cases r with | ins hm r => exact h _ (List.mem_map_of_mem (f := Prod.snd) hm) j r
  | _, _, .non => fun j r => by cases r
  | _, _, .bl _ => fun j r => by cases r
  | _, _, .int _ => fun j r => by cases r
  | _, _, .str _ => fun j r => by cases r
  | _, _, .fn _ => fun j r => by cases r
theorem DenAll.lt : ∀ {vs : List V} {xs : List AV}, DenAll G F ι vs xs → ∀ x ∈ xs, ∀ j, RefIn j x → j < ι.length
  | _, _, .nil => fun x hm => by cases hm
  | _, _, .cons d r => fun x hm j rf => by
    have h1 := Den.lt d
    have h2 := DenAll.lt r
    rcases List.mem_cons.mp hm with e | hm
    · rw [e] at rf; exact h1 j rf
    · exact h2 x hm j rf
end
theorem pre_back {n : Nat} {a : Addr} (p : ι <+: ι') (hn : n < ι.length) (h : ι'[n]? = some a) : ι[n]? = some a := by
  obtain ⟨t, rfl⟩ := p
  rw [List.getElem?_append_left hn] at h
  exact h
mutual
theorem Den.back (sm : Same F F') (p : ι <+: ι') : ∀ {v : V} {x : AV}, Den G F ι' v x → (∀ (j : Nat), RefIn j x → j < ι.length) → Den G F' ι v x
  | _, _, .non, _ => .non
  | _, _, .bl b, _ => .bl b
  | _, _, .int i, _ => .int i
  | _, _, .str x, _ => .str x
  | _, _, .fn h, _ => .fn h
  | _, _, .tup h r, k => .tup (sqT_mono sm h) (DenAll.back sm p r fun j x hx hj => k j (.tup hx hj))
  | _, _, .lst h r, k => .lst (sqL_mono sm h) (DenAll.back sm p r fun j x hx hj => k j (.lst hx hj))
  | _, _, .dctK h e r, k => .dctK (sm _ _ h) e (DenAll.back sm p r fun j x hx hj => by
      obtain ⟨q, hq, e⟩ := List.mem_map.mp hx
      exact k j (.dctV hq (by rw [e]; exact hj)))
  | _, _, .ins c h e r, k => .ins c (sm _ _ h) e (DenAll.back sm p r fun j x hx hj => by
      obtain ⟨q, hq, e⟩ := List.mem_map.mp hx
      exact k j (.ins hq (by rw [e]; exact hj)))
  | _, _, .ref h, k => .ref (pre_back p (k _ .ref) h)
theorem DenAll.back (sm : Same F F') (p : ι <+: ι') : ∀ {vs : List V} {xs : List AV}, DenAll G F ι' vs xs → (∀ (j : Nat) (x : AV), x ∈ xs → RefIn j x → j < ι.length) → DenAll G F' ι vs xs
  | _, _, .nil, _ => .nil
  | _, _, .cons d r, k => .cons (Den.back sm p d fun j hj => k j _ List.mem_cons_self hj) (DenAll.back sm p r fun j x hx hj => k j x (List.mem_cons_of_mem _ hx) hj)
end
end
theorem mapO_length {α β : Type} {f : α → Option β} : ∀ {xs : List α} {ys : List β}, mapO f xs = some ys → ys.length = xs.length
  | [], _, e => by simp [mapO] at e; subst e; rfl
  | x :: xs, _, e => by
    unfold mapO at e
    cases e1 : f x with
    | none => rw [e1] at e; cases e
    | some y =>
      rw [e1] at e
      cases e2 : mapO f xs with
      | none => rw [e2] at e; cases e
      | some ys => rw [e2] at e; cases e; simp [mapO_length e2]
/-- what is a value from now on -/
def frozen (F : Hp) (l : List Addr) (H : Hp) : Hp := fun a => match F a with
  | some o => some o
  | none => if a ∈ l then H a else none
section
variable {G : GS} {B : Hp} {F F' : Hp} {ι ι' : List Addr} {H : Hp} {s s' : AS}
theorem frozen_same {l : List Addr} : Same F (frozen F l H) := fun a o e => by unfold frozen; rw [e]
theorem frz_all {n k : Nat} (ih : ∀ {v x w}, Den G F' ι' v x → frzV s'.cells k n x = some w → Den G (frozen F' (ι'.drop k) H) (ι'.take k) v w) : ∀ {vs : List V} {xs ys : List AV}, DenAll G F' ι' vs xs → mapO (frzV s'.cells k n) xs = some ys →
    DenAll G (frozen F' (ι'.drop k) H) (ι'.take k) vs ys
  | _, _, _, .nil, e => by simp [mapO] at e; subst e; exact .nil
  | _, _, _, .cons (x := x) (xs := xs) d r, e => by
    unfold mapO at e
    cases e1 : frzV s'.cells k n x with
    | none => rw [e1] at e; cases e
    | some y =>
      rw [e1] at e
      cases e2 : mapO (frzV s'.cells k n) xs with
      | none => rw [e2] at e; cases e
      | some ys =>
        rw [e2] at e
        cases e
        exact .cons (ih d e1) (frz_all ih r e2)
theorem zip_fst {α β : Type} : ∀ {xs : List α} {ys : List β}, xs.length = ys.length → (xs.zip ys).map (·.1) = xs
  | [], [], _ => rfl
  | x :: xs, y :: ys, h => by
    show x :: (xs.zip ys).map (·.1) = _
    rw [zip_fst (by simpa using h)]
  | [], _ :: _, h => by simp at h
  | _ :: _, [], h => by simp at h
theorem zip_snd {α β : Type} : ∀ {xs : List α} {ys : List β}, xs.length = ys.length → (xs.zip ys).map (·.2) = ys
  | [], [], _ => rfl
  | x :: xs, y :: ys, h => by
    show y :: (xs.zip ys).map (·.2) = _
    rw [zip_snd (by simpa using h)]
  | [], _ :: _, h => by simp at h
  | _ :: _, [], h => by simp at h
theorem zip_len {α β : Type} {kvs : List (α × β)} {f : β → Option AV} {ys : List AV} (h : mapO f (kvs.map (·.2)) = some ys) : (kvs.map (·.1)).length = ys.length := by
  have := mapO_length h
  simp at this ⊢
  exact this.symm
theorem frozen_none {F : Hp} {l : List Addr} {H : Hp} {a : Addr} (hF : F a = none) (h : a ∉ l) : frozen F l H a = none := by
  unfold frozen
  rw [hF]
  show (if a ∈ l then H a else none) = none
  rw [if_neg h]
theorem frozen_at {F : Hp} {ι : List Addr} {H : Hp} {j k : Nat} {a : Addr} {o : HO} (hlt : ¬ j < k) (hj : ι[j]? = some a) (hF : F a = none) (hH : H a = some o) : frozen F (ι.drop k) H a = some o := by
  unfold frozen
  rw [hF]
  have : a ∈ ι.drop k := by
    have h1 : (ι.drop k)[j - k]? = some a := by
      rw [List.getElem?_drop, show k + (j - k) = j by omega]; exact hj
    exact List.mem_of_getElem? h1
  show (if a ∈ ι.drop k then H a else none) = _
  rw [if_pos this]; exact hH
theorem frz_ok (R : Rel G B F' ι' H s') {k : Nat} : ∀ (n : Nat) {v : V} {x w : AV}, Den G F' ι' v x → frzV s'.cells k n x = some w → Den G (frozen F' (ι'.drop k) H) (ι'.take k) v w
  | 0, _, _, _, _, e => by simp [frzV] at e
  | n + 1, v, x, w, d, e => by
    have ih := @frz_ok R k n
    cases d with
    | non => simp [frzV] at e; subst e; exact .non
    | bl b => simp [frzV] at e; subst e; exact .bl b
    | int i => simp [frzV] at e; subst e; exact .int i
    | str z => simp [frzV] at e; subst e; exact .str z
    | fn h => simp [frzV] at e; subst e; exact .fn h
    | @tup a vs xs h r =>
      simp only [frzV] at e
      cases e2 : mapO (frzV s'.cells k n) xs with
      | none => rw [e2] at e; cases e
      | some ys => rw [e2] at e; cases e; exact .tup (sqT_mono frozen_same h) (frz_all ih r e2)
    | @lst a vs xs h r =>
      simp only [frzV] at e
      cases e2 : mapO (frzV s'.cells k n) xs with
      | none => rw [e2] at e; cases e
      | some ys => rw [e2] at e; cases e; exact .lst (sqL_mono frozen_same h) (frz_all ih r e2)
    | @dctK a ks kvs h hk r =>
      simp only [frzV] at e
      cases e2 : mapO (frzV s'.cells k n) (kvs.map (·.2)) with
      | none => rw [e2] at e; cases e
      | some ys =>
        rw [e2] at e; cases e
        have hl := zip_len e2
        exact .dctK (frozen_same _ _ h) (by rw [zip_fst hl]; exact hk) (by rw [zip_snd hl]; exact frz_all ih r e2)
    | @ins a C dx c vfs fs hc h hk r =>
      simp only [frzV] at e
      cases e2 : mapO (frzV s'.cells k n) (fs.map (·.2)) with
      | none => rw [e2] at e; cases e
      | some ys =>
        rw [e2] at e; cases e
        have hl := zip_len e2
        exact .ins hc (frozen_same _ _ h) (by rw [zip_fst hl]; exact hk) (by rw [zip_snd hl]; exact frz_all ih r e2)
    | @ref j a hj =>
      simp only [frzV] at e
      split at e
      · rename_i hlt
        cases e
        exact .ref (by rw [List.getElem?_take_of_lt hlt]; exact hj)
      · rename_i hlt
        cases hc : s'.cells[j]? with
        | none => rw [hc] at e; cases e
        | some o =>
          rw [hc] at e
          have ok := R.cell j a o hj hc
          cases o with
          | lst xs =>
            simp only at e
            cases e2 : mapO (frzV s'.cells k n) xs with
            | none => rw [e2] at e; cases e
            | some ys =>
              rw [e2] at e; cases e
              obtain ⟨hF, vs, hH, r⟩ := ok
              exact .lst (SqL.of (frozen_at hlt hj hF hH)) (frz_all ih r e2)
          | frz w => exact ih ok e
          | dct kvs =>
            simp only at e
            cases e2 : mapO (frzV s'.cells k n) (kvs.map (·.2)) with
            | none => rw [e2] at e; cases e
            | some ys =>
              rw [e2] at e; cases e
              obtain ⟨hF, ks, hH, hk, r⟩ := ok
              have hl := zip_len e2
              exact .dctK (frozen_at hlt hj hF hH) (by rw [zip_fst hl]; exact hk) (by rw [zip_snd hl]; exact frz_all ih r e2)
          | ins c fs =>
            simp only at e
            cases e2 : mapO (frzV s'.cells k n) (fs.map (·.2)) with
            | none => rw [e2] at e; cases e
            | some ys =>
              rw [e2] at e; cases e
              obtain ⟨hF, C, dx, vfs, hH, hc, hk, r⟩ := ok
              have hl := zip_len e2
              exact .ins hc (frozen_at hlt hj hF hH) (by rw [zip_fst hl]; exact hk) (by rw [zip_snd hl]; exact frz_all ih r e2)
/-- the cells behind k forgotten -/
theorem Rel.cut (R0 : ∀ (n : Nat) a o, ι[n]? = some a → s.cells[n]? = some o → ∀ j, RefO j o → j < ι.length) (hl : ι.length = s.cells.length) (st : Stp G F ι { cells := s.cells, opn := false } F' ι' s') (R : Rel G B F' ι' H s') (ho : s'.opn = false) :
    Stp G F ι s (frozen F' (ι'.drop s.cells.length) H) ι { cells := s'.cells.take s.cells.length, opn := s.opn } ∧ Rel G B (frozen F' (ι'.drop s.cells.length) H) ι H { cells := s'.cells.take s.cells.length, opn := s.opn } := by
  have hlen : s.cells.length ≤ s'.cells.length := st.clo.len
  have refs : ∀ n o', n < s.cells.length → s'.cells[n]? = some o' → ∀ j, RefO j o' → j < ι.length := fun n o' hn ho' j hj => by
    rcases st.clo.old ho n hn o' ho' j hj with h | ⟨o, h1, h2⟩
    · rw [hl]; exact Nat.lt_of_le_of_lt h hn
    · obtain ⟨a, ha⟩ : ∃ a, ι[n]? = some a := ⟨ι[n]'(by omega), by simp [show n < ι.length by omega]⟩
      exact R0 n a o ha h1 j h2
  have nin : ∀ {n : Nat} {a : Addr}, n < s.cells.length → ι'[n]? = some a → a ∉ ι'.drop s.cells.length := fun {n a} hn ha hm => by
    obtain ⟨i, hi, e⟩ := List.getElem_of_mem hm
    rw [List.getElem_drop] at e
    obtain ⟨h1, e1⟩ := List.getElem?_eq_some_iff.mp ha
    have hi' : s.cells.length + i < ι'.length := by simpa using by (rw [List.length_drop] at hi; omega)
    have := (List.getElem_inj R.nd (h₀ := h1) (h₁ := hi')).mp (e1.trans e.symm)
    omega
  refine ⟨⟨st.sm.trans frozen_same, List.prefix_refl _, ⟨by simp; omega, id, fun h n hn o' ho' j hj => ?_⟩⟩, ⟨fun a o e => ?_, fun a o e => ?_, by simp; omega, ?_, fun a ha => ?_, fun n a o hn ho' => ?_⟩⟩
  · rw [List.getElem?_take_of_lt hn] at ho'
    exact st.clo.old ho n hn o' ho' j hj
  · unfold frozen at e
    cases h : F' a with
    | some u => rw [h] at e; cases e; exact R.sub _ _ h
    | none =>
      rw [h] at e
      simp only at e
      split at e
      · exact e
      · cases e
  · obtain ⟨h1, h2, h3⟩ := R.out a o e
    refine ⟨h1, ?_, fun hm => h3 (st.pre.subset hm)⟩
    unfold frozen
    rw [h2]
    show (if a ∈ ι'.drop s.cells.length then H a else none) = none
    rw [if_neg fun hm => h3 (List.mem_of_mem_drop hm)]
  · exact R.nd.sublist st.pre.sublist
  · exact R.here a (st.pre.subset ha)
  · have hlt : n < s.cells.length := by
      have := (List.getElem?_eq_some_iff.mp hn).1
      omega
    rw [List.getElem?_take_of_lt hlt] at ho'
    have hn' := pre_get st.pre hn
    have ok := R.cell n a o hn' ho'
    have rf := refs n o hlt ho'
    cases o with
    | lst xs =>
      obtain ⟨hF, vs, hH, r⟩ := ok
      exact ⟨frozen_none hF (nin hlt hn'), vs, hH, DenAll.back frozen_same st.pre r fun j x hx hj => rf j ⟨x, hx, hj⟩⟩
    | dct kvs =>
      obtain ⟨hF, ks, hH, hk, r⟩ := ok
      refine ⟨frozen_none hF (nin hlt hn'), ks, hH, hk, DenAll.back frozen_same st.pre r fun j x hx hj => ?_⟩
      obtain ⟨q, hq, e⟩ := List.mem_map.mp hx
      exact rf j ⟨q, hq, .inr (by rw [e]; exact hj)⟩
    | ins c fs =>
      obtain ⟨hF, C, dx, vfs, hH, hc, hk, r⟩ := ok
      refine ⟨frozen_none hF (nin hlt hn'), C, dx, vfs, hH, hc, hk, DenAll.back frozen_same st.pre r fun j x hx hj => ?_⟩
      obtain ⟨q, hq, e⟩ := List.mem_map.mp hx
      exact rf j ⟨q, hq, by rw [e]; exact hj⟩
    | frz w => exact Den.back frozen_same st.pre ok rf
theorem Rel.refs (R : Rel G B F ι H s) : ∀ (n : Nat) a o, ι[n]? = some a → s.cells[n]? = some o → ∀ j, RefO j o → j < ι.length := fun n a o hn ho j hj => by
  have ok := R.cell n a o hn ho
  cases o with
  | lst xs => obtain ⟨_, vs, _, r⟩ := ok; obtain ⟨x, hx, hj⟩ := hj; exact DenAll.lt r x hx j hj
  | dct kvs =>
    obtain ⟨_, ks, _, hk, r⟩ := ok
    obtain ⟨x, hx, hj⟩ := hj
    rcases hj with hj | hj
    · have h1 : x.1 ∈ kvs.map (·.1) := List.mem_map_of_mem (f := Prod.fst) hx
      rw [← hk] at h1
      obtain ⟨q, _, e⟩ := List.mem_map.mp h1
      rw [← e] at hj
      obtain ⟨k, v⟩ := q
      cases k <;> cases hj
    · exact DenAll.lt r _ (List.mem_map_of_mem (f := Prod.snd) hx) j hj
  | ins c fs => obtain ⟨_, C, dx, vfs, _, _, _, r⟩ := ok; obtain ⟨x, hx, hj⟩ := hj; exact DenAll.lt r _ (List.mem_map_of_mem (f := Prod.snd) hx) j hj
  | frz w => exact Den.lt (show Den G F ι (.ref a) w from ok) j hj
/-- a def left: what the caller wants of what the body does -/
theorem leave_ok {E : XK} {Q : VK} {keep : Bool} {r : SRs} (hl : ι.length = s.cells.length) (R0 : ∀ (n : Nat) a o, ι[n]? = some a → s.cells[n]? = some o → ∀ j, RefO j o → j < ι.length) (p : Po G B E F ι s (Den G) (leaveF s keep r) Q) :
    PoS G B (fun c d _ H => E c d H) { nx := fun _ H' => Q .non H', rt := Q } F ι { cells := s.cells, opn := false } r := by
  have key : ∀ {a : AV} {s' : AS} {v : V} {H' : Hp} {F' : Hp} {ι' : List Addr}, Po G B E F ι s (Den G) (leaveF.leaveV s keep a s') Q → Stp G F ι { cells := s.cells, opn := false } F' ι' s' → Rel G B F' ι' H' s' → Den G F' ι' v a → Q v H' := fun {a s' v H' F' ι'} p st R d => by
    unfold leaveF.leaveV at p
    split at p
    · refine p v H' F' ι' ⟨st.sm, st.pre, ⟨st.clo.len, fun h => by simp [h], fun h n hn o' ho' j hj => ?_⟩⟩ ⟨R.sub, R.out, R.len, R.nd, R.here, R.cell⟩ d
      have h2 : s'.opn = false := by
        cases e : s'.opn with
        | false => rfl
        | true => simp [e] at h
      exact st.clo.old h2 n hn o' ho' j hj
    · rename_i hk
      split at p
      · rename_i w hw
        have ho : s'.opn = false := by
          cases e : s'.opn with
          | false => rfl
          | true => exact absurd (.inr (.inl e)) hk
        obtain ⟨st2, R2⟩ := Rel.cut R0 hl st R ho
        have e : ι'.take s.cells.length = ι := by
          obtain ⟨t, ht⟩ := st.pre
          rw [← ht, ← hl, List.take_left']
          rfl
        have d2 := frz_ok R DPT d hw
        rw [e] at d2
        exact p v H' _ ι st2 R2 d2
      · exact p.elim
  cases r with
  | next ρ s' => exact fun σ' H' F' ι' st R ev => key (v := .non) p st R .non
  | ret a s' => exact fun v H' F' ι' st R d => key p st R d
  | brk ρ s' => exact p.elim
  | cont ρ s' => exact p.elim
  | exc x ρ s' => exact p.elim
  | stuck => exact p.elim
end
end Ev

set_option linter.all false
set_option maxRecDepth 100000
set_option maxHeartbeats 1000000
/-! EvI: calls of the program's own defs, isinstance, methods of what is built in. Own work. -/
namespace Ev
open PySem PySem.Spec PyProof.Rows L2

/-- a def's promise where nothing is being shown -/
structure FnG (P : Program) (w : World) (K : PySem.W.Frag) (mg : Str → Option Value) (base : Heap) (k : Nat) (f : Addr) (fd : FuncData) (ps : List Str) (sp : Sp) : Prop where
  len : ∀ vs H Q E, sp vs H Q E → vs.length = ps.length
  run : ∀ (A : Around) (outer : List Env) (s : Shared) (H : Hp) (args : Args) (us : List Value) (vs : List V) (Q : VK) (E : XK), Room k A → A.guards = some [] → Env0 P w K mg base A outer s H → BindsTo s fd args (ps.zip us) → Vals vs us → sp vs H Q E →
    codeAny (model P w) A (.call (.ref f) args) (CR (L2.CX P w) outer P w H s Q E) s

section
variable {X : Cx} {g : GN} {W : WX}
theorem run_fnG {k : Nat} {f : Addr} {fd : FuncData} {ps : List Str} {sp : Sp} {E : XK} {pins : List (Addr × Obj)} {σ : L2.St} {H : Hp} {s : Shared} {Q : VK} {us : List Value} {kw : List (Str × Value)} {us' : List Value} {vs : List V}
    (F : FnG X.prog X.w X.K X.mg X.base k f fd ps sp) (hr : Room k X.A) (hg : X.A.guards = some []) (hx : Passes (L2.CX X.prog X.w) X E) (I : Inv X pins σ H s) (hb : BindsTo s fd ⟨us, kw⟩ (ps.zip us')) (r : Vals vs us') (h : sp vs H Q E) :
    wpAny (model X.prog X.w) X.A (call (.ref f) us kw) (EP X pins σ Q) X.xe s := by
  refine wpAny_call (codeAny_mono (F.run X.A X.stack s H ⟨us, kw⟩ us' vs Q E hr hg I.env0 hb r h) fun r s' hq => ?_)
  cases r with
  | error e => exact hx pins σ H s e s' I hq
  | ok fl =>
    cases fl with
    | ret u => exact I.after hq
    | next => exact False.elim hq
    | brk => exact False.elim hq
    | cont => exact False.elim hq
/-- .. where what is raised is wished for at the slots -/
theorem run_fnS {k : Nat} {f : Addr} {fd : FuncData} {ps : List Str} {sp : Sp} {pins : List (Addr × Obj)} {σ : L2.St} {H : Hp} {s : Shared} {Q : VK} {us : List Value} {kw : List (Str × Value)} {us' : List Value} {vs : List V}
    (F : FnG X.prog X.w X.K X.mg X.base k f fd ps sp) (hr : Room k X.A) (hg : X.A.guards = some []) (tk : Takes X W) (I : Inv X pins σ H s) (hb : BindsTo s fd ⟨us, kw⟩ (ps.zip us')) (r : Vals vs us') (h : sp vs H Q (fun c d H => W c d σ H)) :
    wpAny (model X.prog X.w) X.A (call (.ref f) us kw) (EP X pins σ Q) X.xe s := by
  refine wpAny_call (codeAny_mono (F.run X.A X.stack s H ⟨us, kw⟩ us' vs Q _ hr hg I.env0 hb r h) fun r s' hq => ?_)
  cases r with
  | error e => exact passAt tk σ pins H s e s' I hq
  | ok fl =>
    cases fl with
    | ret u => exact I.after hq
    | next => exact False.elim hq
    | brk => exact False.elim hq
    | cont => exact False.elim hq

/-! ### how arguments come to parameters -/
/-- a parameter's value -/
inductive PermV (zs : List Value) : List PArg → List Value → Prop
  | nil : PermV zs [] []
  | at {j : Nat} {u : Value} {ps : List PArg} {us : List Value} : zs[j]? = some u → PermV zs ps us → PermV zs (.at j :: ps) (u :: us)
  | dv {a : AV} {v : V} {u : Value} {ps : List PArg} {us : List Value} : RelV v u → (∀ G F ι, Den G F ι v a) → PermV zs ps us → PermV zs (.dv a :: ps) (u :: us)
theorem PermV.den {G : GS} {F : Hp} {ι : List Addr} {zs : List Value} {vs : List V} {as : List AV} (r : Vals vs zs) (d : DenAll G F ι vs as) : ∀ {perm : List PArg} {us : List Value} {args : List AV}, PermV zs perm us → mapO (argOf as) perm = some args →
    ∃ vs', Vals vs' us ∧ DenAll G F ι vs' args
  | _, _, _, .nil, e => by simp [mapO] at e; subst e; exact ⟨[], .nil, .nil⟩
  | _, _, _, .at (j := j) (ps := ps) hj t, e => by
    unfold mapO at e
    have e0 : argOf as (.at j) = as[j]? := rfl
    rw [e0] at e
    cases e1 : as[j]? with
    | none => rw [e1] at e; cases e
    | some a =>
      rw [e1] at e
      cases e2 : mapO (argOf as) ps with
      | none => rw [e2] at e; cases e
      | some r2 =>
        rw [e2] at e
        cases e
        obtain ⟨v, hv, hd⟩ := d.get e1
        obtain ⟨u', hu', rv⟩ := r.get hv
        rw [hj] at hu'; cases hu'
        obtain ⟨vs', r', d'⟩ := PermV.den r d t e2
        exact ⟨v :: vs', .cons rv r', .cons hd d'⟩
  | _, _, _, .dv (a := a) (ps := ps) rv hd t, e => by
    unfold mapO at e
    have e0 : argOf as (.dv a) = some a := rfl
    rw [e0] at e
    cases e2 : mapO (argOf as) ps with
    | none => rw [e2] at e; cases e
    | some r2 =>
      rw [e2] at e
      cases e
      obtain ⟨vs', r', d'⟩ := PermV.den r d t e2
      exact ⟨_ :: vs', .cons rv r', .cons (hd G F ι) d'⟩
/-- a way of writing a call's arguments: np of them by place, ks by name -/
def SiteOk (K : PySem.W.Frag) (fd : FuncData) (ps : List Str) (np : Nat) (ks : List Str) (perm : List PArg) : Prop :=
  ∀ (s : Shared) (us ws : List Value), K.In s.heap → us.length = np → ws.length = ks.length → ∃ us', PermV (us ++ ws) perm us' ∧ BindsTo s fd ⟨us, ks.zip ws⟩ (ps.zip us')

/-! ### keywords -/
theorem kw_names {env : Env} {pos : Pos} : ∀ kws : List Keyword, (backToKw pos (keywordEach kws env)).map (·.1) = kws.map fun k => k.arg
  | [] => rfl
  | ⟨n, v, p⟩ :: r => by
    show n :: (backToKw pos (keywordEach r env)).map (·.1) = n :: _
    rw [kw_names r]
theorem kw_all {env : Env} {pos : Pos} {kws : List Keyword} {ks : List Str} (h : kws.map (fun k => k.arg) = ks.map some) : (backToKw pos (keywordEach kws env)).all (·.1.isSome) = true ∧ (backToKw pos (keywordEach kws env)).any (·.1.isNone) = false ∧ (backToKw pos (keywordEach kws env)).filterMap (·.1) = ks := by
  have e := kw_names (env := env) (pos := pos) kws
  rw [h] at e
  generalize backToKw pos (keywordEach kws env) = l at e
  clear h
  induction l generalizing ks with
  | nil => cases ks with
    | nil => exact ⟨rfl, rfl, rfl⟩
    | cons _ _ => simp at e
  | cons x l ih => cases ks with
    | nil => simp at e
    | cons k ks =>
      simp only [List.map_cons, List.cons.injEq] at e
      obtain ⟨h1, h2, h3⟩ := ih e.2
      refine ⟨by simp [e.1, h1], by simp [e.1, h2], by simp [e.1, h3]⟩
def notStar : Expr → Bool
  | .Starred _ _ => false
  | _ => true
theorem star_cons {e : Expr} {es : List Expr} {env : Env} (h : notStar e = true) : starEach (e :: es) env = (false, eval e env) :: starEach es env := by
  cases e <;> first | rfl | (simp [notStar] at h)
theorem star_any {env : Env} {pos : Pos} : ∀ {es : List Expr}, es.all notStar = true → (backTo pos (starEach es env)).any (·.1) = false
  | [], _ => rfl
  | e :: es, h => by
    rw [List.all_cons, Bool.and_eq_true] at h
    rw [star_cons h.1]
    show (false || (backTo pos (starEach es env)).any (·.1)) = false
    rw [star_any h.2]; rfl

/-! ### a call -/
theorem Tv.append {fs gs : AE → MM (List AV)} {f : List AV → MM AV} {ρ : AE} : MM.bind (MM.bind (fs ρ) fun v1 => MM.bind (gs ρ) fun v2 => MM.pure (v1 ++ v2)) f = MM.bind (fs ρ) fun v1 => MM.bind (gs ρ) fun v2 => f (v1 ++ v2) := by
  simp only [MM.assoc, MM.pure_bind]
theorem de_call {d : Nat} {f : Addr} {fd : FuncData} {ps : List Str} {x : Str} {p pos : Pos} {es : List Expr} {kws : List Keyword} {fs gs : AE → MM (List AV)} {c : List AV → MM AV} {np : Nat} {ks : List Str} {perm : List PArg} {sp : Sp}
    (F : FnG X.prog X.w X.K X.mg X.base d f fd ps sp) (hsp : ∀ B E F ι s vs as H Q, Rel (gsOf X g) B F ι H s → vs.length = ps.length → DenAll (gsOf X g) F ι vs as → Po (gsOf X g) B E F ι s (Den (gsOf X g)) (c as s) Q → sp vs H Q E)
    (hc : ∀ as s, as.length ≠ ps.length → c as s = .stuck)
    (hr : Room d X.A) (ft : Fit X) (tk : Takes X W) (hg : Gl X x) (hm : X.mg x = some (.ref f)) (hk : PySem.W.keepIn X.K (.ref f) = true) (hdb : (x == ("__debug__" : Str)) = false) (site : SiteOk X.K fd ps np ks perm)
    (hes : es.all notStar = true) (hnp : es.length = np) (hks : kws.map (fun k => k.arg) = ks.map some)
    (ha : PA X es (TA1 (gsOf X g) W fs)) (he0 : es = [] → ∀ ρ, fs ρ = MM.pure []) (hla : ∀ ρ s vs s', fs ρ s = .ok vs s' → vs.length = np) (hkw : PK X kws (TA1 (gsOf X g) W gs)) (hk0 : kws = [] → ∀ ρ, gs ρ = MM.pure []) (hlk : ∀ ρ s vs s', gs ρ s = .ok vs s' → vs.length = ks.length) :
    PE X (.Call (.Name x p) es kws pos) (TE1 (gsOf X g) W fun ρ => MM.bind (fs ρ) fun v1 => MM.bind (gs ρ) fun v2 => match mapO (argOf (v1 ++ v2)) perm with | some args => c args | none => stuck) := by
  refine ⟨fun pins s σ H Q I h => ?_⟩
  obtain ⟨B, F0, ι, ρ, st, R, ev, po⟩ := h
  dsimp only at po
  obtain ⟨hall, hany, hfm⟩ := kw_all (env := X.env) (pos := pos) hks
  -- the run behind the arguments
  have fin : ∀ {s2 : Shared} {us ws : List Value} {vs zs : List V} {H2 : Hp} {F2 ι2 st2} {as bs : List AV}, Inv X pins σ H2 s2 → Vals vs us → Vals zs ws → vs.length = np → zs.length = ks.length → Rel (gsOf X g) B F2 ι2 H2 st2 → DenAll (gsOf X g) F2 ι2 vs as → DenAll (gsOf X g) F2 ι2 zs bs →
      Po (gsOf X g) B (fun c d H => W c d σ H) F2 ι2 st2 (Den (gsOf X g)) ((match mapO (argOf (as ++ bs)) perm with | some args => c args | none => stuck) st2) Q →
      wpAny (model X.prog X.w) X.A (call (.ref f) us (ks.zip ws)) (EP X pins σ Q) X.xe s2 := fun {s2 us ws vs zs H2 F2 ι2 st2 as bs} I2 r1 r2 l1 l2 R2 d1 d2 p2 => by
    obtain ⟨us', pv, hb⟩ := site s2 us ws I2.kIn (r1.length.symm.trans l1) (r2.length.symm.trans l2)
    cases hm2 : mapO (argOf (as ++ bs)) perm with
    | none => rw [hm2] at p2; exact p2.elim
    | some args =>
      rw [hm2] at p2
      obtain ⟨vs', r', d'⟩ := PermV.den (r1.append r2) (d1.append d2) pv hm2
      have hlen : vs'.length = ps.length := by
        rw [d'.length]
        by_cases e : args.length = ps.length
        · exact e
        · have p3 : Po (gsOf X g) B (fun c d H => W c d σ H) F2 ι2 st2 (Den (gsOf X g)) (c args st2) Q := p2
          rw [hc args st2 e] at p3
          exact p3.elim
      exact run_fnS F hr ft.gd tk I2 hb r' (hsp B _ F2 ι2 st2 vs' args H2 Q R2 hlen d' p2)
  refine wpAny_Call_Name_kw (ld_glob I hg hm ?_ hdb)
  -- behind the arguments by place
  have step2 : ∀ {s1 : Shared} {us : List Value} {vs : List V} {H1 : Hp} {F1 ι1 st1} {as : List AV}, Inv X pins σ H1 s1 → Vals vs us → vs.length = np → Rel (gsOf X g) B F1 ι1 H1 st1 → EnvR (gsOf X g) F1 ι1 σ ρ → DenAll (gsOf X g) F1 ι1 vs as →
      Po (gsOf X g) B (fun c d H => W c d σ H) F1 ι1 st1 (Den (gsOf X g)) (MM.bind (gs ρ) (fun v2 => match mapO (argOf (as ++ v2)) perm with | some args => c args | none => stuck) st1) Q →
      (kws = [] → wpAny (model X.prog X.w) X.A (call (.ref f) us) (EP X pins σ Q) X.xe s1) ∧
      (kws ≠ [] → wpAny (model X.prog X.w) X.A (evalAll ((backToKw pos (keywordEach kws X.env)).map (·.2))) (fun ks2 s₂ => X.K.In s₂.heap ∧ wpAny (model X.prog X.w) X.A (call (.ref f) us (((backToKw pos (keywordEach kws X.env)).filterMap (·.1)).zip ks2)) (EP X pins σ Q) X.xe s₂) X.xe s1) := fun {s1 us vs H1 F1 ι1 st1 as} I1 r1 l1 R1 ev1 d1 p1 => by
    refine ⟨fun e => ?_, fun _ => ?_⟩
    · have hks0 : ks = [] := by
        subst e
        cases ks with
        | nil => rfl
        | cons _ _ => simp at hks
      rw [hk0 e ρ] at p1
      have := fin (us := us) (ws := []) I1 r1 .nil l1 (by rw [hks0]; rfl) R1 d1 .nil p1
      rw [hks0] at this
      exact this
    · have hT : TA1 (gsOf X g) W gs σ H1 fun zs H2 => ∃ F2 ι2 st2 bs, zs.length = ks.length ∧ Rel (gsOf X g) B F2 ι2 H2 st2 ∧ DenAll (gsOf X g) F2 ι2 vs as ∧ DenAll (gsOf X g) F2 ι2 zs bs ∧
          Po (gsOf X g) B (fun c d H => W c d σ H) F2 ι2 st2 (Den (gsOf X g)) ((match mapO (argOf (as ++ bs)) perm with | some args => c args | none => stuck) st2) Q :=
        ⟨B, F1, ι1, ρ, st1, R1, ev1, Po.firstE p1 fun v2 H2 F2 ι2 a2 s2 e2 st2 R2 d2 p2 => ⟨F2, ι2, s2, a2, by rw [d2.length, hlk _ _ _ _ e2], R2, d1.stp st2, d2, p2⟩⟩
      refine thn (hkw.run pos pins s1 σ H1 _ I1 hT) fun ws s2 ⟨zs, H2, I2, r2, F2, ι2, st2, bs, l2, R2, da, db, p2⟩ => ⟨I2.kIn, ?_⟩
      rw [hfm]
      exact fin I2 r1 r2 l1 l2 R2 da db p2
  cases hes0 : es with
  | nil =>
    subst hes0
    rw [he0 rfl ρ] at po
    have hs2 := step2 (us := []) I .nil (by simpa using hnp) R ev .nil po
    cases hkw0 : kws with
    | nil => subst hkw0; exact PySem.W.callWith_K0 I.kIn hk (hs2.1 rfl)
    | cons k kws' =>
      subst hkw0
      exact PySem.W.callWith_KW0 (h₀ := X.base) I.ok.mod.kin hk hall (hs2.2 (by simp)) (by rw [hany]; rfl)
  | cons e es' =>
    subst hes0
    rw [List.all_cons, Bool.and_eq_true] at hes
    have hT : TA1 (gsOf X g) W fs σ H fun vs H1 => ∃ F1 ι1 st1 as, vs.length = np ∧ Rel (gsOf X g) B F1 ι1 H1 st1 ∧ EnvR (gsOf X g) F1 ι1 σ ρ ∧ DenAll (gsOf X g) F1 ι1 vs as ∧
        Po (gsOf X g) B (fun c d H => W c d σ H) F1 ι1 st1 (Den (gsOf X g)) (MM.bind (gs ρ) (fun v2 => match mapO (argOf (as ++ v2)) perm with | some args => c args | none => stuck) st1) Q :=
      ⟨B, F0, ι, ρ, st, R, ev, Po.firstE po fun v H1 F1 ι1 a s1 e1 st1 R1 d1 p1 => ⟨F1, ι1, s1, a, by rw [d1.length, hla _ _ _ _ e1], R1, ev.stp st1, d1, p1⟩⟩
    cases hkw0 : kws with
    | nil =>
      subst hkw0
      refine PySem.W.callWith_K (h₀ := X.base) I.ok.mod.kin hk (thn (ha.run pos pins s σ H _ I hT) fun us s1 ⟨vs, H1, I1, r1, F1, ι1, st1, as, l1, R1, ev1, d1, p1⟩ => ⟨I1.kIn, ?_⟩) (star_cons hes.1) (star_any hes.2)
      exact (step2 I1 r1 l1 R1 ev1 d1 p1).1 rfl
    | cons k kws' =>
      subst hkw0
      refine PySem.W.callWith_KW (h₀ := X.base) I.ok.mod.kin hk hall (thn (ha.run pos pins s σ H _ I hT) fun us s1 ⟨vs, H1, I1, r1, F1, ι1, st1, as, l1, R1, ev1, d1, p1⟩ => ?_) ?_ (star_cons hes.1)
      · exact (step2 I1 r1 l1 R1 ev1 d1 p1).2 (by simp)
      · rw [hany, star_cons hes.1]
        show ((false || (backTo pos (starEach es' X.env)).any (·.1)) || false) = false
        rw [star_any hes.2]; rfl

/-! ### keywords' values -/
theorem dk_nil : PK X [] (TA1 (gsOf X g) W fun _ => MM.pure []) :=
  ⟨fun pos pins s σ H Q I ⟨B, F, ι, ρ, st, R, e, p⟩ => pk_nil.run pos pins s σ H Q I (p.pure R .nil)⟩
theorem dk_cons {e : Expr} {kws : List Keyword} {nm : Option Str} {kpos : Pos} {fa : AE → MM AV} {fs : AE → MM (List AV)} (ha : PE X e (TE1 (gsOf X g) W fa)) (hr : PK X kws (TA1 (gsOf X g) W fs)) :
    PK X (⟨nm, e, kpos⟩ :: kws) (TA1 (gsOf X g) W fun ρ => MM.bind (fa ρ) fun v => MM.bind (fs ρ) fun vs => MM.pure (v :: vs)) := by
  refine ⟨fun pos pins s σ H Q I h => (pk_cons ha hr).run pos pins s σ H Q I ?_⟩
  obtain ⟨B, F, ι, ρ, st, R, e, p⟩ := h
  refine Tv.seq R e p fun v H1 F1 ι1 a s1 st R1 e1 d p1 => ?_
  refine Tv.seq R1 e1 p1 fun w H2 F2 ι2 b s2 st2 R2 e2 d2 p2 => ?_
  exact p2.pure R2 (.cons (d.stp st2) d2)

/-! ### isinstance -/
variable {e : Expr} {fa : AE → MM AV} {pos : Pos}
theorem pa_types : ∀ {ts : List String} {es : List Expr}, Paired (fun (t : String) (e : Expr) => ∃ p, e = .Name (Str.ofString t) p ∧ PE X e (tC (.ty t))) ts es → PA X es (fun σ H Q => Q (ts.map V.ty) H)
  | _, _, .nil => pa_nil
  | _, _, .cons ⟨p, e1, h⟩ r => by
    refine PA.weak (pa_cons h (pa_types r) (by subst e1; rfl)) fun σ H Q q => ?_
    exact q
theorem de_isi1 {t : String} {p p2 : Pos} (hg : Gl X "isinstance") (hm : X.mg "isinstance" = none) (ht : PE X (.Name (Str.ofString t) p2) (tC (.ty t))) (ha : PE X e (TE1 (gsOf X g) W fa)) (hns : notStar e = true) :
    PE X (.Call (.Name "isinstance" p) [e, .Name (Str.ofString t) p2] [] pos) (TE1 (gsOf X g) W fun ρ => MM.bind (fa ρ) fun x => isiM x [t]) := by
  refine PE.weak (pe_callB (isi_ok (g := g) t) hg hm (by decide +kernel) (pa_cons ha (pa_cons ht pa_nil) (star_cons hns)) (by decide) (by decide) (star_cons hns) rfl) fun σ H Q ⟨B, F, ι, ρ, s, R, ev, po⟩ => ?_
  exact Tv.seq R ev po fun v H1 F1 ι1 a s1 st R1 e1 d p1 => ⟨B, _, F1, ι1, s1, v, a, rfl, R1, d, p1⟩
theorem de_isiN {ts : List String} {es : List Expr} {p : Pos} {k : Nat} {pt : Pos} (hg : Gl X "isinstance") (hm : X.mg "isinstance" = none) (hts : Paired (fun (t : String) (e : Expr) => ∃ p, e = .Name (Str.ofString t) p ∧ PE X e (tC (.ty t))) ts es) (hz : ts.length ≤ sizeLine)
    (ha : PE X e (TE1 (gsOf X g) W fa)) (hns : notStar e = true) :
    PE X (.Call (.Name "isinstance" p) [e, .Tuple es k pt] [] pos) (TE1 (gsOf X g) W fun ρ => MM.bind (fa ρ) fun x => isiM x ts) := by
  refine PE.weak (pe_callB (isiN_ok (g := g) ts) hg hm (by decide +kernel) (pa_cons ha (pa_cons (pe_tup (pa_types hts)) pa_nil) (star_cons hns)) (by decide) (by decide) (star_cons hns) rfl) fun σ H Q ⟨B, F, ι, ρ, s, R, ev, po⟩ => ?_
  refine Tv.seq R ev po fun v H1 F1 ι1 a s1 st R1 e1 d p1 => ?_
  refine ⟨by simpa using hz, fun q hq => ?_⟩
  obtain ⟨st2, R2⟩ := R1.fresh (.tup (ts.map V.ty)) hq
  exact ⟨B, _, _, _, s1, v, a, q, rfl, upd_same, R2, d.stp st2, p1.base st2⟩

/-! ### methods of what is built in -/
def bmName : BM → Str
  | .join => "join" | .append => "append"
theorem bmChk_join {a : AV} {f : Unit → MM AV} {G : GS} {B : Hp} {E : XK} {F : Hp} {ι : List Addr} {s : AS} {Q : VK} (h : Po G B E F ι s (Den G) (MM.bind (bmChk .join a) f s) Q) : (∃ x, a = .str x) ∧ Po G B E F ι s (Den G) (f () s) Q := by
  unfold MM.bind bmChk at h
  cases a with
  | str x => exact ⟨⟨x, rfl⟩, h⟩
  | _ => exact h.elim
theorem de_join {o a : Expr} {es : List Expr} {fo : AE → MM AV} {fs : AE → MM (List AV)} {apos cpos : Pos} (ho : PE X o (TE1 (gsOf X g) W fo)) (ha : PA X (a :: es) (TA1 (gsOf X g) W fs))
    (hbase : attributeBase o "join" X.env (eval o X.env) = eval o X.env)
    (hfew : ((backTo cpos (starEach (a :: es) X.env)).all (fun x => !x.1) && (backToKw cpos (keywordEach [] X.env)).all (fun x => x.1.isSome)
      && decide ((a :: es).length + ([] : List Keyword).length + (if ([] : List Keyword).isEmpty then 0 else 1) < 30)) = true)
    (hline : (apos.endLine == cpos.line) = true) (hs : starEach (a :: es) X.env = (false, eval a X.env) :: starEach es X.env) (hplain : (backTo cpos (starEach es X.env)).any (·.1) = false) :
    PE X (.Call (.Attribute o "join" apos) (a :: es) [] cpos) (TE1 (gsOf X g) W fun ρ => MM.bind (fo ρ) fun x => MM.bind (bmChk .join x) fun _ => MM.bind (fs ρ) fun vs => bmM .join x vs) := by
  refine PE.weak (pe_bm PySem.F.plainAttrs_str PySem.F.slot_str_join PySem.F.type_str_join (bm_ok (g := g) .join) ho ha hbase hfew hline hs hplain) fun σ H Q ⟨B, F, ι, ρ, s, R, ev, po⟩ => ?_
  refine Tv.seq R ev po fun v H1 F1 ι1 a s1 st R1 ev1 d p1 => ?_
  obtain ⟨⟨z, rfl⟩, p1⟩ := bmChk_join p1
  cases d
  refine ⟨rfl, Tv.seq R1 ev1 p1 fun vs H2 F2 ι2 as s2 st2 R2 ev2 d2 p2 => ?_⟩
  exact ⟨B, _, F2, ι2, s2, _, as, R2, .str z, d2, p2⟩
end
end Ev

set_option linter.all false
set_option maxRecDepth 100000
set_option maxHeartbeats 4000000
/-! EvJ: a core text is held against the syntax tree; then it says what the tree does. Own work. -/
namespace Ev
open PySem PySem.Spec PyProof.Rows L2

/-- where names stand -/
structure SC where
  N : List Str
  sc : Scope
  fnB : Str → Bool
/-- a def as the text has it, beside its core -/
structure FnS where
  d : FnD
  N : List Str
  st : Stmt
abbrev Sites := List (Nat × Nat × List Str × List PArg)

def isVis : Option NameKind → Bool
  | some .local => true | some .cell => true | some .free => true | _ => false
def isLoc : Option NameKind → Bool
  | some .local => true | _ => false
def isCell : Option NameKind → Bool
  | some .cell => true | _ => false
def isGlb : Option NameKind → Bool
  | some .globalImplicit => true | _ => false
def plainN (x : Str) : Bool := !(x == ("__debug__" : Str)) && !(x == ("__classdict__" : Str))
def SC.at (c : SC) (i : Nat) (x : Str) : Bool := match c.N[i]? with | some y => x == y | none => false
def SC.kind (c : SC) (x : Str) : Option NameKind := c.sc.names.lookup x
def opIs : BOp → Operator → Bool
  | .add, .Add => true | .sub, .Sub => true | .mul, .Mult => true | .div, .FloorDiv => true | .mod, .Mod => true | .pow, .Pow => true | _, _ => false
def copIs : COp → CmpOp → Bool
  | .lt, .Lt => true | .le, .LtE => true | .gt, .Gt => true | .ge, .GtE => true | .eq, .Eq => true | .ne, .NotEq => true | .isB, .Is => true | _, _ => false
def isTrueC : Expr → Bool
  | .Constant (.bool _) _ _ => true
  | _ => false
def chkL (f : Expr → CE → Bool) : List Expr → List CE → Bool
  | [], [] => true
  | e :: es, c :: cs => notStar e && f e c && chkL f es cs
  | _, _ => false
def chkKw (f : Expr → CE → Bool) : List Keyword → List Str → List CE → Bool
  | [], [], [] => true
  | ⟨some n, e, _⟩ :: es, k :: ks, c :: cs => n == k && f e c && chkKw f es ks cs
  | _, _, _ => false
def chkPs (f : Expr → CE → Bool) : List (Option Expr) → List Expr → List CE → List CE → Bool
  | [], [], [], [] => true
  | some k :: ks, v :: vs, c :: cs, d :: ds => f k c && f v d && chkPs f ks vs cs ds
  | _, _, _, _ => false
def chkO (f : Expr → CE → Bool) : Option Expr → Option CE → Bool
  | none, none => true
  | some e, some c => f e c
  | _, _ => false
def pargEq : PArg → PArg → Bool
  | .at i, .at j => i == j
  | .dv .non, .dv .non => true
  | .dv (.int i), .dv (.int j) => i == j
  | .dv (.bl a), .dv (.bl b) => a == b
  | .dv (.str x), .dv (.str y) => x == y
  | _, _ => false
def pargsEq : List PArg → List PArg → Bool
  | [], [] => true
  | p :: ps, q :: qs => pargEq p q && pargsEq ps qs
  | _, _ => false
mutual
def chkT (c : SC) : Expr → Tg → Bool
  | .Name x _, .var i => c.at i x && (isLoc (c.kind x) || (isCell (c.kind x) && c.fnB x))
  | .Tuple es _ _, .tup ts => chkTs c es ts
  | _, _ => false
def chkTs (c : SC) : List Expr → List Tg → Bool
  | [], [] => true
  | e :: es, t :: ts => notStar e && chkT c e t && chkTs c es ts
  | _, _ => false
end
def nameIs (x : Str) : Expr → Bool
  | .Name y _ => x == y
  | _ => false
def chkTy (c : SC) : List Expr → List String → Bool
  | [], [] => true
  | .Name x _ :: es, t :: ts => x == Str.ofString t && (match bootBuiltins (Str.ofString t) with | some (.type t') => t' == t | _ => false) && isGlb (c.kind x) && plainN x && !(x == ("__name__" : Str)) && chkTy c es ts
  | _, _ => false
def plainIx : Expr → Bool
  | .Slice .. => false
  | _ => true
def SC.blk (c : SC) (scope : Scope) : SC := ⟨c.N, relS scope c.sc, fun x => scope.names.lookup x == some .cell⟩
def ownOf (N : List Str) (ws : List Nat) : List (Str × Nat) := ws.map fun i => ((N[i]?).getD Str.empty, i)
/-- names of types that are used -/
def tyNames : List String := ["int", "bool", "list", "tuple", "str", "dict"]

def chkE (S : List FnS) (sites : Sites) : Nat → SC → Expr → CE → Bool
  | 0, _, _, _ => false
  | n + 1, c, e, ce => match ce with
    | .var i => match e with
      | .Name x _ => c.at i x && isVis (c.kind x) && plainN x
      | _ => false
    | .int i => match e with
      | .Constant (.int j) _ _ => decide (i = j)
      | _ => false
    | .str x => match e with
      | .Constant (.str y) _ _ => x == y
      | _ => false
    | .bl b => match e with
      | .Constant (.bool b') _ _ => b == b'
      | _ => false
    | .non => match e with
      | .Constant .none _ _ => true
      | _ => false
    | .bin o x y => match e with
      | .BinOp a op b _ => opIs o op && chkE S sites n c a x && chkE S sites n c b y
      | _ => false
    | .neg x => match e with
      | .UnaryOp .USub a _ => chkE S sites n c a x
      | _ => false
    | .not x => match e with
      | .UnaryOp .Not a _ => chkE S sites n c a x
      | _ => false
    | .and x y => match e with
      | .BoolOp .And [a, b] _ => chkE S sites n c a x && chkE S sites n c b y
      | .BoolOp .And (a :: b :: b2 :: r) p => chkE S sites n c a x && chkE S sites n c (.BoolOp .And (b :: b2 :: r) p) y
      | _ => false
    | .or x y => match e with
      | .BoolOp .Or [a, b] _ => chkE S sites n c a x && chkE S sites n c b y
      | .BoolOp .Or (a :: b :: b2 :: r) p => chkE S sites n c a x && chkE S sites n c (.BoolOp .Or (b :: b2 :: r) p) y
      | _ => false
    | .cmp o x y => match e with
      | .Compare a [op] [b] _ => match o with
        | .isN => (match op with | .Is => true | _ => false) && (match b with | .Constant .none _ _ => true | _ => false) && chkE S sites n c a x
        | .notN => (match op with | .IsNot => true | _ => false) && (match b with | .Constant .none _ _ => true | _ => false) && chkE S sites n c a x
        | o => copIs o op && chkE S sites n c a x && chkE S sites n c b y
      | _ => false
    | .ite t x y => match e with
      | .IfExp a b d _ => chkE S sites n c a t && chkE S sites n c b x && chkE S sites n c d y
      | _ => false
    | .tup es => match e with
      | .Tuple as _ _ => decide (as.length ≤ 1000) && chkL (chkE S sites n c) as es
      | _ => false
    | .lst _ es => match e with
      | .List as _ => decide (as.length ≤ 1000) && chkL (chkE S sites n c) as es
      | _ => false
    | .dct _ ks vs => match e with
      | .Dict kes ves _ => decide (kes.length ≤ 15) && kes.length == ves.length && chkPs (chkE S sites n c) kes ves ks vs
      | _ => false
    | .idx x y => match e with
      | .Subscript a b _ => plainIx b && chkE S sites n c a x && chkE S sites n c b y
      | _ => false
    | .slc x lo hi => match e with
      | .Subscript a (.Slice l h none _) _ => chkE S sites n c a x && chkO (chkE S sites n c) l lo && chkO (chkE S sites n c) h hi
      | _ => false
    | .comp _ ws tg it ifs elt => match e with
      | .ListComp elt' [⟨tg', it', ifs', 0⟩] scope _ =>
        blkC c.N c.sc scope (ownOf c.N ws) && chkT (c.blk scope) tg' tg && tgIn ws tg && notStar elt' &&
        (match it with
          | .rng es => (match it' with
            | .Call f as [] _ => (match f with | .Name x _ => x == ("range" : Str) && isGlb (c.kind x) | _ => false) && (as.length == 1 || as.length == 2) && chkL (chkE S sites n c) as es
            | _ => false)
          | it => chkE S sites n c it' it) &&
        (match ifs', ifs with
          | [], [] => true
          | [i'], [i] => chkE S sites n (c.blk scope) i' i
          | _, _ => false) && chkE S sites n (c.blk scope) elt' elt
      | _ => false
    | .rng _ => false
    | .call k es ws ks perm _ => match e with
      | .Call (.Name x _) as kws _ => (match S[k]? with
          | some f => x == f.d.name
          | none => false) && isGlb (c.kind x) && plainN x && (sites.any fun s => s.1 == k && s.2.1 == as.length && s.2.2.1 == ks && pargsEq s.2.2.2 perm) &&
          chkL (chkE S sites n c) as es && chkKw (chkE S sites n c) kws ks ws
      | _ => false
    | .blt b _ es => match e with
      | .Call (.Name x _) as [] _ => x == bltN b && isGlb (c.kind x) && !as.isEmpty && chkL (chkE S sites n c) as es
      | _ => false
    | .isi x ts => ts.all (fun t => tyNames.contains t) && match e with
      | .Call (.Name f _) [a, .Name t q] [] _ => f == ("isinstance" : Str) && isGlb (c.kind f) && notStar a && chkE S sites n c a x && chkTy c [.Name t q] ts
      | .Call (.Name f _) [a, .Tuple tys _ _] [] _ => f == ("isinstance" : Str) && isGlb (c.kind f) && notStar a && chkE S sites n c a x && decide (ts.length ≤ 1000) && chkTy c tys ts
      | _ => false
    | .bm m x es => match m with
      | .join => match e with
        | .Call (.Attribute o nm apos) as [] cpos => nm == ("join" : Str) && (match o with | .Constant _ _ _ => true | .Name _ _ => true | _ => false) && chkE S sites n c o x && !as.isEmpty && decide (as.length < 30) && apos.endLine == cpos.line && chkL (chkE S sites n c) as es
        | _ => false
      | _ => false

end Ev

set_option linter.all false
set_option maxRecDepth 100000
set_option maxHeartbeats 4000000
/-! EvK: what is checked holds. Own work. -/
namespace Ev
open PySem PySem.Spec PyProof.Rows L2

/-- the level of a def that may call d deep -/
def lv (d : Nat) : Nat := 3 * d + 1
/-- a def's promise: what the evaluator says -/
def spF (G : GS) (fs : List FnD) (d k n : Nat) : Sp := fun vs H Q E => ∃ keep B F ι s as, vs.length = n ∧ Rel G B F ι H s ∧ DenAll G F ι vs as ∧ Po G B E F ι s (Den G) (callF fs d k as keep s) Q
def dsOf (S : List FnS) : List FnD := S.map (·.d)
/-- built-in names that are used -/
def bltNames : List Str := ["len", "int", "str", "abs", "repr", "all", "tuple", "list", "bool", "dict", "range", "isinstance"]
structure ProgOk (S : List FnS) (sites : Sites) (g : GN) (d : Nat) (P : Program) (w : World) (K : PySem.W.Frag) (mg : Str → Option Value) (base : Heap) : Prop where
  fn : ∀ k f, S[k]? = some f → ∃ a fd, mg f.d.name = some (.ref a) ∧ PySem.W.keepIn K (.ref a) = true ∧ (f.N.take f.d.nps).length = f.d.nps ∧
    FnG P w K mg base (lv d) a fd (f.N.take f.d.nps) (spF ⟨K, g.fnA, g.clA⟩ (dsOf S) d k f.d.nps) ∧ ∀ np ks perm, (k, np, ks, perm) ∈ sites → SiteOk K fd (f.N.take f.d.nps) np ks perm
  bl : ∀ x ∈ bltNames, mg x = none
structure XO (S : List FnS) (sites : Sites) (g : GN) (d : Nat) (W : WX) (c : SC) (X : Cx) : Prop where
  fit : Fit X
  hN : X.N = c.N
  hsc : X.env.scope = c.sc
  hfn : X.fn = c.fnB
  nd : c.N.Nodup
  kind : c.sc.kind = .function
  tk : Takes X W
  room : Room (lv d) X.A
  pg : ProgOk S sites g d X.prog X.w X.K X.mg X.base

/-! ### small facts of the checks -/
theorem at_some {c : SC} {i : Nat} {x : Str} (h : c.at i x = true) : c.N[i]? = some x := by
  unfold SC.at at h
  split at h
  · rename_i y hy
    rw [hy, eq_of_beq h]
  · cases h
theorem vis_of {o : Option NameKind} (h : isVis o = true) : o = some .local ∨ o = some .cell ∨ o = some .free := by
  unfold isVis at h
  split at h <;> simp_all
theorem glb_of {o : Option NameKind} (h : isGlb o = true) : o = some .globalImplicit := by
  unfold isGlb at h
  split at h <;> simp_all
theorem loc_of {o : Option NameKind} (h : isLoc o = true) : o = some .local := by
  unfold isLoc at h
  split at h <;> simp_all
theorem cell_of' {o : Option NameKind} (h : isCell o = true) : o = some .cell := by
  unfold isCell at h
  split at h <;> simp_all
theorem plain_of {x : Str} (h : plainN x = true) : (x == ("__debug__" : Str)) = false ∧ (x == ("__classdict__" : Str)) = false := by
  unfold plainN at h
  simpa using h
theorem op_of {o : BOp} {op : Operator} (h : opIs o op = true) : op = opOf o := by
  cases o <;> cases op <;> first | rfl | simp [opIs] at h
theorem cop_of {o : COp} {op : CmpOp} (h : copIs o op = true) : op = copOf o ∧ o ≠ .inn ∧ o ≠ .nin := by
  cases o <;> cases op <;> first | exact ⟨rfl, by decide, by decide⟩ | simp [copIs] at h
theorem parg_of {p q : PArg} (h : pargEq p q = true) : p = q := by
  unfold pargEq at h
  split at h
  · rw [eq_of_beq h]
  · rfl
  · rw [eq_of_beq h]
  · rw [eq_of_beq h]
  · rw [eq_of_beq h]
  · cases h
theorem pargs_of : ∀ {ps qs : List PArg}, pargsEq ps qs = true → ps = qs
  | [], [], _ => rfl
  | p :: ps, q :: qs, h => by
    simp only [pargsEq, Bool.and_eq_true] at h
    rw [parg_of h.1, pargs_of h.2]
  | [], _ :: _, h => by simp [pargsEq] at h
  | _ :: _, [], h => by simp [pargsEq] at h
theorem evList_len {f : CE → MM AV} : ∀ {cs : List CE} {s s' : AS} {vs : List AV}, evList f cs s = .ok vs s' → vs.length = cs.length
  | [], s, s', vs, h => by simp [evList, MM.pure] at h; obtain ⟨rfl, _⟩ := h; rfl
  | c :: cs, s, s', vs, h => by
    simp only [evList, MM.bind] at h
    cases h1 : f c s with
    | exc x s1 => rw [h1] at h; cases h
    | stuck => rw [h1] at h; cases h
    | ok v s1 =>
      rw [h1] at h
      simp only at h
      cases h2 : evList f cs s1 with
      | exc x s1 => rw [h2] at h; cases h
      | stuck => rw [h2] at h; cases h
      | ok ws s2 =>
        rw [h2] at h
        cases h
        simp [evList_len h2]
theorem chkL_len {f : Expr → CE → Bool} : ∀ {es : List Expr} {cs : List CE}, chkL f es cs = true → es.length = cs.length ∧ es.all notStar = true
  | [], [], _ => ⟨rfl, rfl⟩
  | e :: es, c :: cs, h => by
    simp only [chkL, Bool.and_eq_true] at h
    obtain ⟨h1, h2⟩ := chkL_len h.2
    exact ⟨by simp [h1], by simp [h.1.1, h2]⟩
  | [], _ :: _, h => by simp [chkL] at h
  | _ :: _, [], h => by simp [chkL] at h
theorem chkKw_len {f : Expr → CE → Bool} : ∀ {es : List Keyword} {ks : List Str} {cs : List CE}, chkKw f es ks cs = true → ks.length = cs.length ∧ es.map (fun k => k.arg) = ks.map some
  | [], [], [], _ => ⟨rfl, rfl⟩
  | ⟨some n, e, p⟩ :: es, k :: ks, c :: cs, h => by
    simp only [chkKw, Bool.and_eq_true] at h
    obtain ⟨h1, h2⟩ := chkKw_len h.2
    exact ⟨by simp [h1], by simp [h2, eq_of_beq h.1.1]⟩
  | ⟨none, e, p⟩ :: es, _, _, h => by simp [chkKw] at h
  | [], _ :: _, _, h => by simp [chkKw] at h
  | [], [], _ :: _, h => by simp [chkKw] at h
  | ⟨some n, e, p⟩ :: es, [], _, h => by simp [chkKw] at h
  | ⟨some n, e, p⟩ :: es, _ :: _, [], h => by simp [chkKw] at h

section
variable {S : List FnS} {sites : Sites} {g : GN} {d : Nat} {W : WX} {c : SC} {X : Cx}
theorem XO.vis (o : XO S sites g d W c X) {x : Str} (h : isVis (c.kind x) = true) : Vis X.env.scope x := by
  rw [o.hsc]
  exact vis_of h
theorem XO.gl (o : XO S sites g d W c X) {x : Str} (h : isGlb (c.kind x) = true) : Gl X x := by
  show X.env.scope.names.lookup x = _
  rw [o.hsc]
  exact glb_of h
theorem XO.ix (o : XO S sites g d W c X) {i : Nat} {x : Str} (h : c.at i x = true) : X.N[i]? = some x := by
  rw [o.hN]
  exact at_some h
/-- a comprehension's block -/
theorem XO.blk (o : XO S sites g d W c X) {scope : Scope} (hk : scope.kind = .function) (s : Shared) (H : Hp) (C : Addr) (cl : List (Str × Addr)) (fp : List Addr) :
    XO S sites g d W0 (c.blk scope) (X.blk s H scope (compEnvC scope cl C X.env) fp) where
  fit := ⟨o.fit.calm, o.fit.un, o.fit.gd, o.fit.dp⟩
  hN := o.hN
  hsc := by
    show relabel scope X.env = relS scope c.sc
    rw [← o.hsc]
    rfl
  hfn := rfl
  nd := o.nd
  kind := hk
  tk := takes0
  room := o.room
  pg := o.pg

/-! ### targets -/
mutual
theorem chkT_ok (o : XO S sites g d W c X) : ∀ (e : Expr) (t : Tg), chkT c e t = true → PG X e (TG1 (gsOf X g) (fun s v ρ => asgT s.cells t v ρ) (fun vs => tgIn vs t))
  | .Name x p, .var i, h => by
    simp only [chkT, Bool.and_eq_true, Bool.or_eq_true] at h
    obtain ⟨h1, h2⟩ := h
    have hl : L2.Loc X.env.scope x := by
      rw [o.hsc]
      rcases h2 with h2 | h2
      · exact .inl (loc_of h2)
      · exact .inr (cell_of' h2.1)
    refine dg_var (by rw [o.hN]; exact o.nd) (o.ix h1) hl ?_
    rcases h2 with h2 | h2
    · rw [o.hsc]; exact .inr (loc_of h2)
    · rw [o.hfn]; exact .inl h2.2
  | .Tuple es k p, .tup ts, h => by
    have h : chkTs c es ts = true := by simpa only [chkT] using h
    obtain ⟨h1, h2, h3, h4⟩ := chkTs_ok o es ts h
    exact dg_tup o.fit.calm h1 h2 h3 h4
  | .Name _ _, .tup _, h => by simp [chkT] at h
  | .Tuple _ _ _, .var _, h => by simp [chkT] at h
  | .BoolOp .., _, h => by simp [chkT] at h
  | .NamedExpr .., _, h => by simp [chkT] at h
  | .BinOp .., _, h => by simp [chkT] at h
  | .UnaryOp .., _, h => by simp [chkT] at h
  | .Lambda .., _, h => by simp [chkT] at h
  | .IfExp .., _, h => by simp [chkT] at h
  | .Dict .., _, h => by simp [chkT] at h
  | .Set .., _, h => by simp [chkT] at h
  | .ListComp .., _, h => by simp [chkT] at h
  | .SetComp .., _, h => by simp [chkT] at h
  | .DictComp .., _, h => by simp [chkT] at h
  | .GeneratorExp .., _, h => by simp [chkT] at h
  | .Await .., _, h => by simp [chkT] at h
  | .Yield .., _, h => by simp [chkT] at h
  | .YieldFrom .., _, h => by simp [chkT] at h
  | .Compare .., _, h => by simp [chkT] at h
  | .Call .., _, h => by simp [chkT] at h
  | .FormattedValue .., _, h => by simp [chkT] at h
  | .JoinedStr .., _, h => by simp [chkT] at h
  | .Constant .., _, h => by simp [chkT] at h
  | .Attribute .., _, h => by simp [chkT] at h
  | .Subscript .., _, h => by simp [chkT] at h
  | .Starred .., _, h => by simp [chkT] at h
  | .List .., _, h => by simp [chkT] at h
  | .Slice .., _, h => by simp [chkT] at h
theorem chkTs_ok (o : XO S sites g d W c X) : ∀ (es : List Expr) (ts : List Tg), chkTs c es ts = true → PGs X es (TGs1 (gsOf X g) (fun s v ρ => asgTs s.cells ts v ρ) (fun vs => tgsIn vs ts)) ∧ es.length = ts.length ∧
    (assignEach es X.env).length = es.length ∧ (assignEach es X.env).findIdx? (·.1) = none
  | [], [], _ => ⟨dgs_nil, rfl, rfl, rfl⟩
  | e :: es, t :: ts, h => by
    simp only [chkTs, Bool.and_eq_true] at h
    have h1 := chkT_ok o e t h.1.2
    obtain ⟨h2, h3, h4, h5⟩ := chkTs_ok o es ts h.2
    have hs : assignEach (e :: es) X.env = (false, assign e X.env) :: assignEach es X.env := by
      have := h.1.1
      cases e <;> first | rfl | simp [notStar] at this
    refine ⟨dgs_cons h1 h2 (by rw [hs]; rfl), by simp [h3], by rw [hs]; simp [h4], ?_⟩
    rw [hs, List.findIdx?_cons, h5]
    rfl
  | [], _ :: _, h => by simp [chkTs] at h
  | _ :: _, [], h => by simp [chkTs] at h
end
end

theorem bltN_in (b : Blt) : bltN b ∈ bltNames := by cases b <;> decide +kernel
theorem bltN_boot (b : Blt) : bootBuiltins (bltN b) = some (bltV b) ∧ bltN b ≠ "__name__" ∧ (bltN b == ("__debug__" : Str)) = false := by
  cases b <;> (refine ⟨?_, ?_, ?_⟩ <;> decide +kernel)
theorem folded_ok {e : Expr} {env : Env} (h : ∀ a b p, e ≠ .Set a b p) : ∀ x, foldedSetIterable e env x = pure x := fun x => by
  cases e <;> first | rfl | exact absurd rfl (h _ _ _)

section
variable {S : List FnS} {sites : Sites} {g : GN} {d : Nat}
/-- what the theorem says at fuel n -/
structure MainE (S : List FnS) (sites : Sites) (g : GN) (d n : Nat) : Prop where
  pe : ∀ (X : Cx) (W : WX) (c : SC) (e : Expr) (ce : CE), XO S sites g d W c X → chkE S sites n c e ce = true → PE X e (TE1 (gsOf X g) W (evE (callF (dsOf S) d) n ce))
  pt : ∀ (X : Cx) (W : WX) (c : SC) (e : Expr) (ce : CE), XO S sites g d W c X → chkE S sites n c e ce = true → PT X e (TT1 (gsOf X g) W fun ρ => MM.bind (evE (callF (dsOf S) d) n ce ρ) truM)
  pw : ∀ (X : Cx) (W : WX) (c : SC) (op : BoolOp) (vs : List Expr) (p : Pos) (ce : CE), XO S sites g d W c X → chkE S sites n c (.BoolOp op vs p) ce = true → PW X (.BoolOp op vs p) (TT1 (gsOf X g) W fun ρ => MM.bind (evE (callF (dsOf S) d) n ce ρ) truM)
theorem MainE.zero : MainE S sites g d 0 := ⟨fun _ _ _ _ _ _ h => by simp [chkE] at h, fun _ _ _ _ _ _ h => by simp [chkE] at h, fun _ _ _ _ _ _ _ _ h => by simp [chkE] at h⟩
section
variable {n : Nat} (M : MainE S sites g d n) {X : Cx} {W : WX} {c : SC}
include M
theorem MainE.pa (o : XO S sites g d W c X) : ∀ {es : List Expr} {cs : List CE}, chkL (chkE S sites n c) es cs = true → PA X es (TA1 (gsOf X g) W fun ρ => evList (fun e => evE (callF (dsOf S) d) n e ρ) cs)
  | [], [], _ => da_nil
  | e :: es, ce :: cs, h => by
    simp only [chkL, Bool.and_eq_true] at h
    exact da_cons (M.pe X W c e ce o h.1.2) (MainE.pa o h.2) (star_cons h.1.1)
  | [], _ :: _, h => by simp [chkL] at h
  | _ :: _, [], h => by simp [chkL] at h
theorem MainE.pk (o : XO S sites g d W c X) : ∀ {es : List Keyword} {ks : List Str} {cs : List CE}, chkKw (chkE S sites n c) es ks cs = true → PK X es (TA1 (gsOf X g) W fun ρ => evList (fun e => evE (callF (dsOf S) d) n e ρ) cs)
  | [], [], [], _ => dk_nil
  | ⟨some nm, e, p⟩ :: es, k :: ks, ce :: cs, h => by
    simp only [chkKw, Bool.and_eq_true] at h
    exact dk_cons (M.pe X W c e ce o h.1.2) (MainE.pk o h.2)
  | ⟨none, e, p⟩ :: es, _, _, h => by simp [chkKw] at h
  | [], _ :: _, _, h => by simp [chkKw] at h
  | [], [], _ :: _, h => by simp [chkKw] at h
  | ⟨some n, e, p⟩ :: es, [], _, h => by simp [chkKw] at h
  | ⟨some n, e, p⟩ :: es, _ :: _, [], h => by simp [chkKw] at h
theorem MainE.po (o : XO S sites g d W c X) {e : Option Expr} {ce : Option CE} (h : chkO (chkE S sites n c) e ce = true) : PO X e (TO1 (gsOf X g) W fun ρ => evOpt (fun e => evE (callF (dsOf S) d) n e ρ) ce) := by
  cases e with
  | none => cases ce with
    | none => exact do_none
    | some _ => simp [chkO] at h
  | some e => cases ce with
    | none => simp [chkO] at h
    | some ce => exact do_some (M.pe X W c e ce o h)
omit M in
theorem tys_ok (o : XO S sites g d W c X) (hb : ∀ t ∈ tyNames, X.mg (Str.ofString t) = none) : ∀ {es : List Expr} {ts : List String}, (∀ t ∈ ts, t ∈ tyNames) → chkTy c es ts = true → Paired (fun (t : String) (e : Expr) => ∃ p, e = .Name (Str.ofString t) p ∧ PE X e (tC (.ty t))) ts es
  | [], [], _, _ => .nil
  | .Name x p :: es, t :: ts, hm, h => by
    simp only [chkTy, Bool.and_eq_true] at h
    obtain ⟨⟨⟨⟨⟨h1, h2⟩, h3⟩, h4⟩, h5⟩, h6⟩ := h
    have e1 := eq_of_beq h1
    subst e1
    have hv : bootBuiltins (Str.ofString t) = some (.type t) := by
      split at h2
      · rename_i t' ht'
        rw [ht', eq_of_beq h2]
      · cases h2
    refine .cons ⟨p, rfl, pe_bltn (o.gl h3) (hb t (hm t List.mem_cons_self)) hv rfl ?_ (plain_of h4).1⟩ (tys_ok o hb (fun t ht => hm t (List.mem_cons_of_mem _ ht)) h6)
    intro z
    rw [z] at h5
    simp at h5
  | [], _ :: _, _, h => by simp [chkTy] at h
  | _ :: _, [], _, h => by simp [chkTy] at h
  | .Tuple .. :: _, _ :: _, _, h => by simp [chkTy] at h
  | .BoolOp .. :: _, _ :: _, _, h => by simp [chkTy] at h
  | .NamedExpr .. :: _, _ :: _, _, h => by simp [chkTy] at h
  | .BinOp .. :: _, _ :: _, _, h => by simp [chkTy] at h
  | .UnaryOp .. :: _, _ :: _, _, h => by simp [chkTy] at h
  | .Lambda .. :: _, _ :: _, _, h => by simp [chkTy] at h
  | .IfExp .. :: _, _ :: _, _, h => by simp [chkTy] at h
  | .Dict .. :: _, _ :: _, _, h => by simp [chkTy] at h
  | .Set .. :: _, _ :: _, _, h => by simp [chkTy] at h
  | .ListComp .. :: _, _ :: _, _, h => by simp [chkTy] at h
  | .SetComp .. :: _, _ :: _, _, h => by simp [chkTy] at h
  | .DictComp .. :: _, _ :: _, _, h => by simp [chkTy] at h
  | .GeneratorExp .. :: _, _ :: _, _, h => by simp [chkTy] at h
  | .Await .. :: _, _ :: _, _, h => by simp [chkTy] at h
  | .Yield .. :: _, _ :: _, _, h => by simp [chkTy] at h
  | .YieldFrom .. :: _, _ :: _, _, h => by simp [chkTy] at h
  | .Compare .. :: _, _ :: _, _, h => by simp [chkTy] at h
  | .Call .. :: _, _ :: _, _, h => by simp [chkTy] at h
  | .FormattedValue .. :: _, _ :: _, _, h => by simp [chkTy] at h
  | .JoinedStr .. :: _, _ :: _, _, h => by simp [chkTy] at h
  | .Constant .. :: _, _ :: _, _, h => by simp [chkTy] at h
  | .Attribute .. :: _, _ :: _, _, h => by simp [chkTy] at h
  | .Subscript .. :: _, _ :: _, _, h => by simp [chkTy] at h
  | .Starred .. :: _, _ :: _, _, h => by simp [chkTy] at h
  | .List .. :: _, _ :: _, _, h => by simp [chkTy] at h
  | .Slice .. :: _, _ :: _, _, h => by simp [chkTy] at h
end
end
end Ev

set_option linter.all false
set_option maxRecDepth 100000
set_option maxHeartbeats 4000000
/-! EvL: expressions that are checked. Own work. -/
namespace Ev
open PySem PySem.Spec PyProof.Rows L2

theorem le1000 {n : Nat} (h : n ≤ 1000) : n ≤ sizeLine := by rw [sizeLine_eq]; omega
theorem evL1 {f : AE → CE → MM AV} {cs : List CE} {k : Nat} (h : cs.length = k) : ∀ ρ s vs s', evList (f ρ) cs s = .ok vs s' → vs.length = k := fun ρ s vs s' e => by rw [evList_len e, h]
/-- a test of a value -/
theorem tru_again {x : AV} {m : MM Bool} : (MM.bind (truM x) fun t => if t = true then m else truM x) = MM.bind (truM x) fun t => if t = true then m else MM.pure false := by
  funext s
  unfold MM.bind truM
  cases h : truth s.cells x with
  | none => rfl
  | some t => cases t with
    | true => rfl
    | false =>
      show (if false = true then m else truM x) s = (if false = true then m else MM.pure false) s
      rw [if_neg (by decide), if_neg (by decide)]
      unfold truM
      rw [h]; rfl
theorem tru_again' {x : AV} {m : MM Bool} : (MM.bind (truM x) fun t => if t = true then truM x else m) = MM.bind (truM x) fun t => if t = true then MM.pure true else m := by
  funext s
  unfold MM.bind truM
  cases h : truth s.cells x with
  | none => rfl
  | some t => cases t with
    | false => rfl
    | true =>
      show (if true = true then truM x else m) s = (if true = true then MM.pure true else m) s
      rw [if_pos rfl, if_pos rfl]
      unfold truM
      rw [h]; rfl
theorem bind_if {α β : Type} {t : Bool} {a b : MM α} {f : α → MM β} : MM.bind (if t = true then a else b) f = if t = true then MM.bind a f else MM.bind b f := by
  cases t <;> rfl
theorem tru_bl {b : Bool} : truM (.bl b) = MM.pure b := rfl
theorem test_and {A Bx : MM AV} : MM.bind (MM.bind A fun x => MM.bind (truM x) fun t => if t = true then Bx else MM.pure x) truM = MM.bind (MM.bind A truM) fun t => if t = true then MM.bind Bx truM else MM.pure false := by
  rw [MM.assoc, MM.assoc]
  congr 1
  funext x
  rw [MM.assoc]
  have e : (fun t => MM.bind (if t = true then Bx else MM.pure x) truM) = fun t => if t = true then MM.bind Bx truM else truM x := by
    funext t
    rw [bind_if]; rfl
  rw [e, tru_again]
theorem test_or {A Bx : MM AV} : MM.bind (MM.bind A fun x => MM.bind (truM x) fun t => if t = true then MM.pure x else Bx) truM = MM.bind (MM.bind A truM) fun t => if t = true then MM.pure true else MM.bind Bx truM := by
  rw [MM.assoc, MM.assoc]
  congr 1
  funext x
  rw [MM.assoc]
  have e : (fun t => MM.bind (if t = true then MM.pure x else Bx) truM) = fun t => if t = true then truM x else MM.bind Bx truM := by
    funext t
    rw [bind_if]; rfl
  rw [e, tru_again']
theorem test_not {A : MM AV} : MM.bind (MM.bind A fun x => MM.bind (truM x) fun b => MM.pure (AV.bl (!b))) truM = MM.bind (MM.bind A truM) fun b => MM.pure (!b) := by
  rw [MM.assoc, MM.assoc]
  congr 1
  funext x
  rw [MM.assoc]
  rfl
theorem test_ite {A Bx Cx : MM AV} : MM.bind (MM.bind A fun x => MM.bind (truM x) fun t => if t = true then Bx else Cx) truM = MM.bind (MM.bind A truM) fun t => if t = true then MM.bind Bx truM else MM.bind Cx truM := by
  rw [MM.assoc, MM.assoc]
  congr 1
  funext x
  rw [MM.assoc]
  congr 1
  funext t
  exact bind_if
theorem test_bl {A : MM Bool} : MM.bind (MM.bind A fun b => MM.pure (AV.bl b)) truM = A := by
  rw [MM.assoc]
  have : (fun a => MM.bind (MM.pure (AV.bl a)) truM) = MM.pure := by funext a; rfl
  rw [this, MM.bind_pure]

section
variable {X : Cx} {g : GN} {W : WX} {a b : Expr} {fa fb : AE → MM AV} {pos : Pos}
theorem PT.cast {e : Expr} {f f' : AE → MM Bool} (h : PT X e (TT1 (gsOf X g) W f)) (e2 : ∀ ρ, f' ρ = f ρ) : PT X e (TT1 (gsOf X g) W f') := by
  have : f' = f := funext e2
  rw [this]; exact h
theorem PW.cast {e : Expr} {f f' : AE → MM Bool} (h : PW X e (TT1 (gsOf X g) W f)) (e2 : ∀ ρ, f' ρ = f ρ) : PW X e (TT1 (gsOf X g) W f') := by
  have : f' = f := funext e2
  rw [this]; exact h
/-- a comparison as a test -/
theorem test_po {G : GS} {B : Hp} {E : XK} {F : Hp} {ι : List Addr} {s : AS} {m : MM AV} {Q : Bool → Hp → Prop} (h : Po G B E F ι s SameD (MM.bind m truM s) Q) (hb : ∀ v s', m s = .ok v s' → ∃ b, v = .bl b) :
    Po G B E F ι s (Den G) (m s) (fun v H => ∃ k, v = .bl k ∧ Q k H) := by
  unfold MM.bind at h
  revert h hb
  cases m s with
  | ok v s1 =>
    intro h hb w H1 F1 ι1 st R1 d
    obtain ⟨b, rfl⟩ := hb v s1 rfl
    cases d
    exact ⟨b, rfl, h b H1 F1 ι1 st R1 rfl⟩
  | exc x s1 => exact fun h _ => h
  | stuck => exact fun h _ => h
theorem cmpM_bl {o : COp} {x y : AV} {s s' : AS} {v : AV} (h : cmpM o x y s = .ok v s') : ∃ b, v = .bl b := by
  unfold cmpM at h
  cases o with
  | eq =>
    simp only [MM.bind] at h
    split at h
    · cases h; exact ⟨_, rfl⟩
    · cases h
    · cases h
  | ne =>
    simp only [MM.bind] at h
    split at h
    · cases h; exact ⟨_, rfl⟩
    · cases h
    · cases h
  | lt => simp only at h; split at h <;> first | (cases h; exact ⟨_, rfl⟩) | cases h
  | le => simp only at h; split at h <;> first | (cases h; exact ⟨_, rfl⟩) | cases h
  | gt => simp only at h; split at h <;> first | (cases h; exact ⟨_, rfl⟩) | cases h
  | ge => simp only at h; split at h <;> first | (cases h; exact ⟨_, rfl⟩) | cases h
  | isB => simp only at h; split at h <;> first | (cases h; exact ⟨_, rfl⟩) | cases h
  | isN => cases h
  | notN => cases h
  | inn => cases h
  | nin => cases h
theorem dt_cmp (ft : Fit X) (o : COp) (ho : o ≠ .inn ∧ o ≠ .nin) (ha : PE X a (TE1 (gsOf X g) W fa)) (hb : PE X b (TE1 (gsOf X g) W fb)) :
    PT X (.Compare a [copOf o] [b] pos) (TT1 (gsOf X g) W fun ρ => MM.bind (MM.bind (fa ρ) fun x => MM.bind (fb ρ) fun y => cmpM o x y) truM) := by
  have hu := ft.un
  have hm : behindInMarks (copOf o) b = false := nobehind b (by cases o <;> simp_all [copOf]) (by cases o <;> simp_all [copOf])
  refine PT.weak (pt_cmpR (cmp_ok (g := g) o (by omega)) ha hb hm) fun σ H Q ⟨B, F, ι, ρ, s, R, ev, p⟩ => ?_
  dsimp only at p
  simp only [MM.assoc] at p
  show tOp (rCmp (gsOf X g) o) _ _ σ H fun v H => ∃ k, v = .bl k ∧ Q k H
  refine Tv.seq R ev p fun v H1 F1 ι1 a s1 st R1 e1 d p1 => ?_
  refine Tv.seq R1 e1 p1 fun w H2 F2 ι2 b s2 st2 R2 e2 d2 p2 => ?_
  exact ⟨B, _, F2, ι2, s2, a, b, R2, d.stp st2, d2, test_po p2 fun v s' h => cmpM_bl h⟩
theorem pt_of_pw {op : BoolOp} {vs : List Expr} {t : TT} (h : PW X (.BoolOp op vs pos) t) : PT X (.BoolOp op vs pos) t := ⟨fun pins s σ H Q I hw => h.run _ pins s σ H Q I hw⟩
theorem dt_ite {c : Expr} {tc ta tb : AE → MM Bool} (hc : PT X c (TT1 (gsOf X g) W tc)) (ha : PT X a (TT1 (gsOf X g) W ta)) (hb : PT X b (TT1 (gsOf X g) W tb)) :
    PT X (.IfExp c a b pos) (TT1 (gsOf X g) W fun ρ => MM.bind (tc ρ) fun t => if t = true then ta ρ else tb ρ) := by
  refine ⟨fun pins s σ H Q I ⟨B, F, ι, ρ, st, R, e, p⟩ => ?_⟩
  refine isTrue_IfExp (thn (hc.run pins s σ H _ I (Tv.seq R e p fun v H1 F1 ι1 a s1 st R1 e1 d p1 => ?_ : TT1 (gsOf X g) W tc σ H fun t H1 => if t = true then TT1 (gsOf X g) W ta σ H1 Q else TT1 (gsOf X g) W tb σ H1 Q)) fun t s1 ⟨H1, I1, q⟩ => ?_)
  · cases d
    cases v with
    | true => rw [if_pos rfl]; exact ⟨B, F1, ι1, ρ, s1, R1, e1, p1⟩
    | false => rw [if_neg (by decide)]; exact ⟨B, F1, ι1, ρ, s1, R1, e1, p1⟩
  · cases t with
    | true => exact ha.run pins s1 σ H1 Q I1 q
    | false => exact hb.run pins s1 σ H1 Q I1 q
theorem dt_isN {j pos'} (ha : PE X a (TE1 (gsOf X g) W fa)) : PT X (.Compare a [.Is] [.Constant .none j pos'] pos) (TT1 (gsOf X g) W fun ρ => MM.bind (MM.bind (fa ρ) fun x => MM.pure (.bl (isNone x))) truM) := by
  refine PT.weak (pt_cmp (pc_isN ha)) fun σ H Q ⟨B, F, ι, ρ, s, R, ev, p⟩ => ?_
  dsimp only at p
  rw [MM.assoc] at p
  refine Tv.seq R ev p fun v H1 F1 ι1 a s1 st R1 e1 d p1 => ?_
  refine ⟨isNone a, by rw [isNone_den d], ?_⟩
  exact p1 _ _ _ _ Stp.refl R1 rfl
theorem dt_notN {j pos'} (ha : PE X a (TE1 (gsOf X g) W fa)) : PT X (.Compare a [.IsNot] [.Constant .none j pos'] pos) (TT1 (gsOf X g) W fun ρ => MM.bind (MM.bind (fa ρ) fun x => MM.pure (.bl (!isNone x))) truM) := by
  refine PT.weak (pt_cmp (pc_notN ha)) fun σ H Q ⟨B, F, ι, ρ, s, R, ev, p⟩ => ?_
  dsimp only at p
  rw [MM.assoc] at p
  refine Tv.seq R ev p fun v H1 F1 ι1 a s1 st R1 e1 d p1 => ?_
  refine ⟨!isNone a, by rw [isNone_den d], ?_⟩
  exact p1 _ _ _ _ Stp.refl R1 rfl
end

section
variable {S : List FnS} {sites : Sites} {g : GN} {d n : Nat}
theorem plainIx_ok {e : Expr} (h : plainIx e = true) : PlainIx e := fun o i => by
  cases e <;> first | rfl | simp [plainIx] at h
theorem own_map (N : List Str) (ws : List Nat) : (ownOf N ws).map (·.2) = ws := by
  unfold ownOf
  rw [List.map_map]
  show ws.map (fun i => i) = ws
  simp
theorem blk_kind {N : List Str} {sc scope : Scope} {own : List (Str × Nat)} (h : blkC N sc scope own = true) : scope.kind = .function := (blkOk_by h).kind
theorem compR_zero {turn : AV → MM (Option AV)} {src : Src} : (match src with | .items xs => compL turn xs [] | .cell k m => compC turn k m 0 []) = compR turn src 0 [] := by
  cases src with
  | items xs => simp [compR]
  | cell k m => simp [compR]

theorem chk_set (c : SC) (a b p) (it : CE) : chkE S sites n c (.Set a b p) it = false := by
  cases n with
  | zero => rfl
  | succ n =>
    cases it with
    | bm m x es => cases m <;> rfl
    | call k es ws ks perm keep => rfl
    | isi e ts => exact Bool.and_false _
    | _ => rfl
/-- an iterable -/
theorem MainE.it (M : MainE S sites g d n) {X : Cx} {W : WX} {c : SC} (o : XO S sites g d W c X) {tg it' : Expr} {it : CE}
    (h : (match it with
          | .rng es => (match it' with
            | .Call f as [] _ => (match f with | .Name x _ => x == ("range" : Str) && isGlb (c.kind x) | _ => false) && (as.length == 1 || as.length == 2) && chkL (chkE S sites n c) as es
            | _ => false)
          | it => chkE S sites n c it' it) = true) :
    PI X tg it' (TI1 (gsOf X g) W fun ρ => evI (fun e => evE (callF (dsOf S) d) n e ρ) it) ∧ ∀ x, foldedSetIterable it' X.env x = pure x := by
  have gen : (∀ es, it ≠ .rng es) → chkE S sites n c it' it = true → PI X tg it' (TI1 (gsOf X g) W fun ρ => evI (fun e => evE (callF (dsOf S) d) n e ρ) it) ∧ ∀ x, foldedSetIterable it' X.env x = pure x := fun hr hc => by
    have h1 := di_val (tg := tg) (M.pe X W c it' it o hc)
    refine ⟨?_, folded_ok fun a b p e => ?_⟩
    · have : (fun ρ => evI (fun e => evE (callF (dsOf S) d) n e ρ) it) = fun ρ => MM.bind (evE (callF (dsOf S) d) n it ρ) srcOf := by
        funext ρ
        cases it <;> first | rfl | exact absurd rfl (hr _)
      rw [this]
      exact h1
    · subst e
      rw [chk_set] at hc
      cases hc
  split at h
  · rename_i es
    split at h
    · rename_i f as p
      simp only [Bool.and_eq_true, Bool.or_eq_true] at h
      obtain ⟨⟨h1, h2⟩, h3⟩ := h
      split at h1
      · rename_i x px
        simp only [Bool.and_eq_true] at h1
        have ex := eq_of_beq h1.1
        subst ex
        have hgl := o.gl h1.2
        have hmg : X.mg "range" = none := o.pg.bl _ (by decide +kernel)
        obtain ⟨hl, hns⟩ := chkL_len h3
        have ha := M.pa o h3
        refine ⟨?_, fun x => rfl⟩
        rcases h2 with h2 | h2
        · have h2 := eq_of_beq h2
          match as, h2 with
          | [a], _ =>
            rw [List.all_cons, Bool.and_eq_true] at hns
            exact di_rng1 hgl hmg ha (evL1 (f := fun ρ e => evE (callF (dsOf S) d) n e ρ) (by simpa using hl.symm)) (star_cons hns.1)
        · have h2 := eq_of_beq h2
          match as, h2 with
          | [a, a2], _ =>
            rw [List.all_cons, Bool.and_eq_true, List.all_cons, Bool.and_eq_true] at hns
            exact di_rng2 hgl hmg ha (evL1 (f := fun ρ e => evE (callF (dsOf S) d) n e ρ) (by simpa using hl.symm)) (by rw [star_cons hns.1, star_cons hns.2.1]; rfl) (star_cons hns.2.1)
      · cases h1
    · cases h
  · rename_i hr
    exact gen (fun es e => hr es e) h

theorem MainE.pairs (M : MainE S sites g d n) {X : Cx} {W : WX} {c : SC} (o : XO S sites g d W c X) (pos : Pos) : ∀ {kes : List (Option Expr)} {ves : List Expr} {ks vs : List CE}, chkPs (chkE S sites n c) kes ves ks vs = true →
    ∃ trs, PPs X pos kes ves trs ∧ (∀ {B F ι ρ s σ H Q}, Rel (gsOf X g) B F ι H s → EnvR (gsOf X g) F ι σ ρ → Po (gsOf X g) B (fun c d H => W c d σ H) F ι s (DenPs (gsOf X g)) (evPairs (fun e => evE (callF (dsOf S) d) n e ρ) ks vs s) Q → tPairs trs σ H Q) ∧ kes.all (·.isSome) = true
  | [], [], [], [], _ => ⟨[], pps_nil, fun R ev p => p.pure R ⟨.nil, .nil⟩, rfl⟩
  | some k :: kes, v :: ves, a :: ks, b :: vs, h => by
    simp only [chkPs, Bool.and_eq_true] at h
    obtain ⟨trs, h1, h2, h3⟩ := MainE.pairs M o pos h.2
    refine ⟨_ :: trs, pps_cons (M.pe X W c _ _ o h.1.1) (M.pe X W c _ _ o h.1.2) h1, fun {B F ι ρ s σ H Q} R ev p => ?_, by simpa using h3⟩
    refine Tv.seq R ev p fun x H1 F1 ι1 a1 s1 st1 R1 ev1 d1 p1 => ?_
    refine Tv.seq R1 ev1 p1 fun y H2 F2 ι2 a2 s2 st2 R2 ev2 d2 p2 => ?_
    refine h2 R2 ev2 (p2.first fun ps H3 F3 ι3 as s3 st3 R3 d3 p3 => ?_)
    exact p3.pure R3 ⟨.cons (d1.stp (st2.trans st3)) d3.1, .cons (d2.stp st3) d3.2⟩
  | [], [], [], _ :: _, h => by simp [chkPs] at h
  | [], [], _ :: _, _, h => by simp [chkPs] at h
  | [], _ :: _, _, _, h => by simp [chkPs] at h
  | none :: _, _, _, _, h => by simp [chkPs] at h
  | some _ :: _, [], _, _, h => by simp [chkPs] at h
  | some _ :: _, _ :: _, [], _, h => by simp [chkPs] at h
  | some _ :: _, _ :: _, _ :: _, [], h => by simp [chkPs] at h
theorem few_ok {es : List Expr} {pos : Pos} {env : Env} (h : es.all notStar = true) : ((backTo pos (starEach es env)).all fun x => !x.1) = true := by
  have := star_any (pos := pos) (env := env) h
  rw [List.all_eq_true]
  intro x hx
  rw [List.any_eq_false] at this
  simpa using this x hx
theorem MainE.step (M : MainE S sites g d n) : MainE S sites g d (n + 1) := by
  have PEall : ∀ (X : Cx) (W : WX) (c : SC) (e : Expr) (ce : CE), XO S sites g d W c X → chkE S sites (n + 1) c e ce = true → PE X e (TE1 (gsOf X g) W (evE (callF (dsOf S) d) (n + 1) ce)) := by
    intro X W c e ce o h
    unfold chkE at h
    cases ce with
    | var i =>
      simp only at h
      split at h
      · simp only [Bool.and_eq_true] at h
        obtain ⟨h1, h2⟩ := plain_of h.2
        exact de_var (o.ix h.1.1) (o.vis h.1.2) h1 h2
      · cases h
    | int i =>
      simp only at h
      split at h
      · have := of_decide_eq_true h; subst this; exact de_int
      · cases h
    | str x =>
      simp only at h
      split at h
      · have := eq_of_beq h; subst this; exact de_str
      · cases h
    | bl b =>
      simp only at h
      split at h
      · have := eq_of_beq h; subst this; exact de_bl
      · cases h
    | non =>
      simp only at h
      split at h
      · exact de_non
      · cases h
    | bin op x y =>
      simp only at h
      split at h
      · simp only [Bool.and_eq_true] at h
        have := op_of h.1.1
        subst this
        exact de_bin op (M.pe X W c _ _ o h.1.2) (M.pe X W c _ _ o h.2)
      · cases h
    | neg x =>
      simp only at h
      split at h
      · exact de_neg (M.pe X W c _ _ o h)
      · cases h
    | not x =>
      simp only at h
      split at h
      · exact de_not (M.pe X W c _ _ o h)
      · cases h
    | and x y =>
      simp only at h
      split at h
      · simp only [Bool.and_eq_true] at h
        exact de_and (M.pe X W c _ _ o h.1) (pe_one (M.pe X W c _ _ o h.2))
      · simp only [Bool.and_eq_true] at h
        exact de_and (M.pe X W c _ _ o h.1) (M.pe X W c _ _ o h.2)
      · cases h
    | or x y =>
      simp only at h
      split at h
      · simp only [Bool.and_eq_true] at h
        exact de_or (M.pe X W c _ _ o h.1) (pe_one (M.pe X W c _ _ o h.2))
      · simp only [Bool.and_eq_true] at h
        exact de_or (M.pe X W c _ _ o h.1) (M.pe X W c _ _ o h.2)
      · cases h
    | cmp op x y =>
      simp only at h
      split at h
      · split at h
        · simp only [Bool.and_eq_true] at h
          obtain ⟨⟨h1, h2⟩, h3⟩ := h
          split at h1
          · split at h2
            · exact de_isN (M.pe X W c _ _ o h3)
            · cases h2
          · cases h1
        · simp only [Bool.and_eq_true] at h
          obtain ⟨⟨h1, h2⟩, h3⟩ := h
          split at h1
          · split at h2
            · exact de_notN (M.pe X W c _ _ o h3)
            · cases h2
          · cases h1
        · rename_i hn1 hn2
          simp only [Bool.and_eq_true] at h
          obtain ⟨h1, h2⟩ := cop_of h.1.1
          subst h1
          have := de_cmp o.fit op h2 (M.pe X W c _ _ o h.1.2) (M.pe X W c _ _ o h.2) (pos := ‹Pos›)
          cases op <;> first | exact this | exact absurd rfl hn1 | exact absurd rfl hn2
      · cases h
    | ite t x y =>
      simp only at h
      split at h
      · simp only [Bool.and_eq_true] at h
        have := de_ite (M.pt X W c _ _ o h.1.1) (M.pe X W c _ _ o h.1.2) (M.pe X W c _ _ o h.2) (pos := ‹Pos›)
        simp only [MM.assoc] at this
        exact this
      · cases h
    | tup es =>
      simp only at h
      split at h
      · simp only [Bool.and_eq_true] at h
        obtain ⟨h1, h2⟩ := h
        obtain ⟨hl, _⟩ := chkL_len h2
        exact de_tup (le1000 (of_decide_eq_true h1)) (evL1 (f := fun ρ e => evE (callF (dsOf S) d) n e ρ) hl.symm) (M.pa o h2)
      · cases h
    | lst al es =>
      simp only at h
      split at h
      · simp only [Bool.and_eq_true] at h
        obtain ⟨h1, h2⟩ := h
        obtain ⟨hl, _⟩ := chkL_len h2
        exact de_lst (le1000 (of_decide_eq_true h1)) (evL1 (f := fun ρ e => evE (callF (dsOf S) d) n e ρ) hl.symm) (M.pa o h2)
      · cases h
    | dct al ks vs =>
      simp only at h
      split at h
      · rename_i kes ves pos
        simp only [Bool.and_eq_true] at h
        obtain ⟨⟨h1, h2⟩, h3⟩ := h
        have o0 : XO S sites g d W0 c X := { o with tk := takes0 }
        obtain ⟨trs, hp, ht, hall⟩ := M.pairs o0 pos h3
        cases kes with
        | nil =>
          cases ves with
          | cons _ _ => simp at h2
          | nil =>
            cases ks with
            | cons _ _ => simp [chkPs] at h3
            | nil =>
              cases vs with
              | cons _ _ => simp [chkPs] at h3
              | nil => exact de_dct0
        | cons k kes => exact de_dct hp hall (eq_of_beq h2) (fun z => nomatch z) (of_decide_eq_true h1) ht
      · cases h
    | idx x y =>
      simp only at h
      split at h
      · simp only [Bool.and_eq_true] at h
        exact de_idx (plainIx_ok h.1.1) (M.pe X W c _ _ o h.1.2) (M.pe X W c _ _ o h.2)
      · cases h
    | slc x lo hi =>
      simp only at h
      split at h
      · simp only [Bool.and_eq_true] at h
        exact de_slc (M.pe X W c _ _ o h.1.1) (M.po o h.1.2) (M.po o h.2)
      · cases h
    | comp al ws tg it ifs elt =>
      simp only at h
      split at h
      · rename_i elt' tg' it' ifs' scope pos
        simp only [Bool.and_eq_true] at h
        obtain ⟨⟨⟨⟨⟨⟨h1, h2⟩, h3⟩, h4⟩, h5⟩, h6⟩, h7⟩ := h
        obtain ⟨hi, hf⟩ := M.it o (tg := tg') h5
        have hk := blk_kind h1
        have ok : BlkOk X.N X.env.scope scope (ownOf c.N ws) := by
          rw [o.hN, o.hsc]
          exact blkOk_by h1
        have := de_comp (al := al) (fe := fun ρ => evE (callF (dsOf S) d) n elt ρ) (ft := fun ρ => evTests (fun e => evE (callF (dsOf S) d) n e ρ) ifs) (fg := fun s v ρ => asgT s.cells tg v ρ) (inn := fun vs => tgIn vs tg) (ifs := ifs') (elt := elt') (scope := scope) (own := ownOf c.N ws) (pos := pos)
          o.fit.calm (by rw [o.hN]; exact o.nd) ok (by rw [own_map]; exact h3) hi
          (fun s H C cl fp => chkT_ok (o.blk hk s H C cl fp) tg' tg h2)
          (fun s H C cl fp => by
            have o' := o.blk hk s H C cl fp
            split at h6
            · exact ⟨fun pins s σ H Q I ⟨B, F, ι, ρ, st, R, ev, p⟩ => pts_nil.run pins s σ H Q I (p.pure R rfl)⟩
            · exact pts_one (M.pt _ _ _ _ _ o' h6)
            · cases h6)
          (fun s H C cl fp => M.pe _ _ _ _ _ (o.blk hk s H C cl fp) h7) hf
        rw [own_map] at this
        exact this
      · cases h
    | rng es => simp at h
    | call k es ws ks perm keep =>
      simp only at h
      split at h
      · rename_i x px as kws pos
        simp only [Bool.and_eq_true] at h
        obtain ⟨⟨⟨⟨⟨h1, h2⟩, h3⟩, h4⟩, h5⟩, h6⟩ := h
        split at h1
        · rename_i f hf
          have ex := eq_of_beq h1
          subst ex
          obtain ⟨a, fd, hm, hk, hlen, F, hs⟩ := o.pg.fn k f hf
          obtain ⟨⟨k', np, ks', perm'⟩, hmem, hsite⟩ := List.any_eq_true.mp h4
          simp only [Bool.and_eq_true] at hsite
          obtain ⟨⟨⟨hs1, hs2⟩, hs3⟩, hs4⟩ := hsite
          have e1 := eq_of_beq hs1
          have e2 := eq_of_beq hs2
          have e3 := eq_of_beq hs3
          have e4 := pargs_of hs4
          subst e1; subst e2; subst e3; subst e4
          obtain ⟨hl1, hns⟩ := chkL_len h5
          obtain ⟨hl2, hkn⟩ := chkKw_len h6
          refine de_call (c := fun as => callF (dsOf S) d k' as keep) F (fun B E F ι s vs as H Q R hl dd p => ⟨keep, B, F, ι, s, as, ?_, R, dd, p⟩) (fun as s hne => ?_) o.room o.fit o.tk (o.gl h2) hm hk (plain_of h3).1 (hs _ _ _ hmem) hns rfl hkn
            (M.pa o h5) (fun e ρ => ?_) (evL1 (f := fun ρ e => evE (callF (dsOf S) d) n e ρ) hl1.symm) (M.pk o h6) (fun e ρ => ?_) (evL1 (f := fun ρ e => evE (callF (dsOf S) d) n e ρ) hl2.symm)
          · rw [hl, hlen]
          · cases d with
            | zero => rfl
            | succ d =>
              have he : (dsOf S)[k']? = some f.d := by unfold dsOf; rw [List.getElem?_map, hf]; rfl
              unfold callF
              rw [he]
              simp only
              rw [if_neg]
              · rfl
              · rw [← hlen]; exact hne
          · subst e
            cases es with
            | nil => rfl
            | cons _ _ => simp at hl1
          · subst e
            cases ws with
            | nil => rfl
            | cons _ _ => cases ks' <;> simp at hl2 hkn
        · cases h1
      · cases h
    | blt b al es =>
      simp only at h
      split at h
      · simp only [Bool.and_eq_true] at h
        obtain ⟨⟨⟨h1, h2⟩, h3⟩, h4⟩ := h
        have e1 := eq_of_beq h1
        subst e1
        obtain ⟨hb1, hb2, hb3⟩ := bltN_boot b
        obtain ⟨hl, hns⟩ := chkL_len h4
        have ha := M.pa o h4
        rename_i as pos
        cases as with
        | nil => simp at h3
        | cons a as =>
          rw [List.all_cons, Bool.and_eq_true] at hns
          exact de_bltF o.fit (o.gl h2) (o.pg.bl _ (bltN_in b)) hb1 hb2 hb3 ha (star_cons hns.1) (star_any hns.2)
      · cases h
    | isi x ts =>
      simp only [Bool.and_eq_true] at h
      obtain ⟨h0, h⟩ := h
      have hty : ∀ t ∈ ts, t ∈ tyNames := fun t ht => by
        have := List.all_eq_true.mp h0 t ht
        simpa using this
      have hbl : ∀ t ∈ tyNames, X.mg (Str.ofString t) = none := fun t ht => o.pg.bl _ (by
        revert ht t
        decide +kernel)
      split at h
      · simp only [Bool.and_eq_true] at h
        obtain ⟨⟨⟨⟨h1, h2⟩, h3⟩, h4⟩, h5⟩ := h
        have e1 := eq_of_beq h1
        subst e1
        have hp := tys_ok o hbl hty h5
        cases hp with
        | cons hh hr =>
          cases hr
          obtain ⟨p, e2, ht⟩ := hh
          cases e2
          exact de_isi1 (o.gl h2) (o.pg.bl _ (by decide +kernel)) ⟨fun pins s σ H Q I q => ht.run pins s σ H Q I q⟩ (M.pe X W c _ _ o h4) h3
      · simp only [Bool.and_eq_true] at h
        obtain ⟨⟨⟨⟨⟨h1, h2⟩, h3⟩, h4⟩, h5⟩, h6⟩ := h
        have e1 := eq_of_beq h1
        subst e1
        exact de_isiN (o.gl h2) (o.pg.bl _ (by decide +kernel)) (tys_ok o hbl hty h6) (le1000 (of_decide_eq_true h5)) (M.pe X W c _ _ o h4) h3
      · cases h
    | bm m x es =>
      simp only at h
      split at h
      · split at h
        · rename_i oo nm apos as cpos
          simp only [Bool.and_eq_true] at h
          obtain ⟨⟨⟨⟨⟨⟨h1, h2⟩, h3⟩, h4⟩, h5⟩, h6⟩, h7⟩ := h
          have e1 := eq_of_beq h1
          subst e1
          obtain ⟨hl, hns⟩ := chkL_len h7
          have ha := M.pa o h7
          cases as with
          | nil => simp at h4
          | cons a as =>
            have hns' := hns
            rw [List.all_cons, Bool.and_eq_true] at hns
            refine de_join (M.pe X W c _ _ o h3) ha ?_ ?_ h6 (star_cons hns.1) (star_any hns.2)
            · cases oo <;> first | rfl | simp at h2
            · rw [few_ok hns', Bool.true_and, Bool.and_eq_true]
              exact ⟨rfl, h5⟩
        · cases h
      · cases h
  have PWall : ∀ (X : Cx) (W : WX) (c : SC) (op : BoolOp) (vs : List Expr) (p : Pos) (ce : CE), XO S sites g d W c X → chkE S sites (n + 1) c (.BoolOp op vs p) ce = true → PW X (.BoolOp op vs p) (TT1 (gsOf X g) W fun ρ => MM.bind (evE (callF (dsOf S) d) (n + 1) ce ρ) truM) := by
    intro X W c op vs p ce o h
    cases ce with
    | and x y =>
      unfold chkE at h
      simp only at h
      split at h
      · rename_i heq
        cases heq
        simp only [Bool.and_eq_true] at h
        exact PW.cast (dw_and (M.pt X W c _ _ o h.1) (pw_and1 (M.pt X W c _ _ o h.2))) fun ρ => test_and
      · rename_i heq
        cases heq
        simp only [Bool.and_eq_true] at h
        exact PW.cast (dw_and (M.pt X W c _ _ o h.1) (M.pw X W c _ _ _ _ o h.2)) fun ρ => test_and
      · cases h
    | or x y =>
      unfold chkE at h
      simp only at h
      split at h
      · rename_i heq
        cases heq
        simp only [Bool.and_eq_true] at h
        exact PW.cast (dw_or (M.pt X W c _ _ o h.1) (pw_or1 (M.pt X W c _ _ o h.2))) fun ρ => test_or
      · rename_i heq
        cases heq
        simp only [Bool.and_eq_true] at h
        exact PW.cast (dw_or (M.pt X W c _ _ o h.1) (M.pw X W c _ _ _ _ o h.2)) fun ρ => test_or
      · cases h
    | bm m x es => cases m <;> (unfold chkE at h; cases h)
    | isi x ts => rw [show chkE S sites (n + 1) c (.BoolOp op vs p) (.isi x ts) = false from Bool.and_false _] at h; cases h
    | _ => unfold chkE at h; cases h
  refine ⟨PEall, fun X W c e ce o h => ?_, PWall⟩
  have hv := PEall X W c e ce o h
  cases e with
  | BoolOp op vs p => exact pt_of_pw (PWall X W c op vs p ce o h)
  | UnaryOp op a p =>
    cases op with
    | Not =>
      cases ce with
      | not x => exact PT.cast (dt_not (M.pt X W c _ _ o h)) fun ρ => test_not
      | bm m x es => cases m <;> (unfold chkE at h; cases h)
      | isi x ts => rw [show chkE S sites (n + 1) c (.UnaryOp .Not a p) (.isi x ts) = false from Bool.and_false _] at h; cases h
      | _ => unfold chkE at h; cases h
    | _ => exact dt_truth hv fun _ => rfl
  | IfExp a b r p =>
    cases ce with
    | ite t x y =>
      have h : (chkE S sites n c a t && chkE S sites n c b x && chkE S sites n c r y) = true := h
      simp only [Bool.and_eq_true] at h
      exact PT.cast (dt_ite (M.pt X W c _ _ o h.1.1) (M.pt X W c _ _ o h.1.2) (M.pt X W c _ _ o h.2)) fun ρ => test_ite
    | bm m x es => cases m <;> (unfold chkE at h; cases h)
    | isi x ts => rw [show chkE S sites (n + 1) c (.IfExp a b r p) (.isi x ts) = false from Bool.and_false _] at h; cases h
    | _ => unfold chkE at h; cases h
  | Compare a ops bs p =>
    cases ce with
    | cmp op x y =>
      unfold chkE at h
      simp only at h
      split at h
      · rename_i heq
        cases heq
        split at h
        · simp only [Bool.and_eq_true] at h
          obtain ⟨⟨h1, h2⟩, h3⟩ := h
          split at h1
          · split at h2
            · exact dt_isN (M.pe X W c _ _ o h3)
            · cases h2
          · cases h1
        · simp only [Bool.and_eq_true] at h
          obtain ⟨⟨h1, h2⟩, h3⟩ := h
          split at h1
          · split at h2
            · exact dt_notN (M.pe X W c _ _ o h3)
            · cases h2
          · cases h1
        · rename_i hn1 hn2
          simp only [Bool.and_eq_true] at h
          obtain ⟨h1, h2⟩ := cop_of h.1.1
          subst h1
          have := dt_cmp o.fit op h2 (M.pe X W c _ _ o h.1.2) (M.pe X W c _ _ o h.2) (pos := p)
          cases op <;> first | exact this | exact absurd rfl hn1 | exact absurd rfl hn2
      · cases h
    | bm m x es => cases m <;> (unfold chkE at h; cases h)
    | isi x ts => rw [show chkE S sites (n + 1) c (.Compare a ops bs p) (.isi x ts) = false from Bool.and_false _] at h; cases h
    | _ => unfold chkE at h; cases h
  | _ => exact dt_truth hv fun _ => rfl
end
end Ev

set_option linter.all false
set_option maxRecDepth 100000
set_option maxHeartbeats 4000000
/-! EvM: statements that are checked; a def's promise. Own work. -/
namespace Ev
open PySem PySem.Spec PyProof.Rows L2

/-! ### the check -/
def anyComp : Expr → Bool
  | .ListComp .. => true | .SetComp .. => true | .DictComp .. => true | _ => false
/-- a plain local name on that row -/
def nmOf (sc : Scope) (l : Nat) : Expr → Option Str
  | .Name x p => if sc.names.lookup x == some .local && p.line == l then some x else none
  | _ => none
/-- a, b = x, y: what is stored from the right -/
def swpB (sc : Scope) (ts vs : List Expr) : Option (Option (List Str)) :=
  if (ts.length == 2 || ts.length == 3) && vs.length == ts.length then
    if vs.all notStar then
      let ns := ts.filterMap (nmOf sc ((ts.head?.map (·.pos.line)).getD 0))
      if ns.length == ts.length && ns.eraseDups.length == ns.length then
        if vs.all (foldedForSure 8) then some none
        else if vs.all (constantsAlone 8) then none
        else some (some ns)
      else some none
    else some none
  else some none
def isTupE : Expr → Bool
  | .Tuple _ _ _ => true
  | _ => false
def chkB (f : Stmt → CS → Bool) : List Stmt → List CS → Bool
  | [], [] => true
  | s :: ss, c :: cs => f s c && chkB f ss cs
  | _, _ => false
def chkIt (S : List FnS) (sites : Sites) (n : Nat) (c : SC) (it' : Expr) (it : CE) : Bool :=
  (match it with
    | .rng es => (match it' with
      | .Call f as [] _ => (match f with | .Name x _ => x == ("range" : Str) && isGlb (c.kind x) | _ => false) && (as.length == 1 || as.length == 2) && chkL (chkE S sites n c) as es
      | _ => false)
    | it => chkE S sites n c it' it)
def chkS (S : List FnS) (sites : Sites) : Nat → SC → Stmt → CS → Bool
  | 0, _, _, _ => false
  | n + 1, c, st, cs => match cs with
    | .expr e => match st with
      | .Expr a _ => !anyComp a && chkE S sites n c a e
      | _ => false
    | .ret e => match st with
      | .Return (some a) _ => chkE S sites n c a e
      | _ => false
    | .retN => match st with
      | .Return none _ => true
      | _ => false
    | .asg (.var i) e => match st with
      | .Assign [.Name x p] a _ => c.at i x && (isLoc (c.kind x) || (isCell (c.kind x) && c.fnB x)) && chkE S sites n c a e &&
        (match a with
          | .ListComp _ _ scope q => isLoc (c.kind x) && p.line == q.line && !(scope.names.any fun z => z.1 == x && (z.2 == .local || z.2 == .cell)) && (match e with | .comp .. => n != 0 | _ => false)
          | a => !anyComp a)
      | _ => false
    | .asg (.tup ts) e => match st with
      | .Assign [.Tuple es k p] a _ => chkT c (.Tuple es k p) (.tup ts) && chkE S sites n c a e &&
        (match a with
          | .Tuple as _ _ => (match swpB c.sc es as with
            | some none => true
            | some (some _) => (match e with | .tup ces => n != 0 && as.length == es.length && ces.length == as.length && (as.length == 2 || as.length == 3) | _ => false)
            | none => false)
          | a => true)
      | _ => false
    | .setIx a i e => match st with
      | .Assign [.Subscript o j _] v _ => plainIx j && chkE S sites n c o a && chkE S sites n c j i && chkE S sites n c v e
      | _ => false
    | .ifS t a b => match st with
      | .If t' a' b' _ => chkE S sites n c t' t && chkB (chkS S sites n c) a' a && chkB (chkS S sites n c) b' b
      | _ => false
    | .forS t it body => match st with
      | .For t' it' body' [] _ => chkT c t' t && chkIt S sites n c it' it && chkB (chkS S sites n c) body' body
      | _ => false

/-! ### facts of the check -/
theorem swaps_no {a : Expr} {t : Expr} {l : Nat} {env : Env} (h : anyComp a = false) : swapsWith a (some t) l env = pure false := by
  cases a <;> first | rfl | simp [anyComp] at h
theorem swaps_no0 {a : Expr} {l : Nat} {env : Env} (h : anyComp a = false) : swapsWith a none l env = pure false := by
  cases a <;> first | rfl | simp [anyComp] at h
theorem swaps_tup {a : Expr} {es k p} {l : Nat} {env : Env} : swapsWithSole [.Tuple es k p] a l env = pure false := by
  cases a <;> rfl
theorem swaps_sub {a : Expr} {o i p} {l : Nat} {env : Env} : swapsWithSole [.Subscript o i p] a l env = pure false := by
  cases a <;> rfl
theorem stores_sub {a : Expr} {o i p} {env : Env} : swappedStores [.Subscript o i p] a env = pure none := by
  unfold swappedStores
  cases a <;> rfl
theorem stores_tup {a : Expr} {es k p} {env : Env} (h : isTupE a = false) : swappedStores [.Tuple es k p] a env = pure none := by
  unfold swappedStores
  cases a <;> first | rfl | simp [isTupE] at h
def isStarB : Expr → Bool
  | .Starred _ _ => true
  | _ => false
theorem star_not {vs : List Expr} : vs.any isStarB = !vs.all notStar := by
  induction vs with
  | nil => rfl
  | cons v vs ih =>
    rw [List.any_cons, List.all_cons, ih]
    cases v <;> simp [notStar, isStarB]
theorem stores_par {ts vs : List Expr} {k p k2 p2} {env : Env} {r : Option (List Str)} (hk : env.scope.kind = .function) (h : swpB env.scope ts vs = some r) : swappedStores [.Tuple ts k p] (.Tuple vs k2 p2) env = pure r := by
  have hb : env.blockKind = .function := by unfold Env.blockKind; rw [hk]; rfl
  unfold swpB at h
  unfold swappedStores
  generalize hns : ts.filterMap (nmOf env.scope ((ts.head?.map (·.pos.line)).getD 0)) = ns at h
  show (if (!(ts.length == 2 || ts.length == 3) || vs.length != ts.length || env.blockKind != .function) = true then pure none
    else if vs.any isStarB = true then pure none
    else if ((ts.filterMap (nmOf env.scope ((ts.head?.map (·.pos.line)).getD 0))).length != ts.length || (ts.filterMap (nmOf env.scope ((ts.head?.map (·.pos.line)).getD 0))).eraseDups.length != (ts.filterMap (nmOf env.scope ((ts.head?.map (·.pos.line)).getD 0))).length) = true then pure none
    else if vs.all (foldedForSure 8) = true then pure none
    else if vs.all (constantsAlone 8) = true then (do unsupported "assign.tuple-of-constant-expressions:order-of-the-stores"; pure (some (ts.filterMap (nmOf env.scope ((ts.head?.map (·.pos.line)).getD 0)))))
    else pure (some (ts.filterMap (nmOf env.scope ((ts.head?.map (·.pos.line)).getD 0))))) = (pure r : Sem (Option (List Str)))
  rw [hns, hb, star_not]
  have neg : ∀ a b : Bool, ¬(a && b) = true → (!a || !b) = true := by decide
  by_cases h1 : ((ts.length == 2 || ts.length == 3) && vs.length == ts.length) = true
  · rw [if_pos h1] at h
    have h1' : (!(ts.length == 2 || ts.length == 3) || vs.length != ts.length || ScopeKind.function != ScopeKind.function) = false := by
      simp only [Bool.and_eq_true] at h1
      rw [h1.1, bne, h1.2]; rfl
    rw [if_neg (by rw [h1']; decide)]
    by_cases h2 : vs.all notStar = true
    · rw [if_pos h2] at h
      rw [h2, if_neg (by decide)]
      by_cases h3 : (ns.length == ts.length && ns.eraseDups.length == ns.length) = true
      · rw [if_pos h3] at h
        simp only [Bool.and_eq_true] at h3
        rw [if_neg (by rw [bne, bne, h3.1, h3.2]; decide)]
        by_cases h4 : vs.all (foldedForSure 8) = true
        · rw [if_pos h4] at h ⊢
          cases h; rfl
        · rw [if_neg h4] at h ⊢
          by_cases h5 : vs.all (constantsAlone 8) = true
          · rw [if_pos h5] at h; cases h
          · rw [if_neg h5] at h ⊢
            cases h; rfl
      · rw [if_neg h3] at h
        have h3' : (ns.length != ts.length || ns.eraseDups.length != ns.length) = true := neg _ _ h3
        rw [if_pos h3']
        cases h; rfl
    · rw [if_neg h2] at h
      rw [if_pos (by simpa using h2)]
      cases h; rfl
  · rw [if_neg h1] at h
    rw [if_pos (by rw [show (!(ts.length == 2 || ts.length == 3) || vs.length != ts.length) = true from neg _ _ h1]; rfl)]
    cases h; rfl
/-! ### statements -/
section
variable {X : Cx} {g : GN} {W : WX} {pos : Pos}
theorem ds_par3 {i j l : Nat} {x y z : Str} {a b e : Expr} {fs : AE → MM (List AV)} {px py pz pt : Pos} {kt k2 pt2} (hc : X.calm = true) (hN : X.N.Nodup) (hi : X.N[i]? = some x) (hj : X.N[j]? = some y) (hl : X.N[l]? = some z) (hij : i ≠ j) (hil : i ≠ l) (hjl : j ≠ l)
    (hx : X.env.scope.names.lookup x = some .local) (hy : X.env.scope.names.lookup y = some .local) (hz : X.env.scope.names.lookup z = some .local) (ha : PA X [a, b, e] (TA1 (gsOf X g) W fs)) (hlen : ∀ ρ s vs s', fs ρ s = .ok vs s' → vs.length = 3)
    (hw : swappedStores [.Tuple [.Name x px, .Name y py, .Name z pz] kt pt] (.Tuple [a, b, e] k2 pt2) X.env = pure (some [x, y, z]))
    (hs : swapsWithSole [.Tuple [.Name x px, .Name y py, .Name z pz] kt pt] (.Tuple [a, b, e] k2 pt2) pos.line X.env = pure false) :
    PS X (.Assign [.Tuple [.Name x px, .Name y py, .Name z pz] kt pt] (.Tuple [a, b, e] k2 pt2) pos)
      (TS1 (gsOf X g) W fun ρ s => sBind ρ (MM.bind (fs ρ) fun vs => MM.pure (AV.tup vs)) (fun v s' => match asgT s'.cells (.tup [.var i, .var j, .var l]) v ρ with | some ρ' => .next ρ' s' | none => .stuck) s) := by
  refine PS.weak (ps_par3 hc hN hi hj hl hij hil hjl hx hy hz ha hw hs) fun D σ H ⟨B, F, ι, ρ, s, R, ev, p⟩ => ?_
  have p' : PoS (gsOf X g) B W D F ι s (sBind ρ (fs ρ) (fun vs s' => match asgT s'.cells (.tup [.var i, .var j, .var l]) (.tup vs) ρ with | some ρ' => .next ρ' s' | none => .stuck) s) := by
    dsimp only at p
    unfold sBind MM.bind MM.pure at p
    unfold sBind
    revert p
    cases fs ρ s <;> exact id
  have hl' : ∀ vs s', fs ρ s = .ok vs s' → vs.length = 3 := fun vs s' h => hlen ρ s vs s' h
  refine ⟨B, F, ι, ρ, s, R, ev, ?_⟩
  unfold sBind at p'
  revert p' hl'
  cases fs ρ s with
  | exc x s1 => exact fun p' _ c d H1 F1 ι1 st R1 e => p' c d σ H1 F1 ι1 st R1 (ev.stp st) e
  | stuck => exact fun p' _ => p'
  | ok vs s1 =>
    intro p' hl' ws H1 F1 ι1 st R1 d
    have hl3 := hl' vs s1 rfl
    match vs, hl3, ws, d with
    | [v1, v2, v3], _, [w1, w2, w3], .cons d1 (.cons d2 (.cons d3 .nil)) =>
      refine ⟨_, _, _, rfl, ?_⟩
      have ev1 := ev.stp st
      simp only [asgT, asgTs] at p'
      split at p'
      · rename_i ρ' h
        split at h
        · rename_i ρ1 h1
          split at h1
          · cases h1
            split at h
            · rename_i ρ2 h2
              split at h2
              · cases h2
                split at h
                · rename_i ρ3 h3
                  split at h3
                  · cases h3; cases h
                    exact p' _ H1 F1 ι1 st R1 (((ev1.set d1).set d2).set d3)
                  · cases h3
                · cases h
              · cases h2
            · cases h
          · cases h1
        · cases h
      · exact p'.elim
end
theorem MainE.all (S : List FnS) (sites : Sites) (g : GN) (d : Nat) : ∀ n, MainE S sites g d n
  | 0 => .zero
  | n + 1 => (MainE.all S sites g d n).step
/-- a def's body as a context -/
structure XS (S : List FnS) (sites : Sites) (g : GN) (d : Nat) (W : WX) (c : SC) (X : Cx) : Prop extends XO S sites g d W c X where
  own : PassesOwn (model X.prog X.w) X.A X.env X.xe
theorem PS.cast {X : Cx} {g : GN} {W : WX} {st : Stmt} {f f' : AE → AS → SRs} (h : PS X st (TS1 (gsOf X g) W f)) (e : ∀ ρ s, f' ρ s = f ρ s) : PS X st (TS1 (gsOf X g) W f') := by
  have : f' = f := funext fun ρ => funext fun s => e ρ s
  rw [this]; exact h
theorem PSs.cast {X : Cx} {g : GN} {W : WX} {st : List Stmt} {f f' : AE → AS → SRs} (h : PSs X st (TS1 (gsOf X g) W f)) (e : ∀ ρ s, f' ρ s = f ρ s) : PSs X st (TS1 (gsOf X g) W f') := by
  have : f' = f := funext fun ρ => funext fun s => e ρ s
  rw [this]; exact h
section
variable {S : List FnS} {sites : Sites} {g : GN} {d n : Nat} {X : Cx} {W : WX} {c : SC}
theorem blk_ok (M : ∀ st cs, chkS S sites n c st cs = true → PS X st (TS1 (gsOf X g) W (evS (callF (dsOf S) d) n cs))) : ∀ {ss : List Stmt} {cs : List CS}, chkB (chkS S sites n c) ss cs = true → PSs X ss (TS1 (gsOf X g) W (evB (evS (callF (dsOf S) d) n) cs))
  | [], [], _ => dss_nil
  | s :: ss, c :: cs, h => by
    simp only [chkB, Bool.and_eq_true] at h
    exact dss_cons (M s c h.1) (blk_ok M h.2)
  | [], _ :: _, h => by simp [chkB] at h
  | _ :: _, [], h => by simp [chkB] at h
theorem loc_ok (o : XO S sites g d W c X) {x : Str} (h : (isLoc (c.kind x) || (isCell (c.kind x) && c.fnB x)) = true) : L2.Loc X.env.scope x ∧ (X.fn x = true ∨ X.env.scope.names.lookup x = some .local) := by
  rw [o.hsc, o.hfn]
  simp only [Bool.or_eq_true, Bool.and_eq_true] at h
  rcases h with h | h
  · exact ⟨.inl (loc_of h), .inr (loc_of h)⟩
  · exact ⟨.inr (cell_of' h.1), .inl h.2⟩
theorem folded_tup {ts vs : List Expr} {sc : Scope} {ns : List Str} (h : swpB sc ts vs = some (some ns)) : ns = ts.filterMap (nmOf sc ((ts.head?.map (·.pos.line)).getD 0)) ∧ ns.length = ts.length ∧ ns.eraseDups.length = ns.length := by
  unfold swpB at h
  split at h
  · split at h
    · simp only at h
      split at h
      · rename_i h3
        split at h
        · cases h
        · split at h
          · cases h
          · cases h
            simp only [Bool.and_eq_true] at h3
            exact ⟨rfl, eq_of_beq h3.1, eq_of_beq h3.2⟩
      · cases h
    · cases h
  · cases h
theorem nm_some {sc : Scope} {l : Nat} {e : Expr} {x : Str} (h : nmOf sc l e = some x) : ∃ p, e = .Name x p ∧ sc.names.lookup x = some .local := by
  unfold nmOf at h
  split at h
  · split at h
    · rename_i hc
      cases h
      simp only [Bool.and_eq_true] at hc
      exact ⟨_, rfl, eq_of_beq hc.1⟩
    · cases h
  · cases h
theorem comp_facts {m : Nat} (M : MainE S sites g d m) (o : XO S sites g d W c X) {elt' : Expr} {gs : List Comprehension} {scope : Scope} {pos : Pos} {al ws tg it ifs elt} (h : chkE S sites (m + 1) c (.ListComp elt' gs scope pos) (.comp al ws tg it ifs elt) = true) :
    ∃ tg' it' ifs', gs = [⟨tg', it', ifs', 0⟩] ∧ BlkOk X.N X.env.scope scope (ownOf c.N ws) ∧ tgIn ws tg = true ∧ PI X tg' it' (TI1 (gsOf X g) W fun ρ => evI (fun e => evE (callF (dsOf S) d) m e ρ) it) ∧ (∀ x, foldedSetIterable it' X.env x = pure x) ∧
      (∀ (s : Shared) (H : Hp) (C : Addr) (cl : List (Str × Addr)) (fp : List Addr), PG (X.blk s H scope (compEnvC scope cl C X.env) fp) tg' (TG1 (gsOf X g) (fun s v ρ => asgT s.cells tg v ρ) (fun vs => tgIn vs tg))) ∧
      (∀ (s : Shared) (H : Hp) (C : Addr) (cl : List (Str × Addr)) (fp : List Addr), PTs (X.blk s H scope (compEnvC scope cl C X.env) fp) ifs' (TT1 (gsOf X g) W0 fun ρ => evTests (fun e => evE (callF (dsOf S) d) m e ρ) ifs)) ∧
      ∀ (s : Shared) (H : Hp) (C : Addr) (cl : List (Str × Addr)) (fp : List Addr), PE (X.blk s H scope (compEnvC scope cl C X.env) fp) elt' (TE1 (gsOf X g) W0 fun ρ => evE (callF (dsOf S) d) m elt ρ) := by
  unfold chkE at h
  simp only at h
  split at h
  · rename_i heq
    cases heq
    simp only [Bool.and_eq_true] at h
    obtain ⟨⟨⟨⟨⟨⟨h1, h2⟩, h3⟩, h4⟩, h5⟩, h6⟩, h7⟩ := h
    have hk := blk_kind h1
    have hi := fun tg => M.it o (tg := tg) h5
    refine ⟨_, _, _, rfl, ?_, h3, (hi _).1, (hi (.Name "x" pos)).2, fun s H C cl fp => chkT_ok (o.blk hk s H C cl fp) _ tg h2, fun s H C cl fp => ?_, fun s H C cl fp => M.pe _ _ _ _ _ (o.blk hk s H C cl fp) h7⟩
    · rw [o.hN, o.hsc]
      exact blkOk_by h1
    · have o' := o.blk hk s H C cl fp
      split at h6
      · exact ⟨fun pins s σ H Q I ⟨B, F, ι, ρ, st, R, ev, p⟩ => pts_nil.run pins s σ H Q I (p.pure R rfl)⟩
      · exact pts_one (M.pt _ _ _ _ _ o' h6)
      · cases h6
  · cases h
theorem fm_all {α β : Type} {f : α → Option β} : ∀ {ts : List α}, (ts.filterMap f).length = ts.length → ∀ x ∈ ts, ∃ y, f x = some y
  | [], _, x, hx => absurd hx (by simp)
  | t :: ts, h, x, hx => by
    have hle := List.length_filterMap_le f ts
    cases e : f t with
    | none => rw [List.filterMap_cons_none e] at h; simp at h; omega
    | some y =>
      rw [List.filterMap_cons_some e] at h
      rcases List.mem_cons.mp hx with r | r
      · subst r; exact ⟨y, e⟩
      · exact fm_all (ts := ts) (by simpa using h) x r
theorem par_one (o : XO S sites g d W c X) {e : Expr} {t : Tg} {l : Nat} (h : chkT c e t = true) (hn : ∃ y, nmOf c.sc l e = some y) : ∃ x p i, e = .Name x p ∧ t = .var i ∧ X.N[i]? = some x ∧ X.env.scope.names.lookup x = some .local ∧ nmOf c.sc l e = some x := by
  obtain ⟨y, hy⟩ := hn
  obtain ⟨p, rfl, hl⟩ := nm_some hy
  cases t with
  | tup _ => simp [chkT] at h
  | var i =>
    simp only [chkT, Bool.and_eq_true] at h
    exact ⟨y, p, i, rfl, rfl, o.ix h.1, by rw [o.hsc]; exact hl, hy⟩
theorem ix_ne {N : List Str} {i j : Nat} {x y : Str} (h1 : N[i]? = some x) (h2 : N[j]? = some y) (h : x ≠ y) : i ≠ j := fun e => by
  subst e
  rw [h1] at h2
  exact h (Option.some.inj h2)
theorem nd3 {x y z : Str} (h : [x, y, z].eraseDups.length = [x, y, z].length) : x ≠ y ∧ x ≠ z ∧ y ≠ z := by
  by_cases h1 : y = x <;> by_cases h2 : z = x <;> by_cases h3 : z = y <;> simp_all [List.eraseDups_cons, List.filter_cons]
  all_goals exact ⟨fun e => h1 e.symm, fun e => h2 e.symm, fun e => h3 e.symm⟩
theorem par_names (o : XO S sites g d W c X) {es : List Expr} {ts : List Tg} {ns : List Str} (h : chkTs c es ts = true) (e1 : ns = es.filterMap (nmOf c.sc ((es.head?.map (·.pos.line)).getD 0))) (e2 : ns.length = es.length) (e3 : ns.eraseDups.length = ns.length) : True ∧
    (es.length = 2 → ∃ x y px py i j, es = [.Name x px, .Name y py] ∧ ts = [.var i, .var j] ∧ ns = [x, y] ∧ X.N[i]? = some x ∧ X.N[j]? = some y ∧ X.env.scope.names.lookup x = some .local ∧ X.env.scope.names.lookup y = some .local ∧ i ≠ j) ∧
    (es.length = 3 → ∃ x y z px py pz i j l, es = [.Name x px, .Name y py, .Name z pz] ∧ ts = [.var i, .var j, .var l] ∧ ns = [x, y, z] ∧ X.N[i]? = some x ∧ X.N[j]? = some y ∧ X.N[l]? = some z ∧ X.env.scope.names.lookup x = some .local ∧ X.env.scope.names.lookup y = some .local ∧ X.env.scope.names.lookup z = some .local ∧ i ≠ j ∧ i ≠ l ∧ j ≠ l) := by
  generalize (es.head?.map (·.pos.line)).getD 0 = l at e1
  have hall := fm_all (f := nmOf c.sc l) (ts := es) (by rw [← e1, e2])
  refine ⟨trivial, fun hl => ?_, fun hl => ?_⟩
  · match es, ts, hl, h with
    | [a, b], [t, u], _, h =>
      simp only [chkTs, Bool.and_eq_true] at h
      obtain ⟨x, px, i, rfl, rfl, hi, hx, n1⟩ := par_one o h.1.2 (hall a (by simp))
      obtain ⟨y, py, j, rfl, rfl, hj, hy, n2⟩ := par_one o h.2.1.2 (hall b (by simp))
      have hns : ns = [x, y] := by rw [e1, List.filterMap_cons_some n1, List.filterMap_cons_some n2]; rfl
      subst hns
      refine ⟨x, y, px, py, i, j, rfl, rfl, rfl, hi, hj, hx, hy, ix_ne hi hj fun e => ?_⟩
      subst e
      simp [List.eraseDups_cons] at e3
    | [_, _], [], _, h => simp [chkTs] at h
    | [_, _], [_], _, h => simp [chkTs] at h
    | [_, _], _ :: _ :: _ :: _, _, h => simp [chkTs] at h
  · match es, ts, hl, h with
    | [a, b, d], [t, u, v], _, h =>
      simp only [chkTs, Bool.and_eq_true] at h
      obtain ⟨x, px, i, rfl, rfl, hi, hx, n1⟩ := par_one o h.1.2 (hall a (by simp))
      obtain ⟨y, py, j, rfl, rfl, hj, hy, n2⟩ := par_one o h.2.1.2 (hall b (by simp))
      obtain ⟨z, pz, m, rfl, rfl, hm, hz, n3⟩ := par_one o h.2.2.1.2 (hall d (by simp))
      have hns : ns = [x, y, z] := by rw [e1, List.filterMap_cons_some n1, List.filterMap_cons_some n2, List.filterMap_cons_some n3]; rfl
      subst hns
      have nd : x ≠ y ∧ x ≠ z ∧ y ≠ z := by
        exact nd3 e3
      exact ⟨x, y, z, px, py, pz, i, j, m, rfl, rfl, rfl, hi, hj, hm, hx, hy, hz, ix_ne hi hj nd.1, ix_ne hi hm nd.2.1, ix_ne hj hm nd.2.2⟩
    | [_, _, _], [], _, h => simp [chkTs] at h
    | [_, _, _], [_], _, h => simp [chkTs] at h
    | [_, _, _], [_, _], _, h => simp [chkTs] at h
    | [_, _, _], _ :: _ :: _ :: _ :: _, _, h => simp [chkTs] at h
theorem MainS (o : XS S sites g d W c X) : ∀ n st cs, chkS S sites n c st cs = true → PS X st (TS1 (gsOf X g) W (evS (callF (dsOf S) d) n cs))
  | 0, _, _, h => by simp [chkS] at h
  | n + 1, st, cs, h => by
    have M := MainE.all S sites g d n
    have ih := MainS o n
    have hk : X.env.scope.kind = .function := by rw [o.hsc]; exact o.kind
    cases cs with
    | expr e =>
      simp only [chkS] at h
      split at h
      · simp only [Bool.and_eq_true, Bool.not_eq_true'] at h
        exact ds_expr (M.pe X W c _ _ o.toXO h.2) (swaps_no0 h.1)
      · cases h
    | ret e =>
      simp only [chkS] at h
      split at h
      · exact ds_ret (M.pe X W c _ _ o.toXO h)
      · cases h
    | retN =>
      simp only [chkS] at h
      split at h
      · exact ds_retN
      · cases h
    | asg t e =>
      cases t with
      | var i =>
        simp only [chkS] at h
        split at h
        · rename_i x p a q
          simp only [Bool.and_eq_true] at h
          obtain ⟨⟨⟨h1, h2⟩, h3⟩, h4⟩ := h
          obtain ⟨l1, l2⟩ := loc_ok o.toXO h2
          have hnd : X.N.Nodup := by rw [o.hN]; exact o.nd
          split at h4
          · rename_i elt' gs scope q'
            simp only [Bool.and_eq_true] at h4
            obtain ⟨⟨⟨h41, h42⟩, h43⟩, h44⟩ := h4
            split at h44
            · rename_i al ws tg it ifs elt
              cases n with
              | zero => cases h44
              | succ n =>
                obtain ⟨tg', it', ifs', rfl, ok, hin, hi, hf, hg, ht, he⟩ := comp_facts (MainE.all S sites g d n) o.toXO h3
                have hl : X.env.scope.names.lookup x = some .local := by rw [o.hsc]; exact loc_of h41
                have hsw : swapsWith (.ListComp elt' [⟨tg', it', ifs', 0⟩] scope q') (some (.Name x p)) q.line X.env = pure true := sw_true hk hl h42 (by simpa using h43)
                have := ds_setLc (al := al) o.fit.calm hnd (o.ix h1) hl hsw ok (by rw [own_map]; exact hin) hi hg ht he hf
                rw [own_map] at this
                exact ds_setLc' this
            · cases h44
          · exact ds_set hnd (o.ix h1) l1 (M.pe X W c _ _ o.toXO h3) (swaps_no (by simpa using h4)) l2
        · cases h
      | tup ts =>
        simp only [chkS] at h
        split at h
        · rename_i es k p a q
          simp only [Bool.and_eq_true] at h
          obtain ⟨⟨h1, h2⟩, h3⟩ := h
          have hg := chkT_ok o.toXO _ _ h1
          split at h3
          · rename_i as k2 p2
            split at h3
            · rename_i hs
              rw [← o.hsc] at hs
              exact ds_asg (M.pe X W c _ _ o.toXO h2) hg swaps_tup (stores_par hk hs) rfl
            · rename_i ns hs
              split at h3
              · rename_i ces
                simp only [Bool.and_eq_true] at h3
                obtain ⟨⟨⟨h31, h32⟩, h33⟩, h34⟩ := h3
                obtain ⟨e1, e2, e3⟩ := folded_tup hs
                rw [← o.hsc] at hs
                have hw := stores_par (k := k) (p := p) (k2 := k2) (p2 := p2) hk hs
                cases n with
                | zero => cases h31
                | succ n =>
                have M' := MainE.all S sites g d n
                have hpa : chkL (chkE S sites n c) as ces = true := by
                  have h2 : (decide (as.length ≤ 1000) && chkL (chkE S sites n c) as ces) = true := h2
                  simp only [Bool.and_eq_true] at h2
                  exact h2.2
                have ha := M'.pa o.toXO hpa
                have hlen := evL1 (f := fun ρ e => evE (callF (dsOf S) d) n e ρ) (cs := ces) rfl
                have hnd : X.N.Nodup := by rw [o.hN]; exact o.nd
                have h32 := eq_of_beq h32
                have h33 := eq_of_beq h33
                have h1 : chkTs c es ts = true := by simpa only [chkT] using h1
                obtain ⟨q1, q2, q3⟩ := par_names o.toXO h1 e1 e2 e3
                rcases Bool.or_eq_true _ _ ▸ h34 with h34 | h34
                · have h34 := eq_of_beq h34
                  obtain ⟨x, y, px, py, i, j, rfl, rfl, rfl, hi, hj, hx, hy, hij⟩ := q2 (by omega)
                  match as, h34 with
                  | [a, b], _ =>
                    exact ds_par o.fit.calm hnd hi hj hij hx hy ha (fun ρ s vs s' h => by rw [hlen ρ s vs s' h, h33]; rfl) hw swaps_tup
                · have h34 := eq_of_beq h34
                  obtain ⟨x, y, z, px, py, pz, i, j, l, rfl, rfl, rfl, hi, hj, hl, hx, hy, hz, hij, hil, hjl⟩ := q3 (by omega)
                  match as, h34 with
                  | [a, b, e], _ =>
                    exact ds_par3 o.fit.calm hnd hi hj hl hij hil hjl hx hy hz ha (fun ρ s vs s' h => by rw [hlen ρ s vs s' h, h33]; rfl) hw swaps_tup
              · cases h3
            · cases h3
          · rename_i hno
            refine ds_asg (M.pe X W c _ _ o.toXO h2) hg swaps_tup (stores_tup ?_) rfl
            cases a <;> first | rfl | exact absurd rfl (hno _ _ _)
        · cases h
    | setIx a i e =>
      simp only [chkS] at h
      split at h
      · rename_i o' j tp v p
        simp only [Bool.and_eq_true] at h
        obtain ⟨⟨⟨h1, h2⟩, h3⟩, h4⟩ := h
        refine ds_setIx (M.pe X W c _ _ o.toXO h2) (M.pe X W c _ _ o.toXO h3) (M.pe X W c _ _ o.toXO h4) (fun v => ?_) swaps_sub stores_sub rfl
        unfold assign
        cases j <;> first | rfl | simp [plainIx] at h1
      · cases h
    | ifS t a b =>
      simp only [chkS] at h
      split at h
      · simp only [Bool.and_eq_true] at h
        exact ds_if (M.pt X W c _ _ o.toXO h.1.1) (blk_ok ih h.1.2) (blk_ok ih h.2)
      · cases h
    | forS t it body =>
      simp only [chkS] at h
      split at h
      · rename_i t' it' body' p
        simp only [Bool.and_eq_true] at h
        obtain ⟨⟨h1, h2⟩, h3⟩ := h
        obtain ⟨hi, hf⟩ := M.it (tg := t') o.toXO (it := it) (it' := it') h2
        refine PS.cast (ds_for o.own o.fit.calm hi (chkT_ok o.toXO _ _ h1) (blk_ok ih h3) hf) fun ρ s => ?_
        show sBind ρ (evI (fun e => evE (callF (dsOf S) d) n e ρ) it) _ s = sBind ρ (evI (fun e => evE (callF (dsOf S) d) n e ρ) it) _ s
        congr 1
        funext src s'
        cases src <;> rfl
      · cases h
end
end Ev

set_option linter.all false
set_option maxRecDepth 100000
set_option maxHeartbeats 4000000
/-! EvN: a def by its core; all defs at every depth; a law from its core. Own work. -/
namespace Ev
open PySem PySem.Spec PyProof.Rows L2

section
variable {P : Program} {w : World} {K : PySem.W.Frag} {mg : Str → Option Value} {base : Heap}
/-- a def by its body, where the guards are known -/
theorem fnG_body {k : Nat} {f : Addr} {nm qn : Str} {prm : Arguments} {bd : List Stmt} {sc : Scope} {dV kV doc pm cdv ct oc : Value} {an od : Option Addr} {osl : Array (Option Value)} {N ps : List Str} {sp : Sp}
    (lk : K.lookup f = some ⟨oc, od, .func (PySem.W.fnOf nm qn prm bd sc dV kV doc pm an cdv ct), osl⟩) (hcd : PySem.W.codeIn K cdv qn = true) (S : FnScope N ps sc) (len : ∀ vs H Q E, sp vs H Q E → vs.length = ps.length)
    (run : ∀ (A : Around) (outer : List Env) (s : Shared) (H : Hp) (vs : List V) (Q : VK) (E : XK), Room k (A.deeper (envOfC qn sc s.heap.objs.size f cdv)) → (A.deeper (envOfC qn sc s.heap.objs.size f cdv)).guards = some [] → sp vs H Q E →
      ∃ t, PSs (cxOf (L2.CX P w) P w K mg base N qn sc f cdv A outer s H E) bd t ∧ t { nx := fun _ H' => Q .non H', rt := Q } (start N vs) H) :
    FnG P w K mg base (k + 1) f (PySem.W.fnOf nm qn prm bd sc dV kV doc pm an cdv ct) ps sp := by
  refine ⟨len, fun A outer s H args us vs Q E rm gd e0 hb r hs => ?_⟩
  have lv := len _ _ _ _ hs
  have inK : K.In s.heap := e0.mod.kin.keeps fun b o e => (e0.bs b o e).1
  have nolim : s.heap.NoLimit := e0.mod.nolimit.keeps fun b o e => (e0.bs b o e).1
  have kinds : ∀ y ∈ ps.zip us, sc.names.lookup y.1 = some .local ∨ (sc.names.lookup y.1 = some .cell ∧ ((cellsFrom (s.heap.objs.size + 1) sc.names []).lookup y.1).isSome = true) := by
    rintro ⟨x, u⟩ hy
    rcases S.par x (List.of_mem_zip hy).1 with q | q
    · exact Or.inl q
    · exact Or.inr ⟨q, PySem.W.cellsFrom_some _ _ _ (Or.inl q)⟩
  refine codeAny_call_function rm.depth (inK _ _ lk) rfl S.co S.gen rfl (PySem.W.codeRec_of inK hcd) (hb _ _ _ _ (wpAny_newFunctionEnv_cells S.kind kinds fun env he s1 x => ?_))
  subst he
  refine ⟨nolim.keeps x.toInCall.keep, codeAny_func ?_⟩
  obtain ⟨t, ht, q⟩ := run A outer s H vs Q E (rm.deeper _) gd hs
  have J := inv_start (CX := L2.CX P w) (E := E) S rm.hd e0 lv r x
  refine wpAny_mono (ht.run [] s1 (start N vs) H _ J q) (fun fl s' hf => ?_) fun e s' he => he
  have done : ∀ {σ' : L2.St} {H' : Hp} {v : V} {u : Value}, Inv (cxOf (L2.CX P w) P w K mg base N qn sc f cdv A outer s H E) [] σ' H' s' → RelV v u → Q v H' → L2.CE outer P w H s Q u s' :=
    fun I2 rv qv => ⟨_, _, I2.os, I2.bare, I2.base, I2.hok, rv, qv⟩
  match fl, hf with
  | .ret u, ⟨v, σ', H', I2, rv, qv⟩ => exact done I2 rv qv
  | .next, ⟨σ', H', I2, qv⟩ => exact done (v := V.non) (u := Value.none) I2 rfl qv
  | .brk, ⟨_, _, _, qv⟩ => exact False.elim qv
  | .cont, ⟨_, _, _, qv⟩ => exact False.elim qv
end

/-! ### a def of the text -/
def isFn : ScopeKind → Bool
  | .function => true
  | _ => false
def chkFn (S : List FnS) (sites : Sites) (f : FnS) : Bool :=
  isFn (defScope f.st).kind && !(defScope f.st).isCoroutine && !(defScope f.st).isGenerator && decide f.N.Nodup && decide (f.d.nps ≤ f.N.length) && f.d.nsl == f.N.length &&
    ((f.N.take f.d.nps).all fun x => isLoc ((defScope f.st).names.lookup x) || isCell ((defScope f.st).names.lookup x)) && ((defScope f.st).names.all fun y => !(y.2 == .free)) &&
    chkB (chkS S sites FU ⟨f.N, defScope f.st, fun _ => true⟩) (defBody f.st) f.d.body
structure DefIs (K : PySem.W.Frag) (f : FnS) (a : Addr) (fd : FuncData) : Prop where
  ex : ∃ (oc : Value) (od : Option Addr) (dV kV doc pm : Value) (an : Option Addr) (cdv ct : Value) (osl : Array (Option Value)),
    fd = PySem.W.fnOf f.d.name f.d.name (defArgs f.st) (defBody f.st) (defScope f.st) dV kV doc pm an cdv ct ∧ K.lookup a = some ⟨oc, od, .func fd, osl⟩ ∧ PySem.W.codeIn K cdv f.d.name = true
theorem isFn_of {k : ScopeKind} (h : isFn k = true) : k = .function := by
  unfold isFn at h
  split at h
  · rfl
  · cases h
theorem scope_of {S : List FnS} {sites : Sites} {f : FnS} (h : chkFn S sites f = true) : FnScope f.N (f.N.take f.d.nps) (defScope f.st) ∧ (f.N.take f.d.nps).length = f.d.nps ∧ f.d.nsl = f.N.length ∧ chkB (chkS S sites FU ⟨f.N, defScope f.st, fun _ => true⟩) (defBody f.st) f.d.body = true := by
  unfold chkFn at h
  simp only [Bool.and_eq_true, Bool.not_eq_true'] at h
  obtain ⟨⟨⟨⟨⟨⟨⟨⟨h1, h2⟩, h3⟩, h4⟩, h5⟩, h6⟩, h7⟩, h8⟩, h9⟩ := h
  have hl : (f.N.take f.d.nps).length = f.d.nps := by rw [List.length_take]; exact Nat.min_eq_left (of_decide_eq_true h5)
  refine ⟨⟨isFn_of h1, h2, h3, of_decide_eq_true h4, by rw [hl], fun x hx => ?_, fun y hy e => ?_⟩, hl, eq_of_beq h6, h9⟩
  · have := List.all_eq_true.mp h7 x hx
    rw [Bool.or_eq_true] at this
    rcases this with h | h
    · exact .inl (loc_of h)
    · exact .inr (cell_of' h)
  · have := List.all_eq_true.mp h8 y hy
    rw [e] at this
    exact absurd this (by decide)

section
variable {S : List FnS} {sites : Sites} {g : GN} {P : Program} {w : World} {K : PySem.W.Frag} {mg : Str → Option Value} {base : Heap}
theorem env_start {G : GS} {F : Hp} {ι : List Addr} {N : List Str} {vs : List V} {as : List AV} {n : Nat} (r : DenAll G F ι vs as) (hn : n = N.length) : EnvR G F ι (L2.start N vs) (as.map some ++ List.replicate (n - as.length) none) := by
  have hl := r.length
  unfold L2.start
  refine ⟨by simp [hl, hn], fun i x h => ?_⟩
  by_cases hi : i < as.length
  · rw [List.getElem?_append_left (by simpa using hi), List.getElem?_map] at h
    rw [List.getElem?_append_left (by rw [List.length_map, hl]; exact hi), List.getElem?_map]
    cases e : as[i]? with
    | none => rw [e] at h; cases h
    | some a =>
      rw [e] at h; cases h
      obtain ⟨v, hv, d⟩ := r.get e
      exact ⟨v, by rw [hv]; rfl, d⟩
  · rw [List.getElem?_append_right (by simpa using hi), List.getElem?_replicate] at h
    split at h <;> cases h
theorem un_of {k : Nat} {A : Around} (r : Room k A) : A.units + 100 < cLine := by have := r.un; omega
theorem dp_of {k : Nat} {A : Around} (r : Room k A) : A.depth < recursionLimit := by have := r.dp; omega
theorem fn_zero {f : FnS} {k : Nat} {a : Addr} {fd : FuncData} (hl : (f.N.take f.d.nps).length = f.d.nps) : FnG P w K mg base (lv 0) a fd (f.N.take f.d.nps) (spF ⟨K, g.fnA, g.clA⟩ (dsOf S) 0 k f.d.nps) :=
  ⟨fun vs H Q E ⟨_, _, _, _, _, _, h, _⟩ => by rw [h, hl], fun _ _ _ _ _ _ _ _ _ _ _ _ _ _ ⟨_, _, _, _, _, _, _, _, _, h⟩ => h.elim⟩
theorem fn_succ {d k : Nat} {f : FnS} {a : Addr} {fd : FuncData} (hf : S[k]? = some f) (hc : chkFn S sites f = true) (D : DefIs K f a fd) (pg : ProgOk S sites g d P w K mg base) :
    FnG P w K mg base (lv (d + 1)) a fd (f.N.take f.d.nps) (spF ⟨K, g.fnA, g.clA⟩ (dsOf S) (d + 1) k f.d.nps) := by
  obtain ⟨sc, hl, hns, hb⟩ := scope_of hc
  obtain ⟨oc, od, dV, kV, doc, pm, an, cdv, ct, osl, rfl, lk, hcd⟩ := D.ex
  refine fnG_body (k := 3 * d + 3) lk hcd sc (fun vs H Q E ⟨_, _, _, _, _, _, h, _⟩ => by rw [h, hl]) fun A outer s H vs Q E rm gd ⟨keep, B, F, ι, st, as, h1, R, r, p⟩ => ?_
  have hlen := r.length
  have o : XS S sites g d (fun cls dd _ H => E cls dd H) ⟨f.N, defScope f.st, fun _ => true⟩ (cxOf (L2.CX P w) P w K mg base f.N f.d.name (defScope f.st) a cdv A outer s H E) := {
    fit := ⟨rfl, un_of rm, gd, dp_of rm⟩
    hN := rfl
    hsc := rfl
    hfn := rfl
    nd := sc.nd
    kind := sc.kind
    tk := L2.takes_of (E := E) rfl rfl rfl rfl
    room := rm.mono (by unfold lv; omega)
    pg := pg
    own := passes_of rfl }
  refine ⟨_, blk_ok (MainS o FU) hb, B, F, ι, as.map some ++ List.replicate (f.d.nsl - f.d.nps) none, { cells := st.cells, opn := false }, ⟨R.sub, R.out, R.len, R.nd, R.here, R.cell⟩, ?_, ?_⟩
  · have := env_start (N := f.N) r hns
    rw [← hlen, h1] at this
    exact this
  · refine leave_ok R.len R.refs (keep := keep) ?_
    have he : (dsOf S)[k]? = some f.d := by unfold dsOf; rw [List.getElem?_map, hf]; rfl
    unfold callF at p
    rw [he] at p
    simp only at p
    rw [if_pos (by rw [← hlen, h1])] at p
    exact p
/-- the whole program, at every depth -/
theorem prog_all (h : ∀ k f, S[k]? = some f → chkFn S sites f = true ∧ ∃ a fd, mg f.d.name = some (.ref a) ∧ PySem.W.keepIn K (.ref a) = true ∧ DefIs K f a fd ∧ ∀ np ks perm, (k, np, ks, perm) ∈ sites → SiteOk K fd (f.N.take f.d.nps) np ks perm)
    (hb : ∀ x ∈ bltNames, mg x = none) : ∀ d, ProgOk S sites g d P w K mg base
  | 0 => ⟨fun k f hf => by
      obtain ⟨hc, a, fd, h1, h2, h3, h4⟩ := h k f hf
      obtain ⟨_, hl, _, _⟩ := scope_of hc
      exact ⟨a, fd, h1, h2, hl, fn_zero hl, h4⟩, hb⟩
  | d + 1 => ⟨fun k f hf => by
      obtain ⟨hc, a, fd, h1, h2, h3, h4⟩ := h k f hf
      obtain ⟨_, hl, _, _⟩ := scope_of hc
      exact ⟨a, fd, h1, h2, hl, fn_succ hf hc h3 (prog_all h hb d), h4⟩, hb⟩
end

/-! ### a law's call -/
section
variable {P : Program} {w : World} {K : PySem.W.Frag} {mg mb : Str → Option Value} {k : Nat} {fa a : Addr} {fd : FuncData} {x : Str} {sp : Sp} {t : Shared} {vs : List Value} {ns : List Int}
/-- the law's def, called at a heap where only the script may be tracked -/
theorem call_at {H : Hp} (inK : K.In t.heap) (nsM : t.heap.Ns mainGlobals mg) (nsB : t.heap.Ns builtinsNs mb) (isB : ∀ x : Str, x ≠ "__name__" → mb x = bootBuiltins x) (noL : t.heap.NoLimit) (noG : t.gens = #[])
    (lst : t.heap.get? a = some { cls := .type "list", data := .seq vs.toArray }) (room : Room k callerA)
    (F : ∀ b : Heap, K.In b → b.Ns mainGlobals mg → FnG P w K mg b k fa fd [x] sp) (bnd : BindsTo t fd ⟨[.ref a], []⟩ [(x, .ref a)])
    (q : sp [.ref a] H (fun v _ => v = .bl true) fun _ _ _ => False) (only : L2.Only H) (ok : HOk P w H t.heap) (hA : ∀ b, H b ≠ none → b = a) (hK : H a ≠ none → K.lookup a = none) :
    codeAny (model P w) callerA (.call (.ref fa) ⟨[.ref a], []⟩) (fun r u => r = .ok (.ret (.bool true)) ∧ OldK t.heap u.heap ∧ u.os = t.os ∧ AllBare u.gens) t := by
  have untr : ∀ {b : Addr} {o : Obj}, t.heap.get? b = some o → (b = a → H a = none) → H b = none := fun {b o} e z => by
    cases hb : H b with
    | none => rfl
    | some y =>
      have eb : b = a := hA b (by rw [hb]; exact fun z => nomatch z)
      rw [← hb, eb]; exact z eb
  have notD : ∀ {b : Addr} {o : Obj} {es : Array DictEntry} {n : Nat}, t.heap.get? b = some o → o.data = .dict es n → H b = none := fun {b o es n} e d => untr e fun z => by
    subst z
    rw [lst] at e; cases e
    exact absurd (show Data.seq vs.toArray _ = Data.dict es n from d) (fun z => nomatch z)
  have ns' : ∀ {b : Addr} {m : Str → Option Value}, t.heap.Ns b m → (hidT t.heap H).Ns b m := fun ⟨o, es, n, e, d, r⟩ => ⟨o, es, n, hidT_get e (notD e d), d, r⟩
  have inK' : K.In (hidT t.heap H) := fun b o e => hidT_get (inK b o e) (untr (inK b o e) fun z => by
    subst z
    cases hb : H b with
    | none => rfl
    | some y => rw [hK (by rw [hb]; exact fun z => nomatch z)] at e; cases e)
  have e0 : Env0 P w K mg (hidT t.heap H) callerA [] t H :=
    ⟨rfl, ⟨inK', ns' nsM, ⟨mb, ns' nsB, isB⟩, let ⟨mc, z1, z2⟩ := noL; ⟨mc, ns' z1, z2⟩⟩, fun b o e => of_hidT e, Nat.le_of_eq (hidT_size _ _), trivial, fun b hb => (nomatch hb), ok, AllBare.of_eq noG⟩
  refine codeAny_mono ((F _ inK' (ns' nsM)).run callerA [] t H ⟨[.ref a], []⟩ [.ref a] [.ref a] _ _ room rfl e0 bnd (.cons rfl .nil) q) fun r u h => ?_
  match r, h with
  | .error e, ⟨_, _, _, _, _, _, _, _, _, _, _, _, z⟩ => exact z.elim
  | .ok .next, h => exact False.elim h
  | .ok .brk, h => exact False.elim h
  | .ok .cont, h => exact False.elim h
  | .ok (.ret y), ⟨v, H', h1, h2, un, ok', rv, qv⟩ =>
    subst qv
    cases rv
    refine ⟨rfl, OldK.of_keep fun b o e => ?_, h1, h2⟩
    rcases only b with z | ⟨ob, xs, z⟩
    · exact un.keep b o e z (fun z => nomatch z) (fun z => nomatch z)
    · have c1 := (ok b _ z).1
      have c2 := (ok' b _ (un.frzs b ob _ z)).1
      rw [e] at c1; cases c1
      exact c2
/-- .. wherever the script stands -/
theorem call_law (inK : K.In t.heap) (nsM : t.heap.Ns mainGlobals mg) (nsB : t.heap.Ns builtinsNs mb) (isB : ∀ x : Str, x ≠ "__name__" → mb x = bootBuiltins x) (noL : t.heap.NoLimit) (noG : t.gens = #[])
    (lst : t.heap.get? a = some { cls := .type "list", data := .seq vs.toArray }) (hi : IntsAre vs ns) (hz : ns.length ≤ sizeLine) (room : Room k callerA)
    (F : ∀ b : Heap, K.In b → b.Ns mainGlobals mg → FnG P w K mg b k fa fd [x] sp) (bnd : BindsTo t fd ⟨[.ref a], []⟩ [(x, .ref a)])
    (q : ∀ H : Hp, L2.Only H → SqL K H a (ns.map V.int) → sp [.ref a] H (fun v _ => v = .bl true) fun _ _ _ => False) :
    codeAny (model P w) callerA (.call (.ref fa) ⟨[.ref a], []⟩) (fun r u => r = .ok (.ret (.bool true)) ∧ OldK t.heap u.heap ∧ u.os = t.os ∧ AllBare u.gens) t := by
  have rv : Vals (ns.map V.int) vs := vals_ints hi
  have ln := hi.length
  cases hk : K.lookup a with
  | some o =>
    have e := inK a o hk
    rw [lst] at e; cases e
    have on : L2.Only fun _ => none := fun _ => .inl rfl
    exact call_at inK nsM nsB isB noL noG lst room F bnd (q _ on (.inr ⟨_, vs.toArray, _, hk, rfl, rfl, rfl, by rw [List.size_toArray, ln]; exact hz, by simpa using rv⟩)) on (fun b y z => nomatch z) (fun b z => absurd rfl z) fun z => absurd rfl z
  | none =>
    have sel : ∀ b, b = a ∨ (fun b => if b = a then some (HO.frz { cls := .type "list", data := .seq vs.toArray } (.lst (ns.map V.int))) else none : Hp) b = none := fun b => by
      by_cases z : b = a
      · exact .inl z
      · exact .inr (if_neg z)
    have hitA : (fun b => if b = a then some (HO.frz { cls := .type "list", data := .seq vs.toArray } (.lst (ns.map V.int))) else none : Hp) a = some (.frz { cls := .type "list", data := .seq vs.toArray } (.lst (ns.map V.int))) := if_pos rfl
    generalize (fun b => if b = a then some (HO.frz { cls := .type "list", data := .seq vs.toArray } (.lst (ns.map V.int))) else none : Hp) = H at sel hitA
    have on : L2.Only H := fun b => by
      rcases sel b with z | z
      · exact .inr ⟨_, _, by rw [z]; exact hitA⟩
      · exact .inl z
    refine call_at inK nsM nsB isB noL noG lst room F bnd (q _ on (.inl (.inr ⟨_, hitA⟩))) on (fun b y e => ?_) (fun b z => ?_) fun _ => hk
    · rcases sel b with z | z
      · subst z
        rw [hitA] at e; cases e
        exact ⟨lst, by rw [List.length_map]; exact hz, vs, _, rv, lst⟩
      · rw [z] at e; cases e
    · rcases sel b with y | y
      · exact y
      · exact absurd y z
end
/-! ### a law from its core -/
def sitesOf (sites : Sites) (k : Nat) : List (Nat × List Str × List PArg) := (sites.filter fun x => x.1 == k).map (·.2)
def SitesOk (K : PySem.W.Frag) (fd : FuncData) (ps : List Str) : List (Nat × List Str × List PArg) → Prop
  | [] => True
  | x :: r => SiteOk K fd ps x.1 x.2.1 x.2.2 ∧ SitesOk K fd ps r
theorem SitesOk.mem {K : PySem.W.Frag} {fd : FuncData} {ps : List Str} : ∀ {l : List (Nat × List Str × List PArg)}, SitesOk K fd ps l → ∀ x ∈ l, SiteOk K fd ps x.1 x.2.1 x.2.2
  | x :: r, h, y, hy => by
    rcases List.mem_cons.mp hy with e | e
    · subst e; exact h.1
    · exact SitesOk.mem h.2 y e
/-- a def stands in the module's names -/
structure DefAt (K : PySem.W.Frag) (mg : Str → Option Value) (sites : Sites) (k : Nat) (f : FnS) : Prop where
  ex : ∃ a fd, mg f.d.name = some (.ref a) ∧ PySem.W.keepIn K (.ref a) = true ∧ DefIs K f a fd ∧ SitesOk K fd (f.N.take f.d.nps) (sitesOf sites k)
theorem DefAt.mk' {K : PySem.W.Frag} {mg : Str → Option Value} {sites : Sites} {k : Nat} {f : FnS} {h : Heap} {a : Addr} {oc dV kV doc pm cdv ct : Value} {od an : Option Addr} {osl : Array (Option Value)} (X : K.In h) (G : h.Ns mainGlobals mg)
    (h1 : PySem.W.nsIn K mainGlobals f.d.name = some (some (.ref a))) (h2 : K.lookup a = some ⟨oc, od, .func (PySem.W.fnOf f.d.name f.d.name (defArgs f.st) (defBody f.st) (defScope f.st) dV kV doc pm an cdv ct), osl⟩)
    (h3 : PySem.W.codeIn K cdv f.d.name = true) (h4 : PySem.W.keepIn K (.ref a) = true) (h5 : SitesOk K (PySem.W.fnOf f.d.name f.d.name (defArgs f.st) (defBody f.st) (defScope f.st) dV kV doc pm an cdv ct) (f.N.take f.d.nps) (sitesOf sites k)) :
    DefAt K mg sites k f := ⟨⟨a, _, PySem.W.mg_of X G h1, h4, ⟨_, _, _, _, _, _, _, _, _, _, rfl, h2, h3⟩, h5⟩⟩
/-- all of them, from the k-th on -/
def DefsAt (K : PySem.W.Frag) (mg : Str → Option Value) (sites : Sites) : Nat → List FnS → Prop
  | _, [] => True
  | k, f :: r => DefAt K mg sites k f ∧ DefsAt K mg sites (k + 1) r
theorem DefsAt.get {K : PySem.W.Frag} {mg : Str → Option Value} {sites : Sites} : ∀ {l : List FnS} {j k : Nat} {f : FnS}, DefsAt K mg sites j l → l[k]? = some f → DefAt K mg sites (j + k) f
  | [], _, _, _, _, e => by simp at e
  | g :: r, j, 0, f, h, e => by simp at e; subst e; exact h.1
  | g :: r, j, k + 1, f, h, e => by
    have := DefsAt.get (k := k) h.2 (by simpa using e)
    rwa [show j + 1 + k = j + (k + 1) by omega] at this
theorem prog_of {S : List FnS} {sites : Sites} {g : GN} {P : Program} {w : World} {K : PySem.W.Frag} {mg : Str → Option Value} {base : Heap} (hc : (S.all fun f => chkFn S sites f) = true) (hd : DefsAt K mg sites 0 S) (hb : ∀ x ∈ bltNames, mg x = none) (d : Nat) : ProgOk S sites g d P w K mg base :=
  prog_all (fun k f hf => by
    obtain ⟨a, fd, h1, h2, h3, h4⟩ := (DefsAt.get hd hf).ex
    rw [Nat.zero_add] at h4
    refine ⟨List.all_eq_true.mp hc f (List.mem_of_getElem? hf), a, fd, h1, h2, h3, fun np ks perm hm => h4.mem (np, ks, perm) ?_⟩
    exact List.mem_map.mpr ⟨_, List.mem_filter.mpr ⟨hm, by simp⟩, rfl⟩) hb d
theorem den_ints {G : GS} {F : Hp} {ι : List Addr} : ∀ ns : List Int, DenAll G F ι (ns.map V.int) (ns.map AV.int)
  | [] => .nil
  | n :: r => .cons (.int n) (den_ints r)
theorem memC {α : Type} {Q : α → Prop} {x : α} {r : List α} (h : Q x) (t : ∀ y ∈ r, Q y) : ∀ y ∈ x :: r, Q y := fun y hy => by
  rcases List.mem_cons.mp hy with e | e
  · subst e; exact h
  · exact t y e
theorem memN {α : Type} {Q : α → Prop} : ∀ y ∈ ([] : List α), Q y := fun y hy => nomatch hy
/-- what k_head leaves -/
theorem walk_ev {l : PySem.W.OpenLaw} {n : Nat} {q : Program} {loose : List Str} {XP : (Str → Option Value) → Heap → Prop} {YP : World → Heap → Prop} {dr : DefRec} {K : Params → PySem.W.Frag} {x : Str} (S : List FnS) (sites : Sites) (d kk : Nat) {f : FnS}
    (h1 : l.most = some n) (h2 : n ≤ sizeLine) (h3 : dr.params.defaults = []) (h4 : Room (lv (d + 1)) callerA) (h5 : ∀ (w : World) (h : Heap), YP w h → (K w.params).In h) (hf : S[kk]? = some f) (hx : f.N.take f.d.nps = [x]) (hnm : dr.name = f.d.name) (hc : (S.all fun f => chkFn S sites f) = true) (hm : (kk, 1, [], [PArg.at 0]) ∈ sites)
    (F : ∀ (w : World) (mg : Str → Option Value) (h : Heap), (K w.params).In h → h.Ns mainGlobals mg → DefsAt (K w.params) mg sites 0 S ∧ (∀ x ∈ bltNames, mg x = none) ∧ ∃ g : GN, True)
    (hl : ∀ ns : List Int, ns.length ≤ n → ∃ s', callF (dsOf S) (d + 1) kk [.lst (ns.map AV.int)] false ⟨[], false⟩ = .ok (.bl true) s') :
    PySem.W.WalkO q loose XP YP l.row.toRowW dr [] (fun f vs => PySem.call f vs) := by
  refine Att.attach_call h1 h3 fun w s t mg mb fa o pm cd doc a vs ns G Y c1 c2 c3 c4 c5 c6 c7 c8 => ?_
  have KX := h5 w _ Y
  obtain ⟨hd, hb, g, _⟩ := F w mg _ KX G.T.g
  obtain ⟨fa', fd, e1, e2, e3, e4⟩ := (DefsAt.get hd hf).ex
  rw [Nat.zero_add] at e4
  rw [hnm, e1] at c4
  cases c4
  have cf : chkFn S sites f = true := List.all_eq_true.mp hc f (List.mem_of_getElem? hf)
  obtain ⟨_, hlen, _, _⟩ := scope_of cf
  have site : SiteOk (K w.params) fd (f.N.take f.d.nps) 1 [] [.at 0] := e4.mem (1, [], [.at 0]) (List.mem_map.mpr ⟨_, List.mem_filter.mpr ⟨hm, by simp⟩, rfl⟩)
  rw [hx] at site
  obtain ⟨us', pv, bnd⟩ := site t [.ref a] [] KX rfl rfl
  cases pv with
  | «at» hz hr =>
    cases hr
    cases hz
    refine call_law (k := lv (d + 1)) (sp := spF ⟨K w.params, g.fnA, g.clA⟩ (dsOf S) (d + 1) kk f.d.nps) KX G.T.g G.T.b G.T.builtins G.T.nolimit c8 c5 c6 (Nat.le_trans c7 h2) h4 (fun b kb nb => ?_) bnd fun H on sq => ?_
    · have := fn_succ (g := g) (P := l.prog) (w := w) (base := b) hf cf e3 (prog_of hc hd hb d)
      rw [hx] at this
      exact this
    · obtain ⟨s', hs⟩ := hl ns c7
      have h1n : f.d.nps = 1 := by rw [← hlen, hx]; rfl
      refine ⟨false, fun _ => none, H, [], ⟨[], false⟩, [.lst (ns.map AV.int)], by rw [h1n]; rfl, ⟨Same.refl _, fun a o e => (nomatch e), rfl, List.nodup_nil, fun a ha => (nomatch ha), fun n a o hn => (nomatch hn)⟩, .cons (.lst sq (den_ints ns)) .nil, ?_⟩
      rw [hs]
      exact fun v H' F' ι' _ _ dn => by cases dn; rfl
end Ev

set_option linter.all false
set_option maxRecDepth 100000
/-! EvW: what is wanted behind a run of the evaluator, rule by rule. Own work. -/
namespace Ev
open PySem

def Wp {α : Type} (r : Rs α) (Q : α → AS → Prop) (X : AV → AS → Prop) : Prop := match r with
  | .ok a s => Q a s
  | .exc x s => X x s
  | .stuck => False
abbrev NoX : AV → AS → Prop := fun _ _ => False
section
variable {α β : Type} {Q Q' : α → AS → Prop} {X X' : AV → AS → Prop} {s s' : AS}
theorem Wp.mono {r : Rs α} (h : Wp r Q X) (hq : ∀ a s, Q a s → Q' a s) (hx : ∀ a s, X a s → X' a s) : Wp r Q' X' := by
  cases r with
  | ok a s => exact hq a s h
  | exc x s => exact hx x s h
  | stuck => exact h
theorem Wp.imp {r : Rs α} (h : Wp r Q X) (hq : ∀ a s, Q a s → Q' a s) : Wp r Q' X := h.mono hq fun _ _ h => h
theorem Wp.out {r : Rs α} (h : Wp r Q NoX) : ∃ a s, r = .ok a s ∧ Q a s := by
  cases r with
  | ok a s => exact ⟨a, s, rfl, h⟩
  | exc x s => exact h.elim
  | stuck => exact h.elim
theorem Wp.of {r : Rs α} {a : α} (e : r = .ok a s) (h : Q a s) : Wp r Q X := by rw [e]; exact h
theorem wp_bind {m : MM β} {f : β → MM α} (h : Wp (m s) (fun b s' => Wp (f b s') Q X) X) : Wp (MM.bind m f s) Q X := by
  unfold MM.bind
  revert h
  cases m s <;> exact id
theorem wp_pure {a : α} (h : Q a s) : Wp (MM.pure a s) Q X := h
theorem wp_ofO {o : Option α} {a : α} (e : o = some a) (h : Q a s) : Wp (ofO o s) Q X := by subst e; exact h
theorem wp_ok {a : α} (h : Q a s) : Wp (.ok a s) Q X := h
/-- a test -/
theorem wp_tru {v : AV} {b : Bool} {Q : Bool → AS → Prop} (e : truth s.cells v = some b) (h : Q b s) : Wp (truM v s) Q X := by
  unfold truM; rw [e]; exact h
theorem wp_ite {b : Bool} {m n : MM α} (h1 : b = true → Wp (m s) Q X) (h2 : b = false → Wp (n s) Q X) : Wp ((if b = true then m else n) s) Q X := by
  cases b with
  | true => exact h1 rfl
  | false => exact h2 rfl
theorem wp_iteT {m n : MM α} (h1 : Wp (m s) Q X) : Wp ((if true = true then m else n) s) Q X := h1
theorem wp_iteF {m n : MM α} (h1 : Wp (n s) Q X) : Wp ((if false = true then m else n) s) Q X := h1
end
section
variable {call : Nat → List AV → Bool → MM AV} {n : Nat} {ρ : AE} {s : AS} {Q : AV → AS → Prop} {X : AV → AS → Prop}
theorem we_var {i : Nat} (h : ∃ v, ρ[i]? = some (some v) ∧ Q v s) : Wp (evE call (n + 1) (.var i) ρ s) Q X := by
  obtain ⟨v, e, h⟩ := h
  show Wp (ofO ((ρ[i]?).bind id) s) Q X
  rw [e]; exact h
theorem we_int {i : Int} (h : Q (.int i) s) : Wp (evE call (n + 1) (.int i) ρ s) Q X := h
theorem we_str {x : Str} (h : Q (.str x) s) : Wp (evE call (n + 1) (.str x) ρ s) Q X := h
theorem we_bl {b : Bool} (h : Q (.bl b) s) : Wp (evE call (n + 1) (.bl b) ρ s) Q X := h
theorem we_non (h : Q .non s) : Wp (evE call (n + 1) .non ρ s) Q X := h
theorem we_bin {o : BOp} {a b : CE} (h : Wp (evE call n a ρ s) (fun x s1 => Wp (evE call n b ρ s1) (fun y s2 => Wp (binM o x y s2) Q X) X) X) : Wp (evE call (n + 1) (.bin o a b) ρ s) Q X := wp_bind (h.imp fun _ _ h => wp_bind h)
theorem we_neg {a : CE} (h : Wp (evE call n a ρ s) (fun x s1 => ∃ i, x = .int i ∧ Q (.int (-i)) s1) X) : Wp (evE call (n + 1) (.neg a) ρ s) Q X := wp_bind (h.imp fun _ _ ⟨i, e, h⟩ => by subst e; exact h)
theorem we_not {a : CE} (h : Wp (evE call n a ρ s) (fun x s1 => ∃ b, truth s1.cells x = some b ∧ Q (.bl (!b)) s1) X) : Wp (evE call (n + 1) (.not a) ρ s) Q X := wp_bind (h.imp fun _ _ ⟨b, e, h⟩ => wp_bind (wp_tru e h))
theorem we_and {a b : CE} (h : Wp (evE call n a ρ s) (fun x s1 => ∃ t, truth s1.cells x = some t ∧ ((t = true → Wp (evE call n b ρ s1) Q X) ∧ (t = false → Q x s1))) X) : Wp (evE call (n + 1) (.and a b) ρ s) Q X :=
  wp_bind (h.imp fun x s1 ⟨t, e, h1, h2⟩ => wp_bind (wp_tru e (wp_ite h1 h2)))
theorem we_or {a b : CE} (h : Wp (evE call n a ρ s) (fun x s1 => ∃ t, truth s1.cells x = some t ∧ ((t = true → Q x s1) ∧ (t = false → Wp (evE call n b ρ s1) Q X))) X) : Wp (evE call (n + 1) (.or a b) ρ s) Q X :=
  wp_bind (h.imp fun x s1 ⟨t, e, h1, h2⟩ => wp_bind (wp_tru e (wp_ite h1 h2)))
theorem we_isN {a b : CE} (h : Wp (evE call n a ρ s) (fun x s1 => Q (.bl (isNone x)) s1) X) : Wp (evE call (n + 1) (.cmp .isN a b) ρ s) Q X := wp_bind (h.imp fun _ _ h => h)
theorem we_notN {a b : CE} (h : Wp (evE call n a ρ s) (fun x s1 => Q (.bl (!isNone x)) s1) X) : Wp (evE call (n + 1) (.cmp .notN a b) ρ s) Q X := wp_bind (h.imp fun _ _ h => h)
theorem we_cmp {o : COp} {a b : CE} (h1 : o ≠ .isN) (h2 : o ≠ .notN) (h : Wp (evE call n a ρ s) (fun x s1 => Wp (evE call n b ρ s1) (fun y s2 => Wp (cmpM o x y s2) Q X) X) X) : Wp (evE call (n + 1) (.cmp o a b) ρ s) Q X := by
  have := wp_bind (h.imp fun x s1 h => wp_bind (m := evE call n b ρ) (f := fun y => cmpM o x y) h)
  cases o <;> first | exact this | exact absurd rfl h1 | exact absurd rfl h2
theorem we_ite {c a b : CE} (h : Wp (evE call n c ρ s) (fun x s1 => ∃ t, truth s1.cells x = some t ∧ ((t = true → Wp (evE call n a ρ s1) Q X) ∧ (t = false → Wp (evE call n b ρ s1) Q X))) X) : Wp (evE call (n + 1) (.ite c a b) ρ s) Q X :=
  wp_bind (h.imp fun x s1 ⟨t, e, h1, h2⟩ => wp_bind (wp_tru e (wp_ite h1 h2)))
theorem wl_nil {f : CE → MM AV} {Q : List AV → AS → Prop} (h : Q [] s) : Wp (evList f [] s) Q X := h
theorem wl_cons {f : CE → MM AV} {e : CE} {es : List CE} {Q : List AV → AS → Prop} (h : Wp (f e s) (fun v s1 => Wp (evList f es s1) (fun vs s2 => Q (v :: vs) s2) X) X) : Wp (evList f (e :: es) s) Q X :=
  wp_bind (h.imp fun _ _ h => wp_bind h)
theorem we_tup {es : List CE} (h : Wp (evList (fun e => evE call n e ρ) es s) (fun vs s1 => Q (.tup vs) s1) X) : Wp (evE call (n + 1) (.tup es) ρ s) Q X := wp_bind h
theorem we_lstF {es : List CE} (h : Wp (evList (fun e => evE call n e ρ) es s) (fun vs s1 => Q (.lst vs) s1) X) : Wp (evE call (n + 1) (.lst false es) ρ s) Q X := wp_bind h
theorem we_lstT {es : List CE} (h : Wp (evList (fun e => evE call n e ρ) es s) (fun vs s1 => Q (.ref s1.cells.length) ⟨s1.cells ++ [.lst vs], s1.opn⟩) X) : Wp (evE call (n + 1) (.lst true es) ρ s) Q X := wp_bind h
theorem wps_nil {f : CE → MM AV} {Q : List (AV × AV) → AS → Prop} (h : Q [] s) : Wp (evPairs f [] [] s) Q X := h
theorem wps_cons {f : CE → MM AV} {k v : CE} {ks vs : List CE} {Q : List (AV × AV) → AS → Prop} (h : Wp (f k s) (fun a s1 => Wp (f v s1) (fun b s2 => Wp (evPairs f ks vs s2) (fun r s3 => Q ((a, b) :: r) s3) X) X) X) : Wp (evPairs f (k :: ks) (v :: vs) s) Q X :=
  wp_bind (h.imp fun _ _ h => wp_bind (h.imp fun _ _ h => wp_bind h))
theorem wp_nox {α : Type} {m : MM α} {Q : α → AS → Prop} (h : Wp (m s) Q NoX) : Wp (nox m s) Q X := by
  unfold nox
  revert h
  cases m s <;> exact id
theorem we_dctF {ks vs : List CE} (h : Wp (evPairs (fun e => evE call n e ρ) ks vs s) (fun ps s1 => (ps.all (fun p => (keyOf p.1).isSome) = true ∧ ps.length ≤ 15) ∧ Q (.dct (mergeA [] ps)) s1) NoX) : Wp (evE call (n + 1) (.dct false ks vs) ρ s) Q X := by
  refine wp_bind (wp_nox (h.imp fun ps s1 ⟨h1, h2⟩ => ?_))
  unfold mkDisp
  rw [if_pos h1]
  exact h2
theorem we_idx {a b : CE} (h : Wp (evE call n a ρ s) (fun x s1 => Wp (evE call n b ρ s1) (fun y s2 => Wp (idxM x y s2) Q X) X) X) : Wp (evE call (n + 1) (.idx a b) ρ s) Q X := wp_bind (h.imp fun _ _ h => wp_bind h)
theorem we_slc {a : CE} {lo hi : Option CE} (h : Wp (evE call n a ρ s) (fun x s1 => Wp (evOpt (fun e => evE call n e ρ) lo s1) (fun l s2 => Wp (evOpt (fun e => evE call n e ρ) hi s2) (fun u s3 => Wp (slcM x l u s3) Q X) X) X) X) : Wp (evE call (n + 1) (.slc a lo hi) ρ s) Q X :=
  wp_bind (h.imp fun _ _ h => wp_bind (h.imp fun _ _ h => wp_bind h))
theorem wo_none {f : CE → MM AV} {Q : Option Int → AS → Prop} (h : Q none s) : Wp (evOpt f none s) Q X := h
theorem wo_some {f : CE → MM AV} {e : CE} {Q : Option Int → AS → Prop} (h : Wp (f e s) (fun v s1 => ∃ i, v = .int i ∧ Q (some i) s1) X) : Wp (evOpt f (some e) s) Q X := wp_bind (h.imp fun _ _ ⟨i, e, h⟩ => by subst e; exact h)
theorem we_call {k : Nat} {es ws : List CE} {ks : List Str} {perm : List PArg} {keep : Bool} (h : Wp (evList (fun e => evE call n e ρ) es s) (fun v1 s1 => Wp (evList (fun e => evE call n e ρ) ws s1) (fun v2 s2 => ∃ args, mapO (argOf (v1 ++ v2)) perm = some args ∧ Wp (call k args keep s2) Q X) X) X) :
    Wp (evE call (n + 1) (.call k es ws ks perm keep) ρ s) Q X :=
  wp_bind (h.imp fun _ _ h => wp_bind (h.imp fun _ _ ⟨args, e, h⟩ => by rw [e]; exact h))
theorem we_blt {b : Blt} {al : Bool} {es : List CE} (h : Wp (evList (fun e => evE call n e ρ) es s) (fun vs s1 => Wp (bltM b al vs s1) Q X) X) : Wp (evE call (n + 1) (.blt b al es) ρ s) Q X := wp_bind h
theorem we_isi {e : CE} {ts : List String} (h : Wp (evE call n e ρ s) (fun x s1 => ∃ t bs, tyName s1.cells x = some t ∧ mapO (L2.kitB t) ts = some bs ∧ Q (.bl (bs.any id)) s1) X) : Wp (evE call (n + 1) (.isi e ts) ρ s) Q X :=
  wp_bind (h.imp fun x s1 ⟨t, bs, e1, e2, h⟩ => by unfold isiM; rw [e1]; simp only; rw [e2]; exact h)
theorem we_bm {m : BM} {a : CE} {es : List CE} (h : Wp (evE call n a ρ s) (fun x s1 => bmChk m x s1 = .ok () s1 ∧ Wp (evList (fun e => evE call n e ρ) es s1) (fun vs s2 => Wp (bmM m x vs s2) Q X) X) X) : Wp (evE call (n + 1) (.bm m a es) ρ s) Q X :=
  wp_bind (h.imp fun x s1 ⟨e, h⟩ => wp_bind (Wp.of e (wp_bind h)))
/-! comprehensions -/
theorem we_comp {al : Bool} {ws : List Nat} {tg : Tg} {it : CE} {ifs : List CE} {elt : CE} (h : Wp (evI (fun e => evE call n e ρ) it s) (fun src s1 =>
      Wp (compR (cTurn (fun s v ρ => asgT s.cells tg v ρ) (fun ρ' => evTests (fun e => evE call n e ρ') ifs) (fun ρ' => evE call n elt ρ') (wipeE ρ ws)) src 0 [] s1) (fun vs s2 => Wp (mkL al vs s2) Q X) X) X) : Wp (evE call (n + 1) (.comp al ws tg it ifs elt) ρ s) Q X :=
  wp_bind (h.imp fun _ _ h => wp_bind h)
theorem wi_rng {f : CE → MM AV} {es : List CE} {Q : Src → AS → Prop} (h : Wp (evList f es s) (fun vs s1 => Wp (rngM vs s1) Q X) X) : Wp (evI f (.rng es) s) Q X := wp_bind h
theorem wi_val {f : CE → MM AV} {e : CE} {Q : Src → AS → Prop} (hr : ∀ es, e ≠ .rng es) (h : Wp (f e s) (fun v s1 => Wp (srcOf v s1) Q X) X) : Wp (evI f e s) Q X := by
  have := wp_bind (m := f e) (f := srcOf) (s := s) h
  cases e <;> first | exact this | exact absurd rfl (hr _)
theorem wc_items {f : AV → MM (Option AV)} {xs : List AV} {Q : List AV → AS → Prop} (h : Wp (compL f xs [] s) Q X) : Wp (compR f (.items xs) 0 [] s) Q X := h
theorem wc_nil {f : AV → MM (Option AV)} {acc : List AV} {Q : List AV → AS → Prop} (h : Q acc s) : Wp (compL f [] acc s) Q X := h
theorem wc_cons {f : AV → MM (Option AV)} {x : AV} {xs acc : List AV} {Q : List AV → AS → Prop} (h : Wp (f x s) (fun o s1 => Wp (compL f xs (accO acc o) s1) Q X) X) : Wp (compL f (x :: xs) acc s) Q X := wp_bind h
theorem wc_turn {fg : AS → AV → AE → Option AE} {ft : AE → MM Bool} {fe : AE → MM AV} {ρ : AE} {x : AV} {Q : Option AV → AS → Prop} (h : ∃ ρ', fg s x ρ = some ρ' ∧ Wp (ft ρ' s) (fun b s1 => (b = true → Wp (fe ρ' s1) (fun v s2 => Q (some v) s2) NoX) ∧ (b = false → Q none s1)) NoX) : Wp (cTurn fg ft fe ρ x s) Q X := by
  obtain ⟨ρ', e, h⟩ := h
  refine wp_nox (wp_bind ?_)
  show Wp (ofO (fg s x ρ) s) _ _
  rw [e]
  refine wp_bind (h.imp fun b s1 ⟨h1, h2⟩ => ?_)
  cases b with
  | true => exact wp_bind (h1 rfl)
  | false => exact h2 rfl
theorem wt_nil {f : CE → MM AV} {Q : Bool → AS → Prop} (h : Q true s) : Wp (evTests f [] s) Q X := h
theorem wt_one {f : CE → MM AV} {c : CE} {Q : Bool → AS → Prop} (h : Wp (f c s) (fun x s1 => ∃ t, truth s1.cells x = some t ∧ Q t s1) X) : Wp (evTests f [c] s) Q X := wp_bind (h.imp fun _ _ ⟨t, e, h⟩ => wp_tru e h)
/-- a comprehension over given items, by what is true of every item and what it makes -/
theorem wc_inv {f : AV → MM (Option AV)} {Q : List AV → AS → Prop} (I : Nat → List AV → AS → Prop) {xs : List AV} {acc : List AV} (h0 : I 0 acc s) (hs : ∀ (i : Nat) (x : AV) acc s, xs[i]? = some x → I i acc s → Wp (f x s) (fun o s1 => I (i + 1) (accO acc o) s1) X)
    (hd : ∀ acc s, I xs.length acc s → Q acc s) : Wp (compL f xs acc s) Q X := by
  induction xs generalizing acc s I with
  | nil => exact hd _ _ h0
  | cons x xs ih =>
    exact wc_cons ((hs 0 x acc s rfl h0).imp fun o s1 h1 => ih (fun i => I (i + 1)) h1 (fun i y acc s e h => hs (i + 1) y acc s e h) hd)
end

/-! ### statements -/
structure SK where
  rt : AV → AS → Prop
  bk : AE → AS → Prop
  ct : AE → AS → Prop
  ex : AV → AE → AS → Prop
def WS (r : SRs) (N : AE → AS → Prop) (K : SK) : Prop := match r with
  | .next ρ s => N ρ s
  | .ret a s => K.rt a s
  | .brk ρ s => K.bk ρ s
  | .cont ρ s => K.ct ρ s
  | .exc x ρ s => K.ex x ρ s
  | .stuck => False
section
variable {call : Nat → List AV → Bool → MM AV} {n : Nat} {ρ : AE} {s : AS} {N : AE → AS → Prop} {K : SK}
theorem WS.mono {r : SRs} {N' : AE → AS → Prop} (h : WS r N K) (hn : ∀ ρ s, N ρ s → N' ρ s) : WS r N' K := by
  cases r with
  | next ρ s => exact hn ρ s h
  | _ => exact h
theorem WS.mono' {r : SRs} {N' : AE → AS → Prop} {R R' : AV → AS → Prop} (h : WS r N ⟨R, fun _ _ => False, fun _ _ => False, fun _ _ _ => False⟩) (hn : ∀ ρ s, N ρ s → N' ρ s) (hr : ∀ v s, R v s → R' v s) : WS r N' ⟨R', fun _ _ => False, fun _ _ => False, fun _ _ _ => False⟩ := by
  cases r with
  | next ρ s => exact hn ρ s h
  | ret v s => exact hr v s h
  | _ => exact h
theorem WS.monoK {r : SRs} {R : AV → AS → Prop} {E : AV → AE → AS → Prop} {b c : AE → AS → Prop} (h : WS r N ⟨R, fun _ _ => False, fun _ _ => False, E⟩) : WS r N ⟨R, b, c, E⟩ := by
  cases r with
  | brk ρ s => exact False.elim h
  | cont ρ s => exact False.elim h
  | _ => exact h
theorem ws_bind {α : Type} {m : MM α} {f : α → AS → SRs} (h : Wp (m s) (fun a s1 => WS (f a s1) N K) (fun x s1 => K.ex x ρ s1)) : WS (sBind ρ m f s) N K := by
  unfold sBind
  revert h
  cases m s <;> exact id
theorem ws_seq {r : SRs} {f : AE → AS → SRs} (h : WS r (fun ρ s => WS (f ρ s) N K) K) : WS (sSeq r f) N K := by
  unfold sSeq
  cases r <;> exact h
theorem ws_nil {st : CS → AE → AS → SRs} (h : N ρ s) : WS (evB st [] ρ s) N K := h
theorem ws_cons {st : CS → AE → AS → SRs} {c : CS} {cs : List CS} (h : WS (st c ρ s) (fun ρ s => WS (evB st cs ρ s) N K) K) : WS (evB st (c :: cs) ρ s) N K := ws_seq h
theorem ws_expr {e : CE} (h : Wp (evE call n e ρ s) (fun _ s1 => N ρ s1) (fun x s1 => K.ex x ρ s1)) : WS (evS call (n + 1) (.expr e) ρ s) N K := ws_bind h
theorem ws_ret {e : CE} (h : Wp (evE call n e ρ s) (fun v s1 => K.rt v s1) (fun x s1 => K.ex x ρ s1)) : WS (evS call (n + 1) (.ret e) ρ s) N K := ws_bind h
theorem ws_retN (h : K.rt .non s) : WS (evS call (n + 1) .retN ρ s) N K := h
theorem ws_asg {t : Tg} {e : CE} (h : Wp (evE call n e ρ s) (fun v s1 => ∃ ρ', asgT s1.cells t v ρ = some ρ' ∧ N ρ' s1) (fun x s1 => K.ex x ρ s1)) : WS (evS call (n + 1) (.asg t e) ρ s) N K :=
  ws_bind (h.imp fun v s1 ⟨ρ', e, h⟩ => by rw [e]; exact h)
theorem ws_setIx {a i e : CE} (h : Wp (evE call n e ρ s) (fun v s1 => Wp (evE call n a ρ s1) (fun x s2 => Wp (evE call n i ρ s2) (fun y s3 => Wp (setIxM x y v s3) (fun _ s4 => N ρ s4) (fun x s1 => K.ex x ρ s1)) (fun x s1 => K.ex x ρ s1)) (fun x s1 => K.ex x ρ s1)) (fun x s1 => K.ex x ρ s1)) : WS (evS call (n + 1) (.setIx a i e) ρ s) N K :=
  ws_bind (wp_bind (h.imp fun _ _ h => wp_bind (h.imp fun _ _ h => wp_bind h)))
theorem ws_if {c : CE} {a b : List CS} (h : Wp (evE call n c ρ s) (fun x s1 => ∃ t, truth s1.cells x = some t ∧ ((t = true → WS (evB (evS call n) a ρ s1) N K) ∧ (t = false → WS (evB (evS call n) b ρ s1) N K))) (fun x s1 => K.ex x ρ s1)) : WS (evS call (n + 1) (.ifS c a b) ρ s) N K :=
  ws_bind (wp_bind (h.imp fun x s1 ⟨t, e, h1, h2⟩ => wp_tru e (by
    cases t with
    | true => exact h1 rfl
    | false => exact h2 rfl)))
def turnF (call : Nat → List AV → Bool → MM AV) (n : Nat) (t : Tg) (body : List CS) : AV → AE → AS → SRs := fun x ρ' s1 => match asgT s1.cells t x ρ' with
  | some ρ2 => evB (evS call n) body ρ2 s1
  | none => .stuck
theorem ws_for {t : Tg} {it : CE} {body : List CS} (h : Wp (evI (fun e => evE call n e ρ) it s) (fun src s1 => WS (match src with | .items xs => forL (turnF call n t body) xs ρ s1 | .cell k m => forC (turnF call n t body) k m 0 ρ s1) N K) (fun x s1 => K.ex x ρ s1)) : WS (evS call (n + 1) (.forS t it body) ρ s) N K := ws_bind h
theorem wf_nil {f : AV → AE → AS → SRs} (h : N ρ s) : WS (forL f [] ρ s) N K := h
theorem wf_cons {f : AV → AE → AS → SRs} {x : AV} {xs : List AV} (h : WS (f x ρ s) (fun ρ s => WS (forL f xs ρ s) N K) { rt := K.rt, ct := fun ρ s => WS (forL f xs ρ s) N K, bk := N, ex := K.ex }) : WS (forL f (x :: xs) ρ s) N K := by
  unfold forL
  revert h
  cases f x ρ s <;> exact id
theorem ws_turn {t : Tg} {body : List CS} {x : AV} (h : ∃ ρ', asgT s.cells t x ρ = some ρ' ∧ WS (evB (evS call n) body ρ' s) N K) : WS (turnF call n t body x ρ s) N K := by
  obtain ⟨ρ', e, h⟩ := h
  unfold turnF; rw [e]; exact h
/-- a for over given items by an invariant -/
theorem wf_inv {f : AV → AE → AS → SRs} (I : Nat → AE → AS → Prop) {xs : List AV} (h0 : I 0 ρ s)
    (hs : ∀ (i : Nat) (x : AV) ρ s, xs[i]? = some x → I i ρ s → WS (f x ρ s) (I (i + 1)) { rt := K.rt, ct := I (i + 1), bk := N, ex := K.ex }) (hd : ∀ ρ s, I xs.length ρ s → N ρ s) : WS (forL f xs ρ s) N K := by
  induction xs generalizing ρ s I with
  | nil => exact hd _ _ h0
  | cons x xs ih =>
    refine wf_cons ?_
    have h1 := hs 0 x ρ s rfl h0
    have k := fun ρ s h => ih (ρ := ρ) (s := s) (fun i => I (i + 1)) h (fun i y ρ s e h => hs (i + 1) y ρ s e h) hd
    revert h1
    cases f x ρ s with
    | next ρ1 s1 => exact fun h1 => k _ _ h1
    | cont ρ1 s1 => exact fun h1 => k _ _ h1
    | brk ρ1 s1 => exact id
    | ret a s1 => exact id
    | exc x ρ1 s1 => exact id
    | stuck => exact id
end
/-! ### calls -/
section
variable {P : List FnD} {d k : Nat} {f : FnD} {args : List AV} {keep : Bool} {s : AS} {Q : AV → AS → Prop} {X : AV → AS → Prop}
theorem wp_fn (hf : P[k]? = some f) (hl : args.length = f.nps) (h : WS (evB (evS (callF P d) FU) f.body (args.map some ++ List.replicate (f.nsl - f.nps) none) ⟨s.cells, false⟩)
      (fun _ s1 => Wp (leaveF.leaveV s keep .non s1) Q X) ⟨fun v s1 => Wp (leaveF.leaveV s keep v s1) Q X, fun _ _ => False, fun _ _ => False, fun _ _ _ => False⟩) : Wp (callF P (d + 1) k args keep s) Q X := by
  unfold callF
  rw [hf]
  simp only
  rw [if_pos hl]
  revert h
  show WS _ _ _ → Wp (leaveF s keep _) Q X
  generalize evB (evS (callF P d) FU) f.body (args.map some ++ List.replicate (f.nsl - f.nps) none) ⟨s.cells, false⟩ = r
  cases r with
  | next ρ s1 => exact id
  | ret a s1 => exact id
  | brk ρ s1 => exact fun h => h.elim
  | cont ρ s1 => exact fun h => h.elim
  | exc x ρ s1 => exact fun h => h.elim
  | stuck => exact fun h => h.elim
theorem wp_leave {v : AV} {s1 : AS} (hl : s1.cells.length ≤ s.cells.length) (h : Q v ⟨s1.cells, s.opn || s1.opn⟩) : Wp (leaveF.leaveV s keep v s1) Q X := by
  unfold leaveF.leaveV
  rw [if_pos (.inr (.inr hl))]
  exact h
theorem wp_leaveK {v : AV} {s1 : AS} (hk : keep = true) (h : Q v ⟨s1.cells, s.opn || s1.opn⟩) : Wp (leaveF.leaveV s keep v s1) Q X := by
  unfold leaveF.leaveV
  rw [if_pos (.inl hk)]
  exact h
theorem wp_leaveZ {v w : AV} {s1 : AS} (ho : s1.opn = false) (hw : frzV s1.cells s.cells.length DPT v = some w) (h1 : Q w ⟨s1.cells.take s.cells.length, s.opn⟩) (h2 : s1.cells.length ≤ s.cells.length → Q v ⟨s1.cells, s.opn⟩) (hk : keep = false) : Wp (leaveF.leaveV s keep v s1) Q X := by
  unfold leaveF.leaveV
  split
  · rename_i hc
    rcases hc with hc | hc | hc
    · rw [hk] at hc; cases hc
    · rw [ho] at hc; cases hc
    · have := h2 hc
      rw [ho, Bool.or_false]
      exact this
  · rw [hw]; exact h1
end

/-! ### operators, built-ins -/
section
variable {s : AS} {Q : AV → AS → Prop} {X : AV → AS → Prop} {i j : Int}
theorem wb_add (h : Q (.int (i + j)) s) : Wp (binM .add (.int i) (.int j) s) Q X := h
theorem wb_sub (h : Q (.int (i - j)) s) : Wp (binM .sub (.int i) (.int j) s) Q X := h
theorem wb_mul (h : (i.natAbs < 2 ^ 64 ∨ j.natAbs < 2 ^ 64) ∧ Q (.int (i * j)) s) : Wp (binM .mul (.int i) (.int j) s) Q X := by
  show Wp (if _ then _ else _) Q X
  rw [if_pos h.1]; exact h.2
theorem wb_div (h : (0 < j ∧ j < 1073741824) ∧ Q (.int (i / j)) s) : Wp (binM .div (.int i) (.int j) s) Q X := by
  show Wp (if _ then _ else _) Q X
  rw [if_pos h.1]; exact h.2
theorem wb_mod (h : 0 < j ∧ Q (.int (i % j)) s) : Wp (binM .mod (.int i) (.int j) s) Q X := by
  show Wp (if _ then _ else _) Q X
  rw [if_pos h.1]; exact h.2
theorem wb_pow (h : (0 ≤ j ∧ j ≤ 1000000 ∧ i.natAbs < 2 ^ 64) ∧ Q (.int (i ^ j.toNat)) s) : Wp (binM .pow (.int i) (.int j) s) Q X := by
  show Wp (if _ then _ else _) Q X
  rw [if_pos h.1]; exact h.2
theorem wb_cat {x y : Str} (h : x.length + y.length ≤ LIM ∧ Q (.str (x ++ y)) s) : Wp (binM .add (.str x) (.str y) s) Q X := by
  show Wp (if _ then _ else _) Q X
  rw [if_pos h.1]; exact h.2
theorem wb_lst {x y : AV} (h : ∃ xs, seqOf s.cells x = some (false, xs) ∧ ∃ ys, seqOf s.cells y = some (false, ys) ∧ xs.length + ys.length ≤ LIM ∧ Q (.lst (xs ++ ys)) s) : Wp (binM .add x y s) Q X := by
  obtain ⟨xs, h1, ys, h2, h3, h4⟩ := h
  have key : binM .add x y s = .ok (.lst (xs ++ ys)) s := by
    cases x <;> (try (simp [seqOf] at h1; done)) <;> cases y <;> (try (simp [seqOf] at h2; done)) <;>
      (simp only [binM]; rw [h1, h2]; simp only; rw [if_pos h3])
  rw [key]; exact h4
theorem wk_lt (h : Q (.bl (decide (i < j))) s) : Wp (cmpM .lt (.int i) (.int j) s) Q X := h
theorem wk_le (h : Q (.bl (decide (i ≤ j))) s) : Wp (cmpM .le (.int i) (.int j) s) Q X := h
theorem wk_gt (h : Q (.bl (decide (j < i))) s) : Wp (cmpM .gt (.int i) (.int j) s) Q X := h
theorem wk_ge (h : Q (.bl (decide (j ≤ i))) s) : Wp (cmpM .ge (.int i) (.int j) s) Q X := h
theorem wk_is {a b : Bool} (h : Q (.bl (decide (a = b))) s) : Wp (cmpM .isB (.bl a) (.bl b) s) Q X := h
theorem wk_eq {x y : AV} (h : ∃ d, toPy s.cells DPT x = some d ∧ ∃ e, toPy s.cells DPT y = some e ∧ (SeqAt.shaped d = true ∧ SeqAt.shaped e = true) ∧ Q (.bl (PyData.eqv d e)) s) : Wp (cmpM .eq x y s) Q X := by
  obtain ⟨d, h1, e, h2, h3, h4⟩ := h
  refine wp_bind ?_
  unfold eqM
  rw [h1, h2]
  simp only
  rw [if_pos h3]; exact h4
theorem wk_ne {x y : AV} (h : ∃ d, toPy s.cells DPT x = some d ∧ ∃ e, toPy s.cells DPT y = some e ∧ (SeqAt.shaped d = true ∧ SeqAt.shaped e = true) ∧ Q (.bl (!PyData.eqv d e)) s) : Wp (cmpM .ne x y s) Q X := by
  obtain ⟨d, h1, e, h2, h3, h4⟩ := h
  refine wp_bind ?_
  unfold eqM
  rw [h1, h2]
  simp only
  rw [if_pos h3]; exact h4
theorem wx_seq {x : AV} (h : ∃ p, seqOf s.cells x = some p ∧ ∃ v, L2.atI p.2 i = some v ∧ Q v s) : Wp (idxM x (.int i) s) Q X := by
  obtain ⟨⟨b, xs⟩, h1, v, h2, h3⟩ := h
  unfold idxM
  simp only
  split
  · simp [seqOf] at h1
  · rw [h1]; simp only; rw [h2]; exact h3
def reseq (b : Bool) (xs : List AV) : AV := if b = true then .tup xs else .lst xs
theorem wz_seq {x : AV} {lo hi : Option Int} (h : ∃ p, seqOf s.cells x = some p ∧ Q (reseq p.1 (cutL p.2 lo hi)) s) : Wp (slcM x lo hi s) Q X := by
  obtain ⟨⟨b, xs⟩, h1, h2⟩ := h
  unfold slcM; rw [h1]
  cases b <;> exact h2
theorem wm_false {xs : List AV} (h : Q (.lst xs) s) : Wp (mkL false xs s) Q X := h
theorem wm_true {xs : List AV} (h : Q (.ref s.cells.length) ⟨s.cells ++ [.lst xs], s.opn⟩) : Wp (mkL true xs s) Q X := h
theorem wn_lenS {x : Str} {al : Bool} (h : x.length ≤ LIM ∧ Q (.int x.length) s) : Wp (bltM .len al [.str x] s) Q X := by
  show Wp (if _ then _ else _) Q X
  rw [if_pos h.1]; exact h.2
theorem wn_len {x : AV} {al : Bool} (h : ∃ p, seqOf s.cells x = some p ∧ Q (.int p.2.length) s) : Wp (bltM .len al [x] s) Q X := by
  obtain ⟨⟨b, xs⟩, h1, h2⟩ := h
  have key : bltM .len al [x] s = .ok (.int xs.length) s := by
    cases x <;> (try (simp [seqOf] at h1; done)) <;> (simp only [bltM]; rw [h1])
  rw [key]; exact h2
theorem wn_int {al : Bool} (h : Q (.int i) s) : Wp (bltM .int al [.int i] s) Q X := h
theorem wn_intB {al b : Bool} (h : Q (.int (if b then 1 else 0)) s) : Wp (bltM .int al [.bl b] s) Q X := h
theorem wn_str {al : Bool} (h : i.natAbs.log2 < 1920 ∧ Q (.str (toString i)) s) : Wp (bltM .str al [.int i] s) Q X := by
  show Wp (if _ then _ else _) Q X
  rw [if_pos h.1]; exact h.2
theorem wn_abs {al : Bool} (h : Q (.int (if i < 0 then -i else i)) s) : Wp (bltM .abs al [.int i] s) Q X := h
theorem wn_repr {x : AV} {al : Bool} (h : ∃ d, toPy s.cells DPT x = some d ∧ (d.showable = true ∧ d.hasDict = false ∧ d.shown.length ≤ LIM ∧ d.depth ≤ 64) ∧ Q (.str d.shown) s) : Wp (bltM .repr al [x] s) Q X := by
  obtain ⟨d, h1, h2, h3⟩ := h
  show Wp (match toPy s.cells DPT x with | some d => _ | none => _) Q X
  rw [h1]
  simp only
  rw [if_pos h2]; exact h3
theorem wn_tuple {x : AV} {al : Bool} (h : ∃ p, seqOf s.cells x = some p ∧ Q (.tup p.2) s) : Wp (bltM .tuple al [x] s) Q X := by
  obtain ⟨⟨b, xs⟩, h1, h2⟩ := h
  show Wp (match seqOf s.cells x with | some (_, xs) => _ | none => _) Q X
  rw [h1]; exact h2
theorem wn_list {x : AV} {al : Bool} (h : ∃ p, seqOf s.cells x = some p ∧ Wp (mkL al p.2 s) Q X) : Wp (bltM .list al [x] s) Q X := by
  obtain ⟨⟨b, xs⟩, h1, h2⟩ := h
  show Wp (match seqOf s.cells x with | some (_, xs) => _ | none => _) Q X
  rw [h1]; exact h2
theorem wn_all {x : AV} {al : Bool} (h : ∃ xs, seqOf s.cells x = some (false, xs) ∧ ∃ bs, blsOf xs = some bs ∧ Q (.bl (bs.all id)) s) : Wp (bltM .all al [x] s) Q X := by
  obtain ⟨xs, h1, bs, h2, h3⟩ := h
  show Wp (match seqOf s.cells x with | some (false, xs) => _ | _ => _) Q X
  rw [h1]
  simp only
  rw [h2]; exact h3
theorem wj_chk {x : Str} : bmChk .join (.str x) s = .ok () s := rfl
theorem wj_join {a : Str} {v : AV} (h : ∃ p, seqOf s.cells v = some p ∧ ∃ ys, strsOf p.2 = some ys ∧ (ys.map (·.length)).sum + ys.length * a.length ≤ LIM ∧ Q (.str (Txt.join a ys)) s) : Wp (bmM .join (.str a) [v] s) Q X := by
  obtain ⟨⟨b, xs⟩, h1, ys, h2, h3, h4⟩ := h
  unfold bmM
  simp only
  rw [h1]
  simp only
  rw [h2]
  simp only
  rw [if_pos h3]; exact h4
theorem wq_set {k : Nat} {v : AV} {Q : Unit → AS → Prop} (h : ∃ xs, s.cells[k]? = some (.lst xs) ∧ ∃ j, L2.ixN xs.length i = some j ∧ Q () ⟨s.cells.set k (.lst (xs.set j v)), s.opn || newer k 12 v⟩) : Wp (setIxM (.ref k) (.int i) v s) Q X := by
  obtain ⟨xs, h1, j, h2, h3⟩ := h
  unfold setIxM
  simp only
  rw [h1]
  simp only
  rw [h2]; exact h3
theorem wr_one {Q : Src → AS → Prop} (h : (j < 16777216 ∧ -(2 ^ 62) ≤ j) ∧ Q (.items ((List.range j.toNat).map fun i => AV.int (i : Nat))) s) : Wp (rngM [.int j] s) Q X := by
  show Wp (if _ then _ else _) Q X
  rw [if_pos h.1]; exact h.2
theorem wr_two {Q : Src → AS → Prop} (h : (j - i < 16777216 ∧ -(2 ^ 62) ≤ i ∧ i < 2 ^ 62 ∧ -(2 ^ 62) ≤ j ∧ j < 2 ^ 62) ∧ Q (.items ((List.range (j - i).toNat).map fun k => AV.int (i + (k : Nat)))) s) : Wp (rngM [.int i, .int j] s) Q X := by
  show Wp (if _ then _ else _) Q X
  rw [if_pos h.1]; exact h.2
theorem wv_lst {xs : List AV} {Q : Src → AS → Prop} (h : Q (.items xs) s) : Wp (srcOf (.lst xs) s) Q X := h
theorem wv_tup {xs : List AV} {Q : Src → AS → Prop} (h : Q (.items xs) s) : Wp (srcOf (.tup xs) s) Q X := h
theorem br_T {A B : Prop} (h : A) : (true = true → A) ∧ (true = false → B) := ⟨fun _ => h, fun h => nomatch h⟩
theorem br_F {A B : Prop} (h : B) : (false = true → A) ∧ (false = false → B) := ⟨fun h => (nomatch h), fun _ => h⟩
end
end Ev

set_option linter.all false
set_option maxRecDepth 100000
/-! EvX: what is wanted ahead of a run, reckoned. Own work. -/
namespace Ev
open PySem

/-- a call's wish stands by itself -/
structure CallW (call : Nat → List AV → Bool → MM AV) (k : Nat) (args : List AV) (keep : Bool) (s : AS) (Q : AV → AS → Prop) (X : AV → AS → Prop) : Prop where
  run : Wp (call k args keep s) Q X
/-- so does a comprehension's loop, a for's, an operation on what is not known -/
structure CompW (f : AV → AS → (Option AV → AS → Prop) → Prop) (xs acc : List AV) (s : AS) (Q : List AV → AS → Prop) : Prop where
  run : ∀ (g : AV → MM (Option AV)) (X : AV → AS → Prop), (∀ x s Q', f x s Q' → Wp (g x s) Q' X) → Wp (compL g xs acc s) Q X
structure ForW (f : AV → AE → AS → (AE → AS → Prop) → (AV → AS → Prop) → Prop) (xs : List AV) (ρ : AE) (s : AS) (N : AE → AS → Prop) (R : AV → AS → Prop) : Prop where
  run : ∀ (g : AV → AE → AS → SRs) (E : AV → AE → AS → Prop), (∀ x ρ s N' R', f x ρ s N' R' → WS (g x ρ s) N' ⟨R', fun _ _ => False, fun _ _ => False, E⟩) → WS (forL g xs ρ s) N ⟨R, fun _ _ => False, fun _ _ => False, E⟩
structure OpW {α : Type} (r : Rs α) (Q : α → AS → Prop) : Prop where
  run : ∀ X, Wp r Q X

def wT (v : AV) (s : AS) (K : Bool → Prop) : Prop := match truth s.cells v with
  | some b => (b = true → K true) ∧ (b = false → K false)
  | none => False
def wL (f : CE → AS → (AV → AS → Prop) → Prop) : List CE → AS → (List AV → AS → Prop) → Prop
  | [], s, Q => Q [] s
  | e :: es, s, Q => f e s fun v s1 => wL f es s1 fun vs s2 => Q (v :: vs) s2
def wPs (f : CE → AS → (AV → AS → Prop) → Prop) : List CE → List CE → AS → (List (AV × AV) → AS → Prop) → Prop
  | [], [], s, Q => Q [] s
  | k :: ks, v :: vs, s, Q => f k s fun a s1 => f v s1 fun b s2 => wPs f ks vs s2 fun r s3 => Q ((a, b) :: r) s3
  | _, _, _, _ => False
def wO (f : CE → AS → (AV → AS → Prop) → Prop) : Option CE → AS → (Option Int → AS → Prop) → Prop
  | none, s, Q => Q none s
  | some e, s, Q => f e s fun v s1 => match v with
    | .int i => Q (some i) s1
    | _ => False
def wBin (o : BOp) (x y : AV) (s : AS) (Q : AV → AS → Prop) : Prop := match x, y with
  | .int i, .int j => (match o with
    | .add => Q (.int (i + j)) s
    | .sub => Q (.int (i - j)) s
    | .mul => (i.natAbs < 2 ^ 64 ∨ j.natAbs < 2 ^ 64) ∧ Q (.int (i * j)) s
    | .div => (0 < j ∧ j < 1073741824) ∧ Q (.int (i / j)) s
    | .mod => 0 < j ∧ Q (.int (i % j)) s
    | .pow => (0 ≤ j ∧ j ≤ 1000000 ∧ i.natAbs < 2 ^ 64) ∧ Q (.int (i ^ j.toNat)) s)
  | x, y => OpW (binM o x y s) Q
def wCmp (o : COp) (x y : AV) (s : AS) (Q : AV → AS → Prop) : Prop := match o with
  | .lt => (match x, y with | .int i, .int j => Q (.bl (decide (i < j))) s | _, _ => False)
  | .le => (match x, y with | .int i, .int j => Q (.bl (decide (i ≤ j))) s | _, _ => False)
  | .gt => (match x, y with | .int i, .int j => Q (.bl (decide (j < i))) s | _, _ => False)
  | .ge => (match x, y with | .int i, .int j => Q (.bl (decide (j ≤ i))) s | _, _ => False)
  | .isB => (match x, y with | .bl a, .bl b => Q (.bl (decide (a = b))) s | _, _ => False)
  | o => OpW (cmpM o x y s) Q
def wIdx (x y : AV) (s : AS) (Q : AV → AS → Prop) : Prop := OpW (idxM x y s) Q
/-- only what can be given at once -/
def wE (call : Nat → List AV → Bool → MM AV) (X : AV → AS → Prop) : Nat → CE → AE → AS → (AV → AS → Prop) → Prop
  | 0, _, _, _, _ => False
  | n + 1, c, ρ, s, Q => match c with
    | .var i => match ρ[i]? with
      | some (some v) => Q v s
      | _ => False
    | .int i => Q (.int i) s
    | .str x => Q (.str x) s
    | .bl b => Q (.bl b) s
    | .non => Q .non s
    | .bin o a b => wE call X n a ρ s fun x s1 => wE call X n b ρ s1 fun y s2 => wBin o x y s2 Q
    | .neg a => wE call X n a ρ s fun x s1 => match x with
      | .int i => Q (.int (-i)) s1
      | _ => False
    | .not a => wE call X n a ρ s fun x s1 => match truth s1.cells x with
      | some b => Q (.bl (!b)) s1
      | none => False
    | .and a b => wE call X n a ρ s fun x s1 => wT x s1 fun t => match t with
      | true => wE call X n b ρ s1 Q
      | false => Q x s1
    | .or a b => wE call X n a ρ s fun x s1 => wT x s1 fun t => match t with
      | true => Q x s1
      | false => wE call X n b ρ s1 Q
    | .cmp o a b => match o with
      | .isN => wE call X n a ρ s fun x s1 => Q (.bl (isNone x)) s1
      | .notN => wE call X n a ρ s fun x s1 => Q (.bl (!isNone x)) s1
      | o => wE call X n a ρ s fun x s1 => wE call X n b ρ s1 fun y s2 => wCmp o x y s2 Q
    | .ite c a b => wE call X n c ρ s fun x s1 => wT x s1 fun t => match t with
      | true => wE call X n a ρ s1 Q
      | false => wE call X n b ρ s1 Q
    | .tup es => wL (fun e => wE call X n e ρ) es s fun vs s1 => Q (.tup vs) s1
    | .lst al es => wL (fun e => wE call X n e ρ) es s fun vs s1 => match al with
      | true => Q (.ref s1.cells.length) ⟨s1.cells ++ [.lst vs], s1.opn⟩
      | false => Q (.lst vs) s1
    | .dct al ks vs => wPs (fun e => wE call NoX n e ρ) ks vs s fun ps s1 => match al with
      | true => OpW (mkDisp true ps s1) Q
      | false => (ps.all (fun p => (keyOf p.1).isSome) = true ∧ ps.length ≤ 15) ∧ Q (.dct (mergeA [] ps)) s1
    | .idx a i => wE call X n a ρ s fun x s1 => wE call X n i ρ s1 fun y s2 => wIdx x y s2 Q
    | .slc a lo hi => wE call X n a ρ s fun x s1 => wO (fun e => wE call X n e ρ) lo s1 fun l s2 => wO (fun e => wE call X n e ρ) hi s2 fun h s3 => OpW (slcM x l h s3) Q
    | .comp al ws tg it ifs elt =>
      let src : (List AV → AS → Prop) → Prop := fun K => match it with
        | .rng es => wL (fun e => wE call X n e ρ) es s fun vs s1 => OpW (rngM vs s1) fun r s2 => match r with
          | .items xs => K xs s2
          | .cell _ _ => False
        | it => wE call X n it ρ s fun v s1 => OpW (srcOf v s1) fun r s2 => match r with
          | .items xs => K xs s2
          | .cell _ _ => False
      src fun xs s1 => CompW (fun x s1 Q' => match asgT s1.cells tg x (wipeE ρ ws) with
        | some ρ' => (match ifs with
          | [] => wE call NoX n elt ρ' s1 fun v s2 => Q' (some v) s2
          | [c] => wE call NoX n c ρ' s1 fun x s2 => wT x s2 fun t => match t with
            | true => wE call NoX n elt ρ' s2 fun v s3 => Q' (some v) s3
            | false => Q' none s2
          | _ => False)
        | none => False) xs [] s1 fun vs s2 => match al with
      | true => Q (.ref s2.cells.length) ⟨s2.cells ++ [.lst vs], s2.opn⟩
      | false => Q (.lst vs) s2
    | .rng _ => False
    | .call k es ws ks perm keep => wL (fun e => wE call X n e ρ) es s fun v1 s1 => wL (fun e => wE call X n e ρ) ws s1 fun v2 s2 => match mapO (argOf (v1 ++ v2)) perm with
      | some args => CallW call k args keep s2 Q X
      | none => False
    | .blt b al es => wL (fun e => wE call X n e ρ) es s fun vs s1 => OpW (bltM b al vs s1) Q
    | .isi e ts => wE call X n e ρ s fun x s1 => OpW (isiM x ts s1) Q
    | .bm m a es => wE call X n a ρ s fun x s1 => match bmChk m x s1 with
      | .ok _ _ => wL (fun e => wE call X n e ρ) es s1 fun vs s2 => OpW (bmM m x vs s2) Q
      | _ => False

section
variable {call : Nat → List AV → Bool → MM AV} {X : AV → AS → Prop}
theorem wT_ok {v : AV} {s : AS} {K : Bool → Prop} (h : wT v s K) : ∃ t, truth s.cells v = some t ∧ K t := by
  unfold wT at h
  split at h
  · rename_i b e
    cases b with
    | true => exact ⟨true, e, h.1 rfl⟩
    | false => exact ⟨false, e, h.2 rfl⟩
  · exact h.elim
theorem wL_ok {f : CE → AS → (AV → AS → Prop) → Prop} {g : CE → MM AV} (hf : ∀ e s Q, f e s Q → Wp (g e s) Q X) : ∀ {es : List CE} {s : AS} {Q : List AV → AS → Prop}, wL f es s Q → Wp (evList g es s) Q X
  | [], _, _, h => h
  | e :: es, s, Q, h => wl_cons ((hf e s _ h).imp fun v s1 h => wL_ok hf h)
theorem wPs_ok {f : CE → AS → (AV → AS → Prop) → Prop} {g : CE → MM AV} (hf : ∀ e s Q, f e s Q → Wp (g e s) Q X) : ∀ {ks vs : List CE} {s : AS} {Q : List (AV × AV) → AS → Prop}, wPs f ks vs s Q → Wp (evPairs g ks vs s) Q X
  | [], [], _, _, h => h
  | k :: ks, v :: vs, s, Q, h => wps_cons ((hf k s _ h).imp fun a s1 h => (hf v s1 _ h).imp fun b s2 h => wPs_ok hf h)
  | [], _ :: _, _, _, h => h.elim
  | _ :: _, [], _, _, h => h.elim
theorem wO_ok {f : CE → AS → (AV → AS → Prop) → Prop} {g : CE → MM AV} (hf : ∀ e s Q, f e s Q → Wp (g e s) Q X) : ∀ {e : Option CE} {s : AS} {Q : Option Int → AS → Prop}, wO f e s Q → Wp (evOpt g e s) Q X
  | none, _, _, h => h
  | some e, s, Q, h => wo_some ((hf e s _ h).imp fun v s1 h => by
      cases v with
      | int i => exact ⟨i, rfl, h⟩
      | _ => exact h.elim)
theorem wBin_ok {o : BOp} {x y : AV} {s : AS} {Q : AV → AS → Prop} (h : wBin o x y s Q) : Wp (binM o x y s) Q X := by
  unfold wBin at h
  split at h
  · cases o with
    | add => exact wb_add h
    | sub => exact wb_sub h
    | mul => exact wb_mul h
    | div => exact wb_div h
    | mod => exact wb_mod h
    | pow => exact wb_pow h
  · exact h.run X
theorem wCmp_ok {o : COp} {x y : AV} {s : AS} {Q : AV → AS → Prop} (h : wCmp o x y s Q) : Wp (cmpM o x y s) Q X := by
  cases o with
  | lt => simp only [wCmp] at h; split at h <;> first | exact h | exact h.elim
  | le => simp only [wCmp] at h; split at h <;> first | exact h | exact h.elim
  | gt => simp only [wCmp] at h; split at h <;> first | exact h | exact h.elim
  | ge => simp only [wCmp] at h; split at h <;> first | exact h | exact h.elim
  | isB => simp only [wCmp] at h; split at h <;> first | exact h | exact h.elim
  | _ => exact OpW.run h X
theorem wE_ok : ∀ (n : Nat) {X : AV → AS → Prop} {c : CE} {ρ : AE} {s : AS} {Q : AV → AS → Prop}, wE call X n c ρ s Q → Wp (evE call n c ρ s) Q X
  | 0, _, _, _, _, _, h => h.elim
  | n + 1, X, c, ρ, s, Q, h => by
    have ih := @wE_ok n
    cases c with
    | var i =>
      refine we_var ?_
      simp only [wE] at h
      split at h
      · exact ⟨_, by assumption, h⟩
      · exact h.elim
    | int i => exact h
    | str x => exact h
    | bl b => exact h
    | non => exact h
    | bin o a b => exact we_bin ((ih h).imp fun x s1 h => (ih h).imp fun y s2 h => wBin_ok h)
    | neg a => exact we_neg ((ih h).imp fun x s1 h => by
        cases x with
        | int i => exact ⟨i, rfl, h⟩
        | _ => exact h.elim)
    | not a => exact we_not ((ih h).imp fun x s1 h => by
        split at h
        · exact ⟨_, by assumption, h⟩
        · exact h.elim)
    | and a b => exact we_and ((ih h).imp fun x s1 h => by
        obtain ⟨t, e, h⟩ := wT_ok h
        exact ⟨t, e, fun z => by subst z; exact ih h, fun z => by subst z; exact h⟩)
    | or a b => exact we_or ((ih h).imp fun x s1 h => by
        obtain ⟨t, e, h⟩ := wT_ok h
        exact ⟨t, e, fun z => by subst z; exact h, fun z => by subst z; exact ih h⟩)
    | cmp o a b =>
      by_cases h1 : o = .isN
      · subst h1; exact we_isN (ih h)
      · by_cases h2 : o = .notN
        · subst h2; exact we_notN (ih h)
        · refine we_cmp h1 h2 ?_
          cases o <;> first | exact absurd rfl h1 | exact absurd rfl h2 | exact (ih h).imp fun x s1 h => (ih h).imp fun y s2 h => wCmp_ok h
    | ite c a b => exact we_ite ((ih h).imp fun x s1 h => by
        obtain ⟨t, e, h⟩ := wT_ok h
        exact ⟨t, e, fun z => by subst z; exact ih h, fun z => by subst z; exact ih h⟩)
    | tup es => exact we_tup (wL_ok (fun e s Q h => ih h) h)
    | lst al es => cases al with
      | true => exact we_lstT (wL_ok (fun e s Q h => ih h) h)
      | false => exact we_lstF (wL_ok (fun e s Q h => ih h) h)
    | dct al ks vs =>
      cases al with
      | false => exact we_dctF (wPs_ok (fun e s Q h => ih h) h)
      | true => exact wp_bind (wp_nox ((wPs_ok (fun e s Q h => ih h) h).imp fun ps s1 h => OpW.run h X))
    | idx a i => exact we_idx ((ih h).imp fun x s1 h => (ih h).imp fun y s2 h => OpW.run h X)
    | slc a lo hi => exact we_slc ((ih h).imp fun x s1 h => (wO_ok (fun e s Q h => ih h) h).imp fun l s2 h => (wO_ok (fun e s Q h => ih h) h).imp fun u s3 h => OpW.run h X)
    | comp al ws tg it ifs elt =>
      refine we_comp ?_
      revert h
      have fin : ∀ {r : Src} {s1 : AS}, (match r with
          | .items xs => CompW (fun x s1 Q' => match asgT s1.cells tg x (wipeE ρ ws) with
            | some ρ' => (match ifs with
              | [] => wE call NoX n elt ρ' s1 fun v s2 => Q' (some v) s2
              | [c] => wE call NoX n c ρ' s1 fun x s2 => wT x s2 fun t => match t with
                | true => wE call NoX n elt ρ' s2 fun v s3 => Q' (some v) s3
                | false => Q' none s2
              | _ => False)
            | none => False) xs [] s1 fun vs s2 => match al with
              | true => Q (.ref s2.cells.length) ⟨s2.cells ++ [.lst vs], s2.opn⟩
              | false => Q (.lst vs) s2
          | .cell _ _ => False) → Wp (compR (cTurn (fun s v ρ => asgT s.cells tg v ρ) (fun ρ' => evTests (fun e => evE call n e ρ') ifs) (fun ρ' => evE call n elt ρ') (wipeE ρ ws)) r 0 [] s1) (fun vs s2 => Wp (mkL al vs s2) Q X) X := by
        intro r s1 h
        cases r with
        | cell _ _ => exact h.elim
        | items xs =>
          refine (h.run _ X fun x s Q' h => ?_).imp fun vs s2 h => ?_
          · refine (wc_turn ?_)
            split at h
            · rename_i ρ' e
              refine ⟨ρ', e, ?_⟩
              split at h
              · refine wt_nil ⟨fun _ => ih h, fun z => (nomatch z)⟩
              · refine wt_one ((ih h).imp fun y s2 h => ?_)
                obtain ⟨t, e, h⟩ := wT_ok h
                exact ⟨t, e, fun z => by subst z; exact ih h, fun z => by subst z; exact h⟩
              · exact h.elim
            · exact h.elim
          · cases al with
            | true => exact h
            | false => exact h
      intro h
      cases it with
      | rng es => exact wi_rng ((wL_ok (fun e s Q h => ih h) h).imp fun vs s1 h => (OpW.run h X).imp fun r s2 h => fin h)
      | _ => exact wi_val (fun _ z => nomatch z) ((ih h).imp fun v s1 h => (OpW.run h X).imp fun r s2 h => fin h)
    | rng _ => exact h.elim
    | call k es ws ks perm keep => exact we_call ((wL_ok (fun e s Q h => ih h) h).imp fun v1 s1 h => (wL_ok (fun e s Q h => ih h) h).imp fun v2 s2 h => by
        split at h
        · exact ⟨_, by assumption, h.run⟩
        · exact h.elim)
    | blt b al es => exact we_blt ((wL_ok (fun e s Q h => ih h) h).imp fun vs s1 h => OpW.run h X)
    | isi e ts => exact wp_bind ((ih h).imp fun x s1 h => OpW.run h X)
    | bm m a es => exact wp_bind ((ih h).imp fun x s1 h => by
        revert h
        cases hb : bmChk m x s1 with
        | stuck => exact fun h => h.elim
        | exc _ _ => exact fun h => h.elim
        | ok u s2 =>
          intro h
          have e2 : s2 = s1 := by
            unfold bmChk at hb
            split at hb
            · cases hb; rfl
            · cases hb
          subst e2
          exact wp_bind (Wp.of hb (wp_bind ((wL_ok (fun e s Q h => ih h) h).imp fun vs s2 h => OpW.run h X))))

/-! ### statements -/
/-- runs that may go on or give a value -/
def wB (st : CS → AE → AS → (AE → AS → Prop) → (AV → AS → Prop) → Prop) : List CS → AE → AS → (AE → AS → Prop) → (AV → AS → Prop) → Prop
  | [], ρ, s, N, _ => N ρ s
  | c :: cs, ρ, s, N, R => st c ρ s (fun ρ s => wB st cs ρ s N R) R
def wS (call : Nat → List AV → Bool → MM AV) : Nat → CS → AE → AS → (AE → AS → Prop) → (AV → AS → Prop) → Prop
  | 0, _, _, _, _, _ => False
  | n + 1, c, ρ, s, N, R => match c with
    | .expr e => wE call NoX n e ρ s fun _ s1 => N ρ s1
    | .asg t e => wE call NoX n e ρ s fun v s1 => match asgT s1.cells t v ρ with
      | some ρ' => N ρ' s1
      | none => False
    | .setIx a i e => wE call NoX n e ρ s fun v s1 => wE call NoX n a ρ s1 fun x s2 => wE call NoX n i ρ s2 fun y s3 => OpW (setIxM x y v s3) fun _ s4 => N ρ s4
    | .ifS t a b => wE call NoX n t ρ s fun x s1 => wT x s1 fun t => match t with
      | true => wB (wS call n) a ρ s1 N R
      | false => wB (wS call n) b ρ s1 N R
    | .forS t it body =>
      let src : (List AV → AS → Prop) → Prop := fun K => match it with
        | .rng es => wL (fun e => wE call NoX n e ρ) es s fun vs s1 => OpW (rngM vs s1) fun r s2 => match r with
          | .items xs => K xs s2
          | .cell _ _ => False
        | it => wE call NoX n it ρ s fun v s1 => OpW (srcOf v s1) fun r s2 => match r with
          | .items xs => K xs s2
          | .cell _ _ => False
      src fun xs s1 => ForW (fun x ρ' s2 N' R' => match asgT s2.cells t x ρ' with
        | some ρ2 => wB (wS call n) body ρ2 s2 N' R'
        | none => False) xs ρ s1 N R
    | .ret e => wE call NoX n e ρ s fun v s1 => R v s1
    | .retN => R .non s
abbrev KOf (R : AV → AS → Prop) : SK := ⟨R, fun _ _ => False, fun _ _ => False, fun _ _ _ => False⟩
theorem wB_ok {f : CS → AE → AS → (AE → AS → Prop) → (AV → AS → Prop) → Prop} {g : CS → AE → AS → SRs} (hf : ∀ c ρ s N R, f c ρ s N R → WS (g c ρ s) N (KOf R)) : ∀ {cs : List CS} {ρ : AE} {s : AS} {N : AE → AS → Prop} {R : AV → AS → Prop}, wB f cs ρ s N R → WS (evB g cs ρ s) N (KOf R)
  | [], _, _, _, _, h => h
  | c :: cs, ρ, s, N, R, h => ws_cons (WS.mono (hf c ρ s _ R h) (fun ρ s h => wB_ok hf h))
theorem nox_imp {α : Type} {r : Rs α} {Q : α → AS → Prop} {X : AV → AS → Prop} (h : Wp r Q NoX) : Wp r Q X := h.mono (fun _ _ h => h) fun _ _ h => h.elim
theorem wS_ok : ∀ (n : Nat) {c : CS} {ρ : AE} {s : AS} {N : AE → AS → Prop} {R : AV → AS → Prop}, wS call n c ρ s N R → WS (evS call n c ρ s) N (KOf R)
  | 0, _, _, _, _, _, h => h.elim
  | n + 1, c, ρ, s, N, R, h => by
    have ih := @wS_ok n
    have ie := @wE_ok call n
    cases c with
    | expr e => exact ws_expr (nox_imp (ie h))
    | asg t e => exact ws_asg (nox_imp ((ie h).imp fun v s1 h => by
        split at h
        · exact ⟨_, by assumption, h⟩
        · exact h.elim))
    | setIx a i e => exact ws_setIx (nox_imp ((ie h).imp fun v s1 h => nox_imp ((ie h).imp fun x s2 h => nox_imp ((ie h).imp fun y s3 h => h.run _))))
    | ifS t a b => exact ws_if (nox_imp ((ie h).imp fun x s1 h => by
        obtain ⟨t, e, h⟩ := wT_ok h
        exact ⟨t, e, fun z => by subst z; exact wB_ok (fun c ρ s N R h => ih h) h, fun z => by subst z; exact wB_ok (fun c ρ s N R h => ih h) h⟩))
    | forS t it body =>
      refine ws_for ?_
      have fin : ∀ {xs : List AV} {s1 : AS}, ForW (fun x ρ' s2 N' R' => match asgT s2.cells t x ρ' with
        | some ρ2 => wB (wS call n) body ρ2 s2 N' R'
        | none => False) xs ρ s1 N R → WS (forL (turnF call n t body) xs ρ s1) N (KOf R) := fun h => h.run _ _ fun x ρ s N' R' h => by
          refine ws_turn ?_
          split at h
          · exact ⟨_, by assumption, wB_ok (fun c ρ s N R h => ih h) h⟩
          · exact h.elim
      cases it with
      | rng es => exact nox_imp (wi_rng ((wL_ok (fun e s Q h => ie h) h).imp fun vs s1 h => (OpW.run h _).imp fun r s2 h => by
          cases r with
          | items xs => exact fin h
          | cell _ _ => exact h.elim))
      | _ => exact nox_imp (wi_val (fun _ z => nomatch z) ((ie h).imp fun v s1 h => (OpW.run h _).imp fun r s2 h => by
          cases r with
          | items xs => exact fin h
          | cell _ _ => exact h.elim))
    | ret e => exact ws_ret (nox_imp (ie h))
    | retN => exact h
/-- a call of a def -/
theorem CallW.fn {P : List FnD} {d k : Nat} {f : FnD} {args : List AV} {keep : Bool} {s : AS} {Q : AV → AS → Prop} (hf : P[k]? = some f) (hl : args.length = f.nps)
    (h : wB (wS (callF P d) FU) f.body (args.map some ++ List.replicate (f.nsl - f.nps) none) ⟨s.cells, false⟩ (fun _ s1 => OpW (leaveF.leaveV s keep .non s1) Q) fun v s1 => OpW (leaveF.leaveV s keep v s1) Q) : CallW (callF P (d + 1)) k args keep s Q X :=
  ⟨wp_fn hf hl (WS.mono' (wB_ok (fun c ρ s N R h => wS_ok FU h) h) (fun ρ s h => h.run X) fun v s h => h.run X)⟩
theorem OpW.of {α : Type} {r : Rs α} {a : α} {s : AS} {Q : α → AS → Prop} (e : r = .ok a s) (h : Q a s) : OpW r Q := ⟨fun _ => Wp.of e h⟩
theorem OpW.wp {α : Type} {r : Rs α} {Q : α → AS → Prop} (h : ∀ X, Wp r Q X) : OpW r Q := ⟨h⟩
theorem CompW.nil {f : AV → AS → (Option AV → AS → Prop) → Prop} {acc : List AV} {s : AS} {Q : List AV → AS → Prop} (h : Q acc s) : CompW f [] acc s Q := ⟨fun _ _ _ => h⟩
theorem CompW.cons {f : AV → AS → (Option AV → AS → Prop) → Prop} {x : AV} {xs acc : List AV} {s : AS} {Q : List AV → AS → Prop} (h : ∀ R : Option AV → AS → Prop, (∀ o s1, CompW f xs (accO acc o) s1 Q → R o s1) → f x s R) : CompW f (x :: xs) acc s Q :=
  ⟨fun g X hg => wc_cons (hg x s _ (h _ fun o s1 h => h.run g X hg))⟩
theorem CompW.inv {f : AV → AS → (Option AV → AS → Prop) → Prop} {Q : List AV → AS → Prop} (I : Nat → List AV → AS → Prop) {xs acc : List AV} {s : AS} (h0 : I 0 acc s) (hs : ∀ (i : Nat) (x : AV) acc s, xs[i]? = some x → I i acc s → f x s fun o s1 => I (i + 1) (accO acc o) s1)
    (hd : ∀ acc s, I xs.length acc s → Q acc s) : CompW f xs acc s Q := ⟨fun g X hg => wc_inv I h0 (fun i x acc s e h => hg x s _ (hs i x acc s e h)) hd⟩
theorem ForW.nil {f : AV → AE → AS → (AE → AS → Prop) → (AV → AS → Prop) → Prop} {ρ : AE} {s : AS} {N : AE → AS → Prop} {R : AV → AS → Prop} (h : N ρ s) : ForW f [] ρ s N R := ⟨fun _ _ _ => h⟩
theorem ForW.inv {f : AV → AE → AS → (AE → AS → Prop) → (AV → AS → Prop) → Prop} {N : AE → AS → Prop} {R : AV → AS → Prop} (I : Nat → AE → AS → Prop) {xs : List AV} {ρ : AE} {s : AS} (h0 : I 0 ρ s) (hs : ∀ (i : Nat) (x : AV) ρ s, xs[i]? = some x → I i ρ s → f x ρ s (I (i + 1)) R)
    (hd : ∀ ρ s, I xs.length ρ s → N ρ s) : ForW f xs ρ s N R := ⟨fun g E hg => wf_inv I h0 (fun i x ρ s e h => WS.monoK (hg x ρ s _ _ (hs i x ρ s e h))) hd⟩
end

/-! ### single wishes -/
theorem br_t {A B : Prop} {b : Bool} (e : b = true) (h : A) : (b = true → A) ∧ (b = false → B) := ⟨fun _ => h, fun z => by rw [e] at z; cases z⟩
theorem br_f {A B : Prop} {b : Bool} (e : b = false) (h : B) : (b = true → A) ∧ (b = false → B) := ⟨fun z => by (rw [e] at z; cases z), fun _ => h⟩
section
variable {s s1 : AS} {keep : Bool} {v : AV} {Q : AV → AS → Prop}
theorem OpW.leave (ho : s1.opn = false) (hl : s1.cells.length ≤ s.cells.length) (h : Q v ⟨s1.cells, s.opn⟩) : OpW (leaveF.leaveV s keep v s1) Q :=
  ⟨fun X => wp_leave hl (by rw [ho, Bool.or_false]; exact h)⟩
theorem toPy_ints {cs : List AO} : ∀ {ns : List Int} {n : Nat}, mapO (toPy cs (n + 1)) (ns.map AV.int) = some (ns.map PyData.int)
  | [], _ => rfl
  | x :: ns, n => by
    rw [List.map_cons, mapO, toPy_ints]
    rfl
theorem canLay_ints : ∀ {ns : List Int}, PyData.canLayAll0 (ns.map PyData.int) = true
  | [] => rfl
  | x :: r => by
    rw [List.map_cons]
    unfold PyData.canLayAll0
    rw [canLay_ints]
    rfl
theorem depth_ints : ∀ {ns : List Int}, PyData.depthAll (ns.map PyData.int) = 0
  | [] => by rw [List.map_nil]; unfold PyData.depthAll; rfl
  | x :: r => by
    rw [List.map_cons]
    unfold PyData.depthAll
    rw [depth_ints]
    unfold PyData.depth
    rfl
theorem shaped_ints {ns : List Int} : SeqAt.shaped (.list (ns.map PyData.int)) = true := by
  unfold SeqAt.shaped PyData.canLay0 PyData.depth
  rw [canLay_ints, depth_ints]
  rfl
theorem eqv_nil {ds : List PyData} : PyData.eqv (.list ds) (.list []) = ds.isEmpty := by
  unfold PyData.eqv
  cases ds with
  | nil => unfold PyData.eqvAll; rfl
  | cons _ _ => unfold PyData.eqvAll; rfl
theorem OpW.ne_nil {ns : List Int} (h : Q (.bl (!ns.isEmpty)) s) : OpW (cmpM .ne (.lst (ns.map AV.int)) (.lst []) s) Q := ⟨fun X => by
  refine wk_ne ⟨.list (ns.map PyData.int), ?_, .list [], rfl, ⟨shaped_ints, by decide +kernel⟩, ?_⟩
  · show (match mapO (toPy s.cells 11) (ns.map AV.int) with | some ds => some (PyData.list ds) | none => none) = _
    rw [toPy_ints]
  · rw [eqv_nil]
    cases ns <;> exact h⟩
theorem OpW.eq_nil {ns : List Int} (h : Q (.bl ns.isEmpty) s) : OpW (cmpM .eq (.lst (ns.map AV.int)) (.lst []) s) Q := ⟨fun X => by
  refine wk_eq ⟨.list (ns.map PyData.int), ?_, .list [], rfl, ⟨shaped_ints, by decide +kernel⟩, ?_⟩
  · show (match mapO (toPy s.cells 11) (ns.map AV.int) with | some ds => some (PyData.list ds) | none => none) = _
    rw [toPy_ints]
  · rw [eqv_nil]
    cases ns <;> exact h⟩
/-- an item of a list, at a place within -/
theorem OpW.item {xs : List AV} {i : Int} (h0 : 0 ≤ i) (h1 : i < xs.length) (h : ∀ (j : Nat) v, (j : Int) = i → xs[j]? = some v → Q v s) : OpW (idxM (.lst xs) (.int i) s) Q := ⟨fun X => by
  have hj : i.toNat < xs.length := by omega
  refine wx_seq ⟨_, rfl, xs[i.toNat], ?_, h i.toNat _ (by omega) (List.getElem?_eq_getElem hj)⟩
  unfold L2.atI L2.ixN
  rw [if_pos h0, if_pos (show i < ((xs.length : Nat) : Int) from h1)]
  show xs[i.toNat]? = _
  exact List.getElem?_eq_getElem hj⟩
theorem OpW.itemT {xs : List AV} {i : Int} (h0 : 0 ≤ i) (h1 : i < xs.length) (h : ∀ (j : Nat) v, (j : Int) = i → xs[j]? = some v → Q v s) : OpW (idxM (.tup xs) (.int i) s) Q := ⟨fun X => by
  have hj : i.toNat < xs.length := by omega
  refine wx_seq ⟨_, rfl, xs[i.toNat], ?_, h i.toNat _ (by omega) (List.getElem?_eq_getElem hj)⟩
  unfold L2.atI L2.ixN
  rw [if_pos h0, if_pos (show i < ((xs.length : Nat) : Int) from h1)]
  show xs[i.toNat]? = _
  exact List.getElem?_eq_getElem hj⟩
theorem OpW.itemI {ns : List Int} {i : Int} (h0 : 0 ≤ i) (h1 : i < ns.length) (h : ∀ c, Q (.int c) s) : OpW (idxM (.lst (ns.map AV.int)) (.int i) s) Q := by
  refine OpW.item h0 (by rw [List.length_map]; exact h1) fun j v _ hv => ?_
  rw [List.getElem?_map] at hv
  cases e : ns[j]? with
  | none => rw [e] at hv; cases hv
  | some c => rw [e] at hv; cases hv; exact h c
theorem OpW.isi {x : AV} {ts : List String} (bs : List Bool) (h : ∃ t, tyName s.cells x = some t ∧ mapO (L2.kitB t) ts = some bs ∧ Q (.bl (bs.any id)) s) : OpW (isiM x ts s) Q := ⟨fun X => by
  obtain ⟨t, h1, h2, h⟩ := h
  unfold isiM; rw [h1]; simp only; rw [h2]; exact h⟩
theorem shaped_int {x : Int} : SeqAt.shaped (.int x) = true := by
  unfold SeqAt.shaped PyData.canLay0 PyData.depth
  rfl
theorem OpW.eqI {i j : Int} (h : Q (.bl (decide (i = j))) s) : OpW (cmpM .eq (.int i) (.int j) s) Q := ⟨fun X => wk_eq ⟨.int i, rfl, .int j, rfl, ⟨shaped_int, shaped_int⟩, by unfold PyData.eqv; exact h⟩⟩
theorem OpW.neI {i j : Int} (h : Q (.bl (!decide (i = j))) s) : OpW (cmpM .ne (.int i) (.int j) s) Q := ⟨fun X => wk_ne ⟨.int i, rfl, .int j, rfl, ⟨shaped_int, shaped_int⟩, by unfold PyData.eqv; exact h⟩⟩
theorem OpW.eqS {x y : Str} (h : (SeqAt.shaped (.str x) = true ∧ SeqAt.shaped (.str y) = true) ∧ Q (.bl (x == y)) s) : OpW (cmpM .eq (.str x) (.str y) s) Q := ⟨fun X => wk_eq ⟨.str x, rfl, .str y, rfl, h.1, by unfold PyData.eqv; exact h.2⟩⟩
theorem OpW.neS {x y : Str} (h : (SeqAt.shaped (.str x) = true ∧ SeqAt.shaped (.str y) = true) ∧ Q (.bl (!(x == y))) s) : OpW (cmpM .ne (.str x) (.str y) s) Q := ⟨fun X => wk_ne ⟨.str x, rfl, .str y, rfl, h.1, by unfold PyData.eqv; exact h.2⟩⟩
theorem OpW.repr {x : AV} {al : Bool} (d : PyData) (h : toPy s.cells DPT x = some d ∧ (d.showable = true ∧ d.hasDict = false ∧ d.shown.length ≤ LIM ∧ d.depth ≤ 64) ∧ Q (.str d.shown) s) : OpW (bltM .repr al [x] s) Q := ⟨fun X => wn_repr ⟨d, h⟩⟩
theorem OpW.rng {j : Int} {Q : Src → AS → Prop} (h0 : 0 ≤ j) (h1 : j < 16777216) (h : Q (.items ((List.range j.toNat).map fun i => AV.int (i : Nat))) s) : OpW (rngM [.int j] s) Q := ⟨fun X => wr_one ⟨⟨h1, by omega⟩, h⟩⟩
theorem OpW.cat {xs ys : List AV} (hz : xs.length + ys.length ≤ 16777216) (h : Q (.lst (xs ++ ys)) s) : OpW (binM .add (.lst xs) (.lst ys) s) Q := ⟨fun X => wb_lst ⟨xs, rfl, ys, rfl, hz, h⟩⟩
theorem OpW.str {i : Int} {al : Bool} (h1 : i.natAbs < 2 ^ 200) (h : Q (.str (toString i)) s) : OpW (bltM .str al [.int i] s) Q := ⟨fun X => wn_str ⟨by
  by_cases h0 : i.natAbs = 0
  · rw [h0]; decide
  · exact (Nat.log2_lt h0).mpr (Nat.lt_of_lt_of_le h1 (Nat.pow_le_pow_right (by decide) (by decide))), h⟩⟩
theorem strs_map : ∀ {ys : List Str}, strsOf (ys.map AV.str) = some ys
  | [] => rfl
  | y :: r => by rw [List.map_cons, strsOf, strs_map]
theorem OpW.join {a : Str} {ys : List Str} (hz : (ys.map (·.length)).sum + ys.length * a.length ≤ 16777216) (h : Q (.str (Txt.join a ys)) s) : OpW (bmM .join (.str a) [.lst (ys.map AV.str)] s) Q := ⟨fun X => wj_join ⟨_, rfl, ys, strs_map, hz, h⟩⟩
theorem cutL_len {α : Type} {xs : List α} {lo hi : Option Int} : (cutL xs lo hi).length ≤ xs.length := by
  unfold cutL
  simp
  omega
theorem cutL_mem {α : Type} {xs : List α} {lo hi : Option Int} {x : α} (h : x ∈ cutL xs lo hi) : x ∈ xs := List.mem_of_mem_drop (List.mem_of_mem_take h)
end
end Ev

set_option maxHeartbeats 4000000
namespace K01
open PySem PySem.Spec PyProof.Rows Ev
section
open L2
def tp (i : Nat) : Stmt := (PySem.Challenge.pw_stonerounds_k01_plain_values_told).main.body.getD i (.Pass ⟨0, 0, 0, 0⟩)
/-- is_integer -/
def d0 : FnD := ⟨"is_integer", 1, 1, [(.ret (.and (.isi (.var 0) ["int"]) (.not (.isi (.var 0) ["bool"]))))]⟩
def f0 : FnS := ⟨d0, ["value"], tp 1⟩
/-- is_within -/
def d1 : FnD := ⟨"is_within", 3, 3, [(.ifS (.not (.call 0 [(.var 0)] [] [] [.at 0] false)) [(.ret (.bl false))] []), (.ret (.and (.or (.cmp .isN (.var 1) .non) (.cmp .le (.var 1) (.var 0))) (.or (.cmp .isN (.var 2) .non) (.cmp .le (.var 0) (.var 2)))))]⟩
def f1 : FnS := ⟨d1, ["value", "least", "most"], tp 2⟩
/-- is_list -/
def d2 : FnD := ⟨"is_list", 1, 1, [(.ret (.isi (.var 0) ["list", "tuple"]))]⟩
def f2 : FnS := ⟨d2, ["value"], tp 3⟩
/-- is_bits -/
def d3 : FnD := ⟨"is_bits", 1, 2, [(.ret (.and (.call 2 [(.var 0)] [] [] [.at 0] false) (.blt .all false [(.comp false [1] (.var 1) (.var 0) [] (.call 1 [(.var 1), (.int 0), (.int 1)] [] [] [.at 0, .at 1, .at 2] false))])))]⟩
def f3 : FnS := ⟨d3, ["value", "each"], tp 4⟩
/-- is_cell -/
def d4 : FnD := ⟨"is_cell", 1, 2, [(.ret (.and (.call 2 [(.var 0)] [] [] [.at 0] false) (.and (.cmp .eq (.blt .len false [(.var 0)]) (.int 2)) (.blt .all false [(.comp false [1] (.var 1) (.var 0) [] (.call 1 [(.var 1), (.int 0), .non] [] [] [.at 0, .at 1, .at 2] false))]))))]⟩
def f4 : FnS := ⟨d4, ["value", "each"], tp 5⟩
/-- _law_crock -/
def d5 : FnD := ⟨"_law_crock", 1, 2, [(.ret (.lst true [(.comp false [1] (.var 1) (.slc (.var 0) none (some (.int 60))) [] (.blt .int false [(.var 1)])), (.int 0), (.int 0)]))]⟩
def f5 : FnS := ⟨d5, ["script", "cell"], tp 7⟩
/-- _law_scoop -/
def d6 : FnD := ⟨"_law_scoop", 2, 6, [(.ifS (.cmp .gt (.idx (.var 0) (.int 2)) (.int 0)) [(.asg (.var 2) (.blt .int false [(.idx (.var 0) (.int 2))])), (.setIx (.var 0) (.int 2) (.bin .div (.var 2) (.var 1))), (.ret (.bin .mod (.blt .int false [(.var 2)]) (.var 1)))] []), (.asg (.var 3) (.idx (.var 0) (.int 1))), (.setIx (.var 0) (.int 1) (.bin .add (.var 3) (.int 1))), (.asg (.var 4) (.bin .add (.bin .mul (.int 118247) (.var 3)) (.int 9367))), (.ifS (.cmp .ne (.idx (.var 0) (.int 0)) (.lst false [])) [(.asg (.var 4) (.idx (.idx (.var 0) (.int 0)) (.bin .mod (.blt .int false [(.var 3)]) (.blt .len false [(.idx (.var 0) (.int 0))]))))] []), (.ifS (.and (.cmp .lt (.var 3) (.blt .len false [(.idx (.var 0) (.int 0))])) (.cmp .ge (.blt .abs false [(.var 4)]) (.bin .pow (.int 10) (.int 18)))) [(.asg (.var 2) (.bin .add (.bin .mul (.int 2) (.bin .sub (.blt .abs false [(.var 4)]) (.bin .pow (.int 10) (.int 18)))) (.blt .int false [(.cmp .lt (.var 4) (.int 0))]))), (.setIx (.var 0) (.int 2) (.bin .div (.var 2) (.var 1))), (.ret (.bin .mod (.blt .int false [(.var 2)]) (.var 1)))] []), (.asg (.var 5) (.bin .mod (.blt .int false [(.bin .pow (.bin .add (.bin .add (.bin .mod (.blt .int false [(.var 4)]) (.int 2147483587)) (.bin .mul (.int 81472) (.var 3))) (.int 9367)) (.int 5))]) (.int 2147483629))), (.asg (.var 5) (.bin .mod (.blt .int false [(.bin .pow (.bin .add (.bin .add (.bin .mul (.var 5) (.bin .add (.bin .mul (.int 2) (.var 3)) (.int 5807))) (.bin .mul (.bin .mul (.int 118247) (.var 3)) (.var 3))) (.int 81472)) (.int 3))]) (.int 2147483579))), (.ret (.bin .mod (.blt .int false [(.bin .div (.var 5) (.int 64))]) (.var 1)))]⟩
def f6 : FnS := ⟨d6, ["crock", "many", "rest", "turn", "cell", "mixed"], tp 8⟩
/-- _law_pick -/
def d7 : FnD := ⟨"_law_pick", 2, 2, [(.ret (.idx (.var 1) (.call 6 [(.var 0), (.blt .len false [(.var 1)])] [] [] [.at 0, .at 1] false)))]⟩
def f7 : FnS := ⟨d7, ["crock", "some"], tp 9⟩
/-- _law_value -/
def d8 : FnD := ⟨"_law_value", 1, 3, [(.asg (.var 1) (.call 7 [(.var 0), (.lst false [(.bin .sub (.call 6 [(.var 0), (.int 9)] [] [] [.at 0, .at 1] false) (.int 4)), (.bin .add (.bin .pow (.int 10) (.int 20)) (.call 6 [(.var 0), (.int 9)] [] [] [.at 0, .at 1] false)), (.neg (.call 6 [(.var 0), (.int 1000)] [] [] [.at 0, .at 1] false))])] [] [] [.at 0, .at 1] false)), (.asg (.var 2) (.lst false [(.var 1), (.blt .str false [(.var 1)]), .non, (.bl true), (.bl false), (.lst false [(.var 1)]), (.tup [(.var 1), (.int 2)]), (.dct false [(.var 1)] [(.lst false [(.var 1)])]), (.str ""), (.lst false []), (.tup []), (.lst false [(.lst false [(.var 1)]), (.tup [(.int 1), (.lst false [(.int 2)])])]), (.lst false [(.bl true), (.int 0)]), (.str "01")])), (.ret (.call 7 [(.var 0), (.var 2)] [] [] [.at 0, .at 1] false))]⟩
def f8 : FnS := ⟨d8, ["crock", "number", "some"], tp 10⟩
/-- _law_own_integer -/
def d9 : FnD := ⟨"_law_own_integer", 1, 1, [(.ret (.and (.isi (.var 0) ["int"]) (.not (.isi (.var 0) ["bool"]))))]⟩
def f9 : FnS := ⟨d9, ["value"], tp 11⟩
/-- _law_bits_right -/
def d10 : FnD := ⟨"_law_bits_right", 1, 8, [(.asg (.var 1) (.comp false [2] (.var 2) (.rng [(.call 6 [(.var 0), (.int 7)] [] [] [.at 0, .at 1] false)]) [] (.call 6 [(.var 0), (.int 2)] [] [] [.at 0, .at 1] false))), (.asg (.tup [(.var 3), (.var 4)]) (.tup [(.call 6 [(.var 0), (.bin .add (.blt .len false [(.var 1)]) (.int 1))] [] [] [.at 0, .at 1] false), (.call 7 [(.var 0), (.lst false [(.bl true), (.int 2), (.neg (.int 1)), (.str "1"), .non, (.lst false [(.int 1)]), (.bl false), (.bin .pow (.int 10) (.int 20))])] [] [] [.at 0, .at 1] false)])), (.asg (.var 5) (.bin .add (.bin .add (.slc (.var 1) none (some (.var 3))) (.lst false [(.var 4)])) (.slc (.var 1) (some (.var 3)) none))), (.asg (.var 6) (.blt .repr false [(.lst false [(.bl true), (.bl true), (.bl false), (.bl false), (.bl false), (.bl false)])])), (.ret (.cmp .eq (.blt .repr false [(.lst false [(.call 3 [(.var 1)] [] [] [.at 0] false), (.call 3 [] [(.blt .tuple false [(.var 1)])] ["value"] [.at 0] false), (.call 3 [(.var 5)] [] [] [.at 0] false), (.call 3 [(.blt .tuple false [(.var 5)])] [] [] [.at 0] false), (.call 3 [(.bm .join (.str "") [(.comp false [7] (.var 7) (.var 1) [] (.blt .str false [(.var 7)]))])] [] [] [.at 0] false), (.call 3 [(.dct false [(.int 0)] [(.int 1)])] [] [] [.at 0] false)])]) (.var 6)))]⟩
def f10 : FnS := ⟨d10, ["crock", "row", "turn", "at", "odd", "bent", "due", "bit"], tp 12⟩
/-- _law_cell_right -/
def d11 : FnD := ⟨"_law_cell_right", 1, 5, [(.asg (.tup [(.var 1), (.var 2)]) (.tup [(.call 7 [(.var 0), (.lst false [(.int 0), (.call 6 [(.var 0), (.int 9)] [] [] [.at 0, .at 1] false), (.bin .pow (.int 10) (.int 20)), (.bin .sub (.neg (.int 1)) (.call 6 [(.var 0), (.int 3)] [] [] [.at 0, .at 1] false))])] [] [] [.at 0, .at 1] false), (.call 7 [(.var 0), (.lst false [(.int 0), (.call 6 [(.var 0), (.int 9)] [] [] [.at 0, .at 1] false), (.neg (.int 1)), (.bin .pow (.int 10) (.int 20))])] [] [] [.at 0, .at 1] false)])), (.asg (.var 3) (.and (.cmp .ge (.var 1) (.int 0)) (.cmp .ge (.var 2) (.int 0)))), (.ifS (.cmp .ne (.blt .repr false [(.lst false [(.call 4 [(.tup [(.var 1), (.var 2)])] [] [] [.at 0] false), (.call 4 [] [(.lst false [(.var 1), (.var 2)])] ["value"] [.at 0] false)])]) (.blt .repr false [(.lst false [(.var 3), (.var 3)])])) [(.ret (.bl false))] []), (.asg (.var 4) (.call 7 [(.var 0), (.lst false [.non, (.int 5), (.tup [(.int 0)]), (.tup [(.int 0), (.int 0), (.int 0)]), (.tup [(.bl true), (.int 0)]), (.lst false [(.int 0), (.bl false)]), (.str "00"), (.dct false [(.int 0), (.int 1)] [(.int 0), (.int 1)]), (.tup [(.tup [(.int 0), (.int 0)]), (.int 1)]), (.tup [(.int 0), .non]), (.tup [(.str "0"), (.int 1)])])] [] [] [.at 0, .at 1] false)), (.ret (.cmp .isB (.call 4 [(.var 4)] [] [] [.at 0] false) (.bl false)))]⟩
def f11 : FnS := ⟨d11, ["crock", "x", "y", "due", "odd"], tp 13⟩
/-- law -/
def d12 : FnD := ⟨"law", 1, 10, [(.asg (.var 1) (.call 5 [(.var 0)] [] [] [.at 0] true)), (.forS (.var 2) (.rng [(.int 4)]) [(.asg (.var 3) (.call 8 [(.var 1)] [] [] [.at 0] false)), (.asg (.tup [(.var 4), (.var 5)]) (.tup [(.bin .sub (.call 6 [(.var 1), (.int 9)] [] [] [.at 0, .at 1] false) (.int 4)), (.bin .sub (.call 6 [(.var 1), (.int 9)] [] [] [.at 0, .at 1] false) (.int 4))])), (.asg (.var 6) (.call 7 [(.var 1), (.lst false [(.var 3), (.var 4), (.var 5), (.bin .sub (.var 4) (.int 1)), (.bin .add (.var 5) (.int 1)), (.int 0)])] [] [] [.at 0, .at 1] false)), (.asg (.tup [(.var 7), (.var 8)]) (.tup [(.call 7 [(.var 1), (.lst false [(.var 4), .non])] [] [] [.at 0, .at 1] false), (.call 7 [(.var 1), (.lst false [(.var 5), .non])] [] [] [.at 0, .at 1] false)])), (.asg (.var 9) (.and (.call 9 [(.var 6)] [] [] [.at 0] false) (.and (.or (.cmp .isN (.var 7) .non) (.cmp .ge (.var 6) (.var 7))) (.or (.cmp .isN (.var 8) .non) (.cmp .le (.var 6) (.var 8)))))), (.ifS (.or (.cmp .ne (.blt .repr false [(.call 0 [] [(.var 6)] ["value"] [.at 0] false)]) (.blt .repr false [(.call 9 [(.var 6)] [] [] [.at 0] false)])) (.cmp .ne (.blt .repr false [(.call 1 [] [(.var 8), (.var 7), (.var 6)] ["most", "least", "value"] [.at 2, .at 1, .at 0] false)]) (.blt .repr false [(.var 9)]))) [(.ret (.bl false))] []), (.ifS (.or (.not (.call 10 [(.var 1)] [] [] [.at 0] false)) (.not (.call 11 [(.var 1)] [] [] [.at 0] false))) [(.ret (.bl false))] [])]), (.ret (.bl true))]⟩
def f12 : FnS := ⟨d12, ["script", "crock", "turn", "value", "low", "high", "number", "least", "most", "due"], tp 14⟩
def S0 : List FnS := [f0, f1, f2, f3, f4, f5, f6, f7, f8, f9, f10, f11, f12]
def sites0 : Sites := [(12, 1, [], [.at 0]), (0, 1, [], [.at 0]), (2, 1, [], [.at 0]), (1, 3, [], [.at 0, .at 1, .at 2]), (6, 2, [], [.at 0, .at 1]), (7, 2, [], [.at 0, .at 1]), (3, 1, [], [.at 0]), (3, 0, ["value"], [.at 0]), (4, 1, [], [.at 0]), (4, 0, ["value"], [.at 0]), (5, 1, [], [.at 0]), (8, 1, [], [.at 0]), (9, 1, [], [.at 0]), (0, 0, ["value"], [.at 0]), (1, 0, ["most", "least", "value"], [.at 2, .at 1, .at 0]), (10, 1, [], [.at 0]), (11, 1, [], [.at 0])]
theorem chk : (S0.all fun f => chkFn S0 sites0 f) = true := by decide +kernel
theorem st0 (K : PySem.W.Frag) (kV dc pm cd ct : Value) (an : Option Addr) : SitesOk K (PySem.W.fnOf "is_integer" "is_integer" (defArgs (tp 1)) (defBody (tp 1)) (defScope (tp 1)) .none kV dc pm an cd ct) ["value"] [(1, [], [.at 0]), (0, ["value"], [.at 0])] := ⟨fun s us ws _ h1 h2 => match us, ws, h1, h2 with | [u0], [], _, _ => ⟨[u0], (.at rfl .nil), .of_eq rfl⟩, fun s us ws _ h1 h2 => match us, ws, h1, h2 with | [], [w0], _, _ => ⟨[w0], (.at rfl .nil), .of_eq rfl⟩, trivial⟩
theorem st1 (K : PySem.W.Frag) (kV dc pm cd ct : Value) (an : Option Addr) : SitesOk K (PySem.W.fnOf "is_within" "is_within" (defArgs (tp 2)) (defBody (tp 2)) (defScope (tp 2)) .none kV dc pm an cd ct) ["value", "least", "most"] [(3, [], [.at 0, .at 1, .at 2]), (0, ["most", "least", "value"], [.at 2, .at 1, .at 0])] := ⟨fun s us ws _ h1 h2 => match us, ws, h1, h2 with | [u0, u1, u2], [], _, _ => ⟨[u0, u1, u2], (.at rfl (.at rfl (.at rfl .nil))), .of_eq rfl⟩, fun s us ws _ h1 h2 => match us, ws, h1, h2 with | [], [w0, w1, w2], _, _ => ⟨[w2, w1, w0], (.at rfl (.at rfl (.at rfl .nil))), .of_eq rfl⟩, trivial⟩
theorem st2 (K : PySem.W.Frag) (kV dc pm cd ct : Value) (an : Option Addr) : SitesOk K (PySem.W.fnOf "is_list" "is_list" (defArgs (tp 3)) (defBody (tp 3)) (defScope (tp 3)) .none kV dc pm an cd ct) ["value"] [(1, [], [.at 0])] := ⟨fun s us ws _ h1 h2 => match us, ws, h1, h2 with | [u0], [], _, _ => ⟨[u0], (.at rfl .nil), .of_eq rfl⟩, trivial⟩
theorem st3 (K : PySem.W.Frag) (kV dc pm cd ct : Value) (an : Option Addr) : SitesOk K (PySem.W.fnOf "is_bits" "is_bits" (defArgs (tp 4)) (defBody (tp 4)) (defScope (tp 4)) .none kV dc pm an cd ct) ["value"] [(1, [], [.at 0]), (0, ["value"], [.at 0])] := ⟨fun s us ws _ h1 h2 => match us, ws, h1, h2 with | [u0], [], _, _ => ⟨[u0], (.at rfl .nil), .of_eq rfl⟩, fun s us ws _ h1 h2 => match us, ws, h1, h2 with | [], [w0], _, _ => ⟨[w0], (.at rfl .nil), .of_eq rfl⟩, trivial⟩
theorem st4 (K : PySem.W.Frag) (kV dc pm cd ct : Value) (an : Option Addr) : SitesOk K (PySem.W.fnOf "is_cell" "is_cell" (defArgs (tp 5)) (defBody (tp 5)) (defScope (tp 5)) .none kV dc pm an cd ct) ["value"] [(1, [], [.at 0]), (0, ["value"], [.at 0])] := ⟨fun s us ws _ h1 h2 => match us, ws, h1, h2 with | [u0], [], _, _ => ⟨[u0], (.at rfl .nil), .of_eq rfl⟩, fun s us ws _ h1 h2 => match us, ws, h1, h2 with | [], [w0], _, _ => ⟨[w0], (.at rfl .nil), .of_eq rfl⟩, trivial⟩
theorem st5 (K : PySem.W.Frag) (kV dc pm cd ct : Value) (an : Option Addr) : SitesOk K (PySem.W.fnOf "_law_crock" "_law_crock" (defArgs (tp 7)) (defBody (tp 7)) (defScope (tp 7)) .none kV dc pm an cd ct) ["script"] [(1, [], [.at 0])] := ⟨fun s us ws _ h1 h2 => match us, ws, h1, h2 with | [u0], [], _, _ => ⟨[u0], (.at rfl .nil), .of_eq rfl⟩, trivial⟩
theorem st6 (K : PySem.W.Frag) (kV dc pm cd ct : Value) (an : Option Addr) : SitesOk K (PySem.W.fnOf "_law_scoop" "_law_scoop" (defArgs (tp 8)) (defBody (tp 8)) (defScope (tp 8)) .none kV dc pm an cd ct) ["crock", "many"] [(2, [], [.at 0, .at 1])] := ⟨fun s us ws _ h1 h2 => match us, ws, h1, h2 with | [u0, u1], [], _, _ => ⟨[u0, u1], (.at rfl (.at rfl .nil)), .of_eq rfl⟩, trivial⟩
theorem st7 (K : PySem.W.Frag) (kV dc pm cd ct : Value) (an : Option Addr) : SitesOk K (PySem.W.fnOf "_law_pick" "_law_pick" (defArgs (tp 9)) (defBody (tp 9)) (defScope (tp 9)) .none kV dc pm an cd ct) ["crock", "some"] [(2, [], [.at 0, .at 1])] := ⟨fun s us ws _ h1 h2 => match us, ws, h1, h2 with | [u0, u1], [], _, _ => ⟨[u0, u1], (.at rfl (.at rfl .nil)), .of_eq rfl⟩, trivial⟩
theorem st8 (K : PySem.W.Frag) (kV dc pm cd ct : Value) (an : Option Addr) : SitesOk K (PySem.W.fnOf "_law_value" "_law_value" (defArgs (tp 10)) (defBody (tp 10)) (defScope (tp 10)) .none kV dc pm an cd ct) ["crock"] [(1, [], [.at 0])] := ⟨fun s us ws _ h1 h2 => match us, ws, h1, h2 with | [u0], [], _, _ => ⟨[u0], (.at rfl .nil), .of_eq rfl⟩, trivial⟩
theorem st9 (K : PySem.W.Frag) (kV dc pm cd ct : Value) (an : Option Addr) : SitesOk K (PySem.W.fnOf "_law_own_integer" "_law_own_integer" (defArgs (tp 11)) (defBody (tp 11)) (defScope (tp 11)) .none kV dc pm an cd ct) ["value"] [(1, [], [.at 0])] := ⟨fun s us ws _ h1 h2 => match us, ws, h1, h2 with | [u0], [], _, _ => ⟨[u0], (.at rfl .nil), .of_eq rfl⟩, trivial⟩
theorem st10 (K : PySem.W.Frag) (kV dc pm cd ct : Value) (an : Option Addr) : SitesOk K (PySem.W.fnOf "_law_bits_right" "_law_bits_right" (defArgs (tp 12)) (defBody (tp 12)) (defScope (tp 12)) .none kV dc pm an cd ct) ["crock"] [(1, [], [.at 0])] := ⟨fun s us ws _ h1 h2 => match us, ws, h1, h2 with | [u0], [], _, _ => ⟨[u0], (.at rfl .nil), .of_eq rfl⟩, trivial⟩
theorem st11 (K : PySem.W.Frag) (kV dc pm cd ct : Value) (an : Option Addr) : SitesOk K (PySem.W.fnOf "_law_cell_right" "_law_cell_right" (defArgs (tp 13)) (defBody (tp 13)) (defScope (tp 13)) .none kV dc pm an cd ct) ["crock"] [(1, [], [.at 0])] := ⟨fun s us ws _ h1 h2 => match us, ws, h1, h2 with | [u0], [], _, _ => ⟨[u0], (.at rfl .nil), .of_eq rfl⟩, trivial⟩
theorem st12 (K : PySem.W.Frag) (kV dc pm cd ct : Value) (an : Option Addr) : SitesOk K (PySem.W.fnOf "law" "law" (defArgs (tp 14)) (defBody (tp 14)) (defScope (tp 14)) .none kV dc pm an cd ct) ["script"] [(1, [], [.at 0])] := ⟨fun s us ws _ h1 h2 => match us, ws, h1, h2 with | [u0], [], _, _ => ⟨[u0], (.at rfl .nil), .of_eq rfl⟩, trivial⟩
theorem all_mk {K : PySem.W.Frag} {h : Heap} {mg : Str → Option Value} (X : K.In h) (G : h.Ns mainGlobals mg)
    {a0 : Addr} {oc0 kV0 dc0 pm0 cd0 ct0 : Value} {od0 an0 : Option Addr} {sl0 : Array (Option Value)} (n0 : PySem.W.nsIn K mainGlobals "is_integer" = some (some (.ref a0))) (l0 : K.lookup a0 = some ⟨oc0, od0, .func (PySem.W.fnOf "is_integer" "is_integer" (defArgs (tp 1)) (defBody (tp 1)) (defScope (tp 1)) .none kV0 dc0 pm0 an0 cd0 ct0), sl0⟩) (c0 : PySem.W.codeIn K cd0 "is_integer" = true) (k0 : PySem.W.keepIn K (.ref a0) = true)
    {a1 : Addr} {oc1 kV1 dc1 pm1 cd1 ct1 : Value} {od1 an1 : Option Addr} {sl1 : Array (Option Value)} (n1 : PySem.W.nsIn K mainGlobals "is_within" = some (some (.ref a1))) (l1 : K.lookup a1 = some ⟨oc1, od1, .func (PySem.W.fnOf "is_within" "is_within" (defArgs (tp 2)) (defBody (tp 2)) (defScope (tp 2)) .none kV1 dc1 pm1 an1 cd1 ct1), sl1⟩) (c1 : PySem.W.codeIn K cd1 "is_within" = true) (k1 : PySem.W.keepIn K (.ref a1) = true)
    {a2 : Addr} {oc2 kV2 dc2 pm2 cd2 ct2 : Value} {od2 an2 : Option Addr} {sl2 : Array (Option Value)} (n2 : PySem.W.nsIn K mainGlobals "is_list" = some (some (.ref a2))) (l2 : K.lookup a2 = some ⟨oc2, od2, .func (PySem.W.fnOf "is_list" "is_list" (defArgs (tp 3)) (defBody (tp 3)) (defScope (tp 3)) .none kV2 dc2 pm2 an2 cd2 ct2), sl2⟩) (c2 : PySem.W.codeIn K cd2 "is_list" = true) (k2 : PySem.W.keepIn K (.ref a2) = true)
    {a3 : Addr} {oc3 kV3 dc3 pm3 cd3 ct3 : Value} {od3 an3 : Option Addr} {sl3 : Array (Option Value)} (n3 : PySem.W.nsIn K mainGlobals "is_bits" = some (some (.ref a3))) (l3 : K.lookup a3 = some ⟨oc3, od3, .func (PySem.W.fnOf "is_bits" "is_bits" (defArgs (tp 4)) (defBody (tp 4)) (defScope (tp 4)) .none kV3 dc3 pm3 an3 cd3 ct3), sl3⟩) (c3 : PySem.W.codeIn K cd3 "is_bits" = true) (k3 : PySem.W.keepIn K (.ref a3) = true)
    {a4 : Addr} {oc4 kV4 dc4 pm4 cd4 ct4 : Value} {od4 an4 : Option Addr} {sl4 : Array (Option Value)} (n4 : PySem.W.nsIn K mainGlobals "is_cell" = some (some (.ref a4))) (l4 : K.lookup a4 = some ⟨oc4, od4, .func (PySem.W.fnOf "is_cell" "is_cell" (defArgs (tp 5)) (defBody (tp 5)) (defScope (tp 5)) .none kV4 dc4 pm4 an4 cd4 ct4), sl4⟩) (c4 : PySem.W.codeIn K cd4 "is_cell" = true) (k4 : PySem.W.keepIn K (.ref a4) = true)
    {a5 : Addr} {oc5 kV5 dc5 pm5 cd5 ct5 : Value} {od5 an5 : Option Addr} {sl5 : Array (Option Value)} (n5 : PySem.W.nsIn K mainGlobals "_law_crock" = some (some (.ref a5))) (l5 : K.lookup a5 = some ⟨oc5, od5, .func (PySem.W.fnOf "_law_crock" "_law_crock" (defArgs (tp 7)) (defBody (tp 7)) (defScope (tp 7)) .none kV5 dc5 pm5 an5 cd5 ct5), sl5⟩) (c5 : PySem.W.codeIn K cd5 "_law_crock" = true) (k5 : PySem.W.keepIn K (.ref a5) = true)
    {a6 : Addr} {oc6 kV6 dc6 pm6 cd6 ct6 : Value} {od6 an6 : Option Addr} {sl6 : Array (Option Value)} (n6 : PySem.W.nsIn K mainGlobals "_law_scoop" = some (some (.ref a6))) (l6 : K.lookup a6 = some ⟨oc6, od6, .func (PySem.W.fnOf "_law_scoop" "_law_scoop" (defArgs (tp 8)) (defBody (tp 8)) (defScope (tp 8)) .none kV6 dc6 pm6 an6 cd6 ct6), sl6⟩) (c6 : PySem.W.codeIn K cd6 "_law_scoop" = true) (k6 : PySem.W.keepIn K (.ref a6) = true)
    {a7 : Addr} {oc7 kV7 dc7 pm7 cd7 ct7 : Value} {od7 an7 : Option Addr} {sl7 : Array (Option Value)} (n7 : PySem.W.nsIn K mainGlobals "_law_pick" = some (some (.ref a7))) (l7 : K.lookup a7 = some ⟨oc7, od7, .func (PySem.W.fnOf "_law_pick" "_law_pick" (defArgs (tp 9)) (defBody (tp 9)) (defScope (tp 9)) .none kV7 dc7 pm7 an7 cd7 ct7), sl7⟩) (c7 : PySem.W.codeIn K cd7 "_law_pick" = true) (k7 : PySem.W.keepIn K (.ref a7) = true)
    {a8 : Addr} {oc8 kV8 dc8 pm8 cd8 ct8 : Value} {od8 an8 : Option Addr} {sl8 : Array (Option Value)} (n8 : PySem.W.nsIn K mainGlobals "_law_value" = some (some (.ref a8))) (l8 : K.lookup a8 = some ⟨oc8, od8, .func (PySem.W.fnOf "_law_value" "_law_value" (defArgs (tp 10)) (defBody (tp 10)) (defScope (tp 10)) .none kV8 dc8 pm8 an8 cd8 ct8), sl8⟩) (c8 : PySem.W.codeIn K cd8 "_law_value" = true) (k8 : PySem.W.keepIn K (.ref a8) = true)
    {a9 : Addr} {oc9 kV9 dc9 pm9 cd9 ct9 : Value} {od9 an9 : Option Addr} {sl9 : Array (Option Value)} (n9 : PySem.W.nsIn K mainGlobals "_law_own_integer" = some (some (.ref a9))) (l9 : K.lookup a9 = some ⟨oc9, od9, .func (PySem.W.fnOf "_law_own_integer" "_law_own_integer" (defArgs (tp 11)) (defBody (tp 11)) (defScope (tp 11)) .none kV9 dc9 pm9 an9 cd9 ct9), sl9⟩) (c9 : PySem.W.codeIn K cd9 "_law_own_integer" = true) (k9 : PySem.W.keepIn K (.ref a9) = true)
    {a10 : Addr} {oc10 kV10 dc10 pm10 cd10 ct10 : Value} {od10 an10 : Option Addr} {sl10 : Array (Option Value)} (n10 : PySem.W.nsIn K mainGlobals "_law_bits_right" = some (some (.ref a10))) (l10 : K.lookup a10 = some ⟨oc10, od10, .func (PySem.W.fnOf "_law_bits_right" "_law_bits_right" (defArgs (tp 12)) (defBody (tp 12)) (defScope (tp 12)) .none kV10 dc10 pm10 an10 cd10 ct10), sl10⟩) (c10 : PySem.W.codeIn K cd10 "_law_bits_right" = true) (k10 : PySem.W.keepIn K (.ref a10) = true)
    {a11 : Addr} {oc11 kV11 dc11 pm11 cd11 ct11 : Value} {od11 an11 : Option Addr} {sl11 : Array (Option Value)} (n11 : PySem.W.nsIn K mainGlobals "_law_cell_right" = some (some (.ref a11))) (l11 : K.lookup a11 = some ⟨oc11, od11, .func (PySem.W.fnOf "_law_cell_right" "_law_cell_right" (defArgs (tp 13)) (defBody (tp 13)) (defScope (tp 13)) .none kV11 dc11 pm11 an11 cd11 ct11), sl11⟩) (c11 : PySem.W.codeIn K cd11 "_law_cell_right" = true) (k11 : PySem.W.keepIn K (.ref a11) = true)
    {a12 : Addr} {oc12 kV12 dc12 pm12 cd12 ct12 : Value} {od12 an12 : Option Addr} {sl12 : Array (Option Value)} (n12 : PySem.W.nsIn K mainGlobals "law" = some (some (.ref a12))) (l12 : K.lookup a12 = some ⟨oc12, od12, .func (PySem.W.fnOf "law" "law" (defArgs (tp 14)) (defBody (tp 14)) (defScope (tp 14)) .none kV12 dc12 pm12 an12 cd12 ct12), sl12⟩) (c12 : PySem.W.codeIn K cd12 "law" = true) (k12 : PySem.W.keepIn K (.ref a12) = true)
    (z0 : PySem.W.nsIn K mainGlobals "len" = some none) (z1 : PySem.W.nsIn K mainGlobals "int" = some none) (z2 : PySem.W.nsIn K mainGlobals "str" = some none) (z3 : PySem.W.nsIn K mainGlobals "abs" = some none) (z4 : PySem.W.nsIn K mainGlobals "repr" = some none) (z5 : PySem.W.nsIn K mainGlobals "all" = some none) (z6 : PySem.W.nsIn K mainGlobals "tuple" = some none) (z7 : PySem.W.nsIn K mainGlobals "list" = some none) (z8 : PySem.W.nsIn K mainGlobals "bool" = some none) (z9 : PySem.W.nsIn K mainGlobals "dict" = some none) (z10 : PySem.W.nsIn K mainGlobals "range" = some none) (z11 : PySem.W.nsIn K mainGlobals "isinstance" = some none) :
    DefsAt K mg sites0 0 S0 ∧ (∀ x ∈ bltNames, mg x = none) ∧ ∃ g : GN, True :=
  ⟨⟨DefAt.mk' (f := f0) X G n0 l0 c0 k0 (st0 _ _ _ _ _ _ _),
    DefAt.mk' (f := f1) X G n1 l1 c1 k1 (st1 _ _ _ _ _ _ _),
    DefAt.mk' (f := f2) X G n2 l2 c2 k2 (st2 _ _ _ _ _ _ _),
    DefAt.mk' (f := f3) X G n3 l3 c3 k3 (st3 _ _ _ _ _ _ _),
    DefAt.mk' (f := f4) X G n4 l4 c4 k4 (st4 _ _ _ _ _ _ _),
    DefAt.mk' (f := f5) X G n5 l5 c5 k5 (st5 _ _ _ _ _ _ _),
    DefAt.mk' (f := f6) X G n6 l6 c6 k6 (st6 _ _ _ _ _ _ _),
    DefAt.mk' (f := f7) X G n7 l7 c7 k7 (st7 _ _ _ _ _ _ _),
    DefAt.mk' (f := f8) X G n8 l8 c8 k8 (st8 _ _ _ _ _ _ _),
    DefAt.mk' (f := f9) X G n9 l9 c9 k9 (st9 _ _ _ _ _ _ _),
    DefAt.mk' (f := f10) X G n10 l10 c10 k10 (st10 _ _ _ _ _ _ _),
    DefAt.mk' (f := f11) X G n11 l11 c11 k11 (st11 _ _ _ _ _ _ _),
    DefAt.mk' (f := f12) X G n12 l12 c12 k12 (st12 _ _ _ _ _ _ _),
    trivial⟩, (memC (PySem.W.mg_none_of X G z0) (memC (PySem.W.mg_none_of X G z1) (memC (PySem.W.mg_none_of X G z2) (memC (PySem.W.mg_none_of X G z3) (memC (PySem.W.mg_none_of X G z4) (memC (PySem.W.mg_none_of X G z5) (memC (PySem.W.mg_none_of X G z6) (memC (PySem.W.mg_none_of X G z7) (memC (PySem.W.mg_none_of X G z8) (memC (PySem.W.mg_none_of X G z9) (memC (PySem.W.mg_none_of X G z10) (memC (PySem.W.mg_none_of X G z11) memN)))))))))))), ⟨fun _ => none, fun _ => none⟩, trivial⟩

end
local macro_rules | `(tactic| sizeOf_list_dec) => `(tactic| first
  | with_reducible refine OpW.leave (by with_unfolding_all exact rfl) (by with_unfolding_all exact Nat.le_of_eq rfl) ?_
  | ((with_reducible refine OpW.isi [true] ?_); (refine ⟨_, rfl, ?_, ?_⟩); (· decide +kernel))
  | ((with_reducible refine OpW.isi [false] ?_); (refine ⟨_, rfl, ?_, ?_⟩); (· decide +kernel))
  | ((with_reducible refine OpW.isi [true, false] ?_); (refine ⟨_, rfl, ?_, ?_⟩); (· decide +kernel))
  | ((with_reducible refine OpW.isi [false, true] ?_); (refine ⟨_, rfl, ?_, ?_⟩); (· decide +kernel))
  | ((with_reducible refine OpW.isi [false, false] ?_); (refine ⟨_, rfl, ?_, ?_⟩); (· decide +kernel))
  | with_reducible refine OpW.eqI ?_
  | with_reducible refine OpW.neI ?_
  | with_reducible refine OpW.of (by with_unfolding_all exact rfl) ?_
  | with_reducible refine br_t (by with_unfolding_all exact rfl) ?_
  | with_reducible refine br_f (by with_unfolding_all exact rfl) ?_
  | with_reducible refine And.intro (by first | omega | decide | exact And.intro rfl (Nat.le_of_ble_eq_true rfl)) ?_
  | ((fail_if_success with_reducible refine (id ?_ : OpW _ _)); (fail_if_success with_reducible refine (id ?_ : CallW _ _ _ _ _ _ _)); (fail_if_success with_reducible refine (id ?_ : _ ∧ _)); (fail_if_success with_reducible refine (id ?_ : ForW _ _ _ _ _ _)); (fail_if_success with_reducible refine (id ?_ : CompW _ _ _ _ _)); conv => whnf))

def P : List FnD := [d0, d1, d2, d3, d4, d5, d6, d7, d8, d9, d10, d11, d12]
def Cr (b : Nat) (c0 : AO) : Prop := ∃ (cs : List Int) (t r : Int), c0 = .lst [.lst (cs.map AV.int), .int t, .int r] ∧ 0 ≤ t ∧ t + b ≤ 2 ^ 20
set_option maxHeartbeats 4000000
theorem pw1 {c t : Int} {m a e : Int} (h1 : 0 ≤ t) (h2 : t < 2 ^ 20) : 0 ≤ (5 : Int) ∧ (5 : Int) ≤ 1000000 ∧ (c % 2147483587 + 81472 * t + 9367).natAbs < 2 ^ 64 := by omega
theorem pw2 {x t : Int} (h1 : 0 ≤ t) (h2 : t < 2 ^ 20) (h3 : 0 ≤ x) (h4 : x < 2147483629) : 0 ≤ (3 : Int) ∧ (3 : Int) ≤ 1000000 ∧ (x * (2 * t + 5807) + 118247 * t * t + 81472).natAbs < 2 ^ 64 := by
  have a1 : x * (2 * t + 5807) ≤ 2147483629 * (2 * 2 ^ 20 + 5807) := Int.mul_le_mul (by omega) (by omega) (by omega) (by omega)
  have a2 : 0 ≤ x * (2 * t + 5807) := Int.mul_nonneg h3 (by omega)
  have a3 : 118247 * t * t ≤ 118247 * 2 ^ 20 * 2 ^ 20 := Int.mul_le_mul (by omega) (by omega) (by omega) (by omega)
  have a4 : 0 ≤ 118247 * t * t := Int.mul_nonneg (by omega) h1
  omega
theorem scoop {d b : Nat} {m : Int} {c0 : AO} {rest : List AO} {o keep : Bool} {Q : AV → AS → Prop} {X} (hm : 0 < m) (hm2 : m < 1073741824) (hc : Cr (b + 1) c0) (h : ∀ x c1, 0 ≤ x → x < m → Cr b c1 → Q (.int x) ⟨c1 :: rest, o⟩) :
    CallW (callF P (d + 1)) 6 [.ref 0, .int m] keep ⟨c0 :: rest, o⟩ Q X := by
  obtain ⟨cs, t, r, rfl, h1, h2⟩ := hc
  have fin : ∀ x t' r' : Int, 0 ≤ t' → t' ≤ t + 1 → Q (.int (x % m)) ⟨.lst [.lst (cs.map AV.int), .int t', .int r'] :: rest, o⟩ := fun x t' r' g1 g2 =>
    h _ _ (Int.emod_nonneg _ (by omega)) (Int.emod_lt_of_pos _ hm) ⟨cs, t', r', rfl, g1, by push_cast at h2 ⊢; omega⟩
  refine CallW.fn (f := d6) rfl rfl ?_
  have hlen : ((cs.map AV.int).length : Int) = cs.length := by simp
  by_cases hcs : cs = []
  · subst hcs
    iterate 16
      iterate 24 (first | sizeOf_list_dec | skip)
      first
        | exact fin _ _ _ (by omega) (by omega)
        | (refine OpW.ne_nil (ns := []) ?_)
        | (refine ⟨fun g => ?_, fun g => ?_⟩)
        | (refine And.intro (pw1 (by omega) (by omega)) ?_)
        | (refine And.intro (pw2 (by omega) (by omega) (Int.emod_nonneg _ (by decide)) (Int.emod_lt_of_pos _ (by decide))) ?_)
        | skip
  · have hl : 0 < cs.length := by cases cs <;> simp_all
    have hl2 : 0 < (cs.map AV.int).length := by simpa using hl
    have hl3 : (0 : Int) < ((cs.map AV.int).length : Nat) := by omega
    have b1 : ∀ x : Int, x % ((cs.map AV.int).length : Nat) < cs.length := fun x => by have := Int.emod_lt_of_pos x hl3; omega
    have b0 : ∀ x : Int, 0 ≤ x % ((cs.map AV.int).length : Nat) := fun x => Int.emod_nonneg _ (by omega)
    iterate 24
      iterate 24 (first | sizeOf_list_dec | skip)
      first
        | exact fin _ _ _ (by omega) (by omega)
        | (refine OpW.ne_nil ?_)
        | (refine OpW.itemI (b0 _) (b1 _) fun c => ?_)
        | (refine ⟨fun g => ?_, fun g => ?_⟩)
        | (refine And.intro (pw1 (by omega) (by omega)) ?_)
        | (refine And.intro (pw2 (by omega) (by omega) (Int.emod_nonneg _ (by decide)) (Int.emod_lt_of_pos _ (by decide))) ?_)
        | skip

set_option maxHeartbeats 4000000
def pl : AV → Bool
  | .non => true | .bl _ => true | .int _ => true | .str _ => true | .tup _ => true | .lst _ => true | .dct _ => true | _ => false
def isI : AV → Bool
  | .int _ => true | _ => false
section
variable {d b : Nat} {c0 : AO} {rest : List AO} {o keep : Bool} {Q : AV → AS → Prop} {X : AV → AS → Prop}
theorem own {v : AV} (hv : pl v = true) (h : Q (.bl (isI v)) ⟨c0 :: rest, o⟩) : CallW (callF P (d + 1)) 9 [v] keep ⟨c0 :: rest, o⟩ Q X := by
  refine CallW.fn (f := d9) rfl rfl ?_
  cases v <;> (try (simp [pl] at hv; done))
  all_goals iterate 24 (first | sizeOf_list_dec | skip)
  all_goals exact h
theorem isint {v : AV} (hv : pl v = true) (h : Q (.bl (isI v)) ⟨c0 :: rest, o⟩) : CallW (callF P (d + 1)) 0 [v] keep ⟨c0 :: rest, o⟩ Q X := by
  refine CallW.fn (f := d0) rfl rfl ?_
  cases v <;> (try (simp [pl] at hv; done))
  all_goals iterate 24 (first | sizeOf_list_dec | skip)
  all_goals exact h
theorem pick {xs : List AV} (h0 : 0 < xs.length) (h1 : xs.length < 1073741824) (hc : Cr (b + 1) c0) (h : ∀ (j : Nat) v c1, xs[j]? = some v → Cr b c1 → Q v ⟨c1 :: rest, o⟩) : CallW (callF P (d + 2)) 7 [.ref 0, .lst xs] keep ⟨c0 :: rest, o⟩ Q X := by
  refine CallW.fn (f := d7) rfl rfl ?_
  iterate 24 (first | sizeOf_list_dec | skip)
  refine scoop (m := xs.length) (by omega) (by omega) hc fun x c1 g1 g2 g3 => ?_
  iterate 24 (first | sizeOf_list_dec | skip)
  refine OpW.item g1 g2 fun j v _ hv => ?_
  iterate 24 (first | sizeOf_list_dec | skip)
  exact h j v c1 hv g3
def OI : Option Int → AV
  | none => .non
  | some i => .int i
def within (v : AV) (lo hi : Option Int) : Bool := match v with
  | .int i => (match lo with | none => true | some l => decide (l ≤ i)) && (match hi with | none => true | some u => decide (i ≤ u))
  | _ => false
theorem is_within {v : AV} {lo hi : Option Int} (hv : pl v = true) (h : Q (.bl (within v lo hi)) ⟨c0 :: rest, o⟩) : CallW (callF P (d + 2)) 1 [v, OI lo, OI hi] keep ⟨c0 :: rest, o⟩ Q X := by
  refine CallW.fn (f := d1) rfl rfl ?_
  iterate 24 (first | sizeOf_list_dec | skip)
  refine isint hv ?_
  cases hi0 : isI v with
  | false =>
    have : within v lo hi = false := by cases v <;> first | rfl | cases hi0
    rw [this] at h
    iterate 24 (first | sizeOf_list_dec | skip)
    exact h
  | true =>
    cases v with
    | int i =>
      cases lo with
      | none =>
        cases hi with
        | none =>
          iterate 24 (first | sizeOf_list_dec | skip)
          exact h
        | some u =>
          iterate 24 (first | sizeOf_list_dec | skip)
          first | exact h | (simpa [within, isNone, OI] using h)
      | some l =>
        cases hi with
        | none =>
          iterate 24 (first | sizeOf_list_dec | skip)
          refine ⟨fun g => ?_, fun g => ?_⟩
          · iterate 24 (first | sizeOf_list_dec | skip)
            first | exact h | (simpa [within, isNone, OI, g] using h)
          · iterate 24 (first | sizeOf_list_dec | skip)
            first | exact h | (simpa [within, isNone, OI, g] using h)
        | some u =>
          iterate 24 (first | sizeOf_list_dec | skip)
          refine ⟨fun g => ?_, fun g => ?_⟩
          · iterate 24 (first | sizeOf_list_dec | skip)
            first | exact h | (simpa [within, isNone, OI, g] using h)
          · iterate 24 (first | sizeOf_list_dec | skip)
            first | exact h | (simpa [within, isNone, OI, g] using h)
    | _ => cases hi0
def isLT : AV → Bool
  | .tup _ => true | .lst _ => true | _ => false
theorem islist {v : AV} (hv : pl v = true) (h : Q (.bl (isLT v)) ⟨c0 :: rest, o⟩) : CallW (callF P (d + 1)) 2 [v] keep ⟨c0 :: rest, o⟩ Q X := by
  refine CallW.fn (f := d2) rfl rfl ?_
  cases v <;> (try (simp [pl] at hv; done))
  all_goals iterate 24 (first | sizeOf_list_dec | skip)
  all_goals exact h
def itemsOf : AV → Option (List AV)
  | .tup xs => some xs | .lst xs => some xs | _ => none
theorem bls_map {bs : List Bool} : blsOf (bs.map AV.bl) = some bs := by
  induction bs with
  | nil => rfl
  | cons x r ih =>
    unfold blsOf at ih ⊢
    rw [List.map_cons, mapO, ih]
theorem all_take {f : AV → Bool} {xs : List AV} {i : Nat} {x : AV} (h : xs[i]? = some x) : (xs.take (i + 1)).map f = (xs.take i).map f ++ [f x] := by
  rw [List.take_add_one, h, List.map_append]; rfl
/-- the loop that asks of every item whether it is within -/
theorem allwithin {xs : List AV} {lo hi : Option Int} {R : List AV → AS → Prop} {f : AV → AS → (Option AV → AS → Prop) → Prop} (hp : ∀ x ∈ xs, pl x = true)
    (hf : ∀ x K, pl x = true → K (some (.bl (within x lo hi))) ⟨c0 :: rest, o⟩ → f x ⟨c0 :: rest, o⟩ K) (h : R ((xs.map fun x => within x lo hi).map AV.bl) ⟨c0 :: rest, o⟩) : CompW f xs [] ⟨c0 :: rest, o⟩ R := by
  refine CompW.inv (fun i acc s => s = ⟨c0 :: rest, o⟩ ∧ acc = ((xs.take i).map fun x => within x lo hi).map AV.bl) ⟨rfl, rfl⟩ (fun i x acc s hx ⟨e1, e2⟩ => ?_) fun acc s ⟨e1, e2⟩ => ?_
  · subst e1 e2
    refine hf x _ (hp x (List.mem_of_getElem? hx)) ⟨rfl, ?_⟩
    rw [all_take hx, List.map_append]; rfl
  · subst e1 e2
    rw [List.take_length]; exact h
theorem OpW.allb {bs : List Bool} {s : AS} {al : Bool} (h : Q (.bl (bs.all id)) s) : OpW (bltM .all al [.lst (bs.map AV.bl)] s) Q := ⟨fun X => wn_all ⟨_, rfl, bs, bls_map, h⟩⟩
def bitsB (v : AV) : Bool := match itemsOf v with
  | some xs => xs.all fun x => within x (some 0) (some 1)
  | none => false
def kidsPl (v : AV) : Prop := ∀ xs, itemsOf v = some xs → ∀ x ∈ xs, pl x = true
theorem isbits {v : AV} (hv : pl v = true) (hk : kidsPl v) (h : Q (.bl (bitsB v)) ⟨c0 :: rest, o⟩) : CallW (callF P (d + 3)) 3 [v] keep ⟨c0 :: rest, o⟩ Q X := by
  refine CallW.fn (f := d3) rfl rfl ?_
  iterate 24 (first | sizeOf_list_dec | skip)
  refine islist hv ?_
  cases v <;> (try (simp [pl] at hv; done))
  case tup xs =>
    iterate 24 (first | sizeOf_list_dec | skip)
    refine allwithin (o := false) (lo := some 0) (hi := some 1) (hk xs rfl) (fun x K hx hK => ?_) ?_
    · iterate 24 (first | sizeOf_list_dec | skip)
      refine is_within (lo := some 0) (hi := some 1) hx ?_
      exact hK
    · iterate 24 (first | sizeOf_list_dec | skip)
      refine OpW.allb ?_
      iterate 24 (first | sizeOf_list_dec | skip)
      simpa [bitsB, itemsOf, List.all_map, Function.comp_def] using h
  case lst xs =>
    iterate 24 (first | sizeOf_list_dec | skip)
    refine allwithin (o := false) (lo := some 0) (hi := some 1) (hk xs rfl) (fun x K hx hK => ?_) ?_
    · iterate 24 (first | sizeOf_list_dec | skip)
      refine is_within (lo := some 0) (hi := some 1) hx ?_
      exact hK
    · iterate 24 (first | sizeOf_list_dec | skip)
      refine OpW.allb ?_
      iterate 24 (first | sizeOf_list_dec | skip)
      simpa [bitsB, itemsOf, List.all_map, Function.comp_def] using h
  all_goals iterate 24 (first | sizeOf_list_dec | skip)
  all_goals exact h
def cellB (v : AV) : Bool := match itemsOf v with
  | some xs => decide ((xs.length : Int) = 2) && xs.all fun x => within x (some 0) none
  | none => false
end

set_option maxHeartbeats 4000000
section
variable {d b : Nat} {c0 : AO} {rest : List AO} {o keep : Bool} {Q : AV → AS → Prop} {X : AV → AS → Prop}
theorem iscell {v : AV} (hv : pl v = true) (hk : kidsPl v) (h : Q (.bl (cellB v)) ⟨c0 :: rest, o⟩) : CallW (callF P (d + 3)) 4 [v] keep ⟨c0 :: rest, o⟩ Q X := by
  refine CallW.fn (f := d4) rfl rfl ?_
  iterate 24 (first | sizeOf_list_dec | skip)
  refine islist hv ?_
  cases v <;> (try (simp [pl] at hv; done))
  case tup xs =>
    iterate 24 (first | sizeOf_list_dec | skip)
    refine ⟨fun g => ?_, fun g => ?_⟩
    · iterate 24 (first | sizeOf_list_dec | skip)
      refine allwithin (o := false) (lo := some 0) (hi := none) (hk xs rfl) (fun x K hx hK => ?_) ?_
      · iterate 24 (first | sizeOf_list_dec | skip)
        refine is_within (lo := some 0) (hi := none) hx ?_
        exact hK
      · iterate 24 (first | sizeOf_list_dec | skip)
        refine OpW.allb ?_
        iterate 24 (first | sizeOf_list_dec | skip)
        simpa [cellB, itemsOf, List.all_map, Function.comp_def, of_decide_eq_true g] using h
    · iterate 24 (first | sizeOf_list_dec | skip)
      have g' := of_decide_eq_false g
      simpa [cellB, itemsOf, g'] using h
  case lst xs =>
    iterate 24 (first | sizeOf_list_dec | skip)
    refine ⟨fun g => ?_, fun g => ?_⟩
    · iterate 24 (first | sizeOf_list_dec | skip)
      refine allwithin (o := false) (lo := some 0) (hi := none) (hk xs rfl) (fun x K hx hK => ?_) ?_
      · iterate 24 (first | sizeOf_list_dec | skip)
        refine is_within (lo := some 0) (hi := none) hx ?_
        exact hK
      · iterate 24 (first | sizeOf_list_dec | skip)
        refine OpW.allb ?_
        iterate 24 (first | sizeOf_list_dec | skip)
        simpa [cellB, itemsOf, List.all_map, Function.comp_def, of_decide_eq_true g] using h
    · iterate 24 (first | sizeOf_list_dec | skip)
      have g' := of_decide_eq_false g
      simpa [cellB, itemsOf, g'] using h
  all_goals iterate 24 (first | sizeOf_list_dec | skip)
  all_goals exact h
theorem Cr.le {b b' : Nat} (h : Cr b c0) (hb : b' ≤ b) : Cr b' c0 := by
  obtain ⟨cs, t, r, e, h1, h2⟩ := h
  exact ⟨cs, t, r, e, h1, by omega⟩
theorem value (hc : Cr (b + 5) c0) (h : ∀ v c1, pl v = true → Cr b c1 → Q v ⟨c1 :: rest, o⟩) : CallW (callF P (d + 4)) 8 [.ref 0] keep ⟨c0 :: rest, o⟩ Q X := by
  refine CallW.fn (f := d8) rfl rfl ?_
  iterate 24 (first | sizeOf_list_dec | skip)
  refine scoop (m := 9) (by omega) (by omega) hc fun x1 c1 g1 g2 hc => ?_
  iterate 24 (first | sizeOf_list_dec | skip)
  refine scoop (m := 9) (by omega) (by omega) hc fun x2 c2 g3 g4 hc => ?_
  iterate 24 (first | sizeOf_list_dec | skip)
  refine scoop (m := 1000) (by omega) (by omega) hc fun x3 c3 g5 g6 hc => ?_
  iterate 24 (first | sizeOf_list_dec | skip)
  refine pick (by simp) (by simp) hc fun j v c4 hj hc => ?_
  have hv : ∃ i : Int, v = .int i ∧ i.natAbs < 2 ^ 200 := by
    match j, hj with
    | 0, hj => cases hj; exact ⟨_, rfl, by omega⟩
    | 1, hj => cases hj; exact ⟨_, rfl, by show (100000000000000000000 + x2).natAbs < _; omega⟩
    | 2, hj => cases hj; exact ⟨_, rfl, by omega⟩
    | _ + 3, hj => cases hj
  obtain ⟨i, rfl, hi⟩ := hv
  iterate 24 (first | sizeOf_list_dec | skip)
  refine OpW.str hi ?_
  iterate 40 (first | sizeOf_list_dec | skip)
  refine pick (by simp) (by simp) hc fun j v c5 hj hc => ?_
  iterate 24 (first | sizeOf_list_dec | skip)
  refine h v c5 ?_ hc
  match j, hj with
  | 0, hj => cases hj; rfl
  | 1, hj => cases hj; rfl
  | 2, hj => cases hj; rfl
  | 3, hj => cases hj; rfl
  | 4, hj => cases hj; rfl
  | 5, hj => cases hj; rfl
  | 6, hj => cases hj; rfl
  | 7, hj => cases hj; rfl
  | 8, hj => cases hj; rfl
  | 9, hj => cases hj; rfl
  | 10, hj => cases hj; rfl
  | 11, hj => cases hj; rfl
  | 12, hj => cases hj; rfl
  | 13, hj => cases hj; rfl
  | _ + 14, hj => cases hj
end

set_option maxHeartbeats 4000000
section
variable {d b : Nat} {c0 : AO} {rest : List AO} {o keep : Bool} {Q : AV → AS → Prop} {X : AV → AS → Prop}
def bit01 (ms : List Int) : Prop := ∀ m ∈ ms, 0 ≤ m ∧ m < 2
theorem pl_ints {ms : List Int} {x : AV} (h : x ∈ ms.map AV.int) : pl x = true := by
  obtain ⟨m, _, rfl⟩ := List.mem_map.mp h
  rfl
theorem bits_ints {ms : List Int} (h : bit01 ms) : ((ms.map AV.int).all fun x => within x (some 0) (some 1)) = true := by
  rw [List.all_eq_true]
  intro x hx
  obtain ⟨m, hm, rfl⟩ := List.mem_map.mp hx
  have := h m hm
  simp only [within, Bool.and_eq_true, decide_eq_true_eq]
  omega
theorem ts_bit {m : Int} (h : 0 ≤ m ∧ m < 2) : (toString m : Str).length = 1 := by
  have : m = 0 ∨ m = 1 := by omega
  rcases this with rfl | rfl <;> decide +kernel
theorem ts_sum : ∀ {ms : List Int}, bit01 ms → ((ms.map fun m => (toString m : Str)).map (·.length)).sum = ms.length
  | [], _ => rfl
  | m :: r, h => by
    rw [List.map_cons, List.map_cons, List.sum_cons, ts_sum fun x hx => h x (List.mem_cons_of_mem _ hx), ts_bit (h m List.mem_cons_self), List.length_cons]
    omega
theorem bits_right (hc : Cr (b + 20) c0) (h : ∀ c1, Cr b c1 → Q (.bl true) ⟨c1 :: rest, o⟩) : CallW (callF P (d + 4)) 10 [.ref 0] keep ⟨c0 :: rest, o⟩ Q X := by
  refine CallW.fn (f := d10) rfl rfl ?_
  iterate 24 (first | sizeOf_list_dec | skip)
  refine scoop (m := 7) (by omega) (by omega) hc fun n c1 g1 g2 hc => ?_
  iterate 24 (first | sizeOf_list_dec | skip)
  refine OpW.rng g1 (by omega) ?_
  conv => whnf
  refine CompW.inv (fun i acc s => ∃ ms c1, acc = ms.map AV.int ∧ ms.length = i ∧ bit01 ms ∧ Cr (b + 19 - i) c1 ∧ s = ⟨c1 :: rest, false⟩) ⟨[], c1, rfl, rfl, (fun _ h => nomatch h), hc, rfl⟩ (fun i x acc s hx ⟨ms, c2, e1, e2, e3, hc, e5⟩ => ?_) fun acc s ⟨ms, c2, e1, e2, e3, hc, e5⟩ => ?_
  · subst e1 e5
    have hi : i < 7 := by
      have := (List.getElem?_eq_some_iff.mp hx).1
      simp at this
      omega
    iterate 24 (first | sizeOf_list_dec | skip)
    refine scoop (b := b + 18 - i) (m := 2) (by omega) (by omega) (by rw [show b + 18 - i + 1 = b + 19 - i by omega]; exact hc) fun y c3 g3 g4 hc => ?_
    iterate 24 (first | sizeOf_list_dec | skip)
    refine ⟨ms ++ [y], c3, by simp [accO], by simp [e2], fun m hm => ?_, by rw [show b + 19 - (i + 1) = b + 18 - i by omega]; exact hc, rfl⟩
    rcases List.mem_append.mp hm with hm | hm
    · exact e3 m hm
    · simp at hm; subst hm; exact ⟨g3, g4⟩
  · subst e1 e5
    have hn : ms.length ≤ 6 := by simp at e2; omega
    have hc := Cr.le (b' := b + 3) hc (by simp at e2 ⊢; omega)
    have hlm : (ms.map AV.int).length = ms.length := by simp
    iterate 30 (first | sizeOf_list_dec | skip)
    refine scoop (b := b + 2) (m := ((ms.map AV.int).length : Nat) + 1) (by omega) (by omega) hc fun at' c3 g3 g4 hc => ?_
    iterate 30 (first | sizeOf_list_dec | skip)
    refine pick (by simp) (by simp) hc fun j odd c4 hj hc => ?_
    have hodd : pl odd = true ∧ within odd (some 0) (some 1) = false := by
      match j, hj with
      | 0, hj => cases hj; exact ⟨rfl, rfl⟩
      | 1, hj => cases hj; exact ⟨rfl, rfl⟩
      | 2, hj => cases hj; exact ⟨rfl, rfl⟩
      | 3, hj => cases hj; exact ⟨rfl, rfl⟩
      | 4, hj => cases hj; exact ⟨rfl, rfl⟩
      | 5, hj => cases hj; exact ⟨rfl, rfl⟩
      | 6, hj => cases hj; exact ⟨rfl, rfl⟩
      | 7, hj => cases hj; exact ⟨rfl, rfl⟩
      | _ + 8, hj => cases hj
    iterate 30 (first | sizeOf_list_dec | skip)
    have l1 : (cutL (ms.map AV.int) none (some at')).length ≤ 6 := Nat.le_trans cutL_len (by omega)
    have l2 : (cutL (ms.map AV.int) (some at') none).length ≤ 6 := Nat.le_trans cutL_len (by omega)
    refine OpW.cat (by simp; omega) ?_
    iterate 30 (first | sizeOf_list_dec | skip)
    refine OpW.cat (by simp; omega) ?_
    have hbent : ∀ x ∈ (cutL (ms.map AV.int) none (some at') ++ [odd]) ++ cutL (ms.map AV.int) (some at') none, pl x = true := fun x hx => by
      simp only [List.mem_append, List.mem_singleton] at hx
      rcases hx with (hx | hx) | hx
      · exact pl_ints (cutL_mem hx)
      · subst hx; exact hodd.1
      · exact pl_ints (cutL_mem hx)
    have hfalse : (((cutL (ms.map AV.int) none (some at') ++ [odd]) ++ cutL (ms.map AV.int) (some at') none).all fun x => within x (some 0) (some 1)) = false := by
      rw [List.all_append, List.all_append]
      simp [hodd.2]
    generalize (cutL (ms.map AV.int) none (some at') ++ [odd]) ++ cutL (ms.map AV.int) (some at') none = bent at hbent hfalse
    iterate 30 (first | sizeOf_list_dec | skip)
    refine isbits (v := .lst (ms.map AV.int)) rfl (fun xs e x hx => by cases e; exact pl_ints hx) ?_
    rw [show bitsB (.lst (ms.map AV.int)) = true from bits_ints e3]
    iterate 30 (first | sizeOf_list_dec | skip)
    refine isbits (v := .tup (ms.map AV.int)) rfl (fun xs e x hx => by cases e; exact pl_ints hx) ?_
    rw [show bitsB (.tup (ms.map AV.int)) = true from bits_ints e3]
    iterate 30 (first | sizeOf_list_dec | skip)
    refine isbits (v := .lst bent) rfl (fun xs e x hx => by cases e; exact hbent x hx) ?_
    rw [show bitsB (.lst bent) = false from hfalse]
    iterate 30 (first | sizeOf_list_dec | skip)
    refine isbits (v := .tup bent) rfl (fun xs e x hx => by cases e; exact hbent x hx) ?_
    rw [show bitsB (.tup bent) = false from hfalse]
    iterate 30 (first | sizeOf_list_dec | skip)
    refine CompW.inv (fun i acc s => acc = (((ms.take i).map fun m => (toString m : Str)).map AV.str) ∧ s = ⟨c4 :: rest, false⟩) ⟨rfl, rfl⟩ (fun i x acc s hx ⟨e1, e5⟩ => ?_) fun acc s ⟨e1, e5⟩ => ?_
    · subst e1 e5
      rw [List.getElem?_map] at hx
      cases hm : ms[i]? with
      | none => rw [hm] at hx; cases hx
      | some m =>
        rw [hm] at hx
        cases hx
        have := e3 m (List.mem_of_getElem? hm)
        iterate 30 (first | sizeOf_list_dec | skip)
        refine OpW.str (by omega) ?_
        iterate 30 (first | sizeOf_list_dec | skip)
        refine ⟨?_, rfl⟩
        rw [List.take_add_one, hm]
        simp [accO]
    · subst e1 e5
      iterate 30 (first | sizeOf_list_dec | skip)
      refine OpW.join ?_ ?_
      · have hb : bit01 (ms.take (ms.map AV.int).length) := fun m hm => e3 m (List.mem_of_mem_take hm)
        rw [ts_sum hb, show (Str.ofString "").length = 0 from rfl]
        have : (ms.take (ms.map AV.int).length).length ≤ ms.length := by rw [List.length_take]; omega
        omega
      iterate 30 (first | sizeOf_list_dec | skip)
      refine isbits rfl (fun xs e x hx => by cases e) ?_
      rw [show ∀ x, bitsB (.str x) = false from fun _ => rfl]
      iterate 30 (first | sizeOf_list_dec | skip)
      refine isbits rfl (fun xs e x hx => by cases e) ?_
      rw [show ∀ x, bitsB (.dct x) = false from fun _ => rfl]
      iterate 60 (first | sizeOf_list_dec | skip)
      rw [show (PyData.eqv (.str (PyData.list [.bool true, .bool true, .bool false, .bool false, .bool false, .bool false]).shown) (.str (PyData.list [.bool true, .bool true, .bool false, .bool false, .bool false, .bool false]).shown)) = true by decide +kernel]
      exact h c4 (Cr.le hc (by omega))
end

set_option maxHeartbeats 4000000
section
variable {d b : Nat} {c0 : AO} {rest : List AO} {o keep : Bool} {Q : AV → AS → Prop} {X : AV → AS → Prop}
theorem kids_int {xs : List AV} (h : ∀ x ∈ xs, pl x = true) : kidsPl (.tup xs) ∧ kidsPl (.lst xs) := ⟨fun _ e => by cases e; exact h, fun _ e => by cases e; exact h⟩
theorem odd_cell {j : Nat} {odd : AV} (hj : [AV.non, AV.int 5, AV.tup [AV.int 0], AV.tup [AV.int 0, AV.int 0, AV.int 0], AV.tup [AV.bl true, AV.int 0], AV.lst [AV.int 0, AV.bl false], AV.str "00", AV.dct (mergeA [] [(AV.int 0, AV.int 0), (AV.int 1, AV.int 1)]), AV.tup [AV.tup [AV.int 0, AV.int 0], AV.int 1], AV.tup [AV.int 0, AV.non], AV.tup [AV.str "0", AV.int 1]][j]? = some odd) :
    pl odd = true ∧ kidsPl odd ∧ cellB odd = false := by
  match j, hj with
  | 0, hj => cases hj; exact ⟨rfl, (fun _ e => by cases e), rfl⟩
  | 1, hj => cases hj; exact ⟨rfl, (fun _ e => by cases e), rfl⟩
  | 2, hj => cases hj; exact ⟨rfl, (kids_int (by simp [pl])).1, rfl⟩
  | 3, hj => cases hj; exact ⟨rfl, (kids_int (by simp [pl])).1, rfl⟩
  | 4, hj => cases hj; exact ⟨rfl, (kids_int (by simp [pl])).1, rfl⟩
  | 5, hj => cases hj; exact ⟨rfl, (kids_int (by simp [pl])).2, rfl⟩
  | 6, hj => cases hj; exact ⟨rfl, (fun _ e => by cases e), rfl⟩
  | 7, hj => cases hj; exact ⟨rfl, (fun _ e => by cases e), rfl⟩
  | 8, hj => cases hj; exact ⟨rfl, (kids_int (by simp [pl])).1, rfl⟩
  | 9, hj => cases hj; exact ⟨rfl, (kids_int (by simp [pl])).1, rfl⟩
  | 10, hj => cases hj; exact ⟨rfl, (kids_int (by simp [pl])).1, rfl⟩
  | _ + 11, hj => cases hj
theorem cell_right (hc : Cr (b + 10) c0) (h : ∀ c1, Cr b c1 → Q (.bl true) ⟨c1 :: rest, o⟩) : CallW (callF P (d + 4)) 11 [.ref 0] keep ⟨c0 :: rest, o⟩ Q X := by
  refine CallW.fn (f := d11) rfl rfl ?_
  iterate 24 (first | sizeOf_list_dec | skip)
  refine scoop (m := 9) (by omega) (by omega) hc fun x1 c1 g1 g2 hc => ?_
  iterate 24 (first | sizeOf_list_dec | skip)
  refine scoop (m := 3) (by omega) (by omega) hc fun x2 c2 g3 g4 hc => ?_
  iterate 24 (first | sizeOf_list_dec | skip)
  refine pick (by simp) (by simp) hc fun j v c3 hj hc => ?_
  have hv : ∃ i : Int, v = .int i := by
    match j, hj with
    | 0, hj => cases hj; exact ⟨_, rfl⟩
    | 1, hj => cases hj; exact ⟨_, rfl⟩
    | 2, hj => cases hj; exact ⟨_, rfl⟩
    | 3, hj => cases hj; exact ⟨_, rfl⟩
    | _ + 4, hj => cases hj
  obtain ⟨i, rfl⟩ := hv
  iterate 24 (first | sizeOf_list_dec | skip)
  refine scoop (m := 9) (by omega) (by omega) hc fun x3 c4 g5 g6 hc => ?_
  iterate 24 (first | sizeOf_list_dec | skip)
  refine pick (by simp) (by simp) hc fun j2 v c5 hj2 hc => ?_
  have hv : ∃ i : Int, v = .int i := by
    match j2, hj2 with
    | 0, hj => cases hj; exact ⟨_, rfl⟩
    | 1, hj => cases hj; exact ⟨_, rfl⟩
    | 2, hj => cases hj; exact ⟨_, rfl⟩
    | 3, hj => cases hj; exact ⟨_, rfl⟩
    | _ + 4, hj => cases hj
  obtain ⟨k, rfl⟩ := hv
  clear hj hj2
  have hpl : ∀ x ∈ [AV.int i, AV.int k], pl x = true := fun x hx => by
    simp at hx
    rcases hx with rfl | rfl <;> rfl
  obtain ⟨hk1, hk2⟩ := kids_int hpl
  iterate 24 (first | sizeOf_list_dec | skip)
  cases hi : decide (0 ≤ i) <;> cases hk : decide (0 ≤ k)
  all_goals
    have hc1 : cellB (.tup [.int i, .int k]) = (decide (0 ≤ i) && decide (0 ≤ k)) := by simp [cellB, itemsOf, within]
    have hc2 : cellB (.lst [.int i, .int k]) = (decide (0 ≤ i) && decide (0 ≤ k)) := by simp [cellB, itemsOf, within]
    rw [hi, hk] at hc1 hc2
  all_goals
    iterate 40 (first | sizeOf_list_dec | skip)
    refine iscell (v := .tup [.int i, .int k]) rfl hk1 ?_
    rw [hc1]
    iterate 40 (first | sizeOf_list_dec | skip)
    refine iscell (v := .lst [.int i, .int k]) rfl hk2 ?_
    rw [hc2]
    iterate 12 (first | sizeOf_list_dec | skip)
  all_goals (try (rw [hk]; iterate 40 (first | sizeOf_list_dec | skip)))
  all_goals
    refine pick (by simp) (by simp) hc fun j odd c6 hj hc => ?_
    have hodd := odd_cell hj
    iterate 40 (first | sizeOf_list_dec | skip)
    refine iscell hodd.1 hodd.2.1 ?_
    rw [hodd.2.2]
    iterate 40 (first | sizeOf_list_dec | skip)
    exact h c6 (Cr.le hc (by omega))
end

set_option maxHeartbeats 4000000
section
variable {d b : Nat} {c0 : AO} {rest : List AO} {o keep : Bool} {Q : AV → AS → Prop} {X : AV → AS → Prop}
theorem leaveK {s s1 : AS} {v : AV} (h : Q v ⟨s1.cells, s.opn || s1.opn⟩) : OpW (leaveF.leaveV s true v s1) Q := ⟨fun X => wp_leaveK rfl h⟩
theorem crock {ns : List Int} (h : ∀ c1, Cr (2 ^ 20) c1 → Q (.ref 0) ⟨[c1], false⟩) : CallW (callF P (d + 1)) 5 [.lst (ns.map AV.int)] true ⟨[], false⟩ Q X := by
  refine CallW.fn (f := d5) rfl rfl ?_
  iterate 24 (first | sizeOf_list_dec | skip)
  refine CompW.inv (fun i acc s => s = ⟨[], false⟩ ∧ ∃ ms : List Int, acc = ms.map AV.int) ⟨rfl, [], rfl⟩ (fun i x acc s hx ⟨e1, ms, e2⟩ => ?_) fun acc s ⟨e1, ms, e2⟩ => ?_
  · subst e1 e2
    obtain ⟨n, _, rfl⟩ := List.mem_map.mp (cutL_mem (List.mem_of_getElem? hx))
    iterate 24 (first | sizeOf_list_dec | skip)
    exact ⟨rfl, ms ++ [n], by simp [accO]⟩
  · subst e1 e2
    iterate 24 (first | sizeOf_list_dec | skip)
    exact h _ ⟨ms, 0, 0, rfl, by omega, by omega⟩
theorem law_ok {ns : List Int} (h : ∀ s, Q (.bl true) s) : CallW (callF P (d + 5)) 12 [.lst (ns.map AV.int)] false ⟨[], false⟩ Q X := by
  refine CallW.fn (f := d12) rfl rfl ?_
  iterate 24 (first | sizeOf_list_dec | skip)
  refine crock fun c1 hc => ?_
  iterate 6 (first | sizeOf_list_dec | skip)
  refine ForW.inv (fun i ρ s => ∃ r0 r2 r3 r4 r5 r6 r7 r8 r9 c1, ρ = [r0, some (.ref 0), r2, r3, r4, r5, r6, r7, r8, r9] ∧ s = ⟨[c1], false⟩ ∧ Cr (2 ^ 19 - 1000 * i) c1) ⟨_, _, _, _, _, _, _, _, _, c1, rfl, rfl, Cr.le hc (by omega)⟩
    (fun i x ρ s hx ⟨r0, r2, r3, r4, r5, r6, r7, r8, r9, c1, e1, e2, hc⟩ => ?_) fun ρ s ⟨r0, r2, r3, r4, r5, r6, r7, r8, r9, c1, e1, e2, hc⟩ => ?_
  · subst e1 e2
    have hi : i < 4 := by
      have := (List.getElem?_eq_some_iff.mp hx).1
      simpa using this
    have hc := Cr.le (b' := 2 ^ 19 - 1000 * (i + 1) + 500) hc (by omega)
    generalize 2 ^ 19 - 1000 * (i + 1) = B at hc
    iterate 24 (first | sizeOf_list_dec | skip)
    refine value (b := B + 495) hc fun v c2 hv hc => ?_
    iterate 24 (first | sizeOf_list_dec | skip)
    refine scoop (m := 9) (b := B + 494) (by omega) (by omega) hc fun x1 c3 g1 g2 hc => ?_
    iterate 24 (first | sizeOf_list_dec | skip)
    refine scoop (m := 9) (b := B + 493) (by omega) (by omega) hc fun x2 c4 g3 g4 hc => ?_
    iterate 24 (first | sizeOf_list_dec | skip)
    refine pick (b := B + 492) (by simp) (by simp) hc fun j number c5 hj hc => ?_
    have hn : pl number = true := by
      match j, hj with
      | 0, hj => cases hj; exact hv
      | 1, hj => cases hj; rfl
      | 2, hj => cases hj; rfl
      | 3, hj => cases hj; rfl
      | 4, hj => cases hj; rfl
      | 5, hj => cases hj; rfl
      | _ + 6, hj => cases hj
    iterate 24 (first | sizeOf_list_dec | skip)
    refine pick (b := B + 491) (by simp) (by simp) hc fun j least c6 hj hc => ?_
    obtain ⟨lo, rfl⟩ : ∃ lo, least = OI lo := by
      match j, hj with
      | 0, hj => cases hj; exact ⟨some _, rfl⟩
      | 1, hj => cases hj; exact ⟨none, rfl⟩
      | _ + 2, hj => cases hj
    iterate 24 (first | sizeOf_list_dec | skip)
    refine pick (b := B + 490) (by simp) (by simp) hc fun j most c7 hj hc => ?_
    obtain ⟨hi, rfl⟩ : ∃ hi, most = OI hi := by
      match j, hj with
      | 0, hj => cases hj; exact ⟨some _, rfl⟩
      | 1, hj => cases hj; exact ⟨none, rfl⟩
      | _ + 2, hj => cases hj
    iterate 30 (first | sizeOf_list_dec | skip)
    refine own hn ?_
    cases number <;> (try (simp [pl] at hn; done))
    case int k =>
      cases lo with
      | none =>
        cases hi with
        | none =>
          have hw : within (.int k) none none = true := by simp [within]
          iterate 40 (first | sizeOf_list_dec | skip)
          refine isint hn ?_
          iterate 40 (first | sizeOf_list_dec | skip)
          refine own hn ?_
          iterate 40 (first | sizeOf_list_dec | skip)
          refine is_within (lo := none) (hi := none) hn ?_
          rw [hw]
          iterate 40 (first | sizeOf_list_dec | skip)
          iterate 40 (first | sizeOf_list_dec | skip)
          refine bits_right (b := B + 400) (Cr.le hc (by omega)) fun c8 hc => ?_
          iterate 40 (first | sizeOf_list_dec | skip)
          refine cell_right (b := B + 100) (Cr.le hc (by omega)) fun c9 hc => ?_
          iterate 40 (first | sizeOf_list_dec | skip)
          exact ⟨_, _, _, _, _, _, _, _, _, c9, rfl, rfl, Cr.le hc (by omega)⟩
        | some u =>
          cases h2 : decide (k ≤ u)
          · have hw : within (.int k) none (some u) = false := by simp [within, h2]
            iterate 40 (first | sizeOf_list_dec | skip)
            refine isint hn ?_
            iterate 40 (first | sizeOf_list_dec | skip)
            refine own hn ?_
            iterate 40 (first | sizeOf_list_dec | skip)
            refine is_within (lo := none) (hi := (some u)) hn ?_
            rw [hw]
            iterate 40 (first | sizeOf_list_dec | skip)
            (try rw [h2])
            iterate 40 (first | sizeOf_list_dec | skip)
            refine bits_right (b := B + 400) (Cr.le hc (by omega)) fun c8 hc => ?_
            iterate 40 (first | sizeOf_list_dec | skip)
            refine cell_right (b := B + 100) (Cr.le hc (by omega)) fun c9 hc => ?_
            iterate 40 (first | sizeOf_list_dec | skip)
            exact ⟨_, _, _, _, _, _, _, _, _, c9, rfl, rfl, Cr.le hc (by omega)⟩
          · have hw : within (.int k) none (some u) = true := by simp [within, h2]
            iterate 40 (first | sizeOf_list_dec | skip)
            refine isint hn ?_
            iterate 40 (first | sizeOf_list_dec | skip)
            refine own hn ?_
            iterate 40 (first | sizeOf_list_dec | skip)
            refine is_within (lo := none) (hi := (some u)) hn ?_
            rw [hw]
            iterate 40 (first | sizeOf_list_dec | skip)
            (try rw [h2])
            iterate 40 (first | sizeOf_list_dec | skip)
            refine bits_right (b := B + 400) (Cr.le hc (by omega)) fun c8 hc => ?_
            iterate 40 (first | sizeOf_list_dec | skip)
            refine cell_right (b := B + 100) (Cr.le hc (by omega)) fun c9 hc => ?_
            iterate 40 (first | sizeOf_list_dec | skip)
            exact ⟨_, _, _, _, _, _, _, _, _, c9, rfl, rfl, Cr.le hc (by omega)⟩
      | some l =>
        cases h1 : decide (l ≤ k)
        · cases hi with
          | none =>
            have hw : within (.int k) (some l) none = false := by simp [within, h1]
            iterate 40 (first | sizeOf_list_dec | skip)
            (first | refine br_t h1 ?_ | refine br_f h1 ?_)
            iterate 40 (first | sizeOf_list_dec | skip)
            refine isint hn ?_
            iterate 40 (first | sizeOf_list_dec | skip)
            refine own hn ?_
            iterate 40 (first | sizeOf_list_dec | skip)
            refine is_within (lo := (some l)) (hi := none) hn ?_
            rw [hw]
            iterate 40 (first | sizeOf_list_dec | skip)
            (try rw [h1])
            iterate 40 (first | sizeOf_list_dec | skip)
            refine bits_right (b := B + 400) (Cr.le hc (by omega)) fun c8 hc => ?_
            iterate 40 (first | sizeOf_list_dec | skip)
            refine cell_right (b := B + 100) (Cr.le hc (by omega)) fun c9 hc => ?_
            iterate 40 (first | sizeOf_list_dec | skip)
            exact ⟨_, _, _, _, _, _, _, _, _, c9, rfl, rfl, Cr.le hc (by omega)⟩
          | some u =>
            cases h2 : decide (k ≤ u)
            · have hw : within (.int k) (some l) (some u) = false := by simp [within, h1, h2]
              iterate 40 (first | sizeOf_list_dec | skip)
              (first | refine br_t h1 ?_ | refine br_f h1 ?_)
              iterate 40 (first | sizeOf_list_dec | skip)
              refine isint hn ?_
              iterate 40 (first | sizeOf_list_dec | skip)
              refine own hn ?_
              iterate 40 (first | sizeOf_list_dec | skip)
              refine is_within (lo := (some l)) (hi := (some u)) hn ?_
              rw [hw]
              iterate 40 (first | sizeOf_list_dec | skip)
              (try rw [h1])
              (try rw [h2])
              iterate 40 (first | sizeOf_list_dec | skip)
              refine bits_right (b := B + 400) (Cr.le hc (by omega)) fun c8 hc => ?_
              iterate 40 (first | sizeOf_list_dec | skip)
              refine cell_right (b := B + 100) (Cr.le hc (by omega)) fun c9 hc => ?_
              iterate 40 (first | sizeOf_list_dec | skip)
              exact ⟨_, _, _, _, _, _, _, _, _, c9, rfl, rfl, Cr.le hc (by omega)⟩
            · have hw : within (.int k) (some l) (some u) = false := by simp [within, h1, h2]
              iterate 40 (first | sizeOf_list_dec | skip)
              (first | refine br_t h1 ?_ | refine br_f h1 ?_)
              iterate 40 (first | sizeOf_list_dec | skip)
              refine isint hn ?_
              iterate 40 (first | sizeOf_list_dec | skip)
              refine own hn ?_
              iterate 40 (first | sizeOf_list_dec | skip)
              refine is_within (lo := (some l)) (hi := (some u)) hn ?_
              rw [hw]
              iterate 40 (first | sizeOf_list_dec | skip)
              (try rw [h1])
              (try rw [h2])
              iterate 40 (first | sizeOf_list_dec | skip)
              refine bits_right (b := B + 400) (Cr.le hc (by omega)) fun c8 hc => ?_
              iterate 40 (first | sizeOf_list_dec | skip)
              refine cell_right (b := B + 100) (Cr.le hc (by omega)) fun c9 hc => ?_
              iterate 40 (first | sizeOf_list_dec | skip)
              exact ⟨_, _, _, _, _, _, _, _, _, c9, rfl, rfl, Cr.le hc (by omega)⟩
        · cases hi with
          | none =>
            have hw : within (.int k) (some l) none = true := by simp [within, h1]
            iterate 40 (first | sizeOf_list_dec | skip)
            (first | refine br_t h1 ?_ | refine br_f h1 ?_)
            iterate 40 (first | sizeOf_list_dec | skip)
            refine isint hn ?_
            iterate 40 (first | sizeOf_list_dec | skip)
            refine own hn ?_
            iterate 40 (first | sizeOf_list_dec | skip)
            refine is_within (lo := (some l)) (hi := none) hn ?_
            rw [hw]
            iterate 40 (first | sizeOf_list_dec | skip)
            (try rw [h1])
            iterate 40 (first | sizeOf_list_dec | skip)
            refine bits_right (b := B + 400) (Cr.le hc (by omega)) fun c8 hc => ?_
            iterate 40 (first | sizeOf_list_dec | skip)
            refine cell_right (b := B + 100) (Cr.le hc (by omega)) fun c9 hc => ?_
            iterate 40 (first | sizeOf_list_dec | skip)
            exact ⟨_, _, _, _, _, _, _, _, _, c9, rfl, rfl, Cr.le hc (by omega)⟩
          | some u =>
            cases h2 : decide (k ≤ u)
            · have hw : within (.int k) (some l) (some u) = false := by simp [within, h1, h2]
              iterate 40 (first | sizeOf_list_dec | skip)
              (first | refine br_t h1 ?_ | refine br_f h1 ?_)
              iterate 40 (first | sizeOf_list_dec | skip)
              refine isint hn ?_
              iterate 40 (first | sizeOf_list_dec | skip)
              refine own hn ?_
              iterate 40 (first | sizeOf_list_dec | skip)
              refine is_within (lo := (some l)) (hi := (some u)) hn ?_
              rw [hw]
              iterate 40 (first | sizeOf_list_dec | skip)
              (try rw [h1])
              (try rw [h2])
              iterate 40 (first | sizeOf_list_dec | skip)
              refine bits_right (b := B + 400) (Cr.le hc (by omega)) fun c8 hc => ?_
              iterate 40 (first | sizeOf_list_dec | skip)
              refine cell_right (b := B + 100) (Cr.le hc (by omega)) fun c9 hc => ?_
              iterate 40 (first | sizeOf_list_dec | skip)
              exact ⟨_, _, _, _, _, _, _, _, _, c9, rfl, rfl, Cr.le hc (by omega)⟩
            · have hw : within (.int k) (some l) (some u) = true := by simp [within, h1, h2]
              iterate 40 (first | sizeOf_list_dec | skip)
              (first | refine br_t h1 ?_ | refine br_f h1 ?_)
              iterate 40 (first | sizeOf_list_dec | skip)
              refine isint hn ?_
              iterate 40 (first | sizeOf_list_dec | skip)
              refine own hn ?_
              iterate 40 (first | sizeOf_list_dec | skip)
              refine is_within (lo := (some l)) (hi := (some u)) hn ?_
              rw [hw]
              iterate 40 (first | sizeOf_list_dec | skip)
              (try rw [h1])
              (try rw [h2])
              iterate 40 (first | sizeOf_list_dec | skip)
              refine bits_right (b := B + 400) (Cr.le hc (by omega)) fun c8 hc => ?_
              iterate 40 (first | sizeOf_list_dec | skip)
              refine cell_right (b := B + 100) (Cr.le hc (by omega)) fun c9 hc => ?_
              iterate 40 (first | sizeOf_list_dec | skip)
              exact ⟨_, _, _, _, _, _, _, _, _, c9, rfl, rfl, Cr.le hc (by omega)⟩
    all_goals
      have hw : ∀ v : AV, isI v = false → within v lo hi = false := fun v e => by cases v <;> first | rfl | cases e
      iterate 40 (first | sizeOf_list_dec | skip)
      refine isint hn ?_
      iterate 40 (first | sizeOf_list_dec | skip)
      refine own hn ?_
      iterate 40 (first | sizeOf_list_dec | skip)
      refine is_within (lo := lo) (hi := hi) hn ?_
      rw [hw _ rfl]
      iterate 40 (first | sizeOf_list_dec | skip)
      refine bits_right (b := B + 400) (Cr.le hc (by omega)) fun c8 hc => ?_
      iterate 40 (first | sizeOf_list_dec | skip)
      refine cell_right (b := B + 100) (Cr.le hc (by omega)) fun c9 hc => ?_
      iterate 40 (first | sizeOf_list_dec | skip)
      exact ⟨_, _, _, _, _, _, _, _, _, c9, rfl, rfl, Cr.le hc (by omega)⟩
  · subst e1 e2
    iterate 30 (first | sizeOf_list_dec | skip)
    exact h _
theorem holds0 : ∀ ns : List Int, ∃ s', callF P 9 12 [.lst (ns.map AV.int)] false ⟨[], false⟩ = .ok (.bl true) s' := fun ns => by
  obtain ⟨a, s, e, h⟩ := ((law_ok (d := 4) (ns := ns) (Q := fun v _ => v = .bl true) (X := NoX) fun _ => rfl).run).out
  exact ⟨s, by rw [← h]; exact e⟩
end

theorem holds : ∀ ns : List Int, ns.length ≤ 63 → ∃ s', callF (dsOf S0) (8 + 1) 12 [.lst (ns.map AV.int)] false ⟨[], false⟩ = .ok (.bl true) s' := fun ns _ => holds0 ns

end K01
open PySem PySem.W PyProof.Rows
set_option maxHeartbeats 0 in
theorem PySem.Challenge.cw_stonerounds_k01_plain_values_told_holds : PySem.Challenge.rw_stonerounds_k01_plain_values_told.Holds := by
  w_on; o_law; k_head; (case hw => w_witness2)
  k_fill
  refine Ev.walk_ev (n := 63) (x := "script") K01.S0 K01.sites0 8 12 rfl (by decide) rfl ⟨rfl, by decide, by decide⟩ (fun w h Y => PySem.W.kIn_of Y) rfl rfl rfl K01.chk (List.mem_cons_self) ?F K01.holds
  case F =>
    intro w mg h KX G
    refine' K01.all_mk KX G ?n0 ?l0 ?c0 ?k0 ?n1 ?l1 ?c1 ?k1 ?n2 ?l2 ?c2 ?k2 ?n3 ?l3 ?c3 ?k3 ?n4 ?l4 ?c4 ?k4 ?n5 ?l5 ?c5 ?k5 ?n6 ?l6 ?c6 ?k6 ?n7 ?l7 ?c7 ?k7 ?n8 ?l8 ?c8 ?k8 ?n9 ?l9 ?c9 ?k9 ?n10 ?l10 ?c10 ?k10 ?n11 ?l11 ?c11 ?k11 ?n12 ?l12 ?c12 ?k12 ?z0 ?z1 ?z2 ?z3 ?z4 ?z5 ?z6 ?z7 ?z8 ?z9 ?z10 ?z11
    (case n0 => k_is); (case l0 => k_is); (case c0 => k_is); (case k0 => k_is); (case n1 => k_is); (case l1 => k_is); (case c1 => k_is); (case k1 => k_is)
    (case n2 => k_is); (case l2 => k_is); (case c2 => k_is); (case k2 => k_is); (case n3 => k_is); (case l3 => k_is); (case c3 => k_is); (case k3 => k_is)
    (case n4 => k_is); (case l4 => k_is); (case c4 => k_is); (case k4 => k_is); (case n5 => k_is); (case l5 => k_is); (case c5 => k_is); (case k5 => k_is)
    (case n6 => k_is); (case l6 => k_is); (case c6 => k_is); (case k6 => k_is); (case n7 => k_is); (case l7 => k_is); (case c7 => k_is); (case k7 => k_is)
    (case n8 => k_is); (case l8 => k_is); (case c8 => k_is); (case k8 => k_is); (case n9 => k_is); (case l9 => k_is); (case c9 => k_is); (case k9 => k_is)
    (case n10 => k_is); (case l10 => k_is); (case c10 => k_is); (case k10 => k_is); (case n11 => k_is); (case l11 => k_is); (case c11 => k_is); (case k11 => k_is)
    (case n12 => k_is); (case l12 => k_is); (case c12 => k_is); (case k12 => k_is); (case z0 => k_is); (case z1 => k_is); (case z2 => k_is); (case z3 => k_is)
    (case z4 => k_is); (case z5 => k_is); (case z6 => k_is); (case z7 => k_is); (case z8 => k_is); (case z9 => k_is); (case z10 => k_is); (case z11 => k_is)
