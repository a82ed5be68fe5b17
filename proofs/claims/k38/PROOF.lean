import PyProof.Rows.All
import PyProof.P3Statements
import PyProof.ReprReads
import KE.SortKeyed
import PyProof.EqLayable
import Wide.All
import OpenK.AllK
import Wide.FinOn
import HandS.ForMost
import HandS.Exc
import HandS.WordsExc
import HandS.Wide
import HandS.WideBits
import HandS.Deep
import HandS.IsInst
import HandS.TupAny
import HandS.Style
import PyProof.ReprRoads
import KE.KRevSl
import HandS.More
import HandS.Ends
import PySem.Challenge.RW_squarefloors_k38_whole_matrices
set_option Elab.async false
set_option linter.all false
set_option maxRecDepth 100000
set_option autoImplicit false
/-! values, the small language, its meaning -/
namespace Sq
open PySem (Str PyData)

abbrev LINE : Nat := 16777216

inductive PV where
  | non | bl (b : Bool) | int (i : Int) | str (x : Str)
  | tup (xs : List PV) | lst (xs : List PV) | dic (kvs : List (PV × PV)) | rol (xs : List PV)
  | fn (n : Nat) | obj (n : Nat)

/-- frozen, owned, borrowed -/
inductive Fl | frz | own | bor
  deriving DecidableEq

abbrev Slot := Option (PV × Fl)
abbrev Env := List Slot

inductive SO where
  | lst (xs : List PV)
abbrev Store := List SO

inductive R (α : Type) where
  | ok (a : α) (S : Store)
  | exc (c : Nat) (fs : List PV) (S : Store)
  | bad
def R.bind {α β : Type} (r : R α) (f : α → Store → R β) : R β :=
  match r with
  | .ok a S => f a S
  | .exc c fs S => .exc c fs S
  | .bad => .bad
@[simp] theorem R.bind_ok {α β : Type} (a : α) (S : Store) (f : α → Store → R β) : (R.ok a S).bind f = f a S := rfl
@[simp] theorem R.bind_exc {α β : Type} (c : Nat) (fs : List PV) (S : Store) (f : α → Store → R β) : (R.exc c fs S : R α).bind f = R.exc c fs S := rfl
@[simp] theorem R.bind_bad {α β : Type} (f : α → Store → R β) : (R.bad : R α).bind f = R.bad := rfl

theorem R.bind_assoc {α β γ : Type} (r : R α) (f : α → Store → R β) (g : β → Store → R γ) : (r.bind f).bind g = r.bind fun a S => (f a S).bind g := by
  cases r <;> rfl

/-! ### data -/
mutual
def PV.toD : PV → Option PyData
  | .non => some .none
  | .bl b => some (.bool b)
  | .int i => some (.int i)
  | .str x => some (.str x)
  | .tup xs => (PV.toDs xs).map .tuple
  | .lst xs => (PV.toDs xs).map .list
  | .dic _ => none
  | .rol _ => none
  | .fn _ => none
  | .obj _ => none
def PV.toDs : List PV → Option (List PyData)
  | [] => some []
  | x :: xs => match PV.toD x, PV.toDs xs with
    | some d, some ds => some (d :: ds)
    | _, _ => none
end

def flat : PV → Bool
  | .non => true
  | .bl _ => true
  | .int _ => true
  | .str _ => true
  | _ => false
/-- == of flat values -/
def eqF : PV → PV → Bool
  | .non, .non => true
  | .bl a, .bl b => a == b
  | .bl a, .int b => (if a then 1 else 0) == b
  | .int a, .bl b => a == (if b then 1 else 0)
  | .int a, .int b => a == b
  | .str a, .str b => a == b
  | _, _ => false
/-- == of data -/
def eqP (a b : PV) : Option Bool :=
  match a, b with
  | .str x, .str y => some (x == y)
  | a, b => match a.toD, b.toD with
    | some x, some y => if PySem.SeqAt.shaped x = true ∧ PySem.SeqAt.shaped y = true then some (PyData.eqv x y) else none
    | _, _ => none

mutual
/-- a bound of what repr writes -/
def wtD : PyData → Nat
  | .none => 4
  | .bool _ => 5
  | .int _ => 600
  | .str x => 10 * x.length + 2
  | .tuple xs => 3 + wtDs xs
  | .list xs => 3 + wtDs xs
  | .dict _ => 0
def wtDs : List PyData → Nat
  | [] => 0
  | x :: xs => wtD x + 2 + wtDs xs
end

def isLst : PV → Bool
  | .lst _ => true
  | .dic _ => true
  | _ => false

/-! ### operators -/
inductive BO | add | sub | mul | fdv | mod | pow
  deriving DecidableEq
inductive CO | eq | ne | lt | le | gt | ge | isin | notin | is | isnot
  deriving DecidableEq
inductive BI | len | tuple | list | int | abs | all | any | sum | min1 | max1 | min2 | max2 | repr | str | sorted | sortedRev | setLen | setSorted | divmod | range1 | range2
  deriving DecidableEq
inductive ME | index | count | join | get1
  deriving DecidableEq
inductive TY | int | bool | str | tuple | list | dict
  deriving DecidableEq
inductive IK | plain | range1 | range2 | enum | zip
  deriving DecidableEq

def mulOk (i j : Int) : Bool := decide (i.natAbs.log2 + j.natAbs.log2 < 900000)

def binV : BO → PV → PV → Option (PV × Fl)
  | .add, .int i, .int j => some (.int (i + j), .frz)
  | .sub, .int i, .int j => some (.int (i - j), .frz)
  | .mul, .int i, .int j => if mulOk i j then some (.int (i * j), .frz) else none
  | .fdv, .int i, .int j => if 0 < j ∧ j.natAbs.log2 < 9000 then some (.int (i / j), .frz) else none
  | .mod, .int i, .int j => if 0 < j then some (.int (i % j), .frz) else none
  | .pow, .int i, .int j => if 0 ≤ j ∧ j ≤ 1000000 ∧ i.natAbs < 2 ^ 64 then some (.int (i ^ j.toNat), .frz) else none
  | .add, .str x, .str y => if x.length + y.length ≤ LINE then some (.str (x ++ y), .frz) else none
  | .add, .lst xs, .lst ys => if xs.length + ys.length ≤ LINE then some (.lst (xs ++ ys), .own) else none
  | .add, .tup xs, .tup ys => if xs.length + ys.length ≤ LINE then some (.tup (xs ++ ys), .frz) else none
  | .mul, .lst xs, .int k => if -(2 ^ 63) ≤ k ∧ k < 2 ^ 63 ∧ xs.length * k.toNat ≤ LINE then some (.lst (List.replicate k.toNat xs).flatten, .own) else none
  | _, _, _ => none

/-- x in ys -/
def inP (deep : Bool) (x : PV) (ys : List PV) : Option Bool :=
  if flat x = true ∧ ys.all flat = true then some (ys.any fun y => eqF y x)
  else if deep = true then match x.toD, PV.toDs ys with
    | some d, some ds => if PySem.SeqAt.shaped d = true ∧ PySem.SeqAt.shaped (.list ds) = true then some (ds.any fun z => PyData.eqv z d) else none
    | _, _ => none
  else none

def cmpI (f : Int → Int → Bool) : PV → PV → Option Bool
  | .int i, .int j => some (f i j)
  | _, _ => none
def inC (x : PV) : PV → Option Bool
  | .lst ys => inP true x ys
  | .tup ys => inP false x ys
  | _ => none
def isC (x : PV) : PV → Option Bool
  | .non => some (match x with | .non => true | _ => false)
  | _ => none
def cmpV (o : CO) (a b : PV) : Option Bool :=
  match o with
  | .eq => eqP a b
  | .ne => (eqP a b).map (!·)
  | .lt => cmpI (fun i j => decide (i < j)) a b
  | .le => cmpI (fun i j => decide (i ≤ j)) a b
  | .gt => cmpI (fun i j => decide (j < i)) a b
  | .ge => cmpI (fun i j => decide (j ≤ i)) a b
  | .isin => inC a b
  | .notin => (inC a b).map (!·)
  | .is => isC a b
  | .isnot => (isC a b).map (!·)

def ixN (n : Nat) (i : Int) : Option Nat := if 0 ≤ i then (if i < n then some i.toNat else none) else if -(n : Int) ≤ i then some (i + n).toNat else none
def atI {α : Type} (xs : List α) (i : Int) : Option α := (ixN xs.length i).bind fun j => xs[j]?

def idxV : PV → PV → Option PV
  | .tup xs, .int i => atI xs i
  | .lst xs, .int i => atI xs i
  | .rol xs, .int i => atI xs i
  | .str x, .int i => if x.length ≤ LINE then (atI x.cps.toList i).map fun c => PV.str ⟨#[c]⟩ else none
  | _, _ => none

def idxS (S : Store) (a i : PV) : Option PV :=
  match a with
  | .obj n => match S[n]?, i with
    | some (.lst xs), .int i => atI xs i
    | _, _ => none
  | a => idxV a i

def keyEq : PV → PV → Bool
  | .int i, .int j => i == j
  | .str x, .str y => x == y
  | _, _ => false
def isKey : PV → Bool
  | .int _ => true
  | .str _ => true
  | _ => false

def isTy : TY → PV → Bool
  | .int, .int _ => true
  | .int, .bl _ => true
  | .bool, .bl _ => true
  | .str, .str _ => true
  | .tuple, .tup _ => true
  | .list, .lst _ => true
  | .dict, .dic _ => true
  | _, _ => false
def isDatum : PV → Bool
  | .rol _ => false
  | .fn _ => false
  | .obj _ => false
  | _ => true

def blsP : List PV → Option (List Bool)
  | [] => some []
  | .bl b :: xs => (blsP xs).map (b :: ·)
  | _ :: _ => none
def intsP : List PV → Option (List Int)
  | [] => some []
  | .int i :: xs => (intsP xs).map (i :: ·)
  | _ :: _ => none
def strsP : List PV → Option (List Str)
  | [] => some []
  | .str i :: xs => (strsP xs).map (i :: ·)
  | _ :: _ => none

def rangeL (lo hi : Int) : List PV := (List.range (hi - lo).toNat).map fun (k : Nat) => PV.int (lo + (k : Int))

/-- what a for walks -/
def itemsV : IK → List PV → Option (List PV)
  | .plain, [.lst xs] => some xs
  | .plain, [.tup xs] => some xs
  | .plain, [.rol xs] => some xs
  | .plain, [.str x] => some (x.cps.toList.map fun c => .str ⟨#[c]⟩)
  | .range1, [.int j] => if j < 2 ^ 62 ∧ -(2 ^ 62) ≤ j then some (rangeL 0 j) else none
  | .range2, [.int i, .int j] => if j < 2 ^ 62 ∧ -(2 ^ 62) ≤ j ∧ i < 2 ^ 62 ∧ -(2 ^ 62) ≤ i then some (rangeL i j) else none
  | .enum, [.lst xs] => some (xs.zipIdx.map fun p => .tup [.int p.2, p.1])
  | .enum, [.tup xs] => some (xs.zipIdx.map fun p => .tup [.int p.2, p.1])
  | .zip, [.lst xs, .lst ys] => some ((xs.zip ys).map fun p => .tup [p.1, p.2])
  | _, _ => none

def joinLen (sep : Str) (ys : List Str) : Nat := (ys.map (·.length)).sum + ys.length * sep.length

def bifV : BI → List PV → Option (PV × Fl)
  | .len, [.lst xs] => some (.int xs.length, .frz)
  | .len, [.rol xs] => some (.int xs.length, .frz)
  | .len, [.tup xs] => some (.int xs.length, .frz)
  | .len, [.str x] => if x.length ≤ LINE then some (.int x.length, .frz) else none
  | .tuple, [.lst xs] => some (.tup xs, .frz)
  | .tuple, [.tup xs] => some (.tup xs, .frz)
  | .list, [.lst xs] => some (.lst xs, .own)
  | .list, [.tup xs] => some (.lst xs, .own)
  | .int, [.int i] => some (.int i, .frz)
  | .abs, [.int i] => some (.int (if i < 0 then -i else i), .frz)
  | .all, [.lst xs] => (blsP xs).map fun bs => (.bl (bs.all id), .frz)
  | .any, [.lst xs] => (blsP xs).map fun bs => (.bl (bs.any id), .frz)
  | .sum, [.lst xs] => (intsP xs).map fun ns => (.int ns.sum, .frz)
  | .min2, [.int i, .int j] => some (.int (if j < i then j else i), .frz)
  | .max2, [.int i, .int j] => some (.int (if j > i then j else i), .frz)
  | .repr, [x] => match x.toD with
    | some d => if d.showable = true ∧ PySem.SeqAt.shaped d = true ∧ wtD d ≤ LINE then some (.str d.shown, .frz) else none
    | none => none
  | .divmod, [.int i, .int j] => if 0 < j ∧ j < 1073741824 then some (.tup [.int (i / j), .int (i % j)], .frz) else none
  | _, _ => none

def indexF (x : PV) : List PV → Nat → Option Nat
  | [], _ => none
  | y :: ys, k => if eqF y x = true then some k else indexF x ys (k + 1)
def indexD (x : PyData) : List PyData → Nat → Option Nat
  | [], _ => none
  | y :: ys, k => if PyData.eqv y x = true then some k else indexD x ys (k + 1)
def indexOf (deep : Bool) (x : PV) (ys : List PV) : Option Nat :=
  if flat x = true ∧ ys.all flat = true then indexF x ys 0
  else if deep = true then match x.toD, PV.toDs ys with
    | some d, some ds => if PySem.SeqAt.shaped d = true ∧ PySem.SeqAt.shaped (.list ds) = true then indexD d ds 0 else none
    | _, _ => none
  else none

def okRecv : ME → PV → Bool
  | .join, .str _ => true
  | .index, .lst _ => true
  | _, _ => false
def methV : ME → PV → List PV → Option (PV × Fl)
  | .join, .str sep, [.lst xs] => match strsP xs with
    | some ys => if joinLen sep ys ≤ LINE then some (.str (Str.join sep ys), .frz) else none
    | none => none
  | .index, .lst xs, [x] => (indexOf true x xs).map fun (k : Nat) => (PV.int (k : Int), Fl.frz)
  | _, _, _ => none

def sIx (n d : Nat) : Option Int → Nat
  | none => d
  | some v => if v < 0 then (v + (n : Int)).toNat else min v.toNat n
def cutL {α : Type} (xs : List α) (lo hi : Option Int) : List α := (xs.drop (sIx xs.length 0 lo)).take (sIx xs.length xs.length hi - sIx xs.length 0 lo)
def cutV (a : PV) (lo hi : Option Int) : Option (PV × Fl) :=
  match a with
  | .lst xs => some (.lst (cutL xs lo hi), .own)
  | .tup xs => some (.tup (cutL xs lo hi), .frz)
  | .str x => if x.length ≤ LINE then some (.str ⟨(cutL x.cps.toList lo hi).toArray⟩, .frz) else none
  | _ => none
def revV : PV → Option (PV × Fl)
  | .lst xs => some (.lst xs.reverse, .own)
  | .str x => if x.length ≤ LINE then some (.str ⟨x.cps.toList.reverse.toArray⟩, .frz) else none
  | _ => none

/-! ### the language -/
inductive T where
  | nm (i : Nat)
  | tp (ts : List T)

inductive E where
  | var (i : Nat)
  | bor (i : Nat)
  | cst (v : PV)
  | tup (es : List E)
  | lst (es : List E)
  | obj (es : List E)
  | bin (o : BO) (a b : E)
  | neg (a : E)
  | not (a : E)
  | cmp (o : CO) (a b : E)
  | chn (o p : CO) (a b c : E)
  | and (a b : E)
  | or (a b : E)
  | ite (c a b : E)
  | idx (a i : E)
  | cut (a : E) (lo hi : Option E)
  | rev (a : E)
  | isi (a : E) (ts : List TY)
  | cal (f : Nat) (es : List E) (perm : List Nat)
  | bif (b : BI) (es : List E)
  | mth (m : ME) (a : E) (es : List E)
  | kix (d : List (Str × PV)) (a : E)
  | kin (d : List (Str × PV)) (a : E)
  | dix (ks : List Str) (vs : List E) (a : E)
  | lc (t : T) (own : List Nat) (k : IK) (es : List E) (cs : List E) (e : E)

abbrev Arg := PV × Fl
abbrev Calls := Nat → List Arg → Store → R Arg

def wipeE (σ : Env) : List Nat → Env
  | [] => σ
  | v :: vs => (wipeE σ vs).set v none

mutual
def asgT : T → PV → Env → Option Env
  | .nm i, v, σ => if i < σ.length then some (σ.set i (some (v, .frz))) else none
  | .tp ts, .tup vs, σ => asgTs ts vs σ
  | .tp _, _, _ => none
def asgTs : List T → List PV → Env → Option Env
  | [], [], σ => some σ
  | t :: ts, v :: vs, σ => match asgT t v σ with
    | some σ' => asgTs ts vs σ'
    | none => none
  | _, _, _ => none
end

/-- no borrowed one leaks -/
def leaks : List Arg → Option (List PV)
  | [] => some []
  | (v, fl) :: r => match fl with
    | .bor => none
    | _ => match leaks r with
      | some vs => some (v :: vs)
      | none => none
def leak1 : Arg → Option PV
  | (_, .bor) => none
  | (v, _) => some v
def isBl {α : Type} (v : PV) (f : Bool → R α) : R α := match v with
  | .bl b => f b
  | _ => .bad
def liftO (S : Store) : Option Arg → R Arg
  | some a => .ok a S
  | none => .bad
def pick {α : Type} (as : List α) : List Nat → Option (List α)
  | [] => some []
  | i :: is => match as[i]?, pick as is with
    | some a, some r => some (a :: r)
    | _, _ => none
/-- an argument is handed on: an owned one is frozen -/
def handOn : Arg → Arg
  | (v, .own) => (v, .frz)
  | a => a

/-- what is walked, item by item -/
def itOf (k : IK) (r : R (List Arg)) : R (List PV) := r.bind fun as S1 => match leaks as with
  | some vs => match itemsV k vs with
    | some xs => .ok xs S1
    | none => .bad
  | none => .bad
/-- no exception leaves -/
def R.nox {α : Type} : R α → R α
  | .exc _ _ _ => .bad
  | r => r
@[simp] theorem R.nox_ok {α : Type} (a : α) (S : Store) : (R.ok a S).nox = R.ok a S := rfl
def lcGo (f : PV → Store → R (Option PV)) (acc : List PV) : List PV → Store → R (List PV)
  | [], S => .ok acc S
  | x :: xs, S => (f x S).nox.bind fun o S' => match o with
    | none => lcGo f acc xs S'
    | some y => lcGo f (acc ++ [y]) xs S'

/-- a module's dict, read -/
def lookS {α : Type} (z : Str) : List (Str × α) → Option α
  | [] => none
  | p :: r => if p.1 = z then some p.2 else lookS z r
/-- a display's last value -/
def lookL {α : Type} (z : Str) (l : List (Str × α)) : Option α := l.foldl (fun o p => if z = p.1 then some p.2 else o) none
mutual
def evalE (cal : Calls) : E → Env → Store → R Arg
  | .var i, σ, S => match σ[i]? with
    | some (some (v, .frz)) => .ok (v, .frz) S
    | _ => .bad
  | .bor i, σ, S => match σ[i]? with
    | some (some (v, .frz)) => .ok (v, .frz) S
    | some (some (v, _)) => .ok (v, .bor) S
    | _ => .bad
  | .cst v, _, S => .ok (v, .frz) S
  | .tup es, σ, S => (evalEs cal es σ S).bind fun as S' => match leaks as with
    | some vs => .ok (.tup vs, .frz) S'
    | none => .bad
  | .lst es, σ, S => (evalEs cal es σ S).bind fun as S' => match leaks as with
    | some vs => .ok (.lst vs, .own) S'
    | none => .bad
  | .obj es, σ, S => (evalEs cal es σ S).bind fun as S' => match leaks as with
    | some vs => .ok (.obj S'.length, .frz) (S' ++ [.lst vs])
    | none => .bad
  | .bin o a b, σ, S => (evalE cal a σ S).bind fun x S1 => (evalE cal b σ S1).bind fun y S2 => liftO S2 (binV o x.1 y.1)
  | .neg a, σ, S => (evalE cal a σ S).bind fun x S1 => match x.1 with
    | .int i => .ok (.int (-i), .frz) S1
    | _ => .bad
  | .not a, σ, S => (evalE cal a σ S).bind fun x S1 => isBl x.1 fun b => .ok (.bl (!b), .frz) S1
  | .cmp o a b, σ, S => (evalE cal a σ S).bind fun x S1 => (evalE cal b σ S1).bind fun y S2 => match cmpV o x.1 y.1 with
    | some b => .ok (.bl b, .frz) S2
    | none => .bad
  | .chn o p a b c, σ, S => (evalE cal a σ S).bind fun x S1 => (evalE cal b σ S1).bind fun y S2 => match cmpV o x.1 y.1 with
    | some true => (evalE cal c σ S2).bind fun z S3 => match cmpV p y.1 z.1 with
      | some b => .ok (.bl b, .frz) S3
      | none => .bad
    | some false => .ok (.bl false, .frz) S2
    | none => .bad
  | .and a b, σ, S => (evalE cal a σ S).bind fun x S1 => isBl x.1 fun c => if c = true then evalE cal b σ S1 else .ok (.bl false, .frz) S1
  | .or a b, σ, S => (evalE cal a σ S).bind fun x S1 => isBl x.1 fun c => if c = true then .ok (.bl true, .frz) S1 else evalE cal b σ S1
  | .ite c a b, σ, S => (evalE cal c σ S).bind fun x S1 => isBl x.1 fun c => if c = true then evalE cal a σ S1 else evalE cal b σ S1
  | .idx a i, σ, S => (evalE cal a σ S).bind fun x S1 => (evalE cal i σ S1).bind fun y S2 => match idxS S2 x.1 y.1 with
    | some v => .ok (v, .frz) S2
    | none => .bad
  | .cut a lo hi, σ, S => (evalE cal a σ S).bind fun x S1 => (evalO cal lo σ S1).bind fun y S2 => (evalO cal hi σ S2).bind fun z S3 => liftO S3 (cutV x.1 y z)
  | .rev a, σ, S => (evalE cal a σ S).bind fun x S1 => liftO S1 (revV x.1)
  | .isi a ts, σ, S => (evalE cal a σ S).bind fun x S1 => if isDatum x.1 = true then .ok (.bl (ts.any fun t => isTy t x.1), .frz) S1 else .bad
  | .cal f es perm, σ, S => (evalAs cal es σ S).bind fun as S1 => match pick as perm with
    | some bs => cal f bs S1
    | none => .bad
  | .bif b es, σ, S => (evalEs cal es σ S).bind fun as S1 => liftO S1 (bifV b (as.map (·.1)))
  | .mth m a es, σ, S => (evalE cal a σ S).bind fun x S1 => if okRecv m x.1 = true then (evalEs cal es σ S1).bind fun as S2 => liftO S2 (methV m x.1 (as.map (·.1))) else .bad
  | .kix d a, σ, S => (evalE cal a σ S).bind fun x S1 => match x.1 with
    | .str z => match lookS z d with
      | some v => .ok (v, .frz) S1
      | none => .bad
    | _ => .bad
  | .kin d a, σ, S => (evalE cal a σ S).bind fun x S1 => match x.1 with
    | .str z => match lookS z d with
      | some _ => .ok (.bl true, .frz) S1
      | none => .bad
    | _ => .bad
  | .dix ks vs a, σ, S => (evalEs cal vs σ S).bind fun as S1 => match leaks as with
    | some ws => (evalE cal a σ S1).bind fun x S2 => match x.1 with
      | .str z => match lookL z (ks.zip ws) with
        | some v => .ok (v, .frz) S2
        | none => .bad
      | _ => .bad
    | none => .bad
  | .lc t own k es cs e, σ, S => (itOf k (evalEs cal es σ S)).bind fun xs S1 => if xs.length ≤ LINE then
      (lcGo (fun x S2 => match asgT t x (wipeE σ own) with
          | some σ2 => (evalCs cal cs σ2 S2).bind fun b S3 => if b = true then (evalE cal e σ2 S3).bind fun y S4 => match leak1 y with
              | some v => .ok (some v) S4
              | none => .bad
            else .ok none S3
          | none => .bad) [] xs S1).bind fun ys S5 => .ok (.lst ys, .own) S5
    else .bad
def evalEs (cal : Calls) : List E → Env → Store → R (List Arg)
  | [], _, S => .ok [] S
  | e :: es, σ, S => (evalE cal e σ S).bind fun x S1 => (evalEs cal es σ S1).bind fun xs S2 => .ok (x :: xs) S2
/-- arguments -/
def evalAs (cal : Calls) : List E → Env → Store → R (List Arg)
  | [], _, S => .ok [] S
  | e :: es, σ, S => (evalE cal e σ S).bind fun x S1 => (evalAs cal es σ S1).bind fun xs S2 => .ok (handOn x :: xs) S2
/-- a part of a slice -/
def evalO (cal : Calls) : Option E → Env → Store → R (Option Int)
  | none, _, S => .ok none S
  | some e, σ, S => (evalE cal e σ S).bind fun x S1 => match x.1 with
    | .int i => .ok (some i) S1
    | _ => .bad
/-- tests of a comprehension -/
def evalCs (cal : Calls) : List E → Env → Store → R Bool
  | [], _, S => .ok true S
  | e :: es, σ, S => (evalE cal e σ S).bind fun x S1 => isBl x.1 fun b => if b = true then evalCs cal es σ S1 else .ok false S1
end

/-! ### statements -/
inductive Tg where
  | nm (i : Nat)
  | ix (i : Nat) (e : E)
  | tp (ts : List Tg)
inductive MU | append | extend | insert
  deriving DecidableEq
inductive S where
  | asg (t : Tg) (e : E)
  | par (is : List Nat) (es : List E)
  | exp (e : E)
  | mut (m : MU) (i : Nat) (es : List E)
  | ret (e : E)
  | retm (i : Nat)
  | retn
  | iff (c : E) (a b : List S)
  | whl (c : E) (b : List S)
  | fr (t : T) (k : IK) (es : List E) (b : List S)
  | frz (is : List Nat)
  | rai (c : Nat) (es : List E)
  | nev
  | pas

inductive X where
  | nx (σ : Env) (S : Store)
  | rt (a : Arg) (S : Store)
  | exc (c : Nat) (fs : List PV) (S : Store)
  | bad
def R.thenX {α : Type} (r : R α) (f : α → Store → X) : X :=
  match r with
  | .ok a S => f a S
  | .exc c fs S => .exc c fs S
  | .bad => .bad
@[simp] theorem R.thenX_ok {α : Type} (a : α) (S : Store) (f : α → Store → X) : (R.ok a S).thenX f = f a S := rfl
@[simp] theorem R.thenX_exc {α : Type} (c : Nat) (fs : List PV) (S : Store) (f : α → Store → X) : (R.exc c fs S : R α).thenX f = X.exc c fs S := rfl
@[simp] theorem R.thenX_bad {α : Type} (f : α → Store → X) : (R.bad : R α).thenX f = X.bad := rfl
def X.andThen (x : X) (f : Env → Store → X) : X :=
  match x with
  | .nx σ S => f σ S
  | .rt a S => .rt a S
  | .exc c fs S => .exc c fs S
  | .bad => .bad
@[simp] theorem X.andThen_nx (σ : Env) (S : Store) (f : Env → Store → X) : (X.nx σ S).andThen f = f σ S := rfl
@[simp] theorem X.andThen_rt (a : Arg) (S : Store) (f : Env → Store → X) : (X.rt a S).andThen f = X.rt a S := rfl
@[simp] theorem X.andThen_exc (c : Nat) (fs : List PV) (S : Store) (f : Env → Store → X) : (X.exc c fs S).andThen f = X.exc c fs S := rfl
@[simp] theorem X.andThen_bad (f : Env → Store → X) : X.bad.andThen f = X.bad := rfl

def slotOf : Arg → Option (PV × Fl)
  | (_, .bor) => none
  | (v, .frz) => some (v, .frz)
  | (v, .own) => some (v, if isLst v then .own else .frz)
def setS (σ : Env) (i : Nat) (a : Arg) : Option Env :=
  if i < σ.length then match slotOf a with
    | some s => some (σ.set i (some s))
    | none => none
  else none
/-- o[i] = v -/
def putV : PV → PV → PV → Option PV
  | .lst xs, .int i, v => match ixN xs.length i with
    | some j => some (.lst (xs.set j v))
    | none => none
  | _, _, _ => none
def putS (σ : Env) (st : Store) (i : Nat) (k v : PV) : X :=
  match σ[i]? with
  | some (some (.obj n, .frz)) => match st[n]? with
    | some (.lst xs) => match putV (.lst xs) k v with
      | some (.lst ys) => .nx σ (st.set n (.lst ys))
      | _ => .bad
    | none => .bad
  | some (some (c, .own)) => match putV c k v with
    | some c' => .nx (σ.set i (some (c', .own))) st
    | none => .bad
  | _ => .bad
def boxed (σ : Env) (i : Nat) : Bool := match σ[i]? with
  | some (some (.obj _, .frz)) => true
  | some (some (_, .own)) => true
  | _ => false
mutual
def asgG (cal : Calls) : Tg → Arg → Env → Store → X
  | .nm i, a, σ, st => match setS σ i a with
    | some σ' => .nx σ' st
    | none => .bad
  | .ix i e, a, σ, st => match leak1 a with
    | some v => if boxed σ i = true then (evalE cal e σ st).thenX fun k st1 => match leak1 k with
        | some kv => putS σ st1 i kv v
        | none => .bad
      else .bad
    | none => .bad
  | .tp ts, (.tup vs, _), σ, st => if vs.length = ts.length then asgGs cal ts vs σ st else .bad
  | .tp _, _, _, _ => .bad
def asgGs (cal : Calls) : List Tg → List PV → Env → Store → X
  | [], [], σ, st => .nx σ st
  | t :: ts, v :: vs, σ, st => (asgG cal t (v, .frz) σ st).andThen fun σ1 st1 => asgGs cal ts vs σ1 st1
  | _, _, _, _ => .bad
end
def setAll (σ : Env) : List Nat → List Arg → Option Env
  | [], [] => some σ
  | i :: is, a :: as => match setS σ i a with
    | some σ' => setAll σ' is as
    | none => none
  | _, _ => none
def mutV : MU → PV → List PV → Option PV
  | .append, .lst xs, [v] => if xs.length < LINE then some (.lst (xs ++ [v])) else none
  | .extend, .lst xs, [.lst ys] => if xs.length + ys.length ≤ LINE then some (.lst (xs ++ ys)) else none
  | .insert, .lst xs, [.int i, v] => if xs.length < LINE ∧ 0 ≤ i ∧ i < 2 ^ 63 then some (.lst (xs.take i.toNat ++ [v] ++ xs.drop i.toNat)) else none
  | _, _, _ => none
def frzAll (σ : Env) : List Nat → Env
  | [] => σ
  | i :: is => match σ[i]? with
    | some (some (v, .own)) => frzAll (σ.set i (some (v, .frz))) is
    | _ => frzAll σ is

def whL (c : Env → Store → R Bool) (b : Env → Store → X) : Nat → Env → Store → X
  | 0, _, _ => .bad
  | n + 1, σ, st => (c σ st).thenX fun t st1 => if t = true then (b σ st1).andThen (whL c b n) else .nx σ st1
def forL (t : T) (b : Env → Store → X) : List PV → Env → Store → X
  | [], σ, st => .nx σ st
  | v :: vs, σ, st => match asgT t v σ with
    | some σ1 => (b σ1 st).andThen (forL t b vs)
    | none => .bad
def testR (r : R Arg) : R Bool := r.bind fun x st => isBl x.1 fun b => .ok b st

abbrev FUEL : Nat := 1000000000
mutual
def execS (cal : Calls) : S → Env → Store → X
  | .asg t e, σ, st => (evalE cal e σ st).thenX fun a st1 => asgG cal t a σ st1
  | .par is es, σ, st => (evalEs cal es σ st).thenX fun as st1 => match setAll σ is as with
    | some σ' => .nx σ' st1
    | none => .bad
  | .exp e, σ, st => (evalE cal e σ st).thenX fun _ st1 => .nx σ st1
  | .mut m i es, σ, st => (evalEs cal es σ st).thenX fun as st1 => match leaks as with
    | some vs => match σ[i]? with
      | some (some (c, .own)) => match mutV m c vs with
        | some c' => .nx (σ.set i (some (c', .own))) st1
        | none => .bad
      | _ => .bad
    | none => .bad
  | .ret e, σ, st => (evalE cal e σ st).thenX fun a st1 => match a.2 with
    | .bor => .bad
    | _ => .rt a st1
  | .retm i, σ, st => match σ[i]? with
    | some (some (v, .own)) => .rt (v, .own) st
    | some (some (v, .frz)) => .rt (v, .frz) st
    | _ => .bad
  | .retn, _, st => .rt (.non, .frz) st
  | .iff c a b, σ, st => (testR (evalE cal c σ st)).thenX fun t st1 => if t = true then execs cal a σ st1 else execs cal b σ st1
  | .whl c b, σ, st => whL (fun σ st => testR (evalE cal c σ st)) (fun σ st => execs cal b σ st) FUEL σ st
  | .fr t k es b, σ, st => (itOf k (evalEs cal es σ st)).thenX fun xs st1 => forL t (fun σ st => execs cal b σ st) xs σ st1
  | .frz is, σ, st => .nx (frzAll σ is) st
  | .rai c es, σ, st => (evalEs cal es σ st).thenX fun as st1 => match leaks as with
    | some vs => .exc c vs st1
    | none => .bad
  | .nev, _, _ => .bad
  | .pas, σ, st => .nx σ st
def execs (cal : Calls) : List S → Env → Store → X
  | [], σ, st => .nx σ st
  | s :: ss, σ, st => (execS cal s σ st).andThen fun σ1 st1 => execs cal ss σ1 st1
end

structure Def where
  np : Nat
  ns : Nat
  body : List S
abbrev Prog := Nat → Option Def
def X.fin : X → R Arg
  | .nx _ st => .ok (.non, .frz) st
  | .rt a st => .ok a st
  | .exc c fs st => .exc c fs st
  | .bad => .bad
def callF (P : Prog) : Nat → Calls
  | 0, _, _, _ => .bad
  | k + 1, f, as, st => match P f with
    | some d => if as.length = d.np then (execs (callF P k) d.body (as.map some ++ List.replicate (d.ns - d.np) none) st).fin else .bad
    | none => .bad
end Sq

/-! values in the heap -/
namespace Sq
open PySem L2

/-- what a proof knows of the module: where the defs stand -/
structure Mo where
  K : PySem.W.Frag
  fa : Nat → Option Addr

/-- the ghost: what is frozen, where the store's objects stand -/
structure Gh where
  I : Hp
  μ : List Addr

section
variable (M : Mo)
mutual
inductive Rep (G : Gh) : PV → V → Prop
  | non : Rep G .non .non
  | bl (b : Bool) : Rep G (.bl b) (.bl b)
  | int (i : Int) : Rep G (.int i) (.int i)
  | str (x : Str) : Rep G (.str x) (.str x)
  | tup {a : Addr} {xs : List PV} {vs : List V} : SqT M.K G.I a vs → Reps G xs vs → Rep G (.tup xs) (.ref a)
  | lst {a : Addr} {xs : List PV} {vs : List V} : G.I a = some (.lst vs) → Reps G xs vs → Rep G (.lst xs) (.ref a)
  | rol {a : Addr} {xs : List PV} {vs : List V} : SqL M.K G.I a vs → Reps G xs vs → Rep G (.rol xs) (.ref a)
  | fn {n : Nat} {a : Addr} : M.fa n = some a → Rep G (.fn n) (.ref a)
  | obj {n : Nat} {a : Addr} : G.μ[n]? = some a → Rep G (.obj n) (.ref a)
inductive Reps (G : Gh) : List PV → List V → Prop
  | nil : Reps G [] []
  | cons {x : PV} {xs : List PV} {v : V} {vs : List V} : Rep G x v → Reps G xs vs → Reps G (x :: xs) (v :: vs)
end
end

section
variable {M : Mo} {G G' G1 G2 : Gh} {H H' H1 H2 : Hp}

/-- the ghost grows -/
structure Grow (G G' : Gh) : Prop where
  I : ∀ a o, G.I a = some o → G'.I a = some o
  μ : ∀ (n : Nat) (a : Addr), G.μ[n]? = some a → G'.μ[n]? = some a
theorem Grow.refl : Grow G G := ⟨fun _ _ h => h, fun _ _ h => h⟩
theorem Grow.trans (a : Grow G G1) (b : Grow G1 G2) : Grow G G2 := ⟨fun x o h => b.I x o (a.I x o h), fun n x h => b.μ n x (a.μ n x h)⟩

theorem sqT_mono {K : PySem.W.Frag} {I I' : Hp} (g : ∀ a o, I a = some o → I' a = some o) {a : Addr} {vs : List V} (h : SqT K I a vs) : SqT K I' a vs := by
  rcases h with (h | ⟨o, h⟩) | h
  · exact .inl (.inl (g _ _ h))
  · exact .inl (.inr ⟨o, g _ _ h⟩)
  · exact .inr h
theorem sqL_mono {K : PySem.W.Frag} {I I' : Hp} (g : ∀ a o, I a = some o → I' a = some o) {a : Addr} {vs : List V} (h : SqL K I a vs) : SqL K I' a vs := by
  rcases h with (h | ⟨o, h⟩) | h
  · exact .inl (.inl (g _ _ h))
  · exact .inl (.inr ⟨o, g _ _ h⟩)
  · exact .inr h
mutual
theorem Rep.grow (g : Grow G G') : ∀ {x : PV} {v : V}, Rep M G x v → Rep M G' x v
  | _, _, .non => .non
  | _, _, .bl b => .bl b
  | _, _, .int i => .int i
  | _, _, .str x => .str x
  | _, _, .tup h r => .tup (sqT_mono g.I h) (Reps.grow g r)
  | _, _, .lst h r => .lst (g.I _ _ h) (Reps.grow g r)
  | _, _, .rol h r => .rol (sqL_mono g.I h) (Reps.grow g r)
  | _, _, .fn h => .fn h
  | _, _, .obj h => .obj (g.μ _ _ h)
theorem Reps.grow (g : Grow G G') : ∀ {xs : List PV} {vs : List V}, Reps M G xs vs → Reps M G' xs vs
  | _, _, .nil => .nil
  | _, _, .cons h r => .cons (Rep.grow g h) (Reps.grow g r)
end
theorem Reps.length : ∀ {xs : List PV} {vs : List V}, Reps M G xs vs → xs.length = vs.length
  | _, _, .nil => rfl
  | _, _, .cons _ r => by rw [List.length_cons, List.length_cons, Reps.length r]
theorem Reps.get : ∀ {xs : List PV} {vs : List V} {i : Nat} {x : PV}, Reps M G xs vs → xs[i]? = some x → ∃ v, vs[i]? = some v ∧ Rep M G x v
  | _, _, _, _, .nil, e => by simp at e
  | _, _, 0, _, .cons h _, e => by simp at e; subst e; exact ⟨_, rfl, h⟩
  | _, _, i + 1, x, .cons _ r, e => by
    obtain ⟨v, h1, h2⟩ := Reps.get (i := i) (x := x) r (by simpa using e)
    exact ⟨v, by simpa using h1, h2⟩
theorem Reps.append : ∀ {xs ys : List PV} {vs ws : List V}, Reps M G xs vs → Reps M G ys ws → Reps M G (xs ++ ys) (vs ++ ws)
  | _, _, _, _, .nil, s => s
  | _, _, _, _, .cons h r, s => .cons h (Reps.append r s)
theorem Reps.take : ∀ {xs : List PV} {vs : List V} (n : Nat), Reps M G xs vs → Reps M G (xs.take n) (vs.take n)
  | _, _, 0, _ => .nil
  | _, _, _ + 1, .nil => .nil
  | _, _, n + 1, .cons h r => .cons h (Reps.take n r)
theorem Reps.drop : ∀ {xs : List PV} {vs : List V} (n : Nat), Reps M G xs vs → Reps M G (xs.drop n) (vs.drop n)
  | _, _, 0, r => r
  | _, _, _ + 1, .nil => .nil
  | _, _, n + 1, .cons _ r => Reps.drop n r
theorem Reps.set {x : PV} {v : V} (h : Rep M G x v) : ∀ {xs : List PV} {vs : List V} (i : Nat), Reps M G xs vs → Reps M G (xs.set i x) (vs.set i v)
  | _, _, _, .nil => .nil
  | _, _, 0, .cons _ t => .cons h t
  | _, _, i + 1, .cons q t => .cons q (Reps.set h i t)
theorem Reps.reverse : ∀ {xs : List PV} {vs : List V}, Reps M G xs vs → Reps M G xs.reverse vs.reverse
  | _, _, .nil => .nil
  | _, _, .cons h r => by
    rw [List.reverse_cons, List.reverse_cons]
    exact (Reps.reverse r).append (.cons h .nil)
theorem Reps.rep_flat {xs : List PV} {vs : List V} (h : Reps M G xs vs) : ∀ n, Reps M G (List.replicate n xs).flatten (List.replicate n vs).flatten
  | 0 => .nil
  | n + 1 => by
    rw [List.replicate_succ, List.replicate_succ, List.flatten_cons, List.flatten_cons]
    exact h.append (Reps.rep_flat h n)

/-- a store's object at its place -/
def SOk (M : Mo) (G : Gh) (H : Hp) (a : Addr) : SO → Prop
  | .lst xs => ∃ vs, H a = some (.lst vs) ∧ Reps M G xs vs
/-- the heap bears the ghost and the store -/
structure HRel (M : Mo) (G : Gh) (H : Hp) (S : Store) : Prop where
  sub : ∀ a o, G.I a = some o → H a = some o
  len : G.μ.length = S.length
  nd : G.μ.Nodup
  off : ∀ a, a ∈ G.μ → G.I a = none
  st : ∀ (n : Nat) (o : SO) (a : Addr), S[n]? = some o → G.μ[n]? = some a → SOk M G H a o
/-- what an evaluation may do to ghost and heap -/
structure Ext (G : Gh) (H : Hp) (G' : Gh) (H' : Hp) : Prop where
  old : ∀ a o, H a = some o → G'.I a = G.I a
  μ : ∃ l, G'.μ = G.μ ++ l ∧ ∀ a ∈ l, H a = none
  keep : ∀ a o, H a = some o → a ∉ G.μ → H' a = some o
  there : ∀ a o, H a = some o → ∃ o', H' a = some o'
theorem Ext.refl : Ext G H G H := ⟨fun _ _ _ => rfl, ⟨[], (List.append_nil _).symm, fun _ h => nomatch h⟩, fun _ _ h _ => h, fun _ o h => ⟨o, h⟩⟩
theorem Ext.trans (a : Ext G H G1 H1) (b : Ext G1 H1 G2 H2) : Ext G H G2 H2 := by
  obtain ⟨l, e1, f1⟩ := a.μ
  obtain ⟨l', e2, f2⟩ := b.μ
  refine ⟨fun x o h => ?_, ⟨l ++ l', by rw [e2, e1, List.append_assoc], fun x hx => ?_⟩, fun x o h n => ?_, fun x o h => ?_⟩
  · obtain ⟨o', h'⟩ := a.there x o h
    rw [b.old x o' h', a.old x o h]
  · rcases List.mem_append.mp hx with hx | hx
    · exact f1 x hx
    · cases q : H x with
      | none => rfl
      | some o =>
        obtain ⟨o', h'⟩ := a.there x o q
        rw [f2 x hx] at h'; cases h'
  · refine b.keep x o (a.keep x o h n) ?_
    rw [e1]
    intro hm
    rcases List.mem_append.mp hm with hm | hm
    · exact n hm
    · rw [f1 x hm] at h; cases h
  · obtain ⟨o', h'⟩ := a.there x o h
    exact b.there x o' h'
theorem Ext.grow {S : Store} (r : HRel M G H S) (e : Ext G H G' H') : Grow G G' := by
  obtain ⟨l, e1, _⟩ := e.μ
  refine ⟨fun a o h => ?_, fun n a h => ?_⟩
  · rw [e.old a o (r.sub a o h)]; exact h
  · rw [e1, List.getElem?_append_left (by
      obtain ⟨hl, _⟩ := List.getElem?_eq_some_iff.mp h
      exact hl)]
    exact h

/-- a list that is not frozen -/
def Loose (M : Mo) (G : Gh) (H : Hp) (v : PV) (x : V) (C : Addr → Prop) : Prop :=
  ∃ a xs vs, v = .lst xs ∧ x = .ref a ∧ H a = some (.lst vs) ∧ Reps M G xs vs ∧ G.I a = none ∧ a ∉ G.μ ∧ C a
/-- the result of an evaluation: frozen, or new and owned, or borrowed -/
def RRel (M : Mo) (G : Gh) (H0 H : Hp) (v : PV) (x : V) : Fl → Prop
  | .frz => Rep M G v x
  | .own => Loose M G H v x fun a => H0 a = none
  | .bor => Loose M G H v x fun _ => True
/-- what may be read -/
def Rdb (M : Mo) (G : Gh) (H : Hp) (v : PV) (x : V) : Prop := Rep M G v x ∨ Loose M G H v x fun _ => True
theorem RRel.rdb {H0 : Hp} {v : PV} {x : V} : ∀ {fl : Fl}, RRel M G H0 H v x fl → Rdb M G H v x
  | .frz, h => .inl h
  | .own, ⟨a, xs, vs, e1, e2, e3, e4, e5, e6, _⟩ => .inr ⟨a, xs, vs, e1, e2, e3, e4, e5, e6, trivial⟩
  | .bor, h => .inr h
theorem Ext.notμ {a : Addr} {o : HO} (e : Ext G H G' H') (h : H a = some o) (n : a ∉ G.μ) : a ∉ G'.μ := by
  obtain ⟨l, e1, f⟩ := e.μ
  rw [e1]
  intro hm
  rcases List.mem_append.mp hm with hm | hm
  · exact n hm
  · rw [f a hm] at h; cases h
theorem Loose.ext {S : Store} {v : PV} {x : V} {C C' : Addr → Prop} (r : HRel M G H S) (e : Ext G H G' H') (f : ∀ a, C a → C' a) (h : Loose M G H v x C) : Loose M G' H' v x C' := by
  obtain ⟨a, xs, vs, e1, e2, e3, e4, e5, e6, c⟩ := h
  exact ⟨a, xs, vs, e1, e2, e.keep a _ e3 e6, e4.grow (e.grow r), by rw [e.old a _ e3]; exact e5, e.notμ e3 e6, f a c⟩
theorem RRel.ext {S : Store} {H0 : Hp} {v : PV} {x : V} (r : HRel M G H S) (e : Ext G H G' H') : ∀ {fl : Fl}, RRel M G H0 H v x fl → RRel M G' H0 H' v x fl
  | .frz, h => Rep.grow (e.grow r) h
  | .own, h => Loose.ext r e (fun _ c => c) h
  | .bor, h => Loose.ext r e (fun _ c => c) h
theorem Rdb.ext {S : Store} {v : PV} {x : V} (r : HRel M G H S) (e : Ext G H G' H') : Rdb M G H v x → Rdb M G' H' v x
  | .inl h => .inl (Rep.grow (e.grow r) h)
  | .inr h => .inr (h.ext r e fun _ c => c)
theorem RRel.back {H0 H0' : Hp} {v : PV} {x : V} (f : ∀ a, H0' a = none → H0 a = none) : ∀ {fl : Fl}, RRel M G H0' H v x fl → RRel M G H0 H v x fl
  | .frz, h => h
  | .own, ⟨a, xs, vs, e1, e2, e3, e4, e5, e6, c⟩ => ⟨a, xs, vs, e1, e2, e3, e4, e5, e6, f a c⟩
  | .bor, h => h
theorem Ext.back (e : Ext G H G' H') : ∀ a, H' a = none → H a = none := fun a h => by
  cases q : H a with
  | none => rfl
  | some o =>
    obtain ⟨o', h'⟩ := e.there a o q
    rw [h] at h'; cases h'

/-- results one by one -/
inductive ARel (M : Mo) (G : Gh) (H0 H : Hp) : List Arg → List V → Prop
  | nil : ARel M G H0 H [] []
  | cons {v : PV} {fl : Fl} {x : V} {as : List Arg} {xs : List V} : RRel M G H0 H v x fl → ARel M G H0 H as xs → ARel M G H0 H ((v, fl) :: as) (x :: xs)
theorem ARel.ext {S : Store} {H0 : Hp} (r : HRel M G H S) (e : Ext G H G' H') : ∀ {as : List Arg} {xs : List V}, ARel M G H0 H as xs → ARel M G' H0 H' as xs
  | _, _, .nil => .nil
  | _, _, .cons h t => .cons (h.ext r e) (ARel.ext r e t)
theorem ARel.back {H0 H0' : Hp} (f : ∀ a, H0' a = none → H0 a = none) : ∀ {as : List Arg} {xs : List V}, ARel M G H0' H as xs → ARel M G H0 H as xs
  | _, _, .nil => .nil
  | _, _, .cons h t => .cons (h.back f) (ARel.back f t)
inductive RdbAll (M : Mo) (G : Gh) (H : Hp) : List PV → List V → Prop
  | nil : RdbAll M G H [] []
  | cons {v : PV} {x : V} {as : List PV} {xs : List V} : Rdb M G H v x → RdbAll M G H as xs → RdbAll M G H (v :: as) (x :: xs)
theorem ARel.rdb {H0 : Hp} : ∀ {as : List Arg} {xs : List V}, ARel M G H0 H as xs → RdbAll M G H (as.map (·.1)) xs
  | _, _, .nil => .nil
  | _, _, .cons h t => .cons h.rdb (ARel.rdb t)
theorem ARel.length {H0 : Hp} : ∀ {as : List Arg} {xs : List V}, ARel M G H0 H as xs → as.length = xs.length
  | _, _, .nil => rfl
  | _, _, .cons _ t => by rw [List.length_cons, List.length_cons, ARel.length t]
theorem ARel.get {H0 : Hp} : ∀ {as : List Arg} {xs : List V} {i : Nat} {a : Arg}, ARel M G H0 H as xs → as[i]? = some a → ∃ x, xs[i]? = some x ∧ RRel M G H0 H a.1 x a.2
  | _, _, _, _, .nil, e => by simp at e
  | _, _, 0, _, .cons h _, e => by simp at e; subst e; exact ⟨_, rfl, h⟩
  | _, _, i + 1, a, .cons _ t, e => by
    obtain ⟨x, h1, h2⟩ := ARel.get (i := i) (a := a) t (by simpa using e)
    exact ⟨x, by simpa using h1, h2⟩

/-! ### freezing -/
/-- the ghost with one list more -/
def Gh.fz (G : Gh) (a : Addr) (o : HO) : Gh := ⟨upd G.I a o, G.μ⟩
theorem grow_fz {a : Addr} {o : HO} (h : G.I a = none) : Grow G (G.fz a o) :=
  ⟨fun b u e => by
    show upd G.I a o b = some u
    rw [upd_ne (show b ≠ a from fun q => by rw [q, h] at e; cases e)]
    exact e, fun _ _ e => e⟩
theorem hrel_fz {S : Store} {a : Addr} {o : HO} (r : HRel M G H S) (h : H a = some o) (hi : G.I a = none) (hm : a ∉ G.μ) : HRel M (G.fz a o) H S := by
  refine ⟨fun b u e => ?_, r.len, r.nd, fun b hb => ?_, fun n so b h1 h2 => ?_⟩
  · by_cases q : b = a
    · subst q
      have e' : some o = some u := upd_same.symm.trans e
      rw [h, e']
    · exact r.sub b u ((upd_ne q).symm.trans e)
  · show upd G.I a o b = none
    rw [upd_ne (show b ≠ a from fun q => hm (q ▸ hb))]
    exact r.off b hb
  · have z := r.st n so b h1 h2
    cases so with
    | lst xs =>
      obtain ⟨vs, q1, q2⟩ := z
      exact ⟨vs, q1, q2.grow (grow_fz hi)⟩
theorem ext_fz {H0 : Hp} {a : Addr} {o : HO} {G0 : Gh} (e : Ext G0 H0 G H) (h : H0 a = none) : Ext G0 H0 (G.fz a o) H :=
  ⟨fun b u q => by
    show upd G.I a o b = _
    rw [upd_ne (show b ≠ a from fun z => by rw [z, h] at q; cases q)]
    exact e.old b u q, e.μ, e.keep, e.there⟩
/-- a result as a frozen value -/
theorem RRel.freeze {S : Store} {H0 : Hp} {G0 : Gh} {v : PV} {x : V} {fl : Fl} (h : RRel M G H0 H v x fl) (hb : fl ≠ .bor) (r : HRel M G H S) (e : Ext G0 H0 G H) :
    ∃ G', Ext G0 H0 G' H ∧ HRel M G' H S ∧ Rep M G' v x ∧ Grow G G' ∧ (∀ a, (∃ o, H0 a = some o) → G'.I a = G.I a) ∧ G'.μ = G.μ := by
  cases fl with
  | frz => exact ⟨G, e, r, h, .refl, fun _ _ => rfl, rfl⟩
  | bor => exact absurd rfl hb
  | own =>
    obtain ⟨a, xs, vs, rfl, rfl, e3, e4, e5, e6, c⟩ := h
    refine ⟨G.fz a (.lst vs), ext_fz e c, hrel_fz r e3 e5 e6, .lst upd_same (e4.grow (grow_fz e5)), grow_fz e5, fun b ⟨o, q⟩ => ?_, rfl⟩
    exact upd_ne (fun z => by rw [z, c] at q; cases q)

/-! ### what is wanted behind -/
/-- an exception of the class c with these fields -/
structure ExcAt (M : Mo) (ex : Nat → Option (Addr × List Str)) (G : Gh) (H : Hp) (c : Nat) (fs : List PV) (cls : Value) (d : Option Addr) : Prop where
  ex : ∃ C names vs, ex c = some (C, names) ∧ cls = .ref C ∧ Reps M G fs vs ∧ names.length = vs.length ∧ ((names = [] ∧ d = none) ∨ ∃ a, d = some a ∧ H a = some (.xd (names.zip vs)))
abbrev ExT := Nat → Option (Addr × List Str)
def Post {α β : Type} (M : Mo) (ex : ExT) (W : XK) (G : Gh) (H : Hp) (r : R α) (rel : Gh → Hp → Hp → α → β → Prop) (Q : β → Hp → Prop) : Prop :=
  match r with
  | .ok a S => ∀ G' H' b, Ext G H G' H' → HRel M G' H' S → rel G' H H' a b → Q b H'
  | .exc c fs S => ∀ G' H' cls d, Ext G H G' H' → HRel M G' H' S → ExcAt M ex G' H' c fs cls d → W cls d H'
  | .bad => False
/-- a relation that looks back -/
def Bk {α β : Type} (rel : Gh → Hp → Hp → α → β → Prop) : Prop := ∀ G H0 H0' H a b, (∀ x, H0' x = none → H0 x = none) → rel G H0' H a b → rel G H0 H a b
abbrev rR (M : Mo) : Gh → Hp → Hp → Arg → V → Prop := fun G H0 H a x => RRel M G H0 H a.1 x a.2
abbrev rA (M : Mo) : Gh → Hp → Hp → List Arg → List V → Prop := fun G H0 H a x => ARel M G H0 H a x
abbrev rB : Gh → Hp → Hp → Bool → Bool → Prop := fun _ _ _ a b => a = b
theorem bk_R : Bk (rR M) := fun _ _ _ _ _ _ f h => h.back f
theorem bk_A : Bk (rA M) := fun _ _ _ _ _ _ f h => h.back f
theorem bk_B : Bk rB := fun _ _ _ _ _ _ _ h => h
theorem Post.rebase {α β : Type} {ex : ExT} {W : XK} {r : R α} {rel : Gh → Hp → Hp → α → β → Prop} {Q : β → Hp → Prop} (bk : Bk rel) (h : Post M ex W G H r rel Q) (e : Ext G H G1 H1) : Post M ex W G1 H1 r rel Q := by
  cases r with
  | ok a S => exact fun G' H' b e' r' q => h G' H' b (e.trans e') r' (bk _ _ _ _ _ _ e.back q)
  | exc c fs S => exact fun G' H' cls d e' r' q => h G' H' cls d (e.trans e') r' q
  | bad => exact h
theorem Post.bind {α α' β β' : Type} {ex : ExT} {W : XK} {r : R α} {f : α → Store → R α'} {rel : Gh → Hp → Hp → α → β → Prop} {rel' : Gh → Hp → Hp → α' → β' → Prop} {Q : β' → Hp → Prop} {P : β → Hp → Prop}
    (h : Post M ex W G H (r.bind f) rel' Q) (e : Ext G H G1 H1) (k : ∀ a S G2 H2 b, r = .ok a S → Ext G1 H1 G2 H2 → HRel M G2 H2 S → rel G2 H1 H2 a b → Post M ex W G H (f a S) rel' Q → P b H2) : Post M ex W G1 H1 r rel P := by
  cases r with
  | ok a S => exact fun G' H' b e' r' q => k a S G' H' b rfl e' r' q h
  | exc c fs S => exact fun G' H' cls d e' r' q => h G' H' cls d (e.trans e') r' q
  | bad => exact h
/-- more is wanted -/
theorem Post.mono {α β : Type} {ex : ExT} {W : XK} {r : R α} {rel : Gh → Hp → Hp → α → β → Prop} {Q Q' : β → Hp → Prop} (h : Post M ex W G H r rel Q) (k : ∀ b H', Q b H' → Q' b H') : Post M ex W G H r rel Q' := by
  cases r with
  | ok a S => exact fun G' H' b e' r' q => k _ _ (h G' H' b e' r' q)
  | exc c fs S => exact h
  | bad => exact h
theorem Post.now {α β : Type} {ex : ExT} {W : XK} {a : α} {S : Store} {b : β} {rel : Gh → Hp → Hp → α → β → Prop} {Q : β → Hp → Prop} (h : Post M ex W G H (.ok a S) rel Q) (r : HRel M G H S) (q : rel G H H a b) : Q b H := h G H b .refl r q
theorem Post.fin {α β : Type} {ex : ExT} {W : XK} {a : α} {S : Store} {b : β} {rel : Gh → Hp → Hp → α → β → Prop} {Q : β → Hp → Prop} (h : Post M ex W G H (.ok a S) rel Q) (e : Ext G H G1 H1) (r : HRel M G1 H1 S) (q : rel G1 H H1 a b) : Q b H1 := h G1 H1 b e r q

/-! ### the slots -/
/-- the slots by their values; H0: the heap at the def's entry -/
structure SRel (M : Mo) (G : Gh) (H0 H : Hp) (s : Env) (σ : St) : Prop where
  len : s.length = σ.length
  val : ∀ (i : Nat) (v : PV) (fl : Fl), s[i]? = some (some (v, fl)) → ∃ x, σ[i]? = some (some x) ∧ (match fl with
    | .frz => Rep M G v x
    | .own => Loose M G H v x fun a => H0 a = none
    | .bor => Loose M G H v x fun a => H0 a ≠ none)
  apart : ∀ (i j : Nat) (v u : PV) (a : Addr), s[i]? = some (some (v, .own)) → s[j]? = some (some (u, .own)) → σ[i]? = some (some (.ref a)) → σ[j]? = some (some (.ref a)) → i = j
theorem SRel.ext {S : Store} {H0 : Hp} {s : Env} {σ : St} (h : SRel M G H0 H s σ) (r : HRel M G H S) (e : Ext G H G' H') : SRel M G' H0 H' s σ := by
  refine ⟨h.len, fun i v fl q => ?_, h.apart⟩
  obtain ⟨x, h1, h2⟩ := h.val i v fl q
  refine ⟨x, h1, ?_⟩
  cases fl with
  | frz => exact Rep.grow (e.grow r) h2
  | own => exact Loose.ext r e (fun _ c => c) h2
  | bor => exact Loose.ext r e (fun _ c => c) h2
end
end Sq

/-! expressions -/
namespace Sq
open PySem PySem.Spec PyProof.Rows L2

theorem PE.imp {X : Cx} {e : Expr} {t t' : TE} (h : PE X e t) (k : ∀ σ H Q, t' σ H Q → t σ H Q) : PE X e t' := ⟨fun pins s σ H Q I q => h.run pins s σ H Q I (k σ H Q q)⟩
theorem PT.imp {X : Cx} {e : Expr} {t t' : TT} (h : PT X e t) (k : ∀ σ H Q, t' σ H Q → t σ H Q) : PT X e t' := ⟨fun pins s σ H Q I q => h.run pins s σ H Q I (k σ H Q q)⟩
theorem PA.imp {X : Cx} {e : List Expr} {t t' : TA} (h : PA X e t) (k : ∀ σ H Q, t' σ H Q → t σ H Q) : PA X e t' := ⟨fun pos pins s σ H Q I q => h.run pos pins s σ H Q I (k σ H Q q)⟩

section
variable {M : Mo} {G G' G1 G2 : Gh} {H H' H1 H2 H0 : Hp} {S : Store}

/-! ### reading values -/
theorem Rdb.int {i : Int} {x : V} (h : Rdb M G H (.int i) x) : x = .int i := by
  rcases h with h | ⟨_, _, _, e, _⟩
  · cases h; rfl
  · cases e
theorem Rdb.bl {i : Bool} {x : V} (h : Rdb M G H (.bl i) x) : x = .bl i := by
  rcases h with h | ⟨_, _, _, e, _⟩
  · cases h; rfl
  · cases e
theorem Rdb.non {x : V} (h : Rdb M G H .non x) : x = .non := by
  rcases h with h | ⟨_, _, _, e, _⟩
  · cases h; rfl
  · cases e
theorem Rdb.str {i : Str} {x : V} (h : Rdb M G H (.str i) x) : x = .str i := by
  rcases h with h | ⟨_, _, _, e, _⟩
  · cases h; rfl
  · cases e
theorem Rdb.tup {xs : List PV} {x : V} (r : HRel M G H S) (h : Rdb M G H (.tup xs) x) : ∃ a vs, x = .ref a ∧ SqT M.K H a vs ∧ Reps M G xs vs := by
  rcases h with h | ⟨_, _, _, e, _⟩
  · cases h with
    | tup h1 h2 => exact ⟨_, _, rfl, sqT_mono r.sub h1, h2⟩
  · cases e
theorem Rdb.lst {xs : List PV} {x : V} (r : HRel M G H S) (h : Rdb M G H (.lst xs) x) : ∃ a vs, x = .ref a ∧ H a = some (.lst vs) ∧ Reps M G xs vs := by
  rcases h with h | ⟨a, ys, vs, e, e2, e3, e4, _⟩
  · cases h with
    | lst h1 h2 => exact ⟨_, _, rfl, r.sub _ _ h1, h2⟩
  · cases e
    exact ⟨a, vs, e2, e3, e4⟩
theorem Rdb.rol {xs : List PV} {x : V} (r : HRel M G H S) (h : Rdb M G H (.rol xs) x) : ∃ a vs, x = .ref a ∧ SqL M.K H a vs ∧ Reps M G xs vs := by
  rcases h with h | ⟨_, _, _, e, _⟩
  · cases h with
    | rol h1 h2 => exact ⟨_, _, rfl, sqL_mono r.sub h1, h2⟩
  · cases e
theorem Rdb.obj {n : Nat} {x : V} (h : Rdb M G H (.obj n) x) : ∃ a, x = .ref a ∧ G.μ[n]? = some a := by
  rcases h with h | ⟨_, _, _, e, _⟩
  · cases h with
    | obj h => exact ⟨_, rfl, h⟩
  · cases e
theorem Rdb.tupRep {xs : List PV} {x : V} (h : Rdb M G H (.tup xs) x) : Rep M G (.tup xs) x := by
  rcases h with h | ⟨_, _, _, e, _⟩
  · exact h
  · cases e
theorem Reps.nil_iff {xs : List PV} {vs : List V} (h : Reps M G xs vs) : vs = [] → xs = [] := fun e => by subst e; cases h; rfl
theorem Rep.isRdb {v : PV} {x : V} (h : Rep M G v x) : Rdb M G H v x := .inl h

mutual
theorem Rep.dp (r : HRel M G H S) : ∀ (v : PV) (x : V) (d : PyData), Rep M G v x → v.toD = some d → Dp M.K H x d
  | .non, _, _, h, e => by cases h; cases e; exact .non
  | .bl _, _, _, h, e => by cases h; cases e; exact .bl _
  | .int _, _, _, h, e => by cases h; cases e; exact .int _
  | .str _, _, _, h, e => by cases h; cases e; exact .str _
  | .tup xs, _, _, h, e => by
    cases h with
    | tup h1 h2 =>
      unfold PV.toD at e
      cases q : PV.toDs xs with
      | none => rw [q] at e; cases e
      | some ds =>
        rw [q] at e
        cases e
        exact .tup (sqT_mono r.sub h1) (Rep.dps r xs _ ds h2 q)
  | .lst xs, _, _, h, e => by
    cases h with
    | lst h1 h2 =>
      unfold PV.toD at e
      cases q : PV.toDs xs with
      | none => rw [q] at e; cases e
      | some ds =>
        rw [q] at e
        cases e
        exact .lst (.inl (.inl (r.sub _ _ h1))) (Rep.dps r xs _ ds h2 q)
  | .dic _, _, _, h, e => by cases e
  | .rol _, _, _, h, e => by cases e
  | .fn _, _, _, h, e => by cases e
  | .obj _, _, _, h, e => by cases e
theorem Rep.dps (r : HRel M G H S) : ∀ (xs : List PV) (vs : List V) (ds : List PyData), Reps M G xs vs → PV.toDs xs = some ds → DpAll M.K H vs ds
  | [], _, _, h, e => by cases h; cases e; exact .nil
  | x :: xs, _, _, h, e => by
    cases h with
    | cons h1 h2 =>
      unfold PV.toDs at e
      cases q1 : x.toD with
      | none => rw [q1] at e; cases e
      | some d =>
        cases q2 : PV.toDs xs with
        | none => rw [q1, q2] at e; cases e
        | some ds =>
          rw [q1, q2] at e
          cases e
          exact .cons (Rep.dp r x _ d h1 q1) (Rep.dps r xs _ ds h2 q2)
end
theorem Rdb.dp (r : HRel M G H S) {v : PV} {x : V} {d : PyData} (h : Rdb M G H v x) (e : v.toD = some d) : Dp M.K H x d := by
  rcases h with h | ⟨a, xs, vs, rfl, rfl, e3, e4, _⟩
  · exact Rep.dp r v x d h e
  · unfold PV.toD at e
    cases q : PV.toDs xs with
    | none => rw [q] at e; cases e
    | some ds =>
      rw [q] at e
      cases e
      exact .lst (.inl (.inl e3)) (Rep.dps r xs _ ds e4 q)
theorem Rdb.flat {v : PV} {x : V} (f : flat v = true) (h : Rdb M G H v x) : flatV x = true ∧ ∀ {u : PV} {y : V}, flat u = true → Rdb M G H u y → eqV x y = eqF v u := by
  cases v with
  | non =>
    cases h.non
    refine ⟨rfl, fun {u y} fu hu => ?_⟩
    cases u with
    | non => cases hu.non; rfl
    | bl _ => cases hu.bl; rfl
    | int _ => cases hu.int; rfl
    | str _ => cases hu.str; rfl
    | _ => cases fu
  | bl b =>
    cases h.bl
    refine ⟨rfl, fun {u y} fu hu => ?_⟩
    cases u with
    | non => cases hu.non; rfl
    | bl _ => cases hu.bl; rfl
    | int _ => cases hu.int; rfl
    | str _ => cases hu.str; rfl
    | _ => cases fu
  | int i =>
    cases h.int
    refine ⟨rfl, fun {u y} fu hu => ?_⟩
    cases u with
    | non => cases hu.non; rfl
    | bl _ => cases hu.bl; rfl
    | int _ => cases hu.int; rfl
    | str _ => cases hu.str; rfl
    | _ => cases fu
  | str i =>
    cases h.str
    refine ⟨rfl, fun {u y} fu hu => ?_⟩
    cases u with
    | non => cases hu.non; rfl
    | bl _ => cases hu.bl; rfl
    | int _ => cases hu.int; rfl
    | str _ => cases hu.str; rfl
    | _ => cases fu
  | _ => cases f
theorem flat_all : ∀ {ys : List PV} {vs : List V}, Reps M G ys vs → ys.all flat = true → vs.all flatV = true
  | _, _, .nil, _ => rfl
  | _, _, .cons (x := y) h t, f => by
    rw [List.all_cons, Bool.and_eq_true] at f
    rw [List.all_cons, (Rdb.flat (H := fun _ => none) f.1 (.inl h)).1, flat_all t f.2]; rfl
theorem any_flat {u : PV} {x : V} (fu : flat u = true) (hu : Rdb M G H u x) : ∀ {ys : List PV} {vs : List V}, Reps M G ys vs → ys.all flat = true → inV x vs = ys.any fun y => eqF y u
  | _, _, .nil, _ => rfl
  | _, _, .cons (x := y) h t, f => by
    rw [List.all_cons, Bool.and_eq_true] at f
    have ih := any_flat fu hu t f.2
    unfold inV at ih ⊢
    rw [List.any_cons, List.any_cons, ih, (Rdb.flat (H := H) f.1 (.inl h)).2 fu hu]

/-! ### new objects -/
theorem HRel.fresh (r : HRel M G H S) {p : Addr} (h : H p = none) : G.I p = none ∧ p ∉ G.μ := by
  refine ⟨?_, fun hm => ?_⟩
  · cases q : G.I p with
    | none => rfl
    | some o => rw [r.sub p o q] at h; cases h
  · obtain ⟨n, hn, e⟩ := List.getElem_of_mem hm
    have e1 : G.μ[n]? = some p := by rw [List.getElem?_eq_getElem hn, e]
    have hl : n < S.length := by rw [← r.len]; exact hn
    have z := r.st n S[n] p (List.getElem?_eq_getElem hl) e1
    cases q : S[n] with
    | lst xs =>
      rw [q] at z
      obtain ⟨vs, z, _⟩ := z
      rw [h] at z; cases z
theorem ne_fresh {a p : Addr} {o : HO} (h : H p = none) (e : H a = some o) : a ≠ p := fun z => by rw [z, h] at e; cases e
theorem hrel_new {p : Addr} {o : HO} (r : HRel M G H S) (h : H p = none) : HRel M G (upd H p o) S := by
  refine ⟨fun a u e => ?_, r.len, r.nd, r.off, fun n so a h1 h2 => ?_⟩
  · have z := r.sub a u e
    rw [upd_ne (ne_fresh h z)]
    exact z
  · have z := r.st n so a h1 h2
    cases so with
    | lst xs =>
      obtain ⟨vs, q1, q2⟩ := z
      exact ⟨vs, by rw [upd_ne (ne_fresh h q1)]; exact q1, q2⟩
theorem ext_new {G0 : Gh} {p : Addr} {o : HO} (e : Ext G0 H0 G H) (h : H p = none) : Ext G0 H0 G (upd H p o) := by
  refine ⟨e.old, e.μ, fun a u q n => ?_, fun a u q => ?_⟩
  · have z := e.keep a u q n
    rw [upd_ne (ne_fresh h z)]
    exact z
  · obtain ⟨u', z⟩ := e.there a u q
    exact ⟨u', by rw [upd_ne (ne_fresh h z)]; exact z⟩
/-- a new tuple, frozen -/
theorem rep_tup {p : Addr} {xs : List PV} {vs : List V} {G0 : Gh} (r : HRel M G H S) (e : Ext G0 H0 G H) (h : H p = none) (q : Reps M G xs vs) :
    ∃ G', Ext G0 H0 G' (upd H p (.tup vs)) ∧ HRel M G' (upd H p (.tup vs)) S ∧ Rep M G' (.tup xs) (.ref p) ∧ Grow G G' := by
  obtain ⟨h1, h2⟩ := r.fresh h
  refine ⟨G.fz p (.tup vs), ext_fz (ext_new e h) (e.back p h), hrel_fz (hrel_new r h) upd_same h1 h2, .tup (.inl (.inl upd_same)) (q.grow (grow_fz h1)), grow_fz h1⟩
/-- a new list, owned -/
theorem own_lst {p : Addr} {xs : List PV} {vs : List V} (r : HRel M G H S) (b : ∀ a, H a = none → H0 a = none) (h : H p = none) (q : Reps M G xs vs) : RRel M G H0 (upd H p (.lst vs)) (.lst xs) (.ref p) .own := by
  obtain ⟨h1, h2⟩ := r.fresh h
  exact ⟨p, xs, vs, rfl, rfl, upd_same, q, h1, h2, b p h⟩

theorem leaks_cons {v : PV} {fl : Fl} {as : List Arg} {vs : List PV} (e : leaks ((v, fl) :: as) = some vs) : fl ≠ .bor ∧ ∃ ws, leaks as = some ws ∧ vs = v :: ws := by
  have hb : fl ≠ .bor := fun q => by subst q; unfold leaks at e; cases e
  refine ⟨hb, ?_⟩
  unfold leaks at e
  cases q : leaks as with
  | none => rw [q] at e; cases fl <;> cases e
  | some ws =>
    rw [q] at e
    cases fl with
    | bor => exact absurd rfl hb
    | frz => cases e; exact ⟨ws, rfl, rfl⟩
    | own => cases e; exact ⟨ws, rfl, rfl⟩
/-- results that may be frozen meanwhile -/
inductive ARelW (M : Mo) (G : Gh) (H0 H : Hp) : List Arg → List V → Prop
  | nil : ARelW M G H0 H [] []
  | rep {v : PV} {fl : Fl} {x : V} {as : List Arg} {xs : List V} : Rep M G v x → ARelW M G H0 H as xs → ARelW M G H0 H ((v, fl) :: as) (x :: xs)
  | own {v : PV} {fl : Fl} {x : V} {as : List Arg} {xs : List V} : Loose M G H v x (fun a => H0 a = none) → ARelW M G H0 H as xs → ARelW M G H0 H ((v, fl) :: as) (x :: xs)
theorem ARel.weak : ∀ {as : List Arg} {xs : List V} {vs : List PV}, ARel M G H0 H as xs → leaks as = some vs → ARelW M G H0 H as xs
  | _, _, _, .nil, _ => .nil
  | _, _, _, .cons (fl := fl) h t, e => by
    obtain ⟨hb, ws, e1, rfl⟩ := leaks_cons e
    cases fl with
    | frz => exact .rep h (ARel.weak t e1)
    | own => exact .own h (ARel.weak t e1)
    | bor => exact absurd rfl hb
theorem ARelW.fz1 {a : Addr} {us : List V} (e3 : H a = some (.lst us)) (e5 : G.I a = none) : ∀ {bs : List Arg} {ws : List V}, ARelW M G H0 H bs ws → ARelW M (G.fz a (.lst us)) H0 H bs ws
  | _, _, .nil => .nil
  | _, _, .rep h t => .rep (Rep.grow (grow_fz e5) h) (ARelW.fz1 e3 e5 t)
  | _, _, .own ⟨b, z1, z2, q1, q2, f3, f4, f5, f6, c'⟩ t => by
    subst q1 q2
    by_cases q : b = a
    · subst q
      rw [e3] at f3
      cases f3
      exact .rep (.lst upd_same (f4.grow (grow_fz e5))) (ARelW.fz1 e3 e5 t)
    · exact .own ⟨b, z1, z2, rfl, rfl, f3, f4.grow (grow_fz e5), (upd_ne q).trans f5, f6, c'⟩ (ARelW.fz1 e3 e5 t)
theorem ARelW.freeze {G0 : Gh} : ∀ {as : List Arg} {xs : List V} {vs : List PV} {G : Gh}, ARelW M G H0 H as xs → leaks as = some vs → HRel M G H S → Ext G0 H0 G H →
    ∃ G', Ext G0 H0 G' H ∧ HRel M G' H S ∧ Reps M G' vs xs ∧ Grow G G'
  | _, _, _, G, .nil, e, r, x => by
    cases e
    exact ⟨G, x, r, .nil, .refl⟩
  | _, _, vs, G, .rep h t, e, r, x => by
    obtain ⟨hb, ws, e1, rfl⟩ := leaks_cons e
    obtain ⟨G', x', r', h', g'⟩ := ARelW.freeze t e1 r x
    exact ⟨G', x', r', .cons (Rep.grow g' h) h', g'⟩
  | _, _, vs, G, .own ⟨a, zs, us, q1, q2, e3, e4, e5, e6, c⟩ t, e, r, x => by
    subst q1 q2
    obtain ⟨hb, ws, e1, rfl⟩ := leaks_cons e
    obtain ⟨G', x', r', h', g'⟩ := ARelW.freeze (t.fz1 e3 e5) e1 (hrel_fz r e3 e5 e6) (ext_fz x c)
    exact ⟨G', x', r', .cons (Rep.grow g' (.lst upd_same (e4.grow (grow_fz e5)))) h', (grow_fz e5).trans g'⟩
/-- all frozen -/
theorem ARel.freeze {G0 : Gh} {as : List Arg} {xs : List V} {vs : List PV} {G : Gh} (h : ARel M G H0 H as xs) (e : leaks as = some vs) (r : HRel M G H S) (x : Ext G0 H0 G H) :
    ∃ G', Ext G0 H0 G' H ∧ HRel M G' H S ∧ Reps M G' vs xs ∧ Grow G G' := ARelW.freeze (h.weak e) e r x
end

/-! ### what is wanted of a piece of the language -/
section
variable (M : Mo) (ex : ExT) (W : XK) (cal : Calls)
def tE (e : E) : TE := fun σ H Q => ∃ G H0 s S, SRel M G H0 H s σ ∧ HRel M G H S ∧ Post M ex W G H (evalE cal e s S) (rR M) Q
def tEs (es : List E) : TA := fun σ H Q => ∃ G H0 s S, SRel M G H0 H s σ ∧ HRel M G H S ∧ Post M ex W G H (evalEs cal es s S) (rA M) Q
def tT (e : E) : TT := fun σ H Q => ∃ G H0 s S, SRel M G H0 H s σ ∧ HRel M G H S ∧ Post M ex W G H (testR (evalE cal e s S)) rB Q
end
section
variable {M : Mo} {ex : ExT} {W : XK} {cal : Calls} {X : Cx} {pos : Pos}
theorem snd_var {i : Nat} {x : Str} (hN : X.N[i]? = some x) (hv : Vis X.env.scope x) (hd : (x == ("__debug__" : Str)) = false) (hcd : (x == ("__classdict__" : Str)) = false) : PE X (.Name x pos) (tE M ex W cal (.var i)) := by
  refine PE.imp (pe_var hN hv hd hcd) fun σ H Q ⟨G, H0, s, S, hs, hr, hp⟩ => ?_
  unfold evalE at hp
  cases q : s[i]? with
  | none => rw [q] at hp; exact hp.elim
  | some sl =>
    rw [q] at hp
    match sl, q, hp with
    | some (v, .frz), q, hp =>
      obtain ⟨y, h1, h2⟩ := hs.val i v .frz q
      exact ⟨y, h1, hp.now hr h2⟩
    | some (v, .own), q, hp => exact hp.elim
    | some (v, .bor), q, hp => exact hp.elim
    | none, q, hp => exact hp.elim
theorem snd_bor {i : Nat} {x : Str} (hN : X.N[i]? = some x) (hv : Vis X.env.scope x) (hd : (x == ("__debug__" : Str)) = false) (hcd : (x == ("__classdict__" : Str)) = false) : PE X (.Name x pos) (tE M ex W cal (.bor i)) := by
  refine PE.imp (pe_var hN hv hd hcd) fun σ H Q ⟨G, H0, s, S, hs, hr, hp⟩ => ?_
  unfold evalE at hp
  cases q : s[i]? with
  | none => rw [q] at hp; exact hp.elim
  | some sl =>
    rw [q] at hp
    match sl, q, hp with
    | some (v, .frz), q, hp =>
      obtain ⟨y, h1, h2⟩ := hs.val i v .frz q
      exact ⟨y, h1, hp.now hr h2⟩
    | some (v, .own), q, hp =>
      obtain ⟨y, h1, a, xs, vs, e1, e2, e3, e4, e5, e6, _⟩ := hs.val i v .own q
      exact ⟨y, h1, hp.now hr ⟨a, xs, vs, e1, e2, e3, e4, e5, e6, trivial⟩⟩
    | some (v, .bor), q, hp =>
      obtain ⟨y, h1, a, xs, vs, e1, e2, e3, e4, e5, e6, _⟩ := hs.val i v .bor q
      exact ⟨y, h1, hp.now hr ⟨a, xs, vs, e1, e2, e3, e4, e5, e6, trivial⟩⟩
    | none, q, hp => exact hp.elim
/-- a constant, written or of the module -/
theorem snd_cst {e : Expr} {v : PV} {x : V} (h : PE X e (tC x)) (r : ∀ G, Rep M G v x) : PE X e (tE M ex W cal (.cst v)) := by
  refine PE.imp h fun σ H Q ⟨G, H0, s, S, hs, hr, hp⟩ => ?_
  unfold evalE at hp
  exact hp.now hr (r G)
theorem snd_nil : PA X [] (tEs M ex W cal []) := by
  refine PA.imp pa_nil fun σ H Q ⟨G, H0, s, S, hs, hr, hp⟩ => ?_
  unfold evalEs at hp
  exact hp.now hr .nil
theorem snd_cons {e : Expr} {es : List Expr} {a : E} {as : List E} (h : PE X e (tE M ex W cal a)) (t : PA X es (tEs M ex W cal as)) (hs : starEach (e :: es) X.env = (false, eval e X.env) :: starEach es X.env) :
    PA X (e :: es) (tEs M ex W cal (a :: as)) := by
  refine PA.imp (pa_cons h t hs) fun σ H Q ⟨G, H0, s, S, hs, hr, hp⟩ => ?_
  unfold evalEs at hp
  refine ⟨G, H0, s, S, hs, hr, hp.bind .refl fun x S1 G1 H1 y _ e1 r1 q1 hp => ?_⟩
  refine ⟨G1, H0, s, S1, hs.ext hr e1, r1, hp.bind e1 fun xs S2 G2 H2 ys _ e2 r2 q2 hp => ?_⟩
  exact hp.fin (e1.trans e2) r2 (.cons (q1.ext r1 e2) (q2.back e1.back))
theorem evalEs_len : ∀ {es : List E} {s : Env} {S S' : Store} {as : List Arg}, evalEs cal es s S = .ok as S' → as.length = es.length
  | [], s, S, S', as, h => by
    unfold evalEs at h
    cases h; rfl
  | e :: es, s, S, S', as, h => by
    unfold evalEs at h
    cases q : evalE cal e s S with
    | ok x S1 =>
      rw [q, R.bind_ok] at h
      cases q2 : evalEs cal es s S1 with
      | ok xs S2 =>
        rw [q2, R.bind_ok] at h
        cases h
        rw [List.length_cons, List.length_cons, evalEs_len q2]
      | exc c fs S2 => rw [q2] at h; cases h
      | bad => rw [q2] at h; cases h
    | exc c fs S2 => rw [q] at h; cases h
    | bad => rw [q] at h; cases h
theorem line_eq : sizeLine = LINE := by decide
theorem snd_tup {es : List Expr} {as : List E} {x1 : Nat} (h : PA X es (tEs M ex W cal as)) (hl : as.length ≤ LINE) : PE X (.Tuple es x1 pos) (tE M ex W cal (.tup as)) := by
  refine PE.imp (pe_tup h) fun σ H Q ⟨G, H0, s, S, hs, hr, hp⟩ => ?_
  unfold evalE at hp
  refine ⟨G, H0, s, S, hs, hr, hp.bind .refl fun bs S1 G1 H1 xs q0 e1 r1 q1 hp => ⟨?_, fun p np => ?_⟩⟩
  · rw [← q1.length, evalEs_len q0, line_eq]; exact hl
  · cases q : leaks bs with
    | none => rw [q] at hp; exact hp.elim
    | some vs =>
      rw [q] at hp
      obtain ⟨G2, e2, r2, q2, _⟩ := q1.freeze q r1 e1
      obtain ⟨G3, e3, r3, q3, _⟩ := rep_tup r2 e2 np q2
      exact hp.fin e3 r3 q3
theorem snd_lst {es : List Expr} {as : List E} (h : PA X es (tEs M ex W cal as)) (hl : as.length ≤ LINE) : PE X (.List es pos) (tE M ex W cal (.lst as)) := by
  refine PE.imp (pe_lst h) fun σ H Q ⟨G, H0, s, S, hs, hr, hp⟩ => ?_
  unfold evalE at hp
  refine ⟨G, H0, s, S, hs, hr, hp.bind .refl fun bs S1 G1 H1 xs q0 e1 r1 q1 hp => ⟨?_, fun p np => ?_⟩⟩
  · rw [← q1.length, evalEs_len q0, line_eq]; exact hl
  · cases q : leaks bs with
    | none => rw [q] at hp; exact hp.elim
    | some vs =>
      rw [q] at hp
      obtain ⟨G2, e2, r2, q2, _⟩ := q1.freeze q r1 e1
      exact hp.fin (ext_new e2 np) (hrel_new r2 np) (own_lst r2 e1.back np q2)
/-- a list in the store -/
theorem new_obj {G0 : Gh} {G : Gh} {H H0 : Hp} {S : Store} {p : Addr} {vs : List V} {xs : List PV} (r : HRel M G H S) (e : Ext G0 H0 G H) (np : H p = none) (q : Reps M G xs vs) :
    ∃ G', Ext G0 H0 G' (upd H p (.lst vs)) ∧ HRel M G' (upd H p (.lst vs)) (S ++ [.lst xs]) ∧ Rep M G' (.obj S.length) (.ref p) := by
  obtain ⟨f1, f2⟩ := r.fresh np
  have g : Grow G ⟨G.I, G.μ ++ [p]⟩ := ⟨fun _ _ h => h, fun n a h => by
    rw [List.getElem?_append_left (by obtain ⟨hl, _⟩ := List.getElem?_eq_some_iff.mp h; exact hl)]; exact h⟩
  obtain ⟨l, e1, e2⟩ := e.μ
  refine ⟨⟨G.I, G.μ ++ [p]⟩, ⟨e.old, ⟨l ++ [p], by show G.μ ++ [p] = _; rw [e1, List.append_assoc], fun a ha => ?_⟩, (ext_new e np).keep, (ext_new e np).there⟩, ⟨(hrel_new r np).sub, ?_, ?_, fun a ha => ?_, fun n o a h1 h2 => ?_⟩, .obj ?_⟩
  · rcases List.mem_append.mp ha with ha | ha
    · exact e2 a ha
    · rw [List.mem_singleton] at ha
      rw [ha]; exact e.back p np
  · show (G.μ ++ [p]).length = _
    rw [List.length_append, List.length_append, r.len]; rfl
  · show (G.μ ++ [p]).Nodup
    rw [List.nodup_append]
    exact ⟨r.nd, by simp, fun a ha b hb => by
      rw [List.mem_singleton] at hb
      rw [hb]; exact fun z => f2 (z ▸ ha)⟩
  · rcases List.mem_append.mp ha with ha | ha
    · exact r.off a ha
    · rw [List.mem_singleton] at ha
      rw [ha]; exact f1
  · have h2' : (G.μ ++ [p])[n]? = some a := h2
    by_cases hn : n < S.length
    · rw [List.getElem?_append_left hn] at h1
      rw [List.getElem?_append_left (by rw [r.len]; exact hn)] at h2'
      have z := r.st n o a h1 h2'
      cases o with
      | lst ys =>
        obtain ⟨us, z1, z2⟩ := z
        exact ⟨us, by rw [upd_ne (ne_fresh np z1)]; exact z1, z2.grow g⟩
    · rw [List.getElem?_append_right (by omega)] at h1
      rw [List.getElem?_append_right (by rw [r.len]; omega)] at h2'
      have hz : n - S.length = 0 := by
        have := (List.getElem?_eq_some_iff.mp h1).1
        simp at this; omega
      rw [hz] at h1
      rw [show n - G.μ.length = 0 by rw [r.len]; exact hz] at h2'
      cases h1
      cases h2'
      exact ⟨vs, upd_same, q.grow g⟩
  · show (G.μ ++ [p])[S.length]? = some p
    rw [← r.len]
    simp
theorem snd_obj {es : List Expr} {as : List E} (h : PA X es (tEs M ex W cal as)) (hl : as.length ≤ LINE) : PE X (.List es pos) (tE M ex W cal (.obj as)) := by
  refine PE.imp (pe_lst h) fun σ H Q ⟨G, H0, s, S, hs, hr, hp⟩ => ?_
  unfold evalE at hp
  refine ⟨G, H0, s, S, hs, hr, hp.bind .refl fun bs S1 G1 H1 xs q0 e1 r1 q1 hp => ⟨?_, fun p np => ?_⟩⟩
  · rw [← q1.length, evalEs_len q0, line_eq]; exact hl
  · cases q : leaks bs with
    | none => rw [q] at hp; exact hp.elim
    | some vs =>
      rw [q] at hp
      obtain ⟨G2, e2, r2, q2, _⟩ := q1.freeze q r1 e1
      obtain ⟨G3, e3, r3, q3⟩ := new_obj r2 e2 np q2
      exact hp.fin e3 r3 q3

/-! ### operators -/
def boOf : BO → Operator
  | .add => .Add | .sub => .Sub | .mul => .Mult | .fdv => .FloorDiv | .mod => .Mod | .pow => .Pow
/-- a result that comes at once -/
def Fin1 (M : Mo) (ex : ExT) (W : XK) (o : Option Arg) (H : Hp) (Q : VK) : Prop := ∃ G0 H0 G S, Ext G0 H0 G H ∧ HRel M G H S ∧ Post M ex W G0 H0 (liftO S o) (rR M) Q
def rBin (M : Mo) (ex : ExT) (W : XK) (o : BO) : R2 := fun x y H Q => ∃ G0 H0 G S a b, Ext G0 H0 G H ∧ HRel M G H S ∧ Rdb M G H a x ∧ Rdb M G H b y ∧ Post M ex W G0 H0 (liftO S (binV o a b)) (rR M) Q
theorem post_some {G : Gh} {H : Hp} {S : Store} {o : Option Arg} {Q : VK} (h : Post M ex W G H (liftO S o) (rR M) Q) : ∃ a, o = some a ∧ Post M ex W G H (.ok a S) (rR M) Q := by
  cases o with
  | none => exact h.elim
  | some a => exact ⟨a, rfl, h⟩
theorem if_some {α : Type} {c : Prop} [Decidable c] {x y : α} (h : (if c then some x else none) = some y) : c ∧ x = y := by
  by_cases hc : c
  · rw [if_pos hc] at h
    exact ⟨hc, Option.some.inj h⟩
  · rw [if_neg hc] at h; cases h
theorem opr_bin (hK : X.K = M.K) (o : BO) : OpR X (binaryOp (boOf o)) (rBin M ex W o) := by
  intro pins s σ H x y v u Q I rx ry ⟨G0, H0, G, S, a, b, e, r, ra, rb, hp⟩
  obtain ⟨c, hc, hp⟩ := post_some hp
  unfold binV at hc
  split at hc
  · cases hc; cases ra.int; cases rb.int
    exact op_add pins s σ H _ _ v u Q I rx ry ⟨_, _, rfl, rfl, hp.fin e r (.int _)⟩
  · cases hc; cases ra.int; cases rb.int
    exact op_sub pins s σ H _ _ v u Q I rx ry ⟨_, _, rfl, rfl, hp.fin e r (.int _)⟩
  · obtain ⟨h1, rfl⟩ := if_some hc; cases ra.int; cases rb.int
    refine op_mulW pins s σ H _ _ v u Q I rx ry ⟨_, _, rfl, rfl, ?_, hp.fin e r (.int _)⟩
    unfold mulOk at h1
    have h2 := of_decide_eq_true h1
    show _ < 1000000
    omega
  · obtain ⟨h1, rfl⟩ := if_some hc; cases ra.int; cases rb.int
    exact op_fdivW pins s σ H _ _ v u Q I rx ry ⟨_, _, rfl, rfl, h1, hp.fin e r (.int _)⟩
  · obtain ⟨h1, rfl⟩ := if_some hc; cases ra.int; cases rb.int
    exact op_mod pins s σ H _ _ v u Q I rx ry ⟨_, _, rfl, rfl, h1, hp.fin e r (.int _)⟩
  · obtain ⟨h1, rfl⟩ := if_some hc; cases ra.int; cases rb.int
    exact op_pow pins s σ H _ _ v u Q I rx ry ⟨_, _, rfl, rfl, h1, hp.fin e r (.int _)⟩
  · obtain ⟨h1, rfl⟩ := if_some hc; cases ra.str; cases rb.str
    exact op_add_str pins s σ H _ _ v u Q I rx ry ⟨_, _, rfl, rfl, by rw [line_eq]; exact h1, hp.fin e r (.str _)⟩
  · obtain ⟨h1, rfl⟩ := if_some hc
    obtain ⟨l1, us, rfl, k1, m1⟩ := ra.lst r
    obtain ⟨l2, ws, rfl, k2, m2⟩ := rb.lst r
    refine op_cat pins s σ H _ _ v u Q I rx ry ⟨_, _, _, _, rfl, rfl, k1, k2, by rw [← m1.length, ← m2.length, line_eq]; exact h1, fun p np => ?_⟩
    exact hp.fin (ext_new e np) (hrel_new r np) (own_lst r e.back np (m1.append m2))
  · obtain ⟨h1, rfl⟩ := if_some hc
    obtain ⟨l1, us, rfl, k1, m1⟩ := ra.tup r
    obtain ⟨l2, ws, rfl, k2, m2⟩ := rb.tup r
    refine op_catA pins s σ H _ _ v u Q I rx ry ⟨_, _, _, _, rfl, rfl, by rw [hK]; exact k1, by rw [hK]; exact k2, by rw [← m1.length, ← m2.length, line_eq]; exact h1, fun z => ?_, fun _ z => ?_, fun _ _ p np => ?_⟩
    · have z' := m1.nil_iff z
      subst z'
      exact hp.fin e r rb.tupRep
    · have z' := m2.nil_iff z
      subst z'
      rw [List.append_nil] at hp
      exact hp.fin e r ra.tupRep
    · obtain ⟨G3, e3, r3, q3, _⟩ := rep_tup r e np (m1.append m2)
      exact hp.fin e3 r3 q3
  · obtain ⟨⟨h1, h2, h3⟩, rfl⟩ := if_some hc
    obtain ⟨l1, us, rfl, k1, m1⟩ := ra.lst r
    cases rb.int
    refine op_rep pins s σ H _ _ v u Q I rx ry ⟨_, _, _, rfl, rfl, k1, h1, h2, by rw [← m1.length, line_eq]; exact h3, fun p np => ?_⟩
    exact hp.fin (ext_new e np) (hrel_new r np) (own_lst r e.back np (m1.rep_flat _))
  · cases hc
theorem snd_bin (hK : X.K = M.K) {o : BO} {a b : E} {ea eb : Expr} (ha : PE X ea (tE M ex W cal a)) (hb : PE X eb (tE M ex W cal b)) : PE X (.BinOp ea (boOf o) eb pos) (tE M ex W cal (.bin o a b)) := by
  refine PE.imp (pe_op (opr_bin (ex := ex) (W := W) hK o) ha hb) fun σ H Q ⟨G, H0, s, S, hs, hr, hp⟩ => ?_
  unfold evalE at hp
  refine ⟨G, H0, s, S, hs, hr, hp.bind .refl fun x S1 G1 H1 y _ e1 r1 q1 hp => ?_⟩
  refine ⟨G1, H0, s, S1, hs.ext hr e1, r1, hp.bind e1 fun z S2 G2 H2 w _ e2 r2 q2 hp => ?_⟩
  exact ⟨G, H, G2, S2, x.1, z.1, e1.trans e2, r2, q1.rdb.ext r1 e2, q2.rdb, hp⟩
theorem snd_neg {a : E} {ea : Expr} (ha : PE X ea (tE M ex W cal a)) : PE X (.UnaryOp .USub ea pos) (tE M ex W cal (.neg a)) := by
  refine PE.imp (pe_un un_neg ha) fun σ H Q ⟨G, H0, s, S, hs, hr, hp⟩ => ?_
  unfold evalE at hp
  refine ⟨G, H0, s, S, hs, hr, hp.bind .refl fun x S1 G1 H1 y _ e1 r1 q1 hp => ?_⟩
  obtain ⟨v, fl⟩ := x
  cases v with
  | int i =>
    cases q1.rdb.int
    exact ⟨i, rfl, hp.fin e1 r1 (.int _)⟩
  | _ => exact hp.elim
theorem post_bl {α β : Type} {G : Gh} {H : Hp} {v : PV} {f : Bool → R α} {rel : Gh → Hp → Hp → α → β → Prop} {Q : β → Hp → Prop} (h : Post M ex W G H (isBl v f) rel Q) : ∃ b, v = .bl b ∧ Post M ex W G H (f b) rel Q := by
  cases v with
  | bl b => exact ⟨b, rfl, h⟩
  | _ => exact h.elim
theorem snd_not {a : E} {ea : Expr} (ha : PE X ea (tE M ex W cal a)) : PE X (.UnaryOp .Not ea pos) (tE M ex W cal (.not a)) := by
  refine PE.imp (pe_not ha) fun σ H Q ⟨G, H0, s, S, hs, hr, hp⟩ => ?_
  unfold evalE at hp
  refine ⟨G, H0, s, S, hs, hr, hp.bind .refl fun x S1 G1 H1 y _ e1 r1 q1 hp => ?_⟩
  obtain ⟨b, hb, hp⟩ := post_bl hp
  have q := q1.rdb
  rw [hb] at q
  cases q.bl
  exact ⟨b, rfl, hp.fin e1 r1 (.bl _)⟩
def coOf : CO → CmpOp
  | .eq => .Eq | .ne => .NotEq | .lt => .Lt | .le => .LtE | .gt => .Gt | .ge => .GtE | .isin => .In | .notin => .NotIn | .is => .Is | .isnot => .IsNot
def rCmp (M : Mo) (o : CO) : R2 := fun x y H Q => ∃ G S a b c, HRel M G H S ∧ Rdb M G H a x ∧ Rdb M G H b y ∧ cmpV o a b = some c ∧ Q (.bl c) H
theorem map_not {o : Option Bool} {c : Bool} (h : o.map (!·) = some c) : ∃ k, o = some k ∧ c = !k := by
  cases o with
  | none => cases h
  | some k => cases h; exact ⟨k, rfl, rfl⟩
theorem opr_eq (hK : X.K = M.K) (hu : X.A.units + 64 < cLine) : OpR X (compareOp .Eq) (rCmp M .eq) := by
  intro pins s σ H x y v u Q I rx ry ⟨G, S, a, b, c, r, ra, rb, hc, q⟩
  have hc : eqP a b = some c := hc
  unfold eqP at hc
  split at hc
  · rename_i xs ys
    cases ra.str; cases rb.str
    cases hc
    refine op_eq pins s σ H _ _ v u Q I rx ry ⟨rfl, ?_⟩
    rw [dec_str]; exact q
  · split at hc
    · rename_i d e h1 h2
      obtain ⟨⟨h3, h4⟩, rfl⟩ := if_some hc
      exact op_eqD hu pins s σ H _ _ v u Q I rx ry ⟨d, e, hK ▸ ra.dp r h1, hK ▸ rb.dp r h2, h3, h4, q⟩
    · cases hc
theorem opr_ne (hK : X.K = M.K) (hu : X.A.units + 64 < cLine) : OpR X (compareOp .NotEq) (rCmp M .ne) := by
  intro pins s σ H x y v u Q I rx ry ⟨G, S, a, b, c, r, ra, rb, hc, q⟩
  obtain ⟨k, hk, rfl⟩ := map_not hc
  replace hc := hk
  unfold eqP at hc
  split at hc
  · rename_i xs ys
    cases ra.str; cases rb.str
    cases hc
    refine op_ne pins s σ H _ _ v u Q I rx ry ⟨rfl, ?_⟩
    rw [dec_str]; exact q
  · split at hc
    · rename_i d e h1 h2
      obtain ⟨⟨h3, h4⟩, rfl⟩ := if_some hc
      exact op_neD hu pins s σ H _ _ v u Q I rx ry ⟨d, e, hK ▸ ra.dp r h1, hK ▸ rb.dp r h2, h3, h4, q⟩
    · cases hc
theorem opr_in (hK : X.K = M.K) (hu : X.A.units + 65 < cLine) : OpR X (compareOp .In) (rCmp M .isin) := by
  intro pins s σ H x y v u Q I rx ry ⟨G, S, a, b, c, r, ra, rb, hc, q⟩
  have hc : inC a b = some c := hc
  cases b with
  | lst ys =>
    obtain ⟨p, us, rfl, k, m⟩ := rb.lst r
    have hc : inP true a ys = some c := hc
    unfold inP at hc
    by_cases hf : flat a = true ∧ ys.all flat = true
    · rw [if_pos hf] at hc
      cases hc
      refine op_in_seq pins s σ H _ _ v u Q I rx ry ⟨p, us, rfl, .inl (.inl (.inl k)), (ra.flat hf.1).1, flat_all m hf.2, ?_⟩
      rw [any_flat hf.1 ra m hf.2]; exact q
    · rw [if_neg hf, if_pos rfl] at hc
      split at hc
      · rename_i d ds h1 h2
        obtain ⟨⟨h3, h4⟩, rfl⟩ := if_some hc
        exact op_inD hu pins s σ H _ _ v u Q I rx ry ⟨d, ds, hK ▸ ra.dp r h1, hK ▸ .lst (.inl (.inl k)) (Rep.dps r ys us ds m h2), h3, h4, q⟩
      · cases hc
  | tup ys =>
    obtain ⟨p, us, rfl, k, m⟩ := rb.tup r
    have hc : inP false a ys = some c := hc
    unfold inP at hc
    by_cases hf : flat a = true ∧ ys.all flat = true
    · rw [if_pos hf] at hc
      cases hc
      refine op_in_seq pins s σ H _ _ v u Q I rx ry ⟨p, us, rfl, .inr (hK ▸ k), (ra.flat hf.1).1, flat_all m hf.2, ?_⟩
      rw [any_flat hf.1 ra m hf.2]; exact q
    · rw [if_neg hf, if_neg Bool.false_ne_true] at hc; cases hc
  | _ => cases hc
theorem opr_notin (hK : X.K = M.K) (hu : X.A.units + 65 < cLine) : OpR X (compareOp .NotIn) (rCmp M .notin) := by
  intro pins s σ H x y v u Q I rx ry ⟨G, S, a, b, c, r, ra, rb, hc, q⟩
  obtain ⟨c, hk, rfl⟩ := map_not hc
  replace hc := hk
  cases b with
  | lst ys =>
    obtain ⟨p, us, rfl, k, m⟩ := rb.lst r
    have hc : inP true a ys = some c := hc
    unfold inP at hc
    by_cases hf : flat a = true ∧ ys.all flat = true
    · rw [if_pos hf] at hc
      cases hc
      refine op_notIn_seq pins s σ H _ _ v u Q I rx ry ⟨p, us, rfl, .inl (.inl (.inl k)), (ra.flat hf.1).1, flat_all m hf.2, ?_⟩
      rw [any_flat hf.1 ra m hf.2]; exact q
    · rw [if_neg hf, if_pos rfl] at hc
      split at hc
      · rename_i d ds h1 h2
        obtain ⟨⟨h3, h4⟩, rfl⟩ := if_some hc
        exact op_notInD hu pins s σ H _ _ v u Q I rx ry ⟨d, ds, hK ▸ ra.dp r h1, hK ▸ .lst (.inl (.inl k)) (Rep.dps r ys us ds m h2), h3, h4, q⟩
      · cases hc
  | tup ys =>
    obtain ⟨p, us, rfl, k, m⟩ := rb.tup r
    have hc : inP false a ys = some c := hc
    unfold inP at hc
    by_cases hf : flat a = true ∧ ys.all flat = true
    · rw [if_pos hf] at hc
      cases hc
      refine op_notIn_seq pins s σ H _ _ v u Q I rx ry ⟨p, us, rfl, .inr (hK ▸ k), (ra.flat hf.1).1, flat_all m hf.2, ?_⟩
      rw [any_flat hf.1 ra m hf.2]; exact q
    · rw [if_neg hf, if_neg Bool.false_ne_true] at hc; cases hc
  | _ => cases hc
theorem cmpI_some {f : Int → Int → Bool} {a b : PV} {c : Bool} {G : Gh} {H : Hp} {x y : V} (ra : Rdb M G H a x) (rb : Rdb M G H b y) (h : cmpI f a b = some c) : ∃ i j, x = .int i ∧ y = .int j ∧ c = f i j := by
  unfold cmpI at h
  split at h
  · cases ra.int; cases rb.int; cases h; exact ⟨_, _, rfl, rfl, rfl⟩
  · cases h
theorem isC_some {a b : PV} {c : Bool} {G : Gh} {H : Hp} {x y : V} (ra : Rdb M G H a x) (rb : Rdb M G H b y) (h : isC a b = some c) : y = .non ∧ c = decide (x = .non) := by
  unfold isC at h
  split at h
  · cases rb.non
    refine ⟨rfl, ?_⟩
    cases h
    split
    · cases ra.non; rfl
    · rename_i hne
      refine (decide_eq_false fun z => hne ?_).symm
      subst z
      rcases ra with ra | ⟨_, _, _, _, z, _⟩
      · cases ra; rfl
      · cases z
  · cases h
theorem opr_cmp (hK : X.K = M.K) (hu : X.A.units + 65 < cLine) (o : CO) : OpR X (compareOp (coOf o)) (rCmp M o) := by
  cases o with
  | eq => exact opr_eq hK (by omega)
  | ne => exact opr_ne hK (by omega)
  | isin => exact opr_in hK hu
  | notin => exact opr_notin hK hu
  | lt =>
    intro pins s σ H x y v u Q I rx ry ⟨G, S, a, b, c, r, ra, rb, hc, q⟩
    obtain ⟨i, j, rfl, rfl, rfl⟩ := cmpI_some ra rb hc
    exact op_lt pins s σ H _ _ v u Q I rx ry ⟨i, j, rfl, rfl, q⟩
  | le =>
    intro pins s σ H x y v u Q I rx ry ⟨G, S, a, b, c, r, ra, rb, hc, q⟩
    obtain ⟨i, j, rfl, rfl, rfl⟩ := cmpI_some ra rb hc
    exact op_le pins s σ H _ _ v u Q I rx ry ⟨i, j, rfl, rfl, q⟩
  | gt =>
    intro pins s σ H x y v u Q I rx ry ⟨G, S, a, b, c, r, ra, rb, hc, q⟩
    obtain ⟨i, j, rfl, rfl, rfl⟩ := cmpI_some ra rb hc
    exact op_gt pins s σ H _ _ v u Q I rx ry ⟨i, j, rfl, rfl, q⟩
  | ge =>
    intro pins s σ H x y v u Q I rx ry ⟨G, S, a, b, c, r, ra, rb, hc, q⟩
    obtain ⟨i, j, rfl, rfl, rfl⟩ := cmpI_some ra rb hc
    exact op_ge pins s σ H _ _ v u Q I rx ry ⟨i, j, rfl, rfl, q⟩
  | «is» =>
    intro pins s σ H x y v u Q I rx ry ⟨G, S, a, b, c, r, ra, rb, hc, q⟩
    obtain ⟨rfl, rfl⟩ := isC_some ra rb hc
    exact op_isN pins s σ H _ _ v u Q I rx ry ⟨rfl, q⟩
  | isnot =>
    intro pins s σ H x y v u Q I rx ry ⟨G, S, a, b, c, r, ra, rb, hc, q⟩
    obtain ⟨c, hk, rfl⟩ := map_not hc
    obtain ⟨rfl, rfl⟩ := isC_some ra rb hk
    exact op_notN pins s σ H _ _ v u Q I rx ry ⟨rfl, q⟩
theorem snd_cmp (hK : X.K = M.K) (hu : X.A.units + 65 < cLine) {o : CO} {a b : E} {ea eb : Expr} (ha : PE X ea (tE M ex W cal a)) (hb : PE X eb (tE M ex W cal b)) (hm : behindInMarks (coOf o) eb = false) :
    PE X (.Compare ea [coOf o] [eb] pos) (tE M ex W cal (.cmp o a b)) := by
  refine PE.imp (pe_cmpR (opr_cmp hK hu o) ha hb hm) fun σ H Q ⟨G, H0, s, S, hs, hr, hp⟩ => ?_
  unfold evalE at hp
  refine ⟨G, H0, s, S, hs, hr, hp.bind .refl fun x S1 G1 H1 y _ e1 r1 q1 hp => ?_⟩
  refine ⟨G1, H0, s, S1, hs.ext hr e1, r1, hp.bind e1 fun z S2 G2 H2 w _ e2 r2 q2 hp => ?_⟩
  cases q : cmpV o x.1 z.1 with
  | none => rw [q] at hp; exact hp.elim
  | some c =>
    rw [q] at hp
    exact ⟨G2, S2, x.1, z.1, c, r2, q1.rdb.ext r1 e2, q2.rdb, q, hp.fin (e1.trans e2) r2 (.bl _)⟩
theorem pst_cmp (hK : X.K = M.K) (hu : X.A.units + 65 < cLine) {o : CO} {a b : E} {ea eb : Expr} (ha : PE X ea (tE M ex W cal a)) (hb : PE X eb (tE M ex W cal b)) (hm : behindInMarks (coOf o) eb = false) :
    PT X (.Compare ea [coOf o] [eb] pos) (tT M ex W cal (.cmp o a b)) := by
  refine PT.imp (pt_cmpR (opr_cmp hK hu o) ha hb hm) fun σ H Q ⟨G, H0, s, S, hs, hr, hp⟩ => ?_
  unfold testR evalE at hp
  rw [R.bind_assoc] at hp
  refine ⟨G, H0, s, S, hs, hr, hp.bind .refl fun x S1 G1 H1 y _ e1 r1 q1 hp => ?_⟩
  rw [R.bind_assoc] at hp
  refine ⟨G1, H0, s, S1, hs.ext hr e1, r1, hp.bind e1 fun z S2 G2 H2 w _ e2 r2 q2 hp => ?_⟩
  cases q : cmpV o x.1 z.1 with
  | none => rw [q] at hp; exact hp.elim
  | some c =>
    rw [q] at hp
    exact ⟨G2, S2, x.1, z.1, c, r2, q1.rdb.ext r1 e2, q2.rdb, q, c, rfl, hp.fin (e1.trans e2) r2 rfl⟩
theorem snd_chn (hK : X.K = M.K) (hu : X.A.units + 65 < cLine) {o p : CO} {a b c : E} {ea eb ec : Expr} (ha : PE X ea (tE M ex W cal a)) (hb : PE X eb (tE M ex W cal b)) (hc : PE X ec (tE M ex W cal c))
    (hm : lastMarks [coOf o, coOf p] [eb, ec] = false) : PE X (.Compare ea [coOf o, coOf p] [eb, ec] pos) (tE M ex W cal (.chn o p a b c)) := by
  refine PE.imp (pe_chain (opr_cmp hK hu o) (opr_cmp hK hu p) ha hb hc hm) fun σ H Q ⟨G, H0, s, S, hs, hr, hp⟩ => ?_
  unfold evalE at hp
  refine ⟨G, H0, s, S, hs, hr, hp.bind .refl fun x S1 G1 H1 y _ e1 r1 q1 hp => ?_⟩
  refine ⟨G1, H0, s, S1, hs.ext hr e1, r1, hp.bind e1 fun z S2 G2 H2 w _ e2 r2 q2 hp => ?_⟩
  cases q : cmpV o x.1 z.1 with
  | none => rw [q] at hp; exact hp.elim
  | some k =>
    rw [q] at hp
    refine ⟨G2, S2, x.1, z.1, k, r2, q1.rdb.ext r1 e2, q2.rdb, q, k, rfl, ?_⟩
    cases k with
    | false => exact iteF (hp.fin (e1.trans e2) r2 (.bl _))
    | true =>
      refine iteT ⟨G2, H0, s, S2, (hs.ext hr e1).ext r1 e2, r2, hp.bind (e1.trans e2) fun u S3 G3 H3 t _ e3 r3 q3 hp => ?_⟩
      cases q' : cmpV p z.1 u.1 with
      | none => rw [q'] at hp; exact hp.elim
      | some k' =>
        rw [q'] at hp
        exact ⟨G3, S3, z.1, u.1, k', r3, q2.rdb.ext r2 e3, q3.rdb, q', hp.fin ((e1.trans e2).trans e3) r3 (.bl _)⟩
theorem pst_chn (hK : X.K = M.K) (hu : X.A.units + 65 < cLine) {o p : CO} {a b c : E} {ea eb ec : Expr} (ha : PE X ea (tE M ex W cal a)) (hb : PE X eb (tE M ex W cal b)) (hc : PE X ec (tE M ex W cal c))
    (hm : lastMarks [coOf o, coOf p] [eb, ec] = false) : PT X (.Compare ea [coOf o, coOf p] [eb, ec] pos) (tT M ex W cal (.chn o p a b c)) := by
  refine PT.imp (pt_chain (opr_cmp hK hu o) (opr_cmp hK hu p) ha hb hc hm) fun σ H Q ⟨G, H0, s, S, hs, hr, hp⟩ => ?_
  unfold testR evalE at hp
  rw [R.bind_assoc] at hp
  refine ⟨G, H0, s, S, hs, hr, hp.bind .refl fun x S1 G1 H1 y _ e1 r1 q1 hp => ?_⟩
  rw [R.bind_assoc] at hp
  refine ⟨G1, H0, s, S1, hs.ext hr e1, r1, hp.bind e1 fun z S2 G2 H2 w _ e2 r2 q2 hp => ?_⟩
  cases q : cmpV o x.1 z.1 with
  | none => rw [q] at hp; exact hp.elim
  | some k =>
    rw [q] at hp
    refine ⟨G2, S2, x.1, z.1, k, r2, q1.rdb.ext r1 e2, q2.rdb, q, k, rfl, ?_⟩
    cases k with
    | false => exact iteF ⟨false, rfl, hp.fin (e1.trans e2) r2 rfl⟩
    | true =>
      dsimp only at hp
      rw [R.bind_assoc] at hp
      refine iteT ⟨G2, H0, s, S2, (hs.ext hr e1).ext r1 e2, r2, hp.bind (e1.trans e2) fun u S3 G3 H3 t _ e3 r3 q3 hp => ?_⟩
      cases q' : cmpV p z.1 u.1 with
      | none => rw [q'] at hp; exact hp.elim
      | some k' =>
        rw [q'] at hp
        exact ⟨G3, S3, z.1, u.1, k', r3, q2.rdb.ext r2 e3, q3.rdb, q', k', rfl, hp.fin ((e1.trans e2).trans e3) r3 rfl⟩

/-! ### and, or, not, if .. else -/
theorem snd_and {a b : E} {ea eb : Expr} {es : List Expr} (ha : PE X ea (tE M ex W cal a)) (hb : PE X (.BoolOp .And (eb :: es) pos) (tE M ex W cal b)) : PE X (.BoolOp .And (ea :: eb :: es) pos) (tE M ex W cal (.and a b)) := by
  refine PE.imp (pe_and ha hb) fun σ H Q ⟨G, H0, s, S, hs, hr, hp⟩ => ?_
  unfold evalE at hp
  refine ⟨G, H0, s, S, hs, hr, hp.bind .refl fun x S1 G1 H1 y _ e1 r1 q1 hp => ?_⟩
  obtain ⟨c, hb, hp⟩ := post_bl hp
  have q := q1.rdb
  rw [hb] at q
  cases q.bl
  refine ⟨c, rfl, ?_⟩
  cases c with
  | true =>
    rw [if_pos rfl] at hp
    exact iteT ⟨G1, H0, s, S1, hs.ext hr e1, r1, hp.rebase bk_R e1⟩
  | false =>
    rw [if_neg Bool.false_ne_true] at hp
    exact iteF (hp.fin e1 r1 (.bl _))
theorem snd_or {a b : E} {ea eb : Expr} {es : List Expr} (ha : PE X ea (tE M ex W cal a)) (hb : PE X (.BoolOp .Or (eb :: es) pos) (tE M ex W cal b)) : PE X (.BoolOp .Or (ea :: eb :: es) pos) (tE M ex W cal (.or a b)) := by
  refine PE.imp (pe_or ha hb) fun σ H Q ⟨G, H0, s, S, hs, hr, hp⟩ => ?_
  unfold evalE at hp
  refine ⟨G, H0, s, S, hs, hr, hp.bind .refl fun x S1 G1 H1 y _ e1 r1 q1 hp => ?_⟩
  obtain ⟨c, hb, hp⟩ := post_bl hp
  have q := q1.rdb
  rw [hb] at q
  cases q.bl
  refine ⟨c, rfl, ?_⟩
  cases c with
  | true =>
    rw [if_pos rfl] at hp
    exact iteT (hp.fin e1 r1 (.bl _))
  | false =>
    rw [if_neg Bool.false_ne_true] at hp
    exact iteF ⟨G1, H0, s, S1, hs.ext hr e1, r1, hp.rebase bk_R e1⟩
theorem test_bl {α : Type} {r : R α} {f : α → Store → R Arg} : testR (r.bind f) = r.bind fun a S => testR (f a S) := R.bind_assoc ..
theorem test_isBl {v : PV} {f : Bool → R Arg} : testR (isBl v f) = isBl v fun b => testR (f b) := by
  cases v <;> rfl
theorem test_at (cal : Calls) (a : E) (s : Env) (S : Store) : evalE cal a s S = evalE cal a s S := rfl
theorem pst_and {a b : E} {ea eb : Expr} {es : List Expr} (ha : PT X ea (tT M ex W cal a)) (hb : PW X (.BoolOp .And (eb :: es) pos) (tT M ex W cal b)) : PW X (.BoolOp .And (ea :: eb :: es) pos) (tT M ex W cal (.and a b)) := by
  have h := pw_and ha hb
  refine ⟨fun wh pins s σ H Q I ⟨G, H0, sl, S, hs, hr, hp⟩ => h.run wh pins s σ H Q I ?_⟩
  unfold evalE at hp
  rw [test_bl] at hp
  simp only [test_isBl] at hp
  have hp : Post M ex W G H ((testR (evalE cal a sl S)).bind fun c S1 => testR (if c = true then evalE cal b sl S1 else .ok (.bl false, .frz) S1)) rB Q := by
    unfold testR at hp ⊢
    rw [R.bind_assoc]
    refine (congrArg (fun z => Post M ex W G H z rB Q) ?_).mp hp
    congr 1
    funext x S1
    obtain ⟨v, fl⟩ := x
    cases v <;> rfl
  refine ⟨G, H0, sl, S, hs, hr, hp.bind .refl fun c S1 G1 H1 y _ e1 r1 q1 hp => ?_⟩
  cases q1
  cases c with
  | true =>
    rw [if_pos rfl] at hp
    exact iteT ⟨G1, H0, sl, S1, hs.ext hr e1, r1, hp.rebase bk_B e1⟩
  | false =>
    rw [if_neg Bool.false_ne_true] at hp
    exact iteF (hp.fin e1 r1 rfl)
theorem pst_or {a b : E} {ea eb : Expr} {es : List Expr} (ha : PT X ea (tT M ex W cal a)) (hb : PW X (.BoolOp .Or (eb :: es) pos) (tT M ex W cal b)) : PW X (.BoolOp .Or (ea :: eb :: es) pos) (tT M ex W cal (.or a b)) := by
  have h := pw_or ha hb
  refine ⟨fun wh pins s σ H Q I ⟨G, H0, sl, S, hs, hr, hp⟩ => h.run wh pins s σ H Q I ?_⟩
  unfold evalE at hp
  rw [test_bl] at hp
  simp only [test_isBl] at hp
  have hp : Post M ex W G H ((testR (evalE cal a sl S)).bind fun c S1 => testR (if c = true then .ok (.bl true, .frz) S1 else evalE cal b sl S1)) rB Q := by
    unfold testR at hp ⊢
    rw [R.bind_assoc]
    refine (congrArg (fun z => Post M ex W G H z rB Q) ?_).mp hp
    congr 1
    funext x S1
    obtain ⟨v, fl⟩ := x
    cases v <;> rfl
  refine ⟨G, H0, sl, S, hs, hr, hp.bind .refl fun c S1 G1 H1 y _ e1 r1 q1 hp => ?_⟩
  cases q1
  cases c with
  | true =>
    rw [if_pos rfl] at hp
    exact iteT (hp.fin e1 r1 rfl)
  | false =>
    rw [if_neg Bool.false_ne_true] at hp
    exact iteF ⟨G1, H0, sl, S1, hs.ext hr e1, r1, hp.rebase bk_B e1⟩
theorem pst_not {a : E} {ea : Expr} (ha : PT X ea (tT M ex W cal a)) : PT X (.UnaryOp .Not ea pos) (tT M ex W cal (.not a)) := by
  refine PT.imp (pt_not ha) fun σ H Q ⟨G, H0, s, S, hs, hr, hp⟩ => ?_
  unfold evalE at hp
  rw [test_bl] at hp
  simp only [test_isBl] at hp
  have hp : Post M ex W G H ((testR (evalE cal a s S)).bind fun c S1 => .ok (!c) S1) rB Q := by
    unfold testR at hp ⊢
    rw [R.bind_assoc]
    refine (congrArg (fun z => Post M ex W G H z rB Q) ?_).mp hp
    congr 1
    funext x S1
    obtain ⟨v, fl⟩ := x
    cases v <;> rfl
  refine ⟨G, H0, s, S, hs, hr, hp.bind .refl fun c S1 G1 H1 y _ e1 r1 q1 hp => ?_⟩
  cases q1
  exact hp.fin e1 r1 rfl
/-- any expression, where a test is its value's truth -/
theorem pst_val {a : E} {ea : Expr} (ha : PE X ea (tE M ex W cal a)) (he : ∀ whole, isTrue ea X.env whole = (do let v ← whole; standAt ea.pos; holding [v] (truthy v))) : PT X ea (tT M ex W cal a) := by
  refine PT.imp (pt_val ha he) fun σ H Q ⟨G, H0, s, S, hs, hr, hp⟩ => ?_
  unfold testR at hp
  refine ⟨G, H0, s, S, hs, hr, hp.bind .refl fun x S1 G1 H1 y _ e1 r1 q1 hp => ?_⟩
  obtain ⟨c, hb, hp⟩ := post_bl hp
  have q := q1.rdb
  rw [hb] at q
  cases q.bl
  exact ⟨c, rfl, hp.fin e1 r1 rfl⟩
theorem snd_ite {c a b : E} {ec ea eb : Expr} (hc : PT X ec (tT M ex W cal c)) (ha : PE X ea (tE M ex W cal a)) (hb : PE X eb (tE M ex W cal b)) : PE X (.IfExp ec ea eb pos) (tE M ex W cal (.ite c a b)) := by
  refine PE.imp (pe_ifExp hc ha hb) fun σ H Q ⟨G, H0, s, S, hs, hr, hp⟩ => ?_
  unfold evalE at hp
  have hp : Post M ex W G H ((testR (evalE cal c s S)).bind fun k S1 => if k = true then evalE cal a s S1 else evalE cal b s S1) (rR M) Q := by
    unfold testR
    rw [R.bind_assoc]
    refine (congrArg (fun z => Post M ex W G H z (rR M) Q) ?_).mp hp
    congr 1
    funext x S1
    obtain ⟨v, fl⟩ := x
    cases v <;> rfl
  refine ⟨G, H0, s, S, hs, hr, hp.bind .refl fun k S1 G1 H1 y _ e1 r1 q1 hp => ?_⟩
  cases q1
  cases k with
  | true =>
    rw [if_pos rfl] at hp
    exact iteT ⟨G1, H0, s, S1, hs.ext hr e1, r1, hp.rebase bk_R e1⟩
  | false =>
    rw [if_neg Bool.false_ne_true] at hp
    exact iteF ⟨G1, H0, s, S1, hs.ext hr e1, r1, hp.rebase bk_R e1⟩
end
end Sq

/-! expressions: subscripts, built-ins, methods -/
namespace Sq
open PySem PySem.Spec PyProof.Rows L2
section
variable {M : Mo} {ex : ExT} {W : XK} {cal : Calls} {X : Cx} {pos : Pos} {G : Gh} {H : Hp}

theorem reps_atI {xs : List PV} {vs : List V} {i : Int} {v : PV} (h : Reps M G xs vs) (e : atI xs i = some v) : ∃ x, L2.atI vs i = some x ∧ Rep M G v x := by
  unfold atI at e
  cases q : ixN xs.length i with
  | none => rw [q] at e; cases e
  | some j =>
    rw [q] at e
    obtain ⟨x, h1, h2⟩ := h.get (i := j) (x := v) e
    refine ⟨x, ?_, h2⟩
    unfold L2.atI
    have q' : L2.ixN vs.length i = some j := by rw [← h.length]; exact q
    rw [q']; exact h1
def rIdx (M : Mo) : R2 := fun x y H Q => ∃ G S a b v, HRel M G H S ∧ Rdb M G H a x ∧ Rdb M G H b y ∧ idxS S a b = some v ∧ ∀ z, Rep M G v z → Q z H
theorem ixr_all (hK : X.K = M.K) : IxR X (rIdx M) := by
  intro value slice pins s σ H x y v u Q I rx ry ⟨G, S, a, b, w, r, ra, rb, hc, q⟩ hsub
  have isI : ∀ {xs : List PV} {i : PV}, (match i with | .int i => atI xs i | _ => none) = some w → ∃ k, i = .int k ∧ atI xs k = some w := fun {xs i} h => by
    cases i <;> first | exact ⟨_, rfl, h⟩ | cases h
  cases a with
  | obj n =>
    obtain ⟨p, rfl, hp⟩ := ra.obj
    unfold idxS at hc
    dsimp only at hc
    split at hc
    · rename_i xs i h1
      cases rb.int
      obtain ⟨us, k1, k2⟩ := r.st n _ p h1 hp
      obtain ⟨z, h2, h3⟩ := reps_atI k2 hc
      exact ix_list value slice pins s σ H _ _ v u Q I rx ry ⟨p, us, _, z, rfl, rfl, .inl (.inl k1), h2, q z h3⟩ hsub
    · cases hc
  | tup xs =>
    obtain ⟨p, us, rfl, k1, k2⟩ := ra.tup r
    have hc : idxV (.tup xs) b = some w := hc
    cases b <;> first | (cases hc; done) | skip
    cases rb.int
    obtain ⟨z, h2, h3⟩ := reps_atI k2 hc
    exact ix_tup value slice pins s σ H _ _ v u Q I rx ry ⟨p, us, _, z, rfl, rfl, by rw [hK]; exact k1, h2, q z h3⟩ hsub
  | lst xs =>
    obtain ⟨p, us, rfl, k1, k2⟩ := ra.lst r
    have hc : idxV (.lst xs) b = some w := hc
    cases b <;> first | (cases hc; done) | skip
    cases rb.int
    obtain ⟨z, h2, h3⟩ := reps_atI k2 hc
    exact ix_list value slice pins s σ H _ _ v u Q I rx ry ⟨p, us, _, z, rfl, rfl, .inl (.inl k1), h2, q z h3⟩ hsub
  | rol xs =>
    obtain ⟨p, us, rfl, k1, k2⟩ := ra.rol r
    have hc : idxV (.rol xs) b = some w := hc
    cases b <;> first | (cases hc; done) | skip
    cases rb.int
    obtain ⟨z, h2, h3⟩ := reps_atI k2 hc
    exact ix_list value slice pins s σ H _ _ v u Q I rx ry ⟨p, us, _, z, rfl, rfl, by rw [hK]; exact k1, h2, q z h3⟩ hsub
  | str t =>
    cases ra.str
    have hc : idxV (.str t) b = some w := hc
    cases b with
    | int i =>
      cases rb.int
      have hc : (if t.length ≤ LINE then (atI t.cps.toList i).map fun c => PV.str ⟨#[c]⟩ else none) = some w := hc
      by_cases hl : t.length ≤ LINE
      · rw [if_pos hl] at hc
        cases h2 : atI t.cps.toList i with
        | none => rw [h2] at hc; cases hc
        | some c =>
          rw [h2] at hc
          cases hc
          exact ix_str value slice pins s σ H _ _ v u Q I rx ry ⟨t, i, c, rfl, rfl, by rw [line_eq]; exact hl, h2, q _ (.str _)⟩ hsub
      · rw [if_neg hl] at hc; cases hc
    | _ => cases hc
  | _ => cases hc
theorem snd_idx (hK : X.K = M.K) {a b : E} {ea eb : Expr} (ha : PE X ea (tE M ex W cal a)) (hb : PE X eb (tE M ex W cal b)) (hs : PlainIx eb) : PE X (.Subscript ea eb pos) (tE M ex W cal (.idx a b)) := by
  refine PE.imp (pe_ix (ixr_all hK) ha hb hs) fun σ H Q ⟨G, H0, s, S, hs, hr, hp⟩ => ?_
  unfold evalE at hp
  refine ⟨G, H0, s, S, hs, hr, hp.bind .refl fun x S1 G1 H1 y _ e1 r1 q1 hp => ?_⟩
  refine ⟨G1, H0, s, S1, hs.ext hr e1, r1, hp.bind e1 fun z S2 G2 H2 w _ e2 r2 q2 hp => ?_⟩
  cases q : idxS S2 x.1 z.1 with
  | none => rw [q] at hp; exact hp.elim
  | some v =>
    rw [q] at hp
    exact ⟨G2, S2, x.1, z.1, v, r2, q1.rdb.ext r1 e2, q2.rdb, q, fun z hz => hp.fin (e1.trans e2) r2 hz⟩
theorem plainIx {e : Expr} (h : (match e with | .Slice _ _ none _ => false | _ => true) = true) : PlainIx e := by
  intro o i
  unfold subscripted
  cases e <;> first | rfl | skip
  rename_i lo hi st p
  cases st with
  | none => cases h
  | some _ => rfl

/-! ### slices -/
theorem sIx_eq {n d : Nat} {o : Option Int} : sIx n d o = HT.sIx n d o := by cases o <;> rfl
theorem reps_cut {xs : List PV} {vs : List V} (h : Reps M G xs vs) (lo hi : Option Int) : Reps M G (cutL xs lo hi) (L2.cutV vs lo hi) := by
  unfold cutL L2.cutV
  rw [h.length, sIx_eq, sIx_eq]
  exact (h.drop _).take _
def tO (M : Mo) (ex : ExT) (W : XK) (cal : Calls) (e : Option E) : TO := fun σ H Q => ∃ G H0 s S, SRel M G H0 H s σ ∧ HRel M G H S ∧ Post M ex W G H (evalO cal e s S) (fun _ _ _ a b => a = b) Q
theorem snd_ono : PO X none (tO M ex W cal none) := by
  refine ⟨fun pins s σ H Q I ⟨G, H0, sl, S, hs, hr, hp⟩ => po_none.run pins s σ H Q I ?_⟩
  unfold evalO at hp
  exact hp.now hr rfl
theorem snd_oso {a : E} {ea : Expr} (ha : PE X ea (tE M ex W cal a)) : PO X (some ea) (tO M ex W cal (some a)) := by
  refine ⟨fun pins s σ H Q I ⟨G, H0, sl, S, hs, hr, hp⟩ => (po_some ha).run pins s σ H Q I ?_⟩
  unfold evalO at hp
  refine ⟨G, H0, sl, S, hs, hr, hp.bind .refl fun x S1 G1 H1 y _ e1 r1 q1 hp => ?_⟩
  obtain ⟨v, fl⟩ := x
  cases v with
  | int i =>
    cases q1.rdb.int
    exact ⟨i, rfl, hp.fin e1 r1 rfl⟩
  | _ => exact hp.elim
def rCut (M : Mo) (ex : ExT) (W : XK) : V → Option Int → Option Int → Hp → VK → Prop := fun x lo hi H Q => ∃ G0 H0 G S a, Ext G0 H0 G H ∧ HRel M G H S ∧ Rdb M G H a x ∧ Post M ex W G0 H0 (liftO S (cutV a lo hi)) (rR M) Q
theorem slr_all (hK : X.K = M.K) : SlR X (rCut M ex W) := by
  intro pins s σ H x v vl vu lo hi sl Q I rx hs pl pu ⟨G0, H0, G, S, a, e, r, ra, hp⟩
  obtain ⟨c, hc, hp⟩ := post_some hp
  cases a with
  | lst xs =>
    obtain ⟨p, us, rfl, k1, k2⟩ := ra.lst r
    cases hc
    refine sl_list pins s σ H _ v vl vu lo hi sl Q I rx hs pl pu ⟨p, us, rfl, .inl (.inl k1), fun p np => ?_⟩
    exact hp.fin (ext_new e np) (hrel_new r np) (own_lst r e.back np (reps_cut k2 lo hi))
  | tup xs =>
    obtain ⟨p, us, rfl, k1, k2⟩ := ra.tup r
    cases hc
    refine sl_tupA pins s σ H _ v vl vu lo hi sl Q I rx hs pl pu ⟨p, us, rfl, by rw [hK]; exact k1, fun ⟨h1, h2⟩ => ?_, fun _ p np => ?_⟩
    · have z : cutL xs lo hi = xs := by
        unfold cutL
        rw [k2.length, sIx_eq, sIx_eq, h1, h2, List.drop_zero, Nat.sub_zero, ← k2.length, List.take_length]
      rw [z] at hp
      exact hp.fin e r ra.tupRep
    · obtain ⟨G3, e3, r3, q3, _⟩ := rep_tup r e np (reps_cut k2 lo hi)
      exact hp.fin e3 r3 q3
  | str t =>
    cases ra.str
    obtain ⟨h1, rfl⟩ := if_some hc
    refine sl_str pins s σ H _ v vl vu lo hi sl Q I rx hs pl pu ⟨t, rfl, by rw [line_eq]; exact h1, ?_⟩
    have z : (⟨(cutL t.cps.toList lo hi).toArray⟩ : Str) = cutS t lo hi := by
      unfold cutL cutS
      rw [Array.length_toList, sIx_eq, sIx_eq]; rfl
    rw [z] at hp
    exact hp.fin e r (.str _)
  | _ => cases hc
theorem snd_cut (hK : X.K = M.K) {a : E} {lo hi : Option E} {ea : Expr} {el eh : Option Expr} {p2 : Pos} (ha : PE X ea (tE M ex W cal a)) (hl : PO X el (tO M ex W cal lo)) (hh : PO X eh (tO M ex W cal hi)) :
    PE X (.Subscript ea (.Slice el eh none p2) pos) (tE M ex W cal (.cut a lo hi)) := by
  refine PE.imp (pe_slice (slr_all (ex := ex) (W := W) hK) ha hl hh) fun σ H Q ⟨G, H0, s, S, hs, hr, hp⟩ => ?_
  unfold evalE at hp
  refine ⟨G, H0, s, S, hs, hr, hp.bind .refl fun x S1 G1 H1 y _ e1 r1 q1 hp => ?_⟩
  refine ⟨G1, H0, s, S1, hs.ext hr e1, r1, hp.bind e1 fun l S2 G2 H2 l' _ e2 r2 q2 hp => ?_⟩
  subst q2
  refine ⟨G2, H0, s, S2, (hs.ext hr e1).ext r1 e2, r2, hp.bind (e1.trans e2) fun u S3 G3 H3 u' _ e3 r3 q3 hp => ?_⟩
  subst q3
  exact ⟨G, H, G3, S3, x.1, (e1.trans e2).trans e3, r3, (q1.rdb.ext r1 e2).ext r2 e3, hp⟩

/-! ### x[::-1] -/
theorem sliceIx_rev (n : Nat) : Builtin.Str.strSliceIndices none none (-1) n = (List.range n).reverse := by
  unfold Builtin.Str.strSliceIndices
  show sliceRange ((n : Int) - 1) (-1) (-1) = _
  rw [PySem.W.krv_sliceRange, PySem.W.krv_range]
theorem pe_revS {e : Expr} {te : TE} {k : Nat} {p1 p2 p3 : Pos} (he : PE X e te) : PE X (.Subscript e (.Slice none none (some (.UnaryOp .USub (.Constant (.int 1) k p1) p2)) p3) pos)
    (fun σ H Q => te σ H fun x H1 => (∃ a xs, x = .ref a ∧ SqL X.K H1 a xs ∧ ∀ p, H1 p = none → Q (.ref p) (upd H1 p (.lst xs.reverse))) ∨ ∃ z : Str, x = .str z ∧ z.length ≤ sizeLine ∧ Q (.str ⟨z.cps.toList.reverse.toArray⟩) H1) := by
  refine ⟨fun pins s σ H Q I h => ?_⟩
  refine Subscript_ (thn (he.run pins s σ H _ I h) fun v s1 ⟨x, H1, I1, r1, q1⟩ => ?_)
  have hst : PO X (some (.UnaryOp .USub (.Constant (.int 1) k p1) p2)) (tPart (tUn (rU fun i => .int (-i)) (tC (.int 1)))) := po_some (pe_un un_neg pe_int)
  refine wpAny_Slice (thn (po_none.run pins s1 σ H1 (fun o H2 => o = none ∧ H2 = H1) I1 ⟨rfl, rfl⟩) fun vl s2 ⟨l, H2, I2, pl, el, e2⟩ => ?_)
  subst el e2
  refine thn (po_none.run pins s2 σ H2 (fun o H3 => o = none ∧ H3 = H2) I2 ⟨rfl, rfl⟩) fun vu s3 ⟨u, H3, I3, pu, eu, e3⟩ => ?_
  subst eu e3
  refine thn (hst.run pins s3 σ H3 (fun o H4 => o = some (-1) ∧ H4 = H3) I3 ⟨1, rfl, -1, rfl, rfl, rfl⟩) fun vs s4 ⟨o, H4, I4, ps, eo, e4⟩ => ?_
  subst eo e4
  have I5 : Inv X pins σ H4 { s4 with heap := s4.heap.push { cls := .type "slice", data := .fields #[vl, vu, vs] } } := I4.kept (t' := s4.toks) fun b ob q => Heap.get?_push_of_some _ q
  rcases q1 with ⟨a, xs, ex, hx, q⟩ | ⟨z, ex, hz, q⟩
  · subst ex
    cases r1
    obtain ⟨its, r, ht, hz⟩ := I5.list hx
    have hlen := r.length
    show wpAny (model X.prog X.w) X.A (subscriptTail e (.Slice none none (some (.UnaryOp .USub (.Constant (.int 1) k p1) p2)) p3) (.ref a) (.ref s4.heap.objs.size)) (EP X pins σ Q) X.xe { s4 with heap := s4.heap.push { cls := .type "slice", data := .fields #[vl, vu, vs] } }
    refine tail_any (ops := [.ref a, .ref s4.heap.objs.size]) ht.isList.typeIs (PySem.slot_list_getitem.lookup) ?_ (by with_unfolding_all rfl)
    refine wpAny_getItem_list_slice ht.isList (Heap.IsSliceOf.new _ vl vu vs) pl pu ps (by decide) ?_ (by rw [List.size_toArray]; omega)
    rw [PySem.W.krv_pick]
    refine ⟨.ref _, _, I5.laid (t' := s4.toks) (o := .lst xs.reverse) (fun b ob q => Heap.get?_push_of_some _ q) (Nat.le_refl _) ?_, rfl, q _ (I5.hok.fresh (Nat.le_refl _))⟩
    exact ⟨by rw [List.length_reverse]; exact hz, _, 0, r.reverse, Heap.get?_push_size _ rfl⟩
  · subst ex
    obtain ⟨t, rfl⟩ := r1
    cases ps with
    | int i tk =>
    cases pl
    cases pu
    show wpAny (model X.prog X.w) X.A (subscriptTail e (.Slice none none (some (.UnaryOp .USub (.Constant (.int 1) k p1) p2)) p3) (.str z t) (.ref s4.heap.objs.size)) (EP X pins σ Q) X.xe { s4 with heap := s4.heap.push { cls := .type "slice", data := .fields #[Value.none, Value.none, .int (-1) tk] } }
    refine tail_any (ops := [.str z t, .ref s4.heap.objs.size]) (typeIs_str _ _ _) F.slot_str_getitem.lookup ?_ (by with_unfolding_all rfl)
    refine wpAny_getItem_str_slice (l := none) (u := none) (st := some (-1, tk)) ⟨_, Heap.get?_push_size _ rfl, rfl, rfl⟩ rfl ?_
    show Made.post (if ((-1 : Int) == 1 && (Builtin.Str.strSliceIndices none none (-1) z.length).length == z.length) = true then Made.val (.str z t)
      else Made.str ⟨((Builtin.Str.strSliceIndices none none (-1) z.length).filterMap (z.cps[·]?)).toArray⟩) (EP X pins σ Q) _
    rw [if_neg (by simp), sliceIx_rev, List.filterMap_reverse, show z.length = z.cps.size from rfl, PySem.W.krv_all]
    refine ⟨?_, .str _, H4, I5.tok _, ⟨_, rfl⟩, q⟩
    show (z.cps.toList.reverse.toArray).size ≤ sizeLine
    rw [List.size_toArray, List.length_reverse, Array.length_toList]
    exact hz
theorem snd_rev (hK : X.K = M.K) {a : E} {ea : Expr} {k : Nat} {p1 p2 p3 : Pos} (ha : PE X ea (tE M ex W cal a)) :
    PE X (.Subscript ea (.Slice none none (some (.UnaryOp .USub (.Constant (.int 1) k p1) p2)) p3) pos) (tE M ex W cal (.rev a)) := by
  refine PE.imp (pe_revS ha) fun σ H Q ⟨G, H0, s, S, hs, hr, hp⟩ => ?_
  unfold evalE at hp
  refine ⟨G, H0, s, S, hs, hr, hp.bind .refl fun x S1 G1 H1 y _ e1 r1 q1 hp => ?_⟩
  obtain ⟨v, fl⟩ := x
  cases v with
  | lst xs =>
    obtain ⟨p, us, rfl, k1, k2⟩ := q1.rdb.lst r1
    refine .inl ⟨p, us, rfl, .inl (.inl k1), fun p np => ?_⟩
    exact hp.fin (ext_new e1 np) (hrel_new r1 np) (own_lst r1 e1.back np k2.reverse)
  | str z =>
    cases q1.rdb.str
    have hp : Post M ex W G H (liftO S1 (if z.length ≤ LINE then some (.str ⟨z.cps.toList.reverse.toArray⟩, .frz) else none)) (rR M) Q := hp
    obtain ⟨c, hc, hp⟩ := post_some hp
    obtain ⟨h1, rfl⟩ := if_some hc
    exact .inr ⟨z, rfl, by rw [line_eq]; exact h1, hp.fin e1 r1 (.str _)⟩
  | _ => exact hp.elim
end
end Sq

/-! expressions: built-ins, methods -/
namespace Sq
open PySem PySem.Spec PyProof.Rows L2

/-! ### how long repr's text is -/
theorem listText_len (ts : List Str) : (listText ts).length ≤ 3 + piled ts := by
  cases ts with
  | nil => decide
  | cons t r =>
    have h := textFrom_length_pos r 1 (("[" : Str) ++ (if (0 : Nat) > 0 then ", " else "" : String) ++ t) (Nat.succ_pos 0)
    have e : ((("[" : Str) ++ (if (0 : Nat) > 0 then ", " else "" : String) ++ t)).length = 1 + t.length := by
      rw [strLen_append, strLen_append]; rfl
    have hX : (listText (t :: r)).length = (textFrom 0 "[" (t :: r)).length + 1 := by
      show (textFrom 0 "[" (t :: r) ++ "]").length = _
      rw [strLen_append]; rfl
    have hY : (textFrom 0 "[" (t :: r)).length = (textFrom 1 (("[" : Str) ++ (if (0 : Nat) > 0 then ", " else "" : String) ++ t) r).length := rfl
    rw [hX, hY, h, e, piled_cons]; omega
theorem tupleText_len (ts : List Str) : (tupleText ts).length ≤ 3 + piled ts := by
  unfold tupleText
  rw [strLen_append, strLen_append]
  have e1 : ((("(" : String) : Str)).length = 1 := rfl
  have e3 : (((if ts.length == 1 then ",)" else ")" : String) : Str)).length ≤ 2 := by split <;> decide
  rw [e1]
  by_cases h : ts = []
  · subst h; decide
  · have := join_length_add ts h
    omega
mutual
theorem shown_len : ∀ d : PyData, d.showable = true → d.canLay0 = true → d.shown.length ≤ wtD d
  | .none, _, _ => by decide
  | .bool b, _, _ => by cases b <;> decide
  | .int i, h, _ => by
    have h1 : i.natAbs.log2 < 1920 := of_decide_eq_true (by simpa [PyData.showable] using h)
    have h2 := lt_two_pow_of_log2_lt h1
    have h3 : i.natAbs < 10 ^ 580 := Nat.lt_of_lt_of_le h2 (by decide +kernel)
    have h4 := int_text_length_le10 (k := 580) (by decide) h3
    show (Str.ofString (toString i)).length ≤ 600
    rw [PySem.ofString_length]; omega
  | .str x, _, h => by
    have h1 : PyData.strOk x = true := by simpa [PyData.canLay0] using h
    refine StrLaws.reprText_len x fun c hc => ?_
    unfold PyData.strOk at h1
    rw [Array.all_eq_true_iff_forall_mem] at h1
    have h2 := of_decide_eq_true (h1 c (Array.mem_toList_iff.mp hc))
    exact Nat.lt_trans h2 (by decide)
  | .list xs, h, k => by
    have h1 := shown_lens xs (by simpa [PyData.showable] using h) (by simpa [PyData.canLay0] using k)
    have h2 := listText_len (PyData.shownAll xs)
    show (listText (PyData.shownAll xs)).length ≤ 3 + wtDs xs
    omega
  | .tuple xs, h, k => by
    have h1 := shown_lens xs (by simpa [PyData.showable] using h) (by simpa [PyData.canLay0] using k)
    have h2 := tupleText_len (PyData.shownAll xs)
    show (tupleText (PyData.shownAll xs)).length ≤ 3 + wtDs xs
    omega
  | .dict _, _, k => by cases k
theorem shown_lens : ∀ xs : List PyData, PyData.showableAll xs = true → PyData.canLayAll0 xs = true → piled (PyData.shownAll xs) ≤ wtDs xs
  | [], _, _ => Nat.le_refl _
  | x :: xs, h, k => by
    rw [PyData.showableAll, Bool.and_eq_true] at h
    rw [PyData.canLayAll0, Bool.and_eq_true] at k
    have h1 := shown_len x h.1 k.1
    have h2 := shown_lens xs h.2 k.2
    show piled (x.shown :: PyData.shownAll xs) ≤ wtD x + 2 + wtDs xs
    rw [piled_cons]; omega
end
mutual
theorem noDict : ∀ d : PyData, d.canLay0 = true → d.hasDict = false
  | .none, _ => rfl
  | .bool b, _ => rfl
  | .int i, _ => rfl
  | .str x, _ => rfl
  | .list xs, k => noDicts xs (by simpa [PyData.canLay0] using k)
  | .tuple xs, k => noDicts xs (by simpa [PyData.canLay0] using k)
  | .dict _, k => by cases k
theorem noDicts : ∀ xs : List PyData, PyData.canLayAll0 xs = true → PyData.hasDictAll xs = false
  | [], _ => rfl
  | x :: xs, k => by
    rw [PyData.canLayAll0, Bool.and_eq_true] at k
    show (x.hasDict || PyData.hasDictAll xs) = false
    rw [noDict x k.1, noDicts xs k.2]; rfl
end

section
variable {M : Mo} {ex : ExT} {W : XK} {cal : Calls} {X : Cx} {pos : Pos} {G : Gh} {H : Hp}
/-- a built-in's name and value -/
def biName : BI → Str
  | .len => "len" | .tuple => "tuple" | .list => "list" | .int => "int" | .abs => "abs" | .all => "all" | .any => "any" | .sum => "sum" | .min1 => "min" | .max1 => "max" | .min2 => "min" | .max2 => "max" | .repr => "repr" | .str => "str"
  | .sorted => "sorted" | .sortedRev => "sorted" | .setLen => "len" | .setSorted => "sorted" | .divmod => "divmod" | .range1 => "range" | .range2 => "range"
def biVal : BI → Value
  | .len => .builtin "len" | .tuple => .type "tuple" | .list => .type "list" | .int => .type "int" | .abs => .builtin "abs" | .all => .builtin "all" | .any => .builtin "any" | .sum => .builtin "sum"
  | .min1 => .builtin "min" | .max1 => .builtin "max" | .min2 => .builtin "min" | .max2 => .builtin "max" | .repr => .builtin "repr" | .str => .type "str"
  | .sorted => .builtin "sorted" | .sortedRev => .builtin "sorted" | .setLen => .builtin "len" | .setSorted => .builtin "sorted" | .divmod => .builtin "divmod" | .range1 => .type "range" | .range2 => .type "range"
def rBif (M : Mo) (ex : ExT) (W : XK) (b : BI) : List V → Hp → VK → Prop := fun xs H Q => ∃ G0 H0 G S as, Ext G0 H0 G H ∧ HRel M G H S ∧ RdbAll M G H as xs ∧ Post M ex W G0 H0 (liftO S (bifV b as)) (rR M) Q
theorem RdbAll.one {a : PV} {xs : List V} (h : RdbAll M G H [a] xs) : ∃ x, xs = [x] ∧ Rdb M G H a x := by
  cases h with
  | cons h t => cases t; exact ⟨_, rfl, h⟩
theorem RdbAll.two {a b : PV} {xs : List V} (h : RdbAll M G H [a, b] xs) : ∃ x y, xs = [x, y] ∧ Rdb M G H a x ∧ Rdb M G H b y := by
  cases h with
  | cons h t =>
    cases t with
    | cons h2 t => cases t; exact ⟨_, _, rfl, h, h2⟩
theorem reps_bls : ∀ {xs : List PV} {vs : List V} {bs : List Bool}, Reps M G xs vs → blsP xs = some bs → vs = bs.map V.bl
  | _, _, _, .nil, e => by cases e; rfl
  | _, _, _, .cons (x := x) (xs := xs) h t, e => by
    cases x with
    | bl b =>
      cases h
      unfold blsP at e
      cases q : blsP xs with
      | none => rw [q] at e; cases e
      | some cs =>
        rw [q] at e
        cases e
        rw [reps_bls t q]; rfl
    | _ => cases e
theorem reps_ints : ∀ {xs : List PV} {vs : List V} {bs : List Int}, Reps M G xs vs → intsP xs = some bs → vs = bs.map V.int
  | _, _, _, .nil, e => by cases e; rfl
  | _, _, _, .cons (x := x) (xs := xs) h t, e => by
    cases x with
    | int b =>
      cases h
      unfold intsP at e
      cases q : intsP xs with
      | none => rw [q] at e; cases e
      | some cs =>
        rw [q] at e
        cases e
        rw [reps_ints t q]; rfl
    | _ => cases e
theorem reps_strs : ∀ {xs : List PV} {vs : List V} {bs : List Str}, Reps M G xs vs → strsP xs = some bs → vs = bs.map V.str
  | _, _, _, .nil, e => by cases e; rfl
  | _, _, _, .cons (x := x) (xs := xs) h t, e => by
    cases x with
    | str b =>
      cases h
      unfold strsP at e
      cases q : strsP xs with
      | none => rw [q] at e; cases e
      | some cs =>
        rw [q] at e
        cases e
        rw [reps_strs t q]; rfl
    | _ => cases e
theorem map_some {α β : Type} {o : Option α} {f : α → β} {c : β} (h : o.map f = some c) : ∃ k, o = some k ∧ c = f k := by
  cases o with
  | none => cases h
  | some k => cases h; exact ⟨k, rfl, rfl⟩

theorem cr_repr (hK : X.K = M.K) (hg : X.A.guards = some []) (hu : X.A.units + 66 < cLine) : CallR X (.builtin "repr") (rBif M ex W .repr) := by
  intro pins s σ H xs us Q I r ⟨G0, H0, G, S, as, e, hr, ra, hp⟩
  obtain ⟨c, hc, hp⟩ := post_some hp
  match as, ra, hc with
  | [v], ra, hc =>
    obtain ⟨x, rfl, rx⟩ := ra.one
    obtain ⟨u, rfl, ru⟩ := vals1 r
    have hc : (match v.toD with | some d => if d.showable = true ∧ SeqAt.shaped d = true ∧ wtD d ≤ LINE then some (PV.str d.shown, Fl.frz) else none | none => none) = some c := hc
    cases hd : v.toD with
    | none => rw [hd] at hc; cases hc
    | some d =>
      rw [hd] at hc
      obtain ⟨⟨h1, h2, h3⟩, rfl⟩ := if_some hc
      have hl := shown_len d h1 (SeqAt.canLay_of_shaped h2)
      have hdp := SeqAt.depth_of_shaped h2
      have hsz : d.shown.length ≤ sizeLine := by rw [line_eq]; omega
      obtain ⟨as, hrd⟩ := Dp.reads I d x u (hK ▸ rx.dp hr hd) ru
      have hq : Q (.str d.shown) H := hp.fin e hr (.str _)
      cases hrd with
      | none => exact PySem.P.repr_of_none ⟨.str _, H, I.tok _, ⟨_, rfl⟩, hq⟩
      | bool b => exact PySem.P.repr_of_bool ⟨.str _, H, I.tok _, ⟨_, rfl⟩, by cases b <;> exact hq⟩
      | int i t => exact PySem.P.repr_of_int (by simpa [PyData.showable] using h1) ⟨.str _, H, I.tok _, ⟨_, rfl⟩, hq⟩
      | str y t => exact PySem.P.repr_of_str ⟨.str _, H, I.tok _, ⟨_, rfl⟩, hq⟩ hsz
      | list a1 a2 a3 a4 => exact repr_of_reads' (.list a1 a2 a3 a4) h1 (fun z => by rw [noDict _ (SeqAt.canLay_of_shaped h2)] at z; cases z) hg (by omega) (fun _ _ q => q) (fun h' t' tk kp => ⟨.str _, H, I.kept kp, ⟨t', rfl⟩, hq⟩) hsz
      | tuple a1 a2 a3 a4 => exact repr_of_reads' (.tuple a1 a2 a3 a4) h1 (fun z => by rw [noDict _ (SeqAt.canLay_of_shaped h2)] at z; cases z) hg (by omega) (fun _ _ q => q) (fun h' t' tk kp => ⟨.str _, H, I.kept kp, ⟨t', rfl⟩, hq⟩) hsz
      | dict a1 a2 a3 a4 a5 => exact absurd (SeqAt.canLay_of_shaped h2) (by simp [PyData.canLay0])
  | [], ra, hc => cases hc
  | _ :: _ :: _, ra, hc => cases hc
def notStar : Expr → Bool
  | .Starred .. => false
  | _ => true
theorem star_cons {e : Expr} {es : List Expr} {env : PySem.Env} (h : notStar e = true) : starEach (e :: es) env = (false, eval e env) :: starEach es env := by
  cases e <;> first | rfl | cases h
theorem star_none : ∀ {es : List Expr} {env : PySem.Env} {pos : Pos}, es.all notStar = true → (backTo pos (starEach es env)).any (·.1) = false
  | [], _, _, _ => rfl
  | e :: es, env, pos, h => by
    rw [List.all_cons, Bool.and_eq_true] at h
    rw [star_cons h.1]
    have ih := star_none (es := es) (env := env) (pos := pos) h.2
    show ((false || (backTo pos (starEach es env)).any (·.1))) = false
    rw [ih]; rfl
theorem bif1 {b : BI} {as : List PV} {c : Arg} (h : bifV b as = some c) (hb : b ≠ .min2) (hb2 : b ≠ .max2) (hb3 : b ≠ .divmod) : ∃ a, as = [a] := by
  match as, h with
  | [], h => cases b <;> cases h
  | [a], h => exact ⟨a, rfl⟩
  | a :: c :: d, h =>
    cases b <;> first | exact absurd rfl hb | exact absurd rfl hb2 | exact absurd rfl hb3 | (cases a <;> cases h)
theorem cr_bif (hK : X.K = M.K) (hg : X.A.guards = some []) (hu : X.A.units + 66 < cLine) (hc : X.calm = true) (b : BI) : CallR X (biVal b) (rBif M ex W b) := by
  by_cases hb : b = .repr
  · subst hb; exact cr_repr hK hg hu
  intro pins s σ H xs us Q I r ⟨G0, H0, G, S, as, e, hr, ra, hp⟩
  obtain ⟨c, hcc, hp⟩ := post_some hp
  unfold bifV at hcc
  split at hcc
  · -- len of a list
    obtain ⟨x, rfl, rx⟩ := ra.one
    cases hcc
    obtain ⟨p, vs, rfl, k1, k2⟩ := rx.lst hr
    exact call_len pins s σ H _ us Q I r ⟨_, _, rfl, .inl ⟨vs, .inl (.inl k1), k2.length⟩, hp.fin e hr (.int _)⟩
  · obtain ⟨x, rfl, rx⟩ := ra.one
    cases hcc
    obtain ⟨p, vs, rfl, k1, k2⟩ := rx.rol hr
    exact call_len pins s σ H _ us Q I r ⟨_, _, rfl, .inl ⟨vs, by rw [hK]; exact k1, k2.length⟩, hp.fin e hr (.int _)⟩
  · obtain ⟨x, rfl, rx⟩ := ra.one
    cases hcc
    obtain ⟨p, vs, rfl, k1, k2⟩ := rx.tup hr
    exact call_len pins s σ H _ us Q I r ⟨_, _, rfl, .inr ⟨vs, by rw [hK]; exact k1, k2.length⟩, hp.fin e hr (.int _)⟩
  · obtain ⟨x, rfl, rx⟩ := ra.one
    obtain ⟨h1, rfl⟩ := if_some hcc
    cases rx.str
    exact call_len pins s σ H _ us Q I r ⟨_, _, rfl, ⟨by rw [line_eq]; exact h1, rfl⟩, hp.fin e hr (.int _)⟩
  · -- tuple of a list
    obtain ⟨x, rfl, rx⟩ := ra.one
    cases hcc
    obtain ⟨p, vs, rfl, k1, k2⟩ := rx.lst hr
    refine call_tuple_of pins s σ H _ us Q I r ⟨p, vs, rfl, .inl ⟨.inl (.inl k1), fun l np => ?_⟩⟩
    obtain ⟨G3, e3, r3, q3, _⟩ := rep_tup hr e np k2
    exact hp.fin e3 r3 q3
  · obtain ⟨x, rfl, rx⟩ := ra.one
    cases hcc
    obtain ⟨p, vs, rfl, k1, k2⟩ := rx.tup hr
    exact call_tuple_of pins s σ H _ us Q I r ⟨p, vs, rfl, .inr ⟨by rw [hK]; exact k1, hp.fin e hr rx.tupRep⟩⟩
  · -- list
    obtain ⟨x, rfl, rx⟩ := ra.one
    cases hcc
    obtain ⟨p, vs, rfl, k1, k2⟩ := rx.lst hr
    exact call_list_of pins s σ H _ us Q I r ⟨p, vs, rfl, .inl (.inl (.inl k1)), fun l np => hp.fin (ext_new e np) (hrel_new hr np) (own_lst hr e.back np k2)⟩
  · obtain ⟨x, rfl, rx⟩ := ra.one
    cases hcc
    obtain ⟨p, vs, rfl, k1, k2⟩ := rx.tup hr
    exact call_list_of pins s σ H _ us Q I r ⟨p, vs, rfl, .inr (by rw [hK]; exact k1), fun l np => hp.fin (ext_new e np) (hrel_new hr np) (own_lst hr e.back np k2)⟩
  · -- int
    obtain ⟨x, rfl, rx⟩ := ra.one
    cases hcc
    cases rx.int
    exact call_int1 pins s σ H _ us Q I r (.inl ⟨_, rfl, hp.fin e hr (.int _)⟩)
  · obtain ⟨x, rfl, rx⟩ := ra.one
    cases hcc
    cases rx.int
    exact call_abs pins s σ H _ us Q I r ⟨_, rfl, hp.fin e hr (.int _)⟩
  · -- all
    obtain ⟨x, rfl, rx⟩ := ra.one
    obtain ⟨bs, h1, rfl⟩ := map_some hcc
    obtain ⟨p, vs, rfl, k1, k2⟩ := rx.lst hr
    cases reps_bls k2 h1
    exact cr_all hc pins s σ H _ us Q I r ⟨p, bs, rfl, .inl (.inl k1), hp.fin e hr (.bl _)⟩
  · obtain ⟨x, rfl, rx⟩ := ra.one
    obtain ⟨bs, h1, rfl⟩ := map_some hcc
    obtain ⟨p, vs, rfl, k1, k2⟩ := rx.lst hr
    cases reps_bls k2 h1
    exact cr_any hc pins s σ H _ us Q I r ⟨p, bs, rfl, .inl (.inl k1), hp.fin e hr (.bl _)⟩
  · obtain ⟨x, rfl, rx⟩ := ra.one
    obtain ⟨bs, h1, rfl⟩ := map_some hcc
    obtain ⟨p, vs, rfl, k1, k2⟩ := rx.lst hr
    cases reps_ints k2 h1
    exact cr_sum hc pins s σ H _ us Q I r ⟨p, bs, rfl, .inl (.inl k1), hp.fin e hr (.int _)⟩
  · obtain ⟨x, y, rfl, rx, ry⟩ := ra.two
    cases hcc
    cases rx.int; cases ry.int
    exact call_min2 hc pins s σ H _ us Q I r ⟨_, _, rfl, hp.fin e hr (.int _)⟩
  · obtain ⟨x, y, rfl, rx, ry⟩ := ra.two
    cases hcc
    cases rx.int; cases ry.int
    exact call_max2 hc pins s σ H _ us Q I r ⟨_, _, rfl, hp.fin e hr (.int _)⟩
  · exact absurd rfl hb
  · obtain ⟨x, y, rfl, rx, ry⟩ := ra.two
    obtain ⟨h1, rfl⟩ := if_some hcc
    cases rx.int; cases ry.int
    refine call_divmod pins s σ H _ us Q I r ⟨_, _, rfl, h1, fun p np => ?_⟩
    obtain ⟨G3, e3, r3, q3, _⟩ := rep_tup hr e np (.cons (.int _) (.cons (.int _) .nil))
    exact hp.fin e3 r3 q3
  · cases hcc
theorem bi_boot (b : BI) : bootBuiltins (biName b) = some (biVal b) := by cases b <;> decide +kernel
theorem bi_name (b : BI) : biName b ≠ "__name__" ∧ (biName b == ("__debug__" : Str)) = false := by cases b <;> exact ⟨by decide, by decide⟩
theorem snd_bif (hK : X.K = M.K) (hg : X.A.guards = some []) (hu : X.A.units + 66 < cLine) (hc : X.calm = true) {b : BI} {as : List E} {ea : Expr} {es : List Expr} {p : Pos} (hs : PA X (ea :: es) (tEs M ex W cal as))
    (hgl : Gl X (biName b)) (hm : X.mg (biName b) = none) (hn : notStar ea = true) (hns : es.all notStar = true) : PE X (.Call (.Name (biName b) p) (ea :: es) [] pos) (tE M ex W cal (.bif b as)) := by
  have h := cr_bif (ex := ex) (W := W) hK hg hu hc b
  have hv := bi_boot b
  have hb := bi_name b
  generalize hx : biVal b = f at h hv
  have go : ∀ {t : TE}, t = tCB (rBif M ex W b) (tEs M ex W cal as) → PE X (.Call (.Name (biName b) p) (ea :: es) [] pos) t → PE X (.Call (.Name (biName b) p) (ea :: es) [] pos) (tE M ex W cal (.bif b as)) := by
    intro t et ht
    subst et
    refine PE.imp ht fun σ H Q ⟨G, H0, s, S, hs, hr, hp⟩ => ?_
    unfold evalE at hp
    refine ⟨G, H0, s, S, hs, hr, hp.bind .refl fun xs S1 G1 H1 ys _ e1 r1 q1 hp => ?_⟩
    exact ⟨G, H, G1, S1, _, e1, r1, q1.rdb, hp⟩
  cases f with
  | builtin id => exact go rfl (pe_callB h hgl hm hv hs hb.1 hb.2 (star_cons hn) (star_none hns))
  | type T => exact go rfl (pe_callTy h hgl hm hv hs hb.1 hb.2 (star_cons hn) (star_none hns))
  | _ => cases b <;> cases hx

/-! ### methods of built-in types -/
def meName : ME → Str
  | .index => "index" | .count => "count" | .join => "join" | .get1 => "get"
def rMth (M : Mo) (ex : ExT) (W : XK) (m : ME) : V → List V → Hp → VK → Prop := fun x xs H Q => ∃ G0 H0 G S a as, Ext G0 H0 G H ∧ HRel M G H S ∧ Rdb M G H a x ∧ RdbAll M G H as xs ∧ Post M ex W G0 H0 (liftO S (methV m a as)) (rR M) Q
/-- a method of a value whose type is known when it comes -/
theorem pe_methG {o e : Expr} {es : List Expr} {to : TE} {t : TA} {name : Str} {apos cpos : Pos} {r : V → List V → Hp → VK → Prop} (ho : PE X o to) (ha : PA X (e :: es) t)
    (hbase : attributeBase o name X.env (eval o X.env) = eval o X.env) (hfew : es.length < 20) (hn : notStar e = true) (hns : es.all notStar = true) (hline : (apos.endLine == cpos.line) = true) :
    PE X (.Call (.Attribute o name apos) (e :: es) [] cpos) (fun σ H Q => to σ H fun x H1 => (∃ T id, PlainAttrs T ∧ PySem.Slot T name id ∧ typeOf (.builtin id) = pure (.type "method_descriptor") ∧ MtR X id r ∧ tyV X.K T x H1) ∧ t σ H1 fun xs H2 => r x xs H2 Q) := by
  refine ⟨fun pins s σ H Q I h => ?_⟩
  have hs := star_cons (es := es) (env := X.env) hn
  have hf : ∀ {es : List Expr}, es.all notStar = true → (backTo cpos (starEach es X.env)).all (fun x => !x.1) = true := by
    intro es
    induction es with
    | nil => intro _; rfl
    | cons e es ih =>
      intro h
      rw [List.all_cons, Bool.and_eq_true] at h
      rw [star_cons h.1]
      show (!false && (backTo cpos (starEach es X.env)).all (fun x => !x.1)) = true
      rw [ih h.2]; rfl
  refine wpAny_Call_method_late hbase ?_ hline rfl (thn (ho.run pins s σ H _ I h) fun v s1 ⟨x, H1, I1, r1, ⟨T, id, pa, slot, hty, hm, ty⟩, q1⟩ => ?_)
  · rw [hf (es := e :: es) (by rw [List.all_cons, hn, hns]; rfl)]
    show (true && true && decide _) = true
    rw [Bool.true_and, Bool.true_and]
    refine decide_eq_true ?_
    show (es.length + 1) + 0 + 0 < 30
    omega
  · obtain ⟨h1, h2⟩ := tyV_is I1 r1 ty
    refine ⟨T, id, pa, slot, hty, h1, h2, ?_⟩
    have hA := ha.run cpos pins s1 σ H1 _ I1 q1
    rw [hs] at hA ⊢
    refine Calls.callWith_builtin (by show (false || (backTo cpos (starEach es X.env)).any (·.1)) = false; rw [star_none hns] <;> rfl) (Calls.evalArgs_plain ?_)
    exact thn hA fun us s2 ⟨vs, H2, I2, r2, q2⟩ => hm pins s2 σ H2 x vs v us Q I2 r1 r2 q2
theorem indexF_spec {x : PV} : ∀ {ys : List PV} {k j : Nat}, indexF x ys k = some j → k ≤ j ∧ ∃ z, ys[j - k]? = some z ∧ eqF z x = true ∧ ∀ (m : Nat) (z' : PV), m < j - k → ys[m]? = some z' → eqF z' x = false
  | [], _, _, h => by cases h
  | y :: ys, k, j, h => by
    unfold indexF at h
    by_cases he : eqF y x = true
    · rw [if_pos he] at h
      cases h
      exact ⟨Nat.le_refl _, y, by rw [Nat.sub_self]; rfl, he, fun m z' hm => by omega⟩
    · rw [if_neg he] at h
      obtain ⟨h1, z, h2, h3, h4⟩ := indexF_spec h
      have e : j - k = (j - (k + 1)) + 1 := by omega
      refine ⟨by omega, z, by rw [e]; simpa using h2, h3, fun m z' hm hz => ?_⟩
      cases m with
      | zero => simp at hz; subst hz; simpa using he
      | succ m => exact h4 m z' (by omega) (by simpa using hz)
theorem indexD_spec {x : PyData} : ∀ {ys : List PyData} {k j : Nat}, indexD x ys k = some j → k ≤ j ∧ ∃ z, ys[j - k]? = some z ∧ PyData.eqv z x = true ∧ ∀ (m : Nat) (z' : PyData), m < j - k → ys[m]? = some z' → PyData.eqv z' x = false
  | [], _, _, h => by cases h
  | y :: ys, k, j, h => by
    unfold indexD at h
    by_cases he : PyData.eqv y x = true
    · rw [if_pos he] at h
      cases h
      exact ⟨Nat.le_refl _, y, by rw [Nat.sub_self]; rfl, he, fun m z' hm => by omega⟩
    · rw [if_neg he] at h
      obtain ⟨h1, z, h2, h3, h4⟩ := indexD_spec h
      have e : j - k = (j - (k + 1)) + 1 := by omega
      refine ⟨by omega, z, by rw [e]; simpa using h2, h3, fun m z' hm hz => ?_⟩
      cases m with
      | zero => simp at hz; subst hz; simpa using he
      | succ m => exact h4 m z' (by omega) (by simpa using hz)
theorem mtr_join (hK : X.K = M.K) : MtR X "str.join" (rMth M ex W .join) := by
  intro pins s σ H x xs v us Q I rx rs ⟨G0, H0, G, S, a, as, e, hr, ra, rb, hp⟩
  obtain ⟨c, hc, hp⟩ := post_some hp
  unfold methV at hc
  split at hc
  · rename_i sep ys h
    obtain ⟨y, rfl, ry⟩ := rb.one
    split at hc
    · rename_i zs hz
      obtain ⟨h1, rfl⟩ := if_some hc
      cases ra.str
      obtain ⟨p, vs, rfl, k1, k2⟩ := ry.lst hr
      cases reps_strs k2 hz
      refine mt_join pins s σ H _ _ v us Q I rx rs ⟨_, p, zs, rfl, rfl, .inl (.inl (.inl k1)), h1, ?_⟩
      rw [TL.join_eq]
      exact hp.fin e hr (.str _)
    · cases hc
  · rename_i h; cases h
  · cases hc
theorem mtr_index (hK : X.K = M.K) (hu : X.A.units + 65 < cLine) : MtR X "list.index" (rMth M ex W .index) := by
  intro pins s σ H x xs v us Q I rx rs ⟨G0, H0, G, S, a, as, e, hr, ra, rb, hp⟩
  obtain ⟨c, hc, hp⟩ := post_some hp
  unfold methV at hc
  split at hc
  · rename_i h; cases h
  · rename_i zs y h
    obtain ⟨y', rfl, ry⟩ := rb.one
    obtain ⟨k, hk, rfl⟩ := map_some hc
    obtain ⟨p, vs, rfl, k1, k2⟩ := ra.lst hr
    unfold indexOf at hk
    by_cases hf : flat y = true ∧ zs.all flat = true
    · rw [if_pos hf] at hk
      obtain ⟨_, z, h2, h3, h4⟩ := indexF_spec hk
      rw [Nat.sub_zero] at h2 h4
      obtain ⟨w, h5, h6⟩ := k2.get h2
      have fz : flat z = true := List.all_eq_true.mp hf.2 z (List.mem_of_getElem? h2)
      refine mt_index pins s σ H _ _ v us Q I rx rs ⟨p, vs, y', k, w, rfl, rfl, .inl (.inl k1), (ry.flat hf.1).1, flat_all k2 hf.2, h5, ?_, fun m z' hm hz' => ?_, hp.fin e hr (.int _)⟩
      · rw [(Rdb.flat (H := H) fz (.inl h6)).2 hf.1 ry]; exact h3
      · obtain ⟨u, hu1, hu2⟩ : ∃ u, zs[m]? = some u ∧ Rep M G u z' := by
          have hl : m < zs.length := by rw [k2.length]; exact (List.getElem?_eq_some_iff.mp hz').1
          obtain ⟨w2, q1, q2⟩ := k2.get (List.getElem?_eq_getElem hl)
          rw [hz'] at q1; cases q1
          exact ⟨_, List.getElem?_eq_getElem hl, q2⟩
        have fu : flat u = true := List.all_eq_true.mp hf.2 u (List.mem_of_getElem? hu1)
        rw [(Rdb.flat (H := H) fu (.inl hu2)).2 hf.1 ry]
        exact h4 m u hm hu1
    · rw [if_neg hf, if_pos rfl] at hk
      split at hk
      · rename_i d ds h1 h2
        by_cases hsh : SeqAt.shaped d = true ∧ SeqAt.shaped (.list ds) = true
        · rw [if_pos hsh] at hk
          obtain ⟨_, z, h3, h4, h5⟩ := indexD_spec hk
          rw [Nat.sub_zero] at h3 h5
          exact mt_indexD hu pins s σ H _ _ v us Q I rx rs ⟨p, y', d, ds, k, z, rfl, rfl, hK ▸ .lst (.inl (.inl k1)) (Rep.dps hr zs vs ds k2 h2), hK ▸ ry.dp hr h1, hsh.2, hsh.1, h3, h4, h5, hp.fin e hr (.int _)⟩
        · rw [if_neg hsh] at hk; cases hk
      · cases hk
  · cases hc
theorem tyV_lst {xs : List PV} {x : V} {S : Store} (hr : HRel M G H S) (h : Rdb M G H (.lst xs) x) : tyV X.K "list" x H := by
  obtain ⟨p, vs, rfl, k1, k2⟩ := h.lst hr
  exact .inl ⟨rfl, vs, .inl (.inl k1)⟩
theorem snd_mth (hK : X.K = M.K) (hu : X.A.units + 66 < cLine) {m : ME} {a : E} {as : List E} {ea eb : Expr} {es : List Expr} {apos : Pos} (ha : PE X ea (tE M ex W cal a)) (hs : PA X (eb :: es) (tEs M ex W cal as))
    (hbase : attributeBase ea (meName m) X.env (eval ea X.env) = eval ea X.env) (hfew : es.length < 20) (hn : notStar eb = true) (hns : es.all notStar = true) (hline : (apos.endLine == pos.line) = true) :
    PE X (.Call (.Attribute ea (meName m) apos) (eb :: es) [] pos) (tE M ex W cal (.mth m a as)) := by
  refine PE.imp (pe_methG (r := rMth M ex W m) ha hs hbase hfew hn hns hline) fun σ H Q ⟨G, H0, s, S, hs, hr, hp⟩ => ?_
  unfold evalE at hp
  refine ⟨G, H0, s, S, hs, hr, hp.bind .refl fun x S1 G1 H1 y _ e1 r1 q1 hp => ?_⟩
  by_cases ho : okRecv m x.1 = true
  · rw [if_pos ho] at hp
    refine ⟨?_, G1, H0, s, S1, hs.ext hr e1, r1, hp.bind e1 fun bs S2 G2 H2 ys _ e2 r2 q2 hp => ?_⟩
    · obtain ⟨v, fl⟩ := x
      cases m <;> cases v <;> first | (cases ho; done) | skip
      · exact ⟨"list", "list.index", PySem.F.plainAttrs_list, PySem.F.slot_list_index, PySem.F.type_list_index, mtr_index hK (by omega), tyV_lst r1 q1.rdb⟩
      · cases q1.rdb.str
        exact ⟨"str", "str.join", PySem.F.plainAttrs_str, PySem.F.slot_str_join, PySem.F.type_str_join, mtr_join hK, rfl⟩
    · exact ⟨G, H, G2, S2, x.1, _, e1.trans e2, r2, q1.rdb.ext r1 e2, q2.rdb, hp⟩
  · rw [if_neg ho] at hp; exact hp.elim
end
end Sq

/-! expressions: isinstance, comprehensions -/
namespace Sq
open PySem PySem.Spec PyProof.Rows L2
section
variable {M : Mo} {ex : ExT} {W : XK} {cal : Calls} {X : Cx} {pos : Pos} {G : Gh} {H : Hp} {S : Store}
def tyName : TY → String
  | .int => "int" | .bool => "bool" | .str => "str" | .tuple => "tuple" | .list => "list" | .dict => "dict"
def tyS (t : TY) : Str := Str.ofString (tyName t)
def pvTy : PV → String
  | .non => "NoneType" | .bl _ => "bool" | .int _ => "int" | .str _ => "str" | .tup _ => "tuple" | .lst _ => "list" | .dic _ => "dict" | _ => ""
theorem ty_boot (t : TY) : bootBuiltins (tyS t) = some (.type (tyName t)) := by cases t <;> decide +kernel
theorem ty_name (t : TY) : tyS t ≠ "__name__" ∧ (tyS t == ("__debug__" : Str)) = false := by cases t <;> exact ⟨by decide, by decide⟩
theorem kit_pv (v : PV) (t : TY) (h : isDatum v = true) : kitB (pvTy v) (tyName t) = some (isTy t v) := by
  cases v <;> first | (cases h; done) | skip
  all_goals (cases t <;> (simp only [pvTy, tyName, isTy]; decide +kernel))
theorem tyx_pv {v : PV} {x : V} (r : HRel M G H S) (h : Rdb M G H v x) (hd : isDatum v = true) : TyX M.K H x (.type (pvTy v)) := by
  cases v with
  | non => cases h.non; exact .base .non
  | bl _ => cases h.bl; exact .base (.bl _)
  | int _ => cases h.int; exact .base (.int _)
  | str _ => cases h.str; exact .base (.str _)
  | tup xs =>
    obtain ⟨p, vs, rfl, k1, k2⟩ := h.tup r
    rcases k1 with (k1 | ⟨o, k1⟩) | ⟨o, its, n, k1, k3, _⟩
    · exact .base (.tup k1)
    · exact .fTuple k1
    · exact .kTuple k1 k3
  | lst xs =>
    obtain ⟨p, vs, rfl, k1, k2⟩ := h.lst r
    exact .base (.lst k1)
  | dic _ =>
    rcases h with h | ⟨_, _, _, e, _⟩
    · cases h
    · cases e
  | _ => cases hd
theorem snd_isi (hK : X.K = M.K) {a : E} {t : TY} {ea : Expr} {p p2 : Pos} (ha : PE X ea (tE M ex W cal a)) (hgl : Gl X "isinstance") (hm : X.mg "isinstance" = none) (hgt : Gl X (tyS t)) (hmt : X.mg (tyS t) = none) (hn : notStar ea = true) :
    PE X (.Call (.Name "isinstance" p) [ea, .Name (tyS t) p2] [] pos) (tE M ex W cal (.isi a [t])) := by
  have hT : PE X (.Name (tyS t) p2) (tC (.ty (tyName t))) := pe_bltn hgt hmt (ty_boot t) (show RelV (.ty (tyName t)) (.type (tyName t)) from rfl) (ty_name t).1 (ty_name t).2
  refine PE.imp (pe_callB call_isi hgl hm (by decide +kernel) (pa_cons ha (pa_cons hT pa_nil) (star_cons hn)) (he := star_cons hn) (hpl := rfl)) fun σ H Q ⟨G, H0, s, S, hs, hr, hp⟩ => ?_
  unfold evalE at hp
  refine ⟨G, H0, s, S, hs, hr, hp.bind .refl fun x S1 G1 H1 y _ e1 r1 q1 hp => ?_⟩
  by_cases hd : isDatum x.1 = true
  · rw [if_pos hd] at hp
    refine ⟨y, _, _, _, isTy t x.1, rfl, .ty _, hK ▸ tyx_pv r1 q1.rdb hd, kit_ty (kit_pv x.1 t hd), ?_⟩
    have z : ([t].any fun t => isTy t x.1) = isTy t x.1 := by simp
    rw [z] at hp
    exact hp.fin e1 r1 (.bl _)
  · rw [if_neg hd] at hp; exact hp.elim
/-- a tuple of types -/
theorem pa_tys : ∀ (ts : List TY) (ps : List Pos), ps.length = ts.length → (∀ t ∈ ts, Gl X (tyS t) ∧ X.mg (tyS t) = none) →
    PA X ((ts.zip ps).map fun p => Expr.Name (tyS p.1) p.2) (fun σ H Q => Q (ts.map fun t => V.ty (tyName t)) H)
  | [], [], _, _ => pa_nil
  | t :: ts, p :: ps, hl, h => by
    have h1 := h t List.mem_cons_self
    exact pa_cons (pe_bltn h1.1 h1.2 (ty_boot t) (show RelV (.ty (tyName t)) (.type (tyName t)) from rfl) (ty_name t).1 (ty_name t).2) (pa_tys ts ps (by simpa using hl) fun t ht => h t (List.mem_cons_of_mem _ ht)) rfl
  | [], _ :: _, hl, _ => by cases hl
  | _ :: _, [], hl, _ => by cases hl
theorem paired_tys : ∀ ts : List TY, Paired ClsV (ts.map fun t => V.ty (tyName t)) (ts.map fun t => Value.type (tyName t))
  | [] => .nil
  | t :: ts => .cons (.ty _) (paired_tys ts)
theorem kit_any {v : PV} (hd : isDatum v = true) : ∀ ts : List TY, PySem.W.kitAny X.K (.type (pvTy v)) (ts.map fun t => Value.type (tyName t)) = some (ts.any fun t => isTy t v)
  | [] => kitAny_nil
  | t :: ts => by
    refine kitAny_cons (b := isTy t v) (kit_ty (kit_pv v t hd)) (fun e => ?_) (fun e => ?_)
    · rw [List.any_cons, e, Bool.false_or]; exact kit_any hd ts
    · rw [List.any_cons, e, Bool.true_or]
theorem snd_isiT (hK : X.K = M.K) {a : E} {ts : List TY} {ea : Expr} {p pt : Pos} {k : Nat} {ps : List Pos} (hlen : ps.length = ts.length) (hl : ts.length ≤ 10) (ha : PE X ea (tE M ex W cal a)) (hgl : Gl X "isinstance") (hm : X.mg "isinstance" = none)
    (ht : ∀ t ∈ ts, Gl X (tyS t) ∧ X.mg (tyS t) = none) (hn : notStar ea = true) :
    PE X (.Call (.Name "isinstance" p) [ea, .Tuple ((ts.zip ps).map fun p => Expr.Name (tyS p.1) p.2) k pt] [] pos) (tE M ex W cal (.isi a ts)) := by
  refine PE.imp (pe_callB call_isiT hgl hm (by decide +kernel) (pa_cons ha (pa_cons (pe_tup (pa_tys ts ps hlen ht)) pa_nil) (star_cons hn)) (he := star_cons hn) (hpl := rfl)) fun σ H Q ⟨G, H0, s, S, hs, hr, hp⟩ => ?_
  unfold evalE at hp
  refine ⟨G, H0, s, S, hs, hr, hp.bind .refl fun x S1 G1 H1 y _ e1 r1 q1 hp => ⟨?_, fun q np => ?_⟩⟩
  · rw [List.length_map, line_eq]; exact Nat.le_trans hl (by decide)
  · by_cases hd : isDatum x.1 = true
    · rw [if_pos hd] at hp
      have e2 : Ext G1 H1 G1 (upd H1 q (.tup (ts.map fun t => V.ty (tyName t)))) := ext_new .refl np
      exact ⟨y, q, _, _, _, _, rfl, upd_same, paired_tys ts, hK ▸ tyx_pv (hrel_new r1 np) (q1.rdb.ext r1 e2) hd, kit_any hd ts, hp.fin (e1.trans e2) (hrel_new r1 np) (.bl _)⟩
    · rw [if_neg hd] at hp; exact hp.elim
end
end Sq

/-! targets, what is walked, comprehensions -/
namespace Sq
open PySem PySem.Spec PyProof.Rows L2

section
variable {M : Mo} {ex : ExT} {W : XK} {cal : Calls} {X : Cx} {pos : Pos} {G G1 G2 : Gh} {H H0 H1 H2 : Hp} {S : Store}

/-! ### targets -/
mutual
def T.slots : T → List Nat
  | .nm i => [i]
  | .tp ts => T.slotss ts
def T.slotss : List T → List Nat
  | [] => []
  | t :: ts => t.slots ++ T.slotss ts
end
theorem wipe_set {σ : L2.St} {i : Nat} {x : Option V} : ∀ {vs : List Nat}, i ∈ vs → wipe (σ.set i x) vs = wipe σ vs
  | v :: vs, h => by
    unfold wipe
    by_cases hv : i ∈ vs
    · rw [wipe_set hv]
    · have e : i = v := by
        rcases List.mem_cons.mp h with e | e
        · exact e
        · exact absurd e hv
      subst e
      have comm : ∀ vs : List Nat, i ∉ vs → wipe (σ.set i x) vs = (wipe σ vs).set i x := by
        intro vs
        induction vs with
        | nil => intro _; rfl
        | cons w ws ih =>
          intro hn
          simp only [List.mem_cons, not_or] at hn
          unfold wipe
          rw [ih hn.2, List.set_comm _ _ hn.1]
      rw [comm vs hv, List.set_set]
theorem SRel.setF {s : Env} {σ : L2.St} {i : Nat} {v : PV} {x : V} (h : SRel M G H0 H s σ) (r : Rep M G v x) : SRel M G H0 H (s.set i (some (v, .frz))) (σ.set i (some x)) := by
  refine ⟨by rw [List.length_set, List.length_set]; exact h.len, fun j w fl q => ?_, fun j k w u a q1 q2 q3 q4 => ?_⟩
  · by_cases e : i = j
    · subst e
      by_cases hl : i < s.length
      · rw [List.getElem?_set_self hl] at q
        cases q
        exact ⟨x, by rw [List.getElem?_set_self (by rw [← h.len]; exact hl)], r⟩
      · rw [List.getElem?_eq_none (by rw [List.length_set]; omega)] at q; cases q
    · rw [List.getElem?_set_ne e] at q
      obtain ⟨y, h1, h2⟩ := h.val j w fl q
      exact ⟨y, by rw [List.getElem?_set_ne e]; exact h1, h2⟩
  · have ne : ∀ {j : Nat} {w : PV}, (s.set i (some (v, Fl.frz)))[j]? = some (some (w, .own)) → i ≠ j := fun {j w} q e => by
      subst e
      by_cases hl : i < s.length
      · rw [List.getElem?_set_self hl] at q; cases q
      · rw [List.getElem?_eq_none (by rw [List.length_set]; omega)] at q; cases q
    have n1 := ne q1
    have n2 := ne q2
    rw [List.getElem?_set_ne n1] at q1 q3
    rw [List.getElem?_set_ne n2] at q2 q4
    exact h.apart j k w u a q1 q2 q3 q4
theorem SRel.setN {s : Env} {σ : L2.St} {i : Nat} (h : SRel M G H0 H s σ) : SRel M G H0 H (s.set i none) (σ.set i none) := by
  refine ⟨by rw [List.length_set, List.length_set]; exact h.len, fun j w fl q => ?_, fun j k w u a q1 q2 q3 q4 => ?_⟩
  · have ne : i ≠ j := fun e => by
      subst e
      by_cases hl : i < s.length
      · rw [List.getElem?_set_self hl] at q; cases q
      · rw [List.getElem?_eq_none (by rw [List.length_set]; omega)] at q; cases q
    rw [List.getElem?_set_ne ne] at q
    obtain ⟨y, h1, h2⟩ := h.val j w fl q
    exact ⟨y, by rw [List.getElem?_set_ne ne]; exact h1, h2⟩
  · have ne : ∀ {j : Nat} {w : PV}, (s.set i none)[j]? = some (some (w, Fl.own)) → i ≠ j := fun {j w} q e => by
      subst e
      by_cases hl : i < s.length
      · rw [List.getElem?_set_self hl] at q; cases q
      · rw [List.getElem?_eq_none (by rw [List.length_set]; omega)] at q; cases q
    have n1 := ne q1
    have n2 := ne q2
    rw [List.getElem?_set_ne n1] at q1 q3
    rw [List.getElem?_set_ne n2] at q2 q4
    exact h.apart j k w u a q1 q2 q3 q4
theorem SRel.wipe {s : Env} {σ : L2.St} (h : SRel M G H0 H s σ) : ∀ vs : List Nat, SRel M G H0 H (wipeE s vs) (L2.wipe σ vs)
  | [] => h
  | v :: vs => (SRel.wipe h vs).setN

def tG (M : Mo) (t : T) : TG := fun x σ H Q => ∃ G H0 s S v s', SRel M G H0 H s σ ∧ HRel M G H S ∧ Rep M G v x ∧ asgT t v s = some s' ∧ ∀ σ', SRel M G H0 H s' σ' → (∀ vs, (∀ i ∈ t.slots, i ∈ vs) → wipe σ' vs = wipe σ vs) → Q σ' H
def tGs (M : Mo) (ts : List T) : TGs := fun xs σ H Q => ∃ G H0 s S vs s', SRel M G H0 H s σ ∧ HRel M G H S ∧ Reps M G vs xs ∧ asgTs ts vs s = some s' ∧ ∀ σ', SRel M G H0 H s' σ' → (∀ vs, (∀ i ∈ T.slotss ts, i ∈ vs) → wipe σ' vs = wipe σ vs) → Q σ' H
theorem PG.imp {e : Expr} {t t' : TG} (h : PG X e t) (k : ∀ v σ H Q, t' v σ H Q → t v σ H Q) : PG X e t' := ⟨fun pins s σ H v u Q I r q => h.run pins s σ H v u Q I r (k v σ H Q q)⟩
theorem PGs.imp {e : List Expr} {t t' : TGs} (h : PGs X e t) (k : ∀ v σ H Q, t' v σ H Q → t v σ H Q) : PGs X e t' := ⟨fun pins s σ H v u Q I r q => h.run pins s σ H v u Q I r (k v σ H Q q)⟩
theorem sng_nm {i : Nat} {x : Str} (hN : X.N.Nodup) (hi : X.N[i]? = some x) (hx : Loc X.env.scope x) (hf : X.fn x = true ∨ X.env.scope.names.lookup x = some .local) : PG X (.Name x pos) (tG M (.nm i)) := by
  refine PG.imp (pg_name hN hi hx hf) fun v σ H Q ⟨G, H0, s, S, w, s', hs, hr, rv, ha, q⟩ => ?_
  unfold asgT at ha
  obtain ⟨hl, rfl⟩ := if_some ha
  exact q _ (hs.setF rv) fun vs hv => wipe_set (hv i (by simp [T.slots]))
theorem sngs_nil : PGs X [] (tGs M []) := by
  refine PGs.imp pgs_nil fun xs σ H Q ⟨G, H0, s, S, vs, s', hs, hr, rv, ha, q⟩ => ?_
  cases rv with
  | nil =>
    unfold asgTs at ha
    cases ha
    exact ⟨rfl, q σ hs fun _ _ => rfl⟩
  | cons h t => cases ha
theorem sngs_cons {e : Expr} {es : List Expr} {t : T} {ts : List T} (h : PG X e (tG M t)) (hs : PGs X es (tGs M ts)) (ha : (assignEach (e :: es) X.env).map (·.2) = assign e X.env :: (assignEach es X.env).map (·.2)) : PGs X (e :: es) (tGs M (t :: ts)) := by
  refine PGs.imp (pgs_cons h hs ha) fun xs σ H Q ⟨G, H0, s, S, vs, s', hs, hr, rv, ha, q⟩ => ?_
  cases rv with
  | nil => cases ha
  | @cons v vr x xr r1 r2 =>
    unfold asgTs at ha
    cases q1 : asgT t v s with
    | none => rw [q1] at ha; cases ha
    | some s1 =>
      rw [q1] at ha
      refine ⟨x, xr, rfl, G, H0, s, S, v, s1, hs, hr, r1, q1, fun σ1 hs1 w1 => ⟨G, H0, s1, S, vr, s', hs1, hr, r2, ha, fun σ2 hs2 w2 => q σ2 hs2 fun ws hw => ?_⟩⟩
      rw [w2 ws fun i hi => hw i (by simp [T.slotss, hi]), w1 ws fun i hi => hw i (by simp [T.slotss, hi])]
theorem sng_tp (hK : X.K = M.K) {es : List Expr} {ts : List T} {k : Nat} (hc : X.calm = true) (h : PGs X es (tGs M ts)) (hn : (assignEach es X.env).length = ts.length) (hst : (assignEach es X.env).findIdx? (·.1) = none) : PG X (.Tuple es k pos) (tG M (.tp ts)) := by
  refine PG.imp (pg_tup (n := ts.length) hc h hn hst) fun x σ H Q ⟨G, H0, s, S, v, s', hs, hr, rv, ha, q⟩ => ?_
  have len : ∀ {ts : List T} {vs : List PV} {s s' : Env}, asgTs ts vs s = some s' → vs.length = ts.length := by
    intro ts
    induction ts with
    | nil => intro vs s s' h; cases vs with | nil => rfl | cons _ _ => cases h
    | cons t ts ih =>
      intro vs s s' h
      cases vs with
      | nil => cases h
      | cons v vs =>
        unfold asgTs at h
        cases q1 : asgT t v s with
        | none => rw [q1] at h; cases h
        | some s1 => rw [q1] at h; rw [List.length_cons, List.length_cons, ih h]
  cases v with
  | tup vs =>
    obtain ⟨a, us, rfl, k1, k2⟩ := Rdb.tup hr (.inl rv)
    have ha : asgTs ts vs s = some s' := ha
    exact ⟨a, us, rfl, by rw [hK]; exact k1, by rw [← k2.length]; exact len ha, G, H0, s, S, vs, s', hs, hr, k2, ha, fun σ' h1 h2 => q σ' h1 fun ws hw => h2 ws (by simpa [T.slots] using hw)⟩
  | _ => cases ha

/-! ### what is walked -/
/-- the walk J yields the items xs -/
def ItOk (M : Mo) (G0 : Gh) (xs : List PV) (J : It) : Prop := ∀ G H S, Grow G0 G → HRel M G H S → ∀ i,
  (∀ v, xs[i]? = some v → J.go i H ∧ ∀ x H', J.yld i H x H' → ∃ G', Ext G H G' H' ∧ HRel M G' H' S ∧ Rep M G' v x) ∧ (xs.length ≤ i → J.stop i H)
abbrev rI (M : Mo) : Gh → Hp → Hp → List PV → It → Prop := fun G _ _ xs J => ItOk M G xs J
def tI (M : Mo) (ex : ExT) (W : XK) (cal : Calls) (k : IK) (es : List E) : TI := fun σ H R => ∃ G H0 s S, SRel M G H0 H s σ ∧ HRel M G H S ∧ Post M ex W G H (itOf k (evalEs cal es s S)) (rI M) R
theorem PI.imp {tg e : Expr} {t t' : TI} (h : PI X tg e t) (k : ∀ σ H Q, t' σ H Q → t σ H Q) : PI X tg e t' := ⟨fun pins s σ H Q I q => h.run pins s σ H Q I (k σ H Q q)⟩
theorem itOk_list {K : PySem.W.Frag} {xs : List PV} {vs : List V} {a : Addr} (hK : K = M.K) (h1 : SqL M.K G.I a vs) (h2 : Reps M G xs vs) : ItOk M G xs (Itl K a) := by
  subst hK
  intro G' H S g r i
  have hq : SqL M.K H a vs := sqL_mono r.sub (sqL_mono g.I h1)
  refine ⟨fun v e => ?_, fun hl => ⟨vs, hq, by rw [← h2.length]; exact hl⟩⟩
  obtain ⟨x, e1, e2⟩ := h2.get e
  refine ⟨⟨vs, x, hq, e1⟩, fun y H' ⟨eH, hy⟩ => ?_⟩
  subst eH
  have e3 := hy vs hq
  rw [e1] at e3; cases e3
  exact ⟨G', .refl, r, e2.grow g⟩
theorem itOk_tup {K : PySem.W.Frag} {xs : List PV} {vs : List V} {a : Addr} (hK : K = M.K) (h1 : SqT M.K G.I a vs) (h2 : Reps M G xs vs) : ItOk M G xs (Itt K a) := by
  subst hK
  intro G' H S g r i
  have hq : SqT M.K H a vs := sqT_mono r.sub (sqT_mono g.I h1)
  refine ⟨fun v e => ?_, fun hl => ⟨vs, hq, by rw [← h2.length]; exact hl⟩⟩
  obtain ⟨x, e1, e2⟩ := h2.get e
  refine ⟨⟨vs, x, hq, e1⟩, fun y H' ⟨eH, hy⟩ => ?_⟩
  subst eH
  have e3 := hy vs hq
  rw [e1] at e3; cases e3
  exact ⟨G', .refl, r, e2.grow g⟩
theorem itOk_str {z : Str} : ItOk M G (z.cps.toList.map fun c => .str ⟨#[c]⟩) (Its z) := by
  intro G' H S g r i
  refine ⟨fun v e => ?_, fun hl => by rw [List.length_map, Array.length_toList] at hl; exact hl⟩
  rw [List.getElem?_map] at e
  cases q : z.cps.toList[i]? with
  | none => rw [q] at e; cases e
  | some c =>
    rw [q] at e
    cases e
    have hi : i < z.cps.size := by
      have := (List.getElem?_eq_some_iff.mp q).1
      rwa [Array.length_toList] at this
    refine ⟨hi, fun y H' ⟨eH, c', hc, hy⟩ => ?_⟩
    subst eH hy
    rw [Array.getElem?_toList, hc] at q
    cases q
    exact ⟨G', .refl, r, .str _⟩
theorem itOk_range {lo hi : Int} : ItOk M G (rangeL lo hi) (Itr lo (hi - lo).toNat) := by
  intro G' H S g r i
  unfold rangeL
  refine ⟨fun v e => ?_, fun hl => by rw [List.length_map, List.length_range] at hl; exact hl⟩
  rw [List.getElem?_map] at e
  cases q : (List.range (hi - lo).toNat)[i]? with
  | none => rw [q] at e; cases e
  | some c =>
    rw [q] at e
    cases e
    obtain ⟨h1, h2⟩ := List.getElem?_eq_some_iff.mp q
    rw [List.length_range] at h1
    rw [List.getElem_range] at h2
    subst h2
    refine ⟨h1, fun y H' ⟨eH, hy⟩ => ?_⟩
    subst eH hy
    exact ⟨G', .refl, r, .int _⟩
/-- an iterator over a list, a tuple, a text, as it comes -/
theorem pie_list {pins : List (Addr × Obj)} {σ : L2.St} {s1 : Shared} {tg : Expr} {R : It → Hp → Prop} {E' : Value → Shared → Prop} {a : Addr} {xs : List V} (I1 : Inv X pins σ H s1) (hq : SqL X.K H a xs) (q : R (Itl X.K a) H) :
    wpAny (model X.prog X.w) X.A (pyIter (.ref a)) (PIE X pins σ tg R) E' s1 := by
  obtain ⟨its, rv, p, hz⟩ := I1.list hq
  refine wpAny_pyIter_list p.isList ?_
  refine ⟨s1.heap.objs.size, [s1.heap.objs.size], _, _, H, rfl, I1.kept (t' := s1.toks) fun b o e => Heap.get?_push_of_some _ e, turn_list a _, ⟨_, Heap.get?_push_size _ rfl, rfl, rfl⟩, fun b hb => ?_, q⟩
  have e : b = s1.heap.objs.size := by simpa using hb
  subst e
  exact I1.fpOk (Nat.le_refl _) (I1.hok.fresh (Nat.le_refl _))
theorem pie_tup {pins : List (Addr × Obj)} {σ : L2.St} {s1 : Shared} {tg : Expr} {R : It → Hp → Prop} {E' : Value → Shared → Prop} {a : Addr} {xs : List V} (I1 : Inv X pins σ H s1) (hq : SqT X.K H a xs) (q : R (Itt X.K a) H) :
    wpAny (model X.prog X.w) X.A (pyIter (.ref a)) (PIE X pins σ tg R) E' s1 := by
  obtain ⟨its, rv, p, hz⟩ := I1.tuple hq
  refine wpAny_pyIter_tuple (show s1.heap.IsTuple a its.toArray from p) ?_
  refine ⟨s1.heap.objs.size, [s1.heap.objs.size], _, _, H, rfl, I1.kept (t' := s1.toks) fun b o e => Heap.get?_push_of_some _ e, turn_tuple a _, ⟨_, Heap.get?_push_size _ rfl, rfl, rfl⟩, fun b hb => ?_, q⟩
  have e : b = s1.heap.objs.size := by simpa using hb
  subst e
  exact I1.fpOk (Nat.le_refl _) (I1.hok.fresh (Nat.le_refl _))
theorem pie_str {pins : List (Addr × Obj)} {σ : L2.St} {s1 : Shared} {tg : Expr} {R : It → Hp → Prop} {E' : Value → Shared → Prop} {x : Str} {t : Tok} (I1 : Inv X pins σ H s1) (q : R (Its x) H) :
    wpAny (model X.prog X.w) X.A (pyIter (.str x t)) (PIE X pins σ tg R) E' s1 := by
  cases ha : x.cps.all (· < 128)
  · exact wpAny_pyIter_wide ha (pi_one (tk := s1.toks) I1 _ (turn_str _ x t "str_iterator" (.inr rfl)) ⟨_, Heap.get?_push_size _ rfl, rfl, rfl⟩ q)
  · exact wpAny_pyIter_ascii ha (pi_one (tk := s1.toks) I1 _ (turn_str _ x t "str_ascii_iterator" (.inl rfl)) ⟨_, Heap.get?_push_size _ rfl, rfl, rfl⟩ q)
theorem leaks1 {a : Arg} {vs : List PV} (h : leaks [a] = some vs) : vs = [a.1] := by
  obtain ⟨v, fl⟩ := a
  obtain ⟨_, ws, e, rfl⟩ := leaks_cons h
  cases e; rfl
theorem leaks2 {a b : Arg} {vs : List PV} (h : leaks [a, b] = some vs) : vs = [a.1, b.1] := by
  obtain ⟨v, fl⟩ := a
  obtain ⟨_, ws, e, rfl⟩ := leaks_cons h
  rw [leaks1 e]
theorem sni_plain (hK : X.K = M.K) {a : E} {ea tg : Expr} (ha : PE X ea (tE M ex W cal a)) : PI X tg ea (tI M ex W cal .plain [a]) := by
  refine ⟨fun pins s σ H Rr I ⟨G, H0, sl, S, hs, hr, hp⟩ => ?_⟩
  unfold itOf evalEs evalEs at hp
  rw [R.bind_assoc] at hp
  refine thn (ha.run pins s σ H (fun x H1 => ∃ G1 S1 v, HRel M G1 H1 S1 ∧ Rep M G1 v x ∧ ∃ xs, itemsV .plain [v] = some xs ∧ ∀ J, ItOk M G1 xs J → Rr J H1) I
    ⟨G, H0, sl, S, hs, hr, hp.bind .refl fun x S1 G1 H1 y _ e1 r1 q1 hp => ?_⟩) fun v s1 ⟨x, H1, I1, rx, G1, S1, pv, r1, rp, xs, hx, q⟩ => ?_
  · rw [R.bind_ok] at hp
    cases q : leaks [x] with
    | none => rw [R.bind_ok, q] at hp; exact hp.elim
    | some vs =>
      rw [R.bind_ok, q] at hp
      cases leaks1 q
      dsimp only at hp
      cases q' : itemsV .plain [x.1] with
      | none => rw [q'] at hp; exact hp.elim
      | some xs =>
        rw [q'] at hp
        obtain ⟨G2, e2, r2, q2, _⟩ := ARel.freeze (.cons q1 .nil : ARel M G1 H H1 [x] [y]) q r1 e1
        cases q2 with
        | cons q2 _ => exact ⟨G2, S1, x.1, r2, q2, xs, q', fun J hJ => hp.fin e2 r2 hJ⟩
  · cases pv with
    | lst ys =>
      cases hx
      cases rp with
      | lst h1 h2 =>
        cases rx
        exact pie_list I1 (.inl (.inl (r1.sub _ _ h1))) (q _ (itOk_list hK (.inl (.inl h1)) h2))
    | rol ys =>
      cases hx
      cases rp with
      | rol h1 h2 =>
        cases rx
        exact pie_list I1 (by rw [hK]; exact sqL_mono r1.sub h1) (q _ (itOk_list hK h1 h2))
    | tup ys =>
      cases hx
      cases rp with
      | tup h1 h2 =>
        cases rx
        exact pie_tup I1 (by rw [hK]; exact sqT_mono r1.sub h1) (q _ (itOk_tup hK h1 h2))
    | str z =>
      cases hx
      cases rp
      obtain ⟨t, rfl⟩ := rx
      exact pie_str I1 (q _ itOk_str)
    | _ => cases hx
theorem sni_range1 {a : E} {ea tg : Expr} {p : Pos} (ha : PE X ea (tE M ex W cal a)) (hg : Gl X "range") (hm : X.mg "range" = none) (hn : notStar ea = true) : PI X tg (.Call (.Name "range" p) [ea] [] pos) (tI M ex W cal .range1 [a]) := by
  refine PI.imp (pi_range1 hg hm (snd_cons ha snd_nil (star_cons hn)) (star_cons hn)) fun σ H Rr ⟨G, H0, sl, S, hs, hr, hp⟩ => ?_
  unfold itOf at hp
  refine ⟨G, H0, sl, S, hs, hr, hp.bind .refl fun as S1 G1 H1 ys q0 e1 r1 q1 hp => ?_⟩
  cases q : leaks as with
  | none => rw [q] at hp; exact hp.elim
  | some vs =>
    rw [q] at hp
    dsimp only at hp
    have hl := evalEs_len q0
    match as, hl, q1, q, hp with
    | [x], _, .cons (x := y) q1 .nil, q, hp =>
      cases leaks1 q
      cases hv : itemsV .range1 [x.1] with
      | none => rw [hv] at hp; exact hp.elim
      | some xs =>
        rw [hv] at hp
        obtain ⟨v, fl⟩ := x
        cases v with
        | int j =>
          cases q1.rdb.int
          obtain ⟨⟨h1, h2⟩, rfl⟩ := if_some (show (if j < 2 ^ 62 ∧ -(2 ^ 62) ≤ j then some (rangeL 0 j) else none) = some xs from hv)
          refine ⟨j, rfl, h2, h1, hp.fin e1 r1 ?_⟩
          have z := itOk_range (M := M) (G := G1) (lo := 0) (hi := j)
          rw [Int.sub_zero] at z
          exact z
        | _ => cases hv
theorem sni_range2 {a b : E} {ea eb tg : Expr} {p : Pos} (ha : PE X ea (tE M ex W cal a)) (hb : PE X eb (tE M ex W cal b)) (hg : Gl X "range") (hm : X.mg "range" = none) (hn : notStar ea = true) (hn2 : notStar eb = true) : PI X tg (.Call (.Name "range" p) [ea, eb] [] pos) (tI M ex W cal .range2 [a, b]) := by
  refine PI.imp (pi_range2 hg hm (snd_cons ha (snd_cons hb snd_nil (star_cons hn2)) (star_cons hn)) (by rw [star_cons hn, star_cons hn2]; rfl) (star_cons hn2)) fun σ H Rr ⟨G, H0, sl, S, hs, hr, hp⟩ => ?_
  unfold itOf at hp
  refine ⟨G, H0, sl, S, hs, hr, hp.bind .refl fun as S1 G1 H1 ys q0 e1 r1 q1 hp => ?_⟩
  cases q : leaks as with
  | none => rw [q] at hp; exact hp.elim
  | some vs =>
    rw [q] at hp
    dsimp only at hp
    have hl := evalEs_len q0
    match as, hl, q1, q, hp with
    | [x, x2], _, .cons (x := y) q1 (.cons (x := y2) q2 .nil), q, hp =>
      cases leaks2 q
      cases hv : itemsV .range2 [x.1, x2.1] with
      | none => rw [hv] at hp; exact hp.elim
      | some xs =>
        rw [hv] at hp
        obtain ⟨v, fl⟩ := x
        obtain ⟨v2, fl2⟩ := x2
        cases v with
        | int i =>
          cases v2 with
          | int j =>
            cases q1.rdb.int
            cases q2.rdb.int
            obtain ⟨⟨h1, h2, h3, h4⟩, rfl⟩ := if_some (show (if j < 2 ^ 62 ∧ -(2 ^ 62) ≤ j ∧ i < 2 ^ 62 ∧ -(2 ^ 62) ≤ i then some (rangeL i j) else none) = some xs from hv)
            exact ⟨i, j, rfl, ⟨h4, h3, h2, h1⟩, hp.fin e1 r1 itOk_range⟩
          | _ => cases hv
        | _ => cases v2 <;> cases hv
end
end Sq

/-! list comprehensions -/
namespace Sq
open PySem PySem.Spec PyProof.Rows L2

section
variable {M : Mo} {ex : ExT} {W : XK} {cal : Calls} {X : Cx} {pos : Pos} {G G1 G2 : Gh} {H H0 H1 H2 : Hp} {S : Store}
abbrev WF : XK := fun _ _ _ => False
theorem Post.bindN {α α' α'' β β' : Type} {r : Sq.R α} {f : α → Store → Sq.R α'} {g : α' → Store → Sq.R α''} {rel : Gh → Hp → Hp → α → β → Prop} {rel' : Gh → Hp → Hp → α'' → β' → Prop} {Q : β' → Hp → Prop} {P : β → Hp → Prop}
    (h : Post M ex W G H ((r.bind f).nox.bind g) rel' Q) (e : Ext G H G1 H1) (k : ∀ a S G2 H2 b, r = .ok a S → Ext G1 H1 G2 H2 → HRel M G2 H2 S → rel G2 H1 H2 a b → Post M ex W G H ((f a S).nox.bind g) rel' Q → P b H2) : Post M ex WF G1 H1 r rel P := by
  cases r with
  | ok a S => exact fun G' H' b e' r' q => k a S G' H' b rfl e' r' q h
  | exc c fs S => exact h.elim
  | bad => exact h.elim
theorem hrel_loose {D : Addr} {o : HO} (r : HRel M G H S) (h1 : G.I D = none) (h2 : D ∉ G.μ) : HRel M G (upd H D o) S := by
  refine ⟨fun a u e => ?_, r.len, r.nd, r.off, fun n so a q1 q2 => ?_⟩
  · rw [upd_ne (show a ≠ D from fun z => by rw [z, h1] at e; cases e)]
    exact r.sub a u e
  · have z := r.st n so a q1 q2
    have ne : a ≠ D := fun z => h2 (z ▸ List.mem_of_getElem? q2)
    cases so with
    | lst xs =>
      obtain ⟨vs, z1, z2⟩ := z
      exact ⟨vs, by rw [upd_ne ne]; exact z1, z2⟩
theorem ext_loose {G0 : Gh} {D : Addr} {o : HO} (e : Ext G0 H0 G H) (h : H0 D = none) : Ext G0 H0 G (upd H D o) := by
  refine ⟨e.old, e.μ, fun a u q n => ?_, fun a u q => ?_⟩
  · rw [upd_ne (show a ≠ D from fun z => by rw [z, h] at q; cases q)]
    exact e.keep a u q n
  · obtain ⟨u', z⟩ := e.there a u q
    exact ⟨u', by rw [upd_ne (show a ≠ D from fun z => by rw [z, h] at q; cases q)]; exact z⟩
theorem wipe_mem {σ : L2.St} : ∀ {vs : List Nat} {i : Nat}, i ∈ vs → i < σ.length → (wipe σ vs)[i]? = some none
  | v :: vs, i, h, hl => by
    unfold wipe
    by_cases e : v = i
    · subst e
      rw [List.getElem?_set_self (by rw [wipe_length]; exact hl)]
    · rw [List.getElem?_set_ne e]
      rcases List.mem_cons.mp h with z | z
      · exact absurd z.symm e
      · exact wipe_mem z hl
theorem wipe_out {σ : L2.St} : ∀ {vs : List Nat} {i : Nat}, i ∉ vs → (wipe σ vs)[i]? = σ[i]?
  | [], _, _ => rfl
  | v :: vs, i, h => by
    simp only [List.mem_cons, not_or] at h
    unfold wipe
    rw [List.getElem?_set_ne (fun z => h.1 z.symm)]
    exact wipe_out h.2
theorem wipe_idem (σ : L2.St) (vs : List Nat) : wipe (wipe σ vs) vs = wipe σ vs := by
  apply List.ext_getElem?
  intro i
  by_cases h : i ∈ vs
  · by_cases hl : i < σ.length
    · rw [wipe_mem h (by rw [wipe_length]; exact hl), wipe_mem h hl]
    · rw [List.getElem?_eq_none (by rw [wipe_length, wipe_length]; omega), List.getElem?_eq_none (by rw [wipe_length]; omega)]
  · rw [wipe_out h]
def tCs (M : Mo) (ex : ExT) (W : XK) (cal : Calls) (cs : List E) : TT := fun σ H Q => ∃ G H0 s S, SRel M G H0 H s σ ∧ HRel M G H S ∧ Post M ex W G H (evalCs cal cs s S) rB Q
theorem PTs.imp {e : List Expr} {t t' : TT} (h : PTs X e t) (k : ∀ σ H Q, t' σ H Q → t σ H Q) : PTs X e t' := ⟨fun pins s σ H Q I q => h.run pins s σ H Q I (k σ H Q q)⟩
theorem snc_nil : PTs X [] (tCs M ex W cal []) := by
  refine PTs.imp pts_nil fun σ H Q ⟨G, H0, s, S, hs, hr, hp⟩ => ?_
  unfold evalCs at hp
  exact hp.now hr rfl
theorem snc_one {c : E} {ec : Expr} (h : PT X ec (tT M ex W cal c)) : PTs X [ec] (tCs M ex W cal [c]) := by
  refine PTs.imp (pts_one h) fun σ H Q ⟨G, H0, s, S, hs, hr, hp⟩ => ⟨G, H0, s, S, hs, hr, ?_⟩
  unfold evalCs evalCs at hp
  unfold testR
  refine (congrArg (fun z => Post M ex W G H z rB Q) ?_).mp hp
  congr 1
  funext x S1
  obtain ⟨v, fl⟩ := x
  cases v <;> first | rfl | skip
  rename_i b
  cases b <;> rfl
theorem lc_imp {t : T} {k : IK} {as cs : List E} {e : E} {vs : List Nat} {σ : L2.St} {H : Hp} {Q : VK} (hsl : ∀ i ∈ t.slots, i ∈ vs) (h : tE M ex W cal (.lc t vs k as cs e) σ H Q) : tLc (tI M ex W cal k as) (tG M t) (tCs M ex WF cal cs) (tE M ex WF cal e) vs σ H Q := by
  obtain ⟨G, H0, s, S, hs, hr, hp⟩ := h
  unfold evalE at hp
  refine ⟨G, H0, s, S, hs, hr, hp.bind .refl fun xs S1 G1 H1 J q0 e1 r1 hJ hp => ?_⟩
  by_cases hl : xs.length ≤ LINE
  case neg => rw [if_neg hl] at hp; exact hp.elim
  rw [if_pos hl] at hp
  generalize hf : (fun x S2 => match asgT t x (wipeE s vs) with
          | some σ2 => (evalCs cal cs σ2 S2).bind fun b S3 => if b = true then (evalE cal e σ2 S3).bind fun y S4 => match leak1 y with
              | some v => Sq.R.ok (some v) S4
              | none => Sq.R.bad
            else Sq.R.ok none S3
          | none => Sq.R.bad) = f at hp
  intro D nD
  have hD : H D = none := e1.back D nD
  obtain ⟨f1, f2⟩ := r1.fresh nD
  refine ⟨fun i m H' => ∃ G' S' acc av, m = xs.length - i ∧ i ≤ xs.length ∧ Ext G1 H1 G' H' ∧ HRel M G' H' S' ∧ H' D = some (.lst av) ∧ Reps M G' acc av ∧ G'.I D = none ∧ D ∉ G'.μ ∧ acc.length ≤ i ∧
      Post M ex W G H ((lcGo f acc (xs.drop i) S').bind fun ys S5 => .ok (.lst ys, .own) S5) (rR M) Q,
    ⟨xs.length, G1, S1, [], [], by simp, Nat.zero_le _, ext_new .refl nD, hrel_new r1 nD, upd_same, .nil, f1, f2, Nat.le_refl _, by rw [List.drop_zero]; exact hp⟩, ?_⟩
  rintro i m H' ⟨G', S', acc, av, rfl, hi, e', r', hD', ra, d1, d2, hacc, hp'⟩
  have gr : Grow G1 G' := e'.grow r1
  by_cases hlt : i < xs.length
  · have hv : xs[i]? = some xs[i] := List.getElem?_eq_getElem hlt
    obtain ⟨go, yl⟩ := (hJ G' H' S' gr r' i).1 _ hv
    rw [List.drop_eq_getElem_cons hlt] at hp'
    generalize xs[i] = v at hv yl hp'
    unfold lcGo at hp'
    rw [R.bind_assoc] at hp'
    refine .inr ⟨go, fun H'' => ∃ G' S' acc av, xs.length - (i + 1) = xs.length - (i + 1) ∧ i + 1 ≤ xs.length ∧ Ext G1 H1 G' H'' ∧ HRel M G' H'' S' ∧ H'' D = some (.lst av) ∧ Reps M G' acc av ∧ G'.I D = none ∧ D ∉ G'.μ ∧ acc.length ≤ i + 1 ∧
        Post M ex W G H ((lcGo f acc (xs.drop (i + 1)) S').bind fun ys S5 => .ok (.lst ys, .own) S5) (rR M) Q, fun H'' h => ⟨xs.length - (i + 1), by omega, h⟩, fun x H2 hy => ?_⟩
    obtain ⟨G2, e2, r2, rv⟩ := yl x H2 hy
    subst hf
    dsimp only at hp'
    cases ha : asgT t v (wipeE s vs) with
    | none => rw [ha] at hp'; exact hp'.elim
    | some s2 =>
      rw [ha] at hp'
      dsimp only at hp'
      have hs2 : SRel M G2 H0 H2 s σ := ((hs.ext hr e1).ext r1 e').ext r' e2
      refine ⟨G2, H0, wipeE s vs, S', v, s2, hs2.wipe vs, r2, rv, ha, fun σ2 hσ2 hw => ⟨?_, ?_⟩⟩
      · rw [hw vs hsl, wipe_idem]
      · refine ⟨G2, H0, s2, S', hσ2, r2, hp'.bindN (e1.trans (e'.trans e2)) fun b S3 G3 H3 b' _ e3 r3 q3 hp3 => ?_⟩
        subst q3
        have D3 : H3 D = some (.lst av) := e3.keep D _ (e2.keep D _ hD' d2) (e2.notμ hD' d2)
        have n3 : D ∉ G3.μ := e3.notμ (e2.keep D _ hD' d2) (e2.notμ hD' d2)
        have i3 : G3.I D = none := by rw [e3.old D _ (e2.keep D _ hD' d2), e2.old D _ hD']; exact d1
        have x3 : Ext G1 H1 G3 H3 := e'.trans (e2.trans e3)
        cases b with
        | false =>
          rw [if_neg Bool.false_ne_true] at hp3
          refine iteF ⟨G3, S3, acc, av, rfl, hlt, x3, r3, D3, ra.grow ((e2.grow r').trans (e3.grow r2)), i3, n3, by omega, ?_⟩
          exact hp3
        | true =>
          rw [if_pos rfl] at hp3
          refine iteT ⟨G3, H0, s2, S3, hσ2.ext r2 e3, r3, hp3.bindN (e1.trans x3) fun y S4 G4 H4 y' _ e4 r4 q4 hp4 => ?_⟩
          have D4 : H4 D = some (.lst av) := e4.keep D _ D3 n3
          have n4 : D ∉ G4.μ := e4.notμ D3 n3
          have i4 : G4.I D = none := by rw [e4.old D _ D3]; exact i3
          obtain ⟨w, fl⟩ := y
          have hb : fl ≠ .bor := fun z => by subst z; exact hp4.elim
          have hk : leak1 (w, fl) = some w := by cases fl <;> first | rfl | exact absurd rfl hb
          rw [hk] at hp4
          obtain ⟨G5, e5, r5, rw5, g5, k5, m5⟩ := q4.freeze hb r4 e4
          have i5 : G5.I D = none := by rw [k5 D ⟨_, D3⟩]; exact i4
          have n5 : D ∉ G5.μ := by rw [m5]; exact n4
          refine ⟨av, D4, ?_, G5, S4, acc ++ [w], av ++ [y'], rfl, hlt, ext_loose (x3.trans e5) nD, hrel_loose r5 i5 n5, upd_same, ?_, i5, n5, by rw [List.length_append]; simpa using hacc, hp4⟩
          · rw [← ra.length, line_eq]; omega
          · exact (ra.grow ((e2.grow r').trans ((e3.grow r2).trans (e5.grow r3)))).append (.cons rw5 .nil)
  · have ei : i = xs.length := by omega
    subst ei
    rw [List.drop_length] at hp'
    refine .inl ⟨(hJ G' H' S' gr r' _).2 (Nat.le_refl _), ?_⟩
    exact hp'.fin (e1.trans e') r' (⟨D, acc, av, rfl, rfl, hD', ra, d1, d2, hD⟩)

theorem snd_lc (hc : X.calm = true) (hN : X.N.Nodup) {t : T} {k : IK} {as cs : List E} {e : E} {tg iter elt : Expr} {ifs : List Expr} {scope : Scope} {own : List (Str × Nat)} (hi : PI X tg iter (tI M ex W cal k as)) (ok : BlkOk X.N X.env.scope scope own)
    (hg : ∀ (s : Shared) (H : Hp) (C : Addr) (cl : List (Str × Addr)) (fp : List Addr), PG (X.blk s H scope (compEnvC scope cl C X.env) fp) tg (tG M t))
    (ht : ∀ (s : Shared) (H : Hp) (C : Addr) (cl : List (Str × Addr)) (fp : List Addr), PTs (X.blk s H scope (compEnvC scope cl C X.env) fp) ifs (tCs M ex WF cal cs))
    (he : ∀ (s : Shared) (H : Hp) (C : Addr) (cl : List (Str × Addr)) (fp : List Addr), PE (X.blk s H scope (compEnvC scope cl C X.env) fp) elt (tE M ex WF cal e))
    (hsl : ∀ i ∈ t.slots, i ∈ own.map (·.2)) (hs : ∀ x, foldedSetIterable iter X.env x = pure x) :
    PE X (.ListComp elt [⟨tg, iter, ifs, 0⟩] scope pos) (tE M ex W cal (.lc t (own.map (·.2)) k as cs e)) := PE.imp (pe_lc hc hN hi ok hg ht he hs) fun σ H Q h => lc_imp hsl h
end
end Sq

/-! dicts of the module, displays that are read at once -/
namespace Sq
open PySem PySem.Spec PyProof.Rows L2

section
variable {M : Mo} {ex : ExT} {W : XK} {cal : Calls} {X : Cx} {pos : Pos} {G G0 G1 G2 : Gh} {H H0 H1 H2 : Hp} {S : Store}
/-- a dict of the module -/
def KdOk (M : Mo) (K : PySem.W.Frag) (w : World) (p : Addr) (d : List (Str × PV)) : Prop := ∃ es n, L2.KDict K w p es n ∧ ∀ z v, lookS z d = some v → ∃ u y, PySem.W.nsIn K p z = some (some u) ∧ RelV y u ∧ ∀ G, Rep M G v y
theorem snd_kix {d : List (Str × PV)} {a : E} {ea : Expr} {x : Str} {p : Addr} {px : Pos} (hg : Gl X x) (hm : X.mg x = some (.ref p)) (hdb : (x == ("__debug__" : Str)) = false) (hd : KdOk M X.K X.w p d) (ha : PE X ea (tE M ex W cal a)) (hs : PlainIx ea) :
    PE X (.Subscript (.Name x px) ea pos) (tE M ex W cal (.kix d a)) := by
  refine PE.imp (pe_ix ix_kdict (pe_glob (v := V.ref p) hg hm rfl hdb) ha hs) fun σ H Q ⟨G, H0, s, S, hs, hr, hp⟩ => ?_
  unfold evalE at hp
  refine ⟨G, H0, s, S, hs, hr, hp.bind .refl fun x S1 G1 H1 y _ e1 r1 q1 hp => ?_⟩
  obtain ⟨v, fl⟩ := x
  cases v with
  | str z =>
    dsimp only at hp
    cases q : lookS z d with
    | none => rw [q] at hp; exact hp.elim
    | some v =>
      rw [q] at hp
      cases q1.rdb.str
      obtain ⟨es, n, kd, h⟩ := hd
      obtain ⟨u, y, h1, h2, h3⟩ := h z v q
      exact ⟨p, z, y, rfl, rfl, ⟨es, n, u, kd.at_, kd.lit, h1, h2⟩, hp.fin e1 r1 (h3 _)⟩
  | _ => exact hp.elim
theorem snd_kin {d : List (Str × PV)} {a : E} {ea : Expr} {x : Str} {p : Addr} {px : Pos} (hg : Gl X x) (hm : X.mg x = some (.ref p)) (hdb : (x == ("__debug__" : Str)) = false) (hd : KdOk M X.K X.w p d) (ha : PE X ea (tE M ex W cal a)) :
    PE X (.Compare ea [.In] [.Name x px] pos) (tE M ex W cal (.kin d a)) := by
  obtain ⟨es, n, kd, h⟩ := hd
  refine PE.imp (pe_cmpR (op_in_kd kd) ha (pe_glob (v := V.ref p) hg hm rfl hdb) rfl) fun σ H Q ⟨G, H0, s, S, hs, hr, hp⟩ => ?_
  unfold evalE at hp
  refine ⟨G, H0, s, S, hs, hr, hp.bind .refl fun x S1 G1 H1 y _ e1 r1 q1 hp => ?_⟩
  obtain ⟨v, fl⟩ := x
  cases v with
  | str z =>
    dsimp only at hp
    cases q : lookS z d with
    | none => rw [q] at hp; exact hp.elim
    | some v =>
      rw [q] at hp
      cases q1.rdb.str
      obtain ⟨u, y, h1, h2, h3⟩ := h z v q
      exact ⟨z, some u, rfl, rfl, h1, hp.fin e1 r1 (.bl _)⟩
  | _ => exact hp.elim
theorem pst_kin {d : List (Str × PV)} {a : E} {ea : Expr} {x : Str} {p : Addr} {px : Pos} (hg : Gl X x) (hm : X.mg x = some (.ref p)) (hdb : (x == ("__debug__" : Str)) = false) (hd : KdOk M X.K X.w p d) (ha : PE X ea (tE M ex W cal a)) :
    PT X (.Compare ea [.In] [.Name x px] pos) (tT M ex W cal (.kin d a)) := by
  obtain ⟨es, n, kd, h⟩ := hd
  refine PT.imp (pt_cmpR (op_in_kd kd) ha (pe_glob (v := V.ref p) hg hm rfl hdb) rfl) fun σ H Q ⟨G, H0, s, S, hs, hr, hp⟩ => ?_
  unfold testR evalE at hp
  rw [R.bind_assoc] at hp
  refine ⟨G, H0, s, S, hs, hr, hp.bind .refl fun x S1 G1 H1 y _ e1 r1 q1 hp => ?_⟩
  obtain ⟨v, fl⟩ := x
  cases v with
  | str z =>
    dsimp only at hp
    cases q : lookS z d with
    | none => rw [q] at hp; exact hp.elim
    | some v =>
      rw [q] at hp
      cases q1.rdb.str
      obtain ⟨u, y, h1, h2, h3⟩ := h z v q
      exact ⟨z, some u, rfl, rfl, h1, true, rfl, hp.fin e1 r1 rfl⟩
  | _ => exact hp.elim
theorem srel_dk {s : Env} {σ : L2.St} {p : Addr} {o : HO} {kvs : List (Key × V)} (h : SRel M G H0 H s σ) (hp : H p = some (.dK kvs)) : SRel M G H0 (upd H p o) s σ := by
  refine ⟨h.len, fun j w fl q => ?_, h.apart⟩
  obtain ⟨x, h1, h2⟩ := h.val j w fl q
  refine ⟨x, h1, ?_⟩
  cases fl with
  | frz => exact h2
  | own =>
    obtain ⟨b, xs, vs, e1, e2, e3, e4, e5, e6, c⟩ := h2
    have ne : b ≠ p := fun z => by subst z; rw [hp] at e3; cases e3
    exact ⟨b, xs, vs, e1, e2, by rw [upd_ne ne]; exact e3, e4, e5, e6, c⟩
  | bor =>
    obtain ⟨b, xs, vs, e1, e2, e3, e4, e5, e6, c⟩ := h2
    have ne : b ≠ p := fun z => by subst z; rw [hp] at e3; cases e3
    exact ⟨b, xs, vs, e1, e2, by rw [upd_ne ne]; exact e3, e4, e5, e6, c⟩
theorem tp_of : ∀ {ks : List Str} {as : List E} {σ : L2.St} {H : Hp} {Q : List V → Hp → Prop} {Q' : List (V × V) → Hp → Prop}, ks.length = as.length → (∀ ys H2, ys.length = as.length → Q ys H2 → Q' ((ks.zip ys).map fun q => (V.str q.1, q.2)) H2) → tEs M ex W cal as σ H Q →
    tPairs ((ks.zip as).map fun p => (tC (.str p.1), tE M ex W cal p.2)) σ H Q'
  | [], [], σ, H, Q, Q', _, k, h => by
    obtain ⟨G, H0, s, S, hs, hr, hp⟩ := h
    unfold evalEs at hp
    exact k [] H rfl (hp.now hr .nil)
  | [], _ :: _, _, _, _, _, e, _, _ => by cases e
  | _ :: _, [], _, _, _, _, e, _, _ => by cases e
  | k :: ks, a :: as, σ, H, Q, Q', e, kk, h => by
    obtain ⟨G, H0, s, S, hs, hr, hp⟩ := h
    unfold evalEs at hp
    refine ⟨G, H0, s, S, hs, hr, hp.bind .refl fun x S1 G1 H1 y _ e1 r1 q1 hp => ?_⟩
    exact tp_of (Q := fun ys H2 => Q (y :: ys) H2) (by simpa using e) (fun ys H2 hl hq => kk (y :: ys) H2 (by simp [hl]) hq) ⟨G1, H0, s, S1, hs.ext hr e1, r1, hp.bind e1 fun xs S2 G2 H2 ys _ e2 r2 q2 hp => hp.fin (e1.trans e2) r2 (.cons (q1.ext r1 e2) (q2.back e1.back))⟩
def kOf : Expr → Option Str
  | .Constant (.str x) _ _ => some x
  | _ => none
/-- the keys are texts -/
def keysB : List (Option Expr) → List Str → Bool
  | [], [] => true
  | some e :: es, k :: ks => decide (kOf e = some k) && keysB es ks
  | _, _ => false
inductive PEs (X : Cx) (M : Mo) (ex : ExT) (W : XK) (cal : Calls) : List Expr → List E → Prop
  | nil : PEs X M ex W cal [] []
  | cons {e : Expr} {es : List Expr} {a : E} {as : List E} : PE X e (tE M ex W cal a) → PEs X M ex W cal es as → PEs X M ex W cal (e :: es) (a :: as)
theorem pps_of : ∀ {keys : List (Option Expr)} {ks : List Str} {values : List Expr} {as : List E}, keysB keys ks = true → PEs X M ex W cal values as → keys.length = values.length →
    PPs X pos keys values ((ks.zip as).map fun p => (tC (.str p.1), tE M ex W cal p.2)) ∧ keys.all (·.isSome) = true ∧ ks.length = as.length
  | [], [], [], _, _, .nil, _ => ⟨pps_nil, rfl, rfl⟩
  | [], k :: ks, _, _, h, _, _ => by cases h
  | [], [], e :: es, _, _, _, h => by cases h
  | none :: _, ks, _, _, h, _, _ => by cases ks <;> cases h
  | some e :: es, [], _, _, h, _, _ => by cases h
  | some e :: es, k :: ks, [], _, _, _, h => by cases h
  | some e :: es, k :: ks, v :: vs, _, h, .cons (a := a) (as := as) h1 h2, hl => by
    unfold keysB at h
    rw [Bool.and_eq_true, decide_eq_true_eq] at h
    obtain ⟨q1, q2, q3⟩ := pps_of h.2 h2 (by simpa using hl)
    refine ⟨pps_cons ?_ h1 q1, by rw [List.all_cons, q2]; rfl, by simp [q3]⟩
    obtain ⟨hk, _⟩ := h
    unfold kOf at hk
    split at hk
    · cases hk; exact pe_str
    · cases hk
theorem valV_merge (z : Str) : ∀ (more : List (Str × V)) (acc : List (Key × V)), valV (mergeK acc (more.map fun q => ((Sum.inr q.1 : Key), q.2))) (Sum.inr z) = more.foldl (fun o p => if z = p.1 then some p.2 else o) (valV acc (Sum.inr z))
  | [], acc => rfl
  | p :: more, acc => by
    show valV (mergeK (putK acc (Sum.inr p.1) p.2) (more.map fun q => ((Sum.inr q.1 : Key), q.2))) (Sum.inr z) = _
    rw [valV_merge z more, valV_put, List.foldl_cons]
    congr 1
    by_cases e : z = p.1
    · subst e; simp
    · rw [if_neg e, if_neg (fun q => e (Sum.inr.inj q))]
theorem lookL_rep {z : Str} : ∀ {ks : List Str} {ws : List PV} {ys : List V} {o : Option PV} {o' : Option V}, Reps M G ws ys → (∀ v, o = some v → ∃ y, o' = some y ∧ Rep M G v y) → ∀ v, (ks.zip ws).foldl (fun o p => if z = p.1 then some p.2 else o) o = some v →
    ∃ y, (ks.zip ys).foldl (fun o p => if z = p.1 then some p.2 else o) o' = some y ∧ Rep M G v y
  | [], ws, ys, o, o', _, h, v, e => h v e
  | k :: ks, _, _, o, o', .nil, h, v, e => h v e
  | k :: ks, _, _, o, o', .cons (v := y) r rs, h, v, e => by
    rw [List.zip_cons_cons, List.foldl_cons] at e ⊢
    refine lookL_rep rs (fun v' e' => ?_) v e
    by_cases q : z = k
    · rw [if_pos q] at e' ⊢
      cases e'
      exact ⟨_, rfl, r⟩
    · rw [if_neg q] at e' ⊢
      exact h v' e'
theorem snd_dix (hu : X.A.units + 66 < cLine) {keys : List (Option Expr)} {values : List Expr} {ks : List Str} {vs : List E} {a : E} {ea : Expr} {pd : Pos} (hk : keysB keys ks = true) (hv : PEs X M ex W cal values vs) (hl : keys.length = values.length) (h0 : keys ≠ []) (h15 : keys.length ≤ 15) (ha : PE X ea (tE M ex W cal a)) (hs : PlainIx ea) :
    PE X (.Subscript (.Dict keys values pd) ea pos) (tE M ex W cal (.dix ks vs a)) := by
  obtain ⟨q1, q2, q3⟩ := pps_of (pos := pd) hk hv hl
  have hlen : ks.length ≤ 15 := by
    have : ∀ {keys : List (Option Expr)} {ks : List Str}, keysB keys ks = true → ks.length = keys.length := by
      intro keys
      induction keys with
      | nil => intro ks h; cases ks <;> first | rfl | cases h
      | cons e es ih =>
        intro ks h
        cases ks with
        | nil => cases e <;> cases h
        | cons k ks =>
          cases e with
          | none => cases h
          | some e =>
            unfold keysB at h
            rw [Bool.and_eq_true] at h
            simp [ih h.2]
    rw [this hk]; exact h15
  refine PE.imp (pe_dget (by omega) (pe_disp q1 q2 hl h0 h15) ha hs) fun σ H Q ⟨G, H0, s, S, hs, hr, hp⟩ => ?_
  unfold evalE at hp
  intro p np
  have e0 : Ext G H G (upd H p (.dK [])) := ext_new .refl np
  have r0 : HRel M G (upd H p (.dK [])) S := hrel_new hr np
  obtain ⟨f1, f2⟩ := hr.fresh np
  refine tp_of q3 (Q := fun ys H2 => ∃ bs S1 G1 ws, leaks bs = some ws ∧ Ext G (upd H p (.dK [])) G1 H2 ∧ HRel M G1 H2 S1 ∧ Reps M G1 ws ys ∧ Post M ex W G H ((evalE cal a s S1).bind fun x S2 => match x.1 with
      | .str z => match lookL z (ks.zip ws) with
        | some v => Sq.R.ok (v, Fl.frz) S2
        | none => Sq.R.bad
      | _ => Sq.R.bad) (rR M) Q) (fun ys H2 hly ⟨bs, S1, G1, ws, hlk, e1, r1, hq, hp⟩ => ?_) ⟨G, H0, s, S, hs.ext hr e0, r0, hp.bind e0 fun bs S1 G1 H1 ys _ e1 r1 q1 hp => ?_⟩
  · have hp0 : H2 p = some (.dK []) := e1.keep p _ upd_same f2
    have g1 : G1.I p = none := by rw [e1.old p _ upd_same]; exact f1
    have g2 : p ∉ G1.μ := e1.notμ upd_same f2
    refine ⟨hp0, (ks.zip ys).map fun q => ((Sum.inr q.1 : Key), q.2), by rw [List.map_map]; rfl, by simp; omega, ?_⟩
    have e2 : Ext G H G1 (upd H2 p (.dK (mergeK [] ((ks.zip ys).map fun q => ((Sum.inr q.1 : Key), q.2))))) := ext_loose (e0.trans e1) np
    refine ⟨G1, H0, s, S1, srel_dk ((hs.ext hr e0).ext r0 e1) hp0, hrel_loose r1 g1 g2, hp.bind e2 fun x S3 G3 H3 y _ e3 r3 q3 hp => ?_⟩
    obtain ⟨v, fl⟩ := x
    cases v with
    | str z =>
      dsimp only at hp
      cases ql : lookL z (ks.zip ws) with
      | none => rw [ql] at hp; exact hp.elim
      | some v =>
        rw [ql] at hp
        cases q3.rdb.str
        obtain ⟨y, hy, ry⟩ := lookL_rep (o := none) (o' := none) hq (fun v h => by cases h) v ql
        have h3 : H3 p = some (.dK (mergeK [] ((ks.zip ys).map fun q => ((Sum.inr q.1 : Key), q.2)))) := e3.keep p _ upd_same g2
        refine ⟨p, y, rfl, ?_, hp.fin (e2.trans e3) r3 (Rep.grow (e3.grow (hrel_loose r1 g1 g2)) ry)⟩
        have := DGet.k (k := Sum.inr z) h3
        rw [valV_merge z (ks.zip ys) [], valV_nil, hy] at this
        exact this
    | _ => exact hp.elim
  · cases q : leaks bs with
    | none => rw [q] at hp; exact hp.elim
    | some ws =>
      rw [q] at hp
      obtain ⟨G2, e2, r2, q2, g2⟩ := q1.freeze q r1 e1
      exact ⟨bs, S1, G2, ws, q, e2, r2, q2, hp⟩
end
end Sq

/-! how arguments come to parameters -/
namespace Sq
open PySem PySem.Spec PyProof.Rows L2
theorem lookup_zip {α : Type} : ∀ {ps : List Str} {us : List α}, ps.Nodup → us.length = ps.length → (ps.filterMap fun n => ((ps.zip us).lookup n).map (n, ·)) = ps.zip us := by
  have gen : ∀ (ps : List Str) (us : List α) (l : List (Str × α)), ps.Nodup → us.length = ps.length → (∀ n ∈ ps, l.lookup n = none) → (ps.filterMap fun n => ((l ++ ps.zip us).lookup n).map (n, ·)) = ps.zip us := by
    intro ps
    induction ps with
    | nil => intro us l _ _ _; rfl
    | cons p ps ih =>
      intro us l hn hl h
      cases us with
      | nil => cases hl
      | cons u us =>
        have h1 : (l ++ (p :: ps).zip (u :: us)).lookup p = some u := by
          rw [List.lookup_append, h p List.mem_cons_self]
          simp
        rw [List.filterMap_cons, h1]
        show (p, u) :: _ = _
        congr 1
        have e : l ++ (p :: ps).zip (u :: us) = (l ++ [(p, u)]) ++ ps.zip us := by simp
        rw [e]
        refine ih us _ (List.nodup_cons.mp hn).2 (by simpa using hl) fun n hm => ?_
        rw [List.lookup_append, h n (List.mem_cons_of_mem _ hm)]
        have ne : n ≠ p := fun z => (List.nodup_cons.mp hn).1 (z ▸ hm)
        have nb : (n == p) = false := by simpa using ne
        simp [List.lookup_cons, nb]
  intro ps us hn hl
  simpa using gen ps us [] hn hl (fun _ _ => rfl)
/-- plain parameters -/
structure Plain (fd : FuncData) (ps : List Str) : Prop where
  po : fd.params.posonlyargs = []
  ar : fd.params.args.map (·.arg) = ps
  ko : fd.params.kwonlyargs = []
  va : fd.params.vararg = none
  kw : fd.params.kwarg = none
  df : fd.defaults = .none
  nd : ps.Nodup
theorem lookup_none_of {α : Type} {l : List (Str × α)} {k : Str} (h : k ∉ l.map (·.1)) : l.lookup k = none := by
  induction l with
  | nil => rfl
  | cons p l ih =>
    simp only [List.map_cons, List.mem_cons, not_or] at h
    have nb : (k == p.1) = false := by simpa using h.1
    rw [List.lookup_cons, nb]
    exact ih h.2
theorem filter_nil {α : Type} {p : α → Bool} {l : List α} (h : ∀ x ∈ l, p x = false) : l.filter p = [] := by
  induction l with
  | nil => rfl
  | cons x l ih =>
    rw [List.filter_cons, h x List.mem_cons_self]
    exact ih fun y hy => h y (List.mem_cons_of_mem _ hy)
/-- the keywords one by one -/
theorem kw_loop {ps : List Str} {B : Str × Value → List (Str × Value) × List (Str × Value) → Sem (ForInStep (List (Str × Value) × List (Str × Value)))}
    (hB : ∀ k v sl ext, ps.contains k = true → sl.lookup k = none → B (k, v) (sl, ext) = pure (ForInStep.yield (sl ++ [(k, v)], ext))) :
    ∀ (kw sl ext : List (Str × Value)), (kw.map (·.1)).Nodup → (∀ k ∈ kw.map (·.1), ps.contains k = true ∧ k ∉ sl.map (·.1)) → forIn kw (sl, ext) B = pure (sl ++ kw, ext)
  | [], sl, ext, _, _ => by rw [List.forIn_nil, List.append_nil]
  | (k, v) :: kw, sl, ext, hn, h => by
    obtain ⟨h1, h2⟩ := h k (by simp)
    rw [List.forIn_cons, hB k v sl ext h1 (lookup_none_of h2), pure_bind]
    simp only [List.map_cons, List.nodup_cons] at hn
    show forIn kw (sl ++ [(k, v)], ext) B = _
    rw [kw_loop hB kw (sl ++ [(k, v)]) ext hn.2 fun j hj => ⟨(h j (by simp at hj ⊢; right; exact hj)).1, ?_⟩, List.append_assoc]
    · rfl
    · rw [List.map_append, List.mem_append, not_or]
      refine ⟨(h j (by simp at hj ⊢; right; exact hj)).2, ?_⟩
      simp only [List.map_cons, List.map_nil, List.mem_singleton]
      rintro rfl
      exact hn.1 hj
theorem bind_kw {fd : FuncData} {ps : List Str} (h : Plain fd ps) {us : List Value} {kw : List (Str × Value)} (hl : us.length ≤ ps.length) (hn : (kw.map (·.1)).Nodup) (hk : ∀ k ∈ kw.map (·.1), ps.contains k = true ∧ k ∉ (ps.zip us).map (·.1))
    (hall : ∀ n ∈ ps, ((ps.zip us ++ kw).lookup n).isSome = true) : bindArgs fd ⟨us, kw⟩ = pure (ps.filterMap fun n => ((ps.zip us ++ kw).lookup n).map (n, ·)) := by
  unfold bindArgs
  have e0 : seqItems? Value.none = pure none := rfl
  simp only [h.po, h.ko, h.va, h.kw, h.df, h.ar, List.map_nil, List.nil_append, List.append_nil, e0]
  rw [kw_loop (ps := ps) (fun k v sl ext h1 h2 => by
    simp only [h1, h2, Bool.true_or, if_true, Option.isSome_none, Bool.false_eq_true, if_false]) kw (ps.zip us) [] hn hk]
  have hg : ¬ (us.length > ps.length) := by omega
  have hf : ps.filter (fun n => (List.lookup n (ps.zip us ++ kw)).isNone) = [] := filter_nil fun n hm => by
    have := hall n hm
    cases q : List.lookup n (ps.zip us ++ kw) with
    | none => rw [q] at this; cases this
    | some _ => rfl
  simp only [pure_bind, hg, decide_false, Bool.false_and, Bool.false_eq_true, if_false, Option.getD_none, List.length_nil, Nat.zero_sub, List.drop_nil, Nat.sub_zero, List.take_length, hf, List.isEmpty_nil, Bool.not_true, List.drop_length, List.zip_nil_left, List.forIn_nil]
theorem bind_pos {fd : FuncData} {ps : List Str} (h : Plain fd ps) {us : List Value} (hl : us.length = ps.length) : bindArgs fd ⟨us, []⟩ = pure (ps.zip us) := by
  have hm : (ps.zip us).map (·.1) = ps := by rw [List.map_fst_zip]; omega
  rw [bind_kw h (Nat.le_of_eq hl) (by simp) (by simp) fun n hn => ?_]
  · rw [List.append_nil, lookup_zip h.nd hl]
  · rw [List.append_nil]
    rw [← hm] at hn
    cases q : (ps.zip us).lookup n with
    | some _ => rfl
    | none =>
      exfalso
      have gen : ∀ l : List (Str × Value), n ∈ l.map (·.1) → l.lookup n ≠ none := by
        intro l
        induction l with
        | nil => intro h; cases h
        | cons p l ih =>
          intro h e
          rw [List.lookup_cons] at e
          cases hb : (n == p.1) with
          | true => rw [hb] at e; cases e
          | false =>
            rw [hb] at e
            rcases List.mem_cons.mp h with z | z
            · rw [z] at hb; simp at hb
            · exact ih z e
      exact gen _ hn q

/-! ### places -/
def permOk (ps : List Str) (n : Nat) (ks : List Str) (perm : List Nat) : Bool :=
  decide (n ≤ ps.length) && decide ks.Nodup && (ks.all fun k => ps.contains k && !(ps.take n).contains k) && decide (perm.length = ps.length) &&
    (ps.zip perm).all fun q => decide (q.2 < n + ks.length) && if q.2 < n then ps[q.2]? == some q.1 else ks[q.2 - n]? == some q.1
theorem lookup_at {α : Type} : ∀ {ps : List Str} {us : List α} {i : Nat} {p : Str} {u : α}, ps.Nodup → ps[i]? = some p → us[i]? = some u → (ps.zip us).lookup p = some u
  | [], _, _, _, _, _, h, _ => by cases h
  | _ :: _, [], _, _, _, _, _, h => by simp at h
  | q :: ps, v :: us, 0, p, u, _, h1, h2 => by
    simp at h1 h2
    subst h1 h2
    simp
  | q :: ps, v :: us, i + 1, p, u, hn, h1, h2 => by
    simp only [List.getElem?_cons_succ] at h1 h2
    have ne : p ≠ q := fun z => (List.nodup_cons.mp hn).1 (z ▸ List.mem_of_getElem? h1)
    have nb : (p == q) = false := by simpa using ne
    rw [List.zip_cons_cons, List.lookup_cons, nb]
    exact lookup_at (List.nodup_cons.mp hn).2 h1 h2
theorem keys_zip {α : Type} : ∀ {ps : List Str} {us : List α}, (ps.zip us).map (·.1) = ps.take us.length
  | [], us => by simp
  | p :: ps, [] => by simp
  | p :: ps, u :: us => by
    rw [List.zip_cons_cons, List.map_cons, keys_zip]; rfl
theorem pick_get {α : Type} {as : List α} : ∀ {is : List Nat} {bs : List α}, pick as is = some bs → bs.length = is.length ∧ ∀ (j i : Nat), is[j]? = some i → as[i]? = bs[j]?
  | [], bs, h => by cases h; exact ⟨rfl, fun j i h => by simp at h⟩
  | i :: is, bs, h => by
    unfold pick at h
    cases q1 : as[i]? with
    | none => rw [q1] at h; cases h
    | some a =>
      cases q2 : pick as is with
      | none => rw [q1, q2] at h; cases h
      | some r =>
        rw [q1, q2] at h
        cases h
        obtain ⟨h1, h2⟩ := pick_get q2
        refine ⟨by rw [List.length_cons, List.length_cons, h1], fun j k hj => ?_⟩
        cases j with
        | zero => simp at hj; subst hj; simpa using q1
        | succ j => simpa using h2 j k (by simpa using hj)
theorem filterMap_zip {α : Type} {f : Str → Option α} : ∀ {ps : List Str} {vs : List α}, vs.length = ps.length → (∀ (j : Nat) (p : Str), ps[j]? = some p → f p = vs[j]?) → (ps.filterMap fun n => (f n).map (n, ·)) = ps.zip vs
  | [], _, _, _ => rfl
  | p :: ps, [], h, _ => by cases h
  | p :: ps, v :: vs, hl, h => by
    have h0 := h 0 p rfl
    rw [List.filterMap_cons, h0]
    show (p, v) :: _ = _
    rw [filterMap_zip (by simpa using hl) fun j q hq => by simpa using h (j + 1) q (by simpa using hq)]
    rfl
theorem bind_perm {fd : FuncData} {ps ks : List Str} (h : Plain fd ps) {us ws vs : List Value} {perm : List Nat} (hp : permOk ps us.length ks perm = true) (hw : ks.length = ws.length) (hv : pick (us ++ ws) perm = some vs) : bindArgs fd ⟨us, ks.zip ws⟩ = pure (ps.zip vs) := by
  unfold permOk at hp
  simp only [Bool.and_eq_true, decide_eq_true_eq] at hp
  obtain ⟨⟨⟨⟨h1, h2⟩, h3⟩, h4⟩, h5⟩ := hp
  obtain ⟨g1, g2⟩ := pick_get hv
  have hk1 : (ks.zip ws).map (·.1) = ks := by rw [keys_zip, ← hw, List.take_length]
  have val : ∀ (j : Nat) (p : Str), ps[j]? = some p → ((ps.zip us ++ ks.zip ws).lookup p) = vs[j]? := fun j p hj => by
    have hlt : j < perm.length := by rw [h4]; exact (List.getElem?_eq_some_iff.mp hj).1
    obtain ⟨i, hi⟩ : ∃ i, perm[j]? = some i := ⟨perm[j], List.getElem?_eq_getElem hlt⟩
    have hz : (p, i) ∈ ps.zip perm := by
      refine List.mem_of_getElem? (i := j) ?_
      rw [List.getElem?_zip_eq_some]
      exact ⟨hj, hi⟩
    have h6 := List.all_eq_true.mp h5 (p, i) hz
    simp only [Bool.and_eq_true, decide_eq_true_eq] at h6
    obtain ⟨h6, h7⟩ := h6
    rw [← g2 j i hi]
    by_cases hin : i < us.length
    · rw [if_pos hin] at h7
      have h8 : ps[i]? = some p := by simpa using h7
      obtain ⟨u, hu⟩ : ∃ u, us[i]? = some u := ⟨us[i], List.getElem?_eq_getElem hin⟩
      rw [List.lookup_append, lookup_at h.nd h8 hu, List.getElem?_append_left hin, hu]; rfl
    · rw [if_neg hin] at h7
      have h8 : ks[i - us.length]? = some p := by simpa using h7
      have hlt2 : i - us.length < ws.length := by rw [← hw]; exact (List.getElem?_eq_some_iff.mp h8).1
      obtain ⟨u, hu⟩ : ∃ u, ws[i - us.length]? = some u := ⟨_, List.getElem?_eq_getElem hlt2⟩
      have h9 := List.all_eq_true.mp h3 p (List.mem_of_getElem? h8)
      simp only [Bool.and_eq_true, Bool.not_eq_true'] at h9
      have h10 : p ∉ (ps.zip us).map (·.1) := by
        rw [keys_zip]
        have := h9.2
        simpa using this
      rw [List.lookup_append, lookup_none_of h10, lookup_at h2 h8 hu, List.getElem?_append_right (by omega), hu]; rfl
  rw [bind_kw h h1 (by rw [hk1]; exact h2) (fun k hk => ?_) fun n hn => ?_]
  · rw [filterMap_zip (by rw [g1, h4]) val]
  · rw [hk1] at hk
    have h9 := List.all_eq_true.mp h3 k hk
    simp only [Bool.and_eq_true, Bool.not_eq_true'] at h9
    refine ⟨h9.1, ?_⟩
    rw [keys_zip]
    have := h9.2
    simpa using this
  · obtain ⟨j, hj⟩ := List.getElem?_of_mem hn
    rw [val j n hj, List.getElem?_eq_getElem (by rw [g1, h4]; exact (List.getElem?_eq_some_iff.mp hj).1)]
    rfl
end Sq

/-! calls of defs -/
namespace Sq
open PySem PySem.Spec PyProof.Rows L2

/-- as FnOk, where nothing writes itself (repr) -/
structure FnG (P : Program) (w : World) (K : PySem.W.Frag) (mg : Str → Option Value) (base : Heap) (k : Nat) (f : Addr) (fd : FuncData) (ps : List Str) (sp : Sp) : Prop where
  len : ∀ vs H Q E, sp vs H Q E → vs.length = ps.length
  run : ∀ (A : Around) (outer : List PySem.Env) (s : Shared) (H : Hp) (args : Args) (us : List Value) (vs : List V) (Q : VK) (E : XK), Room k A → A.guards = some [] → Env0 P w K mg base A outer s H → BindsTo s fd args (ps.zip us) → Vals vs us → sp vs H Q E →
    codeAny (model P w) A (.call (.ref f) args) (CR (L2.CX P w) outer P w H s Q E) s

section
variable {X : Cx} {k : Nat} {f : Addr} {fd : FuncData} {ps ks : List Str} {sp : Sp} {E : XK} {x : Str} {p pos : Pos} {e : Expr} {es : List Expr} {kws : List Keyword} {t tk : TA} {perm : List Nat}
theorem pick_vals {vs : List V} {us : List Value} (r : Vals vs us) : ∀ {perm : List Nat} {bs : List V}, pick vs perm = some bs → ∃ cs, pick us perm = some cs ∧ Vals bs cs
  | [], bs, h => by cases h; exact ⟨[], rfl, .nil⟩
  | i :: is, bs, h => by
    unfold pick at h
    cases q1 : vs[i]? with
    | none => rw [q1] at h; cases h
    | some a =>
      cases q2 : pick vs is with
      | none => rw [q1, q2] at h; cases h
      | some r' =>
        rw [q1, q2] at h
        cases h
        obtain ⟨u, hu, ru⟩ := r.get q1
        obtain ⟨cs, hc, rc⟩ := pick_vals r q2
        exact ⟨u :: cs, by unfold pick; rw [hu, hc], .cons ru rc⟩
theorem vals_app {xs ys : List V} {us ws : List Value} (a : Vals xs us) (b : Vals ys ws) : Vals (xs ++ ys) (us ++ ws) := a.append b
theorem run_fnG {pins : List (Addr × Obj)} {σ : L2.St} {H : Hp} {s : Shared} {Q : VK} {us ws : List Value} {vs zs bs : List V} (F : FnG X.prog X.w X.K X.mg X.base k f fd ps sp) (hr : Room k X.A) (hg : X.A.guards = some []) (hb : Plain fd ps)
    (hx : Passes (L2.CX X.prog X.w) X E) (I : Inv X pins σ H s) (r : Vals vs us) (rz : Vals zs ws) (hk : ks.length = ws.length) (hp : permOk ps us.length ks perm = true) (hv : pick (vs ++ zs) perm = some bs) (h : sp bs H Q E) :
    wpAny (model X.prog X.w) X.A (call (.ref f) us (ks.zip ws)) (EP X pins σ Q) X.xe s := by
  obtain ⟨cs, hc, rc⟩ := pick_vals (vals_app r rz) hv
  refine wpAny_call (codeAny_mono (F.run X.A X.stack s H ⟨us, ks.zip ws⟩ cs bs Q E hr hg I.env0 (.of_eq (bind_perm hb hp hk hc)) rc h) fun r s' hq => ?_)
  cases r with
  | error e => exact hx pins σ H s e s' I hq
  | ok fl =>
    cases fl with
    | ret u => exact I.after hq
    | next => exact False.elim hq
    | brk => exact False.elim hq
    | cont => exact False.elim hq
def kwNames : List Keyword → List Str
  | [] => []
  | ⟨some n, _, _⟩ :: r => n :: kwNames r
  | ⟨none, _, _⟩ :: r => kwNames r
def kwAll : List Keyword → Bool
  | [] => true
  | ⟨some _, _, _⟩ :: r => kwAll r
  | ⟨none, _, _⟩ :: _ => false
theorem kw_facts : ∀ {kws : List Keyword} {env : PySem.Env}, kwAll kws = true → (backToKw pos (keywordEach kws env)).all (·.1.isSome) = true ∧ (backToKw pos (keywordEach kws env)).filterMap (·.1) = kwNames kws ∧ (backToKw pos (keywordEach kws env)).any (·.1.isNone) = false
  | [], _, _ => ⟨rfl, rfl, rfl⟩
  | ⟨some n, e, kp⟩ :: r, env, h => by
    obtain ⟨h1, h2, h3⟩ := kw_facts (kws := r) (env := env) h
    refine ⟨?_, ?_, ?_⟩
    · show (true && (backToKw pos (keywordEach r env)).all (·.1.isSome)) = true
      rw [h1]; rfl
    · show n :: (backToKw pos (keywordEach r env)).filterMap (·.1) = _
      rw [h2]; rfl
    · show (false || (backToKw pos (keywordEach r env)).any (·.1.isNone)) = false
      rw [h3]; rfl
  | ⟨none, e, kp⟩ :: r, env, h => by cases h
def tCallG (sp : Sp) (perm : List Nat) (n m : Nat) (E : XK) (t tk : TA) : TE := fun σ H Q => t σ H fun vs H1 => tk σ H1 fun zs H2 => vs.length = n ∧ zs.length = m ∧ ∃ bs, pick (vs ++ zs) perm = some bs ∧ sp bs H2 Q E
def tCallG0 (sp : Sp) (perm : List Nat) (m : Nat) (E : XK) (tk : TA) : TE := fun σ H Q => tk σ H fun zs H2 => zs.length = m ∧ ∃ bs, pick zs perm = some bs ∧ sp bs H2 Q E
theorem pe_callG0 (F : FnG X.prog X.w X.K X.mg X.base k f fd ps sp) (hr : Room k X.A) (hgd : X.A.guards = some []) (hg : Gl X x) (hm : X.mg x = some (.ref f)) (hk : PySem.W.keepIn X.K (.ref f) = true) (hb : Plain fd ps) (hx : Passes (L2.CX X.prog X.w) X E)
    (hkw : PK X kws tk) (hdb : (x == ("__debug__" : Str)) = false) (hka : kwAll kws = true) (hp : permOk ps 0 (kwNames kws) perm = true) :
    PE X (.Call (.Name x p) [] kws pos) (tCallG0 sp perm (kwNames kws).length E tk) := by
  obtain ⟨k1, k2, k3⟩ := kw_facts (pos := pos) (env := X.env) hka
  refine ⟨fun pins s σ H Q I h => ?_⟩
  refine wpAny_Call_Name_kw (ld_glob I hg hm ?_ hdb)
  refine PySem.W.callWith_KW0 (h₀ := X.base) I.ok.mod.kin hk k1 ?_ (by rw [k3]; rfl)
  refine thn (hkw.run pos pins s σ H _ I h) fun ws s2 ⟨zs, H2, I2, rz, q2, bs, q3, q4⟩ => ⟨I2.kIn, ?_⟩
  rw [k2, List.append_nil]
  exact run_fnG F hr hgd hb hx I2 .nil rz (by rw [← q2]; exact rz.length) hp q3 q4
theorem pe_callG (F : FnG X.prog X.w X.K X.mg X.base k f fd ps sp) (hr : Room k X.A) (hgd : X.A.guards = some []) (hg : Gl X x) (hm : X.mg x = some (.ref f)) (hk : PySem.W.keepIn X.K (.ref f) = true) (hb : Plain fd ps) (hx : Passes (L2.CX X.prog X.w) X E)
    (ha : PA X (e :: es) t) (hkw : PK X kws tk) (hdb : (x == ("__debug__" : Str)) = false) (hn : notStar e = true) (hns : es.all notStar = true) (hka : kwAll kws = true) (hp : permOk ps (e :: es).length (kwNames kws) perm = true) :
    PE X (.Call (.Name x p) (e :: es) kws pos) (tCallG sp perm (e :: es).length (kwNames kws).length E t tk) := by
  obtain ⟨k1, k2, k3⟩ := kw_facts (pos := pos) (env := X.env) hka
  refine ⟨fun pins s σ H Q I h => ?_⟩
  refine wpAny_Call_Name_kw (ld_glob I hg hm ?_ hdb)
  have hst : ((backTo pos (starEach (e :: es) X.env)).any (·.1)) = false := star_none (by rw [List.all_cons, hn, hns]; rfl)
  refine PySem.W.callWith_KW (h₀ := X.base) I.ok.mod.kin hk k1 (thn (ha.run pos pins s σ H _ I h) fun us s1 ⟨vs, H1, I1, r, q⟩ => ?_) (by rw [hst, k3]; rfl) (star_cons hn)
  refine thn (hkw.run pos pins s1 σ H1 _ I1 q) fun ws s2 ⟨zs, H2, I2, rz, q1, q2, bs, q3, q4⟩ => ⟨I2.kIn, ?_⟩
  rw [k2, List.nil_append]
  exact run_fnG F hr hgd hb hx I2 r rz (by rw [← q2]; exact rz.length) (by rw [← r.length, q1]; exact hp) q3 q4
end

section
variable {M : Mo} {ex : ExT} {W : XK} {cal : Calls} {X : Cx} {pos : Pos} {G : Gh} {H H0 : Hp}
/-- handed on: nothing owned -/
inductive PRel (M : Mo) (G : Gh) (H : Hp) : List Arg → List V → Prop
  | nil : PRel M G H [] []
  | frz {v : PV} {x : V} {as : List Arg} {xs : List V} : Rep M G v x → PRel M G H as xs → PRel M G H ((v, .frz) :: as) (x :: xs)
  | bor {v : PV} {x : V} {as : List Arg} {xs : List V} : Loose M G H v x (fun _ => True) → PRel M G H as xs → PRel M G H ((v, .bor) :: as) (x :: xs)
theorem PRel.ext {G' : Gh} {H' : Hp} {S : Store} (r : HRel M G H S) (e : Ext G H G' H') : ∀ {as : List Arg} {xs : List V}, PRel M G H as xs → PRel M G' H' as xs
  | _, _, .nil => .nil
  | _, _, .frz h t => .frz (Rep.grow (e.grow r) h) (PRel.ext r e t)
  | _, _, .bor h t => .bor (h.ext r e fun _ c => c) (PRel.ext r e t)
theorem PRel.length : ∀ {as : List Arg} {xs : List V}, PRel M G H as xs → as.length = xs.length
  | _, _, .nil => rfl
  | _, _, .frz _ t => by rw [List.length_cons, List.length_cons, PRel.length t]
  | _, _, .bor _ t => by rw [List.length_cons, List.length_cons, PRel.length t]
theorem PRel.app {as bs : List Arg} {xs ys : List V} : PRel M G H as xs → PRel M G H bs ys → PRel M G H (as ++ bs) (xs ++ ys)
  | .nil, t => t
  | .frz h r, t => .frz h (PRel.app r t)
  | .bor h r, t => .bor h (PRel.app r t)
theorem PRel.get : ∀ {as : List Arg} {xs : List V} {i : Nat} {a : Arg}, PRel M G H as xs → as[i]? = some a → ∃ x, xs[i]? = some x ∧ ((a.2 = .frz ∧ Rep M G a.1 x) ∨ (a.2 = .bor ∧ Loose M G H a.1 x fun _ => True))
  | _, _, _, _, .nil, e => by simp at e
  | _, _, 0, _, .frz h _, e => by simp at e; subst e; exact ⟨_, rfl, .inl ⟨rfl, h⟩⟩
  | _, _, 0, _, .bor h _, e => by simp at e; subst e; exact ⟨_, rfl, .inr ⟨rfl, h⟩⟩
  | _, _, i + 1, a, .frz _ t, e => by
    obtain ⟨x, h1, h2⟩ := PRel.get (i := i) (a := a) t (by simpa using e)
    exact ⟨x, by simpa using h1, h2⟩
  | _, _, i + 1, a, .bor _ t, e => by
    obtain ⟨x, h1, h2⟩ := PRel.get (i := i) (a := a) t (by simpa using e)
    exact ⟨x, by simpa using h1, h2⟩
theorem PRel.pick {as : List Arg} {xs : List V} (h : PRel M G H as xs) : ∀ {perm : List Nat} {bs : List Arg}, Sq.pick as perm = some bs → ∃ ys, Sq.pick xs perm = some ys ∧ PRel M G H bs ys
  | [], bs, e => by cases e; exact ⟨[], rfl, .nil⟩
  | i :: is, bs, e => by
    unfold Sq.pick at e
    cases q1 : as[i]? with
    | none => rw [q1] at e; cases e
    | some a =>
      cases q2 : Sq.pick as is with
      | none => rw [q1, q2] at e; cases e
      | some r' =>
        rw [q1, q2] at e
        cases e
        obtain ⟨u, hu, ru⟩ := h.get q1
        obtain ⟨cs, hc, rc⟩ := PRel.pick h q2
        obtain ⟨v, fl⟩ := a
        refine ⟨u :: cs, by unfold Sq.pick; rw [hu, hc], ?_⟩
        rcases ru with ⟨z, ru⟩ | ⟨z, ru⟩
        · cases z; exact .frz ru rc
        · cases z; exact .bor ru rc
abbrev rP (M : Mo) : Gh → Hp → Hp → List Arg → List V → Prop := fun G _ H a x => PRel M G H a x
def tAs (M : Mo) (ex : ExT) (W : XK) (cal : Calls) (es : List E) : TA := fun σ H Q => ∃ G H0 s S, SRel M G H0 H s σ ∧ HRel M G H S ∧ Post M ex W G H (evalAs cal es s S) (rP M) Q
theorem hand_on {x : Arg} {y : V} {S : Store} {G0 : Gh} (h : RRel M G H0 H x.1 y x.2) (r : HRel M G H S) (e : Ext G0 H0 G H) :
    ∃ G', Ext G0 H0 G' H ∧ HRel M G' H S ∧ ∀ {G'' : Gh} {H'' : Hp} {S'' : Store} {as : List Arg} {xs : List V}, Ext G' H G'' H'' → PRel M G'' H'' as xs → PRel M G'' H'' (handOn x :: as) (y :: xs) := by
  obtain ⟨v, fl⟩ := x
  cases fl with
  | frz => exact ⟨G, e, r, fun e' t => .frz (Rep.grow (e'.grow r) h) t⟩
  | own =>
    obtain ⟨G', e', r', h', _⟩ := RRel.freeze h (fun z => nomatch z) r e
    exact ⟨G', e', r', fun e2 t => .frz (Rep.grow (e2.grow r') h') t⟩
  | bor => exact ⟨G, e, r, fun e' t => .bor (Loose.ext r e' (fun _ c => c) h) t⟩
theorem sna_nil : PA X [] (tAs M ex W cal []) := by
  refine PA.imp pa_nil fun σ H Q ⟨G, H0, s, S, hs, hr, hp⟩ => ?_
  unfold evalAs at hp
  exact hp.now hr .nil
theorem sna_cons {e : Expr} {es : List Expr} {a : E} {as : List E} (h : PE X e (tE M ex W cal a)) (t : PA X es (tAs M ex W cal as)) (hs : starEach (e :: es) X.env = (false, eval e X.env) :: starEach es X.env) :
    PA X (e :: es) (tAs M ex W cal (a :: as)) := by
  refine PA.imp (pa_cons h t hs) fun σ H Q ⟨G, H0, s, S, hs, hr, hp⟩ => ?_
  unfold evalAs at hp
  refine ⟨G, H0, s, S, hs, hr, hp.bind .refl fun x S1 G1 H1 y _ e1 r1 q1 hp => ?_⟩
  obtain ⟨G1', e1', r1', hh⟩ := hand_on q1 r1 e1
  refine ⟨G1', H0, s, S1, hs.ext hr e1', r1', hp.bind e1' fun xs S2 G2 H2 ys _ e2 r2 q2 hp => ?_⟩
  exact hp.fin (e1'.trans e2) r2 (hh (S'' := S2) e2 q2)
theorem snk_nil : PK X [] (tAs M ex W cal []) := by
  refine ⟨fun pos pins s σ H Q I ⟨G, H0, sl, S, hs, hr, hp⟩ => pk_nil.run pos pins s σ H Q I ?_⟩
  unfold evalAs at hp
  exact hp.now hr .nil
theorem snk_cons {e : Expr} {kws : List Keyword} {a : E} {as : List E} {nm : Option Str} {kp : Pos} (h : PE X e (tE M ex W cal a)) (t : PK X kws (tAs M ex W cal as)) : PK X (⟨nm, e, kp⟩ :: kws) (tAs M ex W cal (a :: as)) := by
  refine ⟨fun pos pins s σ H Q I ⟨G, H0, sl, S, hs, hr, hp⟩ => (pk_cons h t).run pos pins s σ H Q I ?_⟩
  unfold evalAs at hp
  refine ⟨G, H0, sl, S, hs, hr, hp.bind .refl fun x S1 G1 H1 y _ e1 r1 q1 hp => ?_⟩
  obtain ⟨G1', e1', r1', hh⟩ := hand_on q1 r1 e1
  refine ⟨G1', H0, sl, S1, hs.ext hr e1', r1', hp.bind e1' fun xs S2 G2 H2 ys _ e2 r2 q2 hp => ?_⟩
  exact hp.fin (e1'.trans e2) r2 (hh (S'' := S2) e2 q2)
theorem evalAs_app : ∀ (as bs : List E) (s : Env) (S : Store), evalAs cal (as ++ bs) s S = (evalAs cal as s S).bind fun xs S1 => (evalAs cal bs s S1).bind fun ys S2 => .ok (xs ++ ys) S2
  | [], bs, s, S => by
    show evalAs cal bs s S = (evalAs cal bs s S).bind fun ys S2 => .ok ([] ++ ys) S2
    cases evalAs cal bs s S <;> rfl
  | a :: as, bs, s, S => by
    have e1 : evalAs cal (a :: as ++ bs) s S = (evalE cal a s S).bind fun x S1 => (evalAs cal (as ++ bs) s S1).bind fun xs S2 => .ok (handOn x :: xs) S2 := rfl
    have e2 : evalAs cal (a :: as) s S = (evalE cal a s S).bind fun x S1 => (evalAs cal as s S1).bind fun xs S2 => .ok (handOn x :: xs) S2 := rfl
    rw [e1, e2, R.bind_assoc]
    congr 1
    funext x S1
    rw [evalAs_app as bs s S1, R.bind_assoc, R.bind_assoc]
    congr 1
    funext xs S2
    rw [R.bind_ok, R.bind_assoc]
    congr 1
theorem evalAs_len : ∀ {es : List E} {s : Env} {S S' : Store} {as : List Arg}, evalAs cal es s S = .ok as S' → as.length = es.length
  | [], s, S, S', as, h => by cases h; rfl
  | e :: es, s, S, S', as, h => by
    unfold evalAs at h
    cases q : evalE cal e s S with
    | ok x S1 =>
      rw [q, R.bind_ok] at h
      cases q2 : evalAs cal es s S1 with
      | ok xs S2 =>
        rw [q2, R.bind_ok] at h
        cases h
        rw [List.length_cons, List.length_cons, evalAs_len q2]
      | exc c fs S2 => rw [q2] at h; cases h
      | bad => rw [q2] at h; cases h
    | exc c fs S2 => rw [q] at h; cases h
    | bad => rw [q] at h; cases h
/-- what a def of the program promises -/
def spF (M : Mo) (ex : ExT) (prog : Prog) (n k : Nat) : Sp := fun vs H Q E => ∃ G as S, HRel M G H S ∧ PRel M G H as vs ∧ Post M ex E G H (callF prog k n as S) (rR M) Q
theorem snd_cal {prog : Prog} {n k j : Nat} {f : Addr} {fd : FuncData} {ps : List Str} {x : Str} {p : Pos} {e : Expr} {es : List Expr} {kws : List Keyword} {as bs : List E} {perm : List Nat} (F : FnG X.prog X.w X.K X.mg X.base j f fd ps (spF M ex prog n k)) (hr : Room j X.A) (hgd : X.A.guards = some [])
    (hg : Gl X x) (hm : X.mg x = some (.ref f)) (hk : PySem.W.keepIn X.K (.ref f) = true) (hb : Plain fd ps) (hx : Passes (L2.CX X.prog X.w) X W)
    (ha : PA X (e :: es) (tAs M ex W (callF prog k) as)) (hkw : PK X kws (tAs M ex W (callF prog k) bs)) (hdb : (x == ("__debug__" : Str)) = false) (hn : notStar e = true) (hns : es.all notStar = true) (hka : kwAll kws = true) (hp : permOk ps (e :: es).length (kwNames kws) perm = true)
    (hl : as.length = (e :: es).length) (hl2 : bs.length = (kwNames kws).length) : PE X (.Call (.Name x p) (e :: es) kws pos) (tE M ex W (callF prog k) (.cal n (as ++ bs) perm)) := by
  refine PE.imp (pe_callG F hr hgd hg hm hk hb hx ha hkw hdb hn hns hka hp) fun σ H Q ⟨G, H0, s, S, hs, hr, hp⟩ => ?_
  unfold evalE at hp
  rw [evalAs_app, R.bind_assoc] at hp
  refine ⟨G, H0, s, S, hs, hr, hp.bind .refl fun us S1 G1 H1 ys l1 e1 r1 q1 hp => ?_⟩
  rw [R.bind_assoc] at hp
  refine ⟨G1, H0, s, S1, hs.ext hr e1, r1, hp.bind e1 fun ws S2 G2 H2 zs l2 e2 r2 q2 hp => ?_⟩
  rw [R.bind_ok] at hp
  have hq := (q1.ext r1 e2).app q2
  refine ⟨by rw [← q1.length, evalAs_len l1, hl], by rw [← q2.length, evalAs_len l2, hl2], ?_⟩
  cases q : Sq.pick (us ++ ws) perm with
  | none => rw [q] at hp; exact hp.elim
  | some vs =>
    rw [q] at hp
    obtain ⟨ts, h1, h2⟩ := hq.pick q
    exact ⟨ts, h1, G2, vs, S2, r2, h2, hp.rebase bk_R (e1.trans e2)⟩
theorem snd_cal0 {prog : Prog} {n k j : Nat} {f : Addr} {fd : FuncData} {ps : List Str} {x : Str} {p : Pos} {kws : List Keyword} {bs : List E} {perm : List Nat} (F : FnG X.prog X.w X.K X.mg X.base j f fd ps (spF M ex prog n k)) (hr : Room j X.A) (hgd : X.A.guards = some [])
    (hg : Gl X x) (hm : X.mg x = some (.ref f)) (hk : PySem.W.keepIn X.K (.ref f) = true) (hb : Plain fd ps) (hx : Passes (L2.CX X.prog X.w) X W)
    (hkw : PK X kws (tAs M ex W (callF prog k) bs)) (hdb : (x == ("__debug__" : Str)) = false) (hka : kwAll kws = true) (hp : permOk ps 0 (kwNames kws) perm = true)
    (hl2 : bs.length = (kwNames kws).length) : PE X (.Call (.Name x p) [] kws pos) (tE M ex W (callF prog k) (.cal n bs perm)) := by
  refine PE.imp (pe_callG0 F hr hgd hg hm hk hb hx hkw hdb hka hp) fun σ H Q ⟨G, H0, s, S, hs, hr, hp⟩ => ?_
  unfold evalE at hp
  refine ⟨G, H0, s, S, hs, hr, hp.bind .refl fun ws S2 G2 H2 zs l2 e2 r2 q2 hp => ?_⟩
  refine ⟨by rw [← q2.length, evalAs_len l2, hl2], ?_⟩
  cases q : Sq.pick ws perm with
  | none => rw [q] at hp; exact hp.elim
  | some vs =>
    rw [q] at hp
    obtain ⟨ts, h1, h2⟩ := q2.pick q
    exact ⟨ts, h1, G2, vs, S2, r2, h2, hp.rebase bk_R e2⟩
end
end Sq

/-! statements -/
namespace Sq
open PySem PySem.Spec PyProof.Rows L2

section
variable {M : Mo} {ex : ExT} {W : XK} {cal : Calls} {X : Cx} {pos : Pos} {G G0 G1 G2 G' : Gh} {H H0 H1 H2 : Hp} {S : Store}

/-- what is wanted behind a statement -/
def PostX (M : Mo) (ex : ExT) (W : XK) (G0 : Gh) (H0 : Hp) (G : Gh) (x : Sq.X) (nx : L2.St → Hp → Prop) (rt : VK) : Prop :=
  match x with
  | .nx s' S' => ∀ G' H' σ', Ext G0 H0 G' H' → Grow G G' → HRel M G' H' S' → SRel M G' H0 H' s' σ' → nx σ' H'
  | .rt a S' => ∀ G' H' v, Ext G0 H0 G' H' → HRel M G' H' S' → RRel M G' H0 H' a.1 v a.2 → rt v H'
  | .exc c fs S' => ∀ G' H' cls d, Ext G0 H0 G' H' → HRel M G' H' S' → ExcAt M ex G' H' c fs cls d → W cls d H'
  | .bad => False
theorem PostX.grow {x : Sq.X} {nx : L2.St → Hp → Prop} {rt : VK} (h : PostX M ex W G0 H0 G x nx rt) (g : Grow G G') : PostX M ex W G0 H0 G' x nx rt := by
  cases x with
  | nx s' S' => exact fun G2 H' σ' e g' => h G2 H' σ' e (g.trans g')
  | rt a S' => exact h
  | exc c fs S' => exact h
  | bad => exact h
theorem PostX.seq {x : Sq.X} {f : Env → Store → Sq.X} {nx : L2.St → Hp → Prop} {rt : VK} {nx' : L2.St → Hp → Prop} (h : PostX M ex W G0 H0 G (x.andThen f) nx rt)
    (k : ∀ s' S' G' H' σ', x = .nx s' S' → Ext G0 H0 G' H' → Grow G G' → HRel M G' H' S' → SRel M G' H0 H' s' σ' → PostX M ex W G0 H0 G' (f s' S') nx rt → nx' σ' H') : PostX M ex W G0 H0 G x nx' rt := by
  cases x with
  | nx s' S' => exact fun G2 H' σ' e g r s => k s' S' G2 H' σ' rfl e g r s (PostX.grow h g)
  | rt a S' => exact h
  | exc c fs S' => exact h
  | bad => exact h
theorem PostX.of {α β : Type} {r : Sq.R α} {f : α → Store → Sq.X} {rel : Gh → Hp → Hp → α → β → Prop} {nx : L2.St → Hp → Prop} {rt : VK} {P : β → Hp → Prop} (h : PostX M ex W G0 H0 G (r.thenX f) nx rt) (e : Ext G0 H0 G H) (hr : HRel M G H S)
    (k : ∀ a S G2 H2 b, r = .ok a S → Ext G H G2 H2 → HRel M G2 H2 S → rel G2 H H2 a b → PostX M ex W G0 H0 G2 (f a S) nx rt → P b H2) : Post M ex W G H r rel P := by
  cases r with
  | ok a S => exact fun G' H' b e' r' q => k a S G' H' b rfl e' r' q (PostX.grow h (e'.grow hr))
  | exc c fs S => exact fun G' H' cls d e' r' q => h G' H' cls d (e.trans e') r' q
  | bad => exact h
theorem PostX.now {s : Env} {σ : L2.St} {nx : L2.St → Hp → Prop} {rt : VK} (h : PostX M ex W G0 H0 G (.nx s S) nx rt) (e : Ext G0 H0 G1 H1) (g : Grow G G1) (r : HRel M G1 H1 S) (q : SRel M G1 H0 H1 s σ) : nx σ H1 := h G1 H1 σ e g r q

def tS (M : Mo) (ex : ExT) (W : XK) (cal : Calls) (s : Sq.S) : TS := fun D σ H => ∃ G0 H0 G sl S, Ext G0 H0 G H ∧ SRel M G H0 H sl σ ∧ HRel M G H S ∧ PostX M ex W G0 H0 G (execS cal s sl S) D.nx D.rt
def tSs (M : Mo) (ex : ExT) (W : XK) (cal : Calls) (s : List Sq.S) : TS := fun D σ H => ∃ G0 H0 G sl S, Ext G0 H0 G H ∧ SRel M G H0 H sl σ ∧ HRel M G H S ∧ PostX M ex W G0 H0 G (execs cal s sl S) D.nx D.rt
theorem PS.imp {e : Stmt} {t t' : TS} (h : PS X e t) (k : ∀ D σ H, t' D σ H → t D σ H) : PS X e t' := ⟨fun pins s σ H Q I q => h.run pins s σ H Q I (k Q σ H q)⟩
theorem PSs.imp {e : List Stmt} {t t' : TS} (h : PSs X e t) (k : ∀ D σ H, t' D σ H → t D σ H) : PSs X e t' := ⟨fun pins s σ H Q I q => h.run pins s σ H Q I (k Q σ H q)⟩

theorem sns_nil : PSs X [] (tSs M ex W cal []) := by
  refine PSs.imp pss_nil fun D σ H ⟨G0, H0, G, sl, S, e, hs, hr, hp⟩ => ?_
  unfold execs at hp
  exact hp.now e .refl hr hs
theorem sns_cons {st : Stmt} {rest : List Stmt} {s : Sq.S} {ss : List Sq.S} (h1 : PS X st (tS M ex W cal s)) (h2 : PSs X rest (tSs M ex W cal ss)) : PSs X (st :: rest) (tSs M ex W cal (s :: ss)) := by
  refine PSs.imp (pss_cons h1 h2) fun D σ H ⟨G0, H0, G, sl, S, e, hs, hr, hp⟩ => ?_
  unfold execs at hp
  exact ⟨G0, H0, G, sl, S, e, hs, hr, hp.seq fun s' S' G' H' σ' _ e' g' r' q' hp => ⟨G0, H0, G', s', S', e', q', r', hp⟩⟩

/-! ### slots -/
theorem set_at {α : Type} {s : List (Option α)} {i j : Nat} {y : α} {x : Option α} (h : (s.set i x)[j]? = some (some y)) : (i = j ∧ x = some y) ∨ (i ≠ j ∧ s[j]? = some (some y)) := by
  by_cases e : i = j
  · subst e
    by_cases hl : i < s.length
    · rw [List.getElem?_set_self hl] at h
      exact .inl ⟨rfl, Option.some.inj h⟩
    · rw [List.getElem?_eq_none (by rw [List.length_set]; omega)] at h; cases h
  · rw [List.getElem?_set_ne e] at h
    exact .inr ⟨e, h⟩
/-- a result and the slots do not meet -/
def Apart (s : Env) (σ : L2.St) (x : V) : Prop := ∀ (j : Nat) (u : PV) (b : Addr), s[j]? = some (some (u, Fl.own)) → σ[j]? = some (some (V.ref b)) → x ≠ V.ref b
theorem SRel.setO {s : Env} {σ : L2.St} {i : Nat} {v : PV} {x : V} (h : SRel M G H0 H s σ) (r : Loose M G H v x fun a => H0 a = none) (ap : Apart s σ x) : SRel M G H0 H (s.set i (some (v, .own))) (σ.set i (some x)) := by
  refine ⟨by rw [List.length_set, List.length_set]; exact h.len, fun j w fl q => ?_, fun j k w u a q1 q2 q3 q4 => ?_⟩
  · rcases set_at q with ⟨e, z⟩ | ⟨e, z⟩
    · subst e
      cases z
      refine ⟨x, ?_, r⟩
      rw [List.getElem?_set_self]
      rw [← h.len]
      obtain ⟨hl, _⟩ := List.getElem?_eq_some_iff.mp q
      rw [List.length_set] at hl
      exact hl
    · obtain ⟨y, h1, h2⟩ := h.val j w fl z
      exact ⟨y, by rw [List.getElem?_set_ne e]; exact h1, h2⟩
  · rcases set_at q1 with ⟨e1, z1⟩ | ⟨e1, z1⟩
    · rcases set_at q2 with ⟨e2, z2⟩ | ⟨e2, z2⟩
      · exact e1.symm.trans e2
      · exfalso
        rw [List.getElem?_set_ne e2] at q4
        subst e1
        rcases set_at q3 with ⟨_, z3⟩ | ⟨z3, _⟩
        · exact ap k u a z2 q4 (Option.some.inj z3)
        · exact z3 rfl
    · rw [List.getElem?_set_ne e1] at q3
      rcases set_at q2 with ⟨e2, z2⟩ | ⟨e2, z2⟩
      · exfalso
        subst e2
        rcases set_at q4 with ⟨_, z4⟩ | ⟨z4, _⟩
        · exact ap j w a z1 q3 (Option.some.inj z4)
        · exact z4 rfl
      · rw [List.getElem?_set_ne e2] at q4
        exact h.apart j k w u a z1 z2 q3 q4
/-- a slot's list at another place -/
theorem SRel.ne {s : Env} {σ : L2.St} {j : Nat} {v : PV} {fl : Fl} {b p : Addr} (h : SRel M G H0 H s σ) (q : s[j]? = some (some (v, fl))) (hb : σ[j]? = some (some (.ref b))) (hf : fl = .bor) (hp : H0 p = none) : b ≠ p := by
  obtain ⟨x, h1, h2⟩ := h.val j v fl q
  subst hf
  rw [hb] at h1
  cases h1
  obtain ⟨a, xs, vs, e1, e2, e3, e4, e5, e6, c⟩ := h2
  cases e2
  exact fun z => c (z ▸ hp)
/-- a new result is apart from the slots -/
theorem apart_new {s : Env} {σ : L2.St} {v : PV} {x : V} (h : SRel M G0 H0 H1 s σ) (r : Loose M G H v x fun a => H1 a = none) : Apart s σ x := by
  intro j u b q1 q2 e
  obtain ⟨y, h1, a, xs, vs, e1, e2, e3, _⟩ := h.val j u .own q1
  rw [q2] at h1
  cases h1
  cases e2
  obtain ⟨a', _, _, _, f2, _, _, _, _, c⟩ := r
  rw [e] at f2
  cases f2
  rw [c] at e3; cases e3
def AOk (M : Mo) (G : Gh) (H0 H : Hp) (s : Env) (σ : L2.St) (a : Arg) (x : V) : Prop := RRel M G H0 H a.1 x a.2 ∧ (a.2 = .own → Apart s σ x)
theorem SRel.setS {s s' : Env} {σ : L2.St} {i : Nat} {a : Arg} {x : V} (h : SRel M G H0 H s σ) (r : AOk M G H0 H s σ a x) (e : setS s i a = some s') : SRel M G H0 H s' (σ.set i (some x)) := by
  obtain ⟨v, fl⟩ := a
  unfold Sq.setS at e
  by_cases hl : i < s.length
  case neg => rw [if_neg hl] at e; cases e
  rw [if_pos hl] at e
  cases fl with
  | bor => cases e
  | frz => cases e; exact h.setF r.1
  | own =>
    have r1 := r.1
    obtain ⟨a, xs, vs, e1, _⟩ := id r1
    dsimp only at e1
    subst e1
    cases e
    exact h.setO r1 (r.2 rfl)
/-! ### freezing under the slots -/
theorem SRel.fz {s : Env} {σ : L2.St} {a : Addr} {o : HO} (h : SRel M G H0 H s σ) (hi : G.I a = none) (h0 : H0 a = none) (ap : Apart s σ (.ref a)) : SRel M (G.fz a o) H0 H s σ := by
  refine ⟨h.len, fun j w fl q => ?_, h.apart⟩
  obtain ⟨x, h1, h2⟩ := h.val j w fl q
  refine ⟨x, h1, ?_⟩
  cases fl with
  | frz => exact Rep.grow (grow_fz hi) h2
  | own =>
    obtain ⟨b, xs, vs, e1, e2, e3, e4, e5, e6, c⟩ := h2
    subst e2
    have ne : b ≠ a := fun z => ap j w b q h1 (by rw [z])
    exact ⟨b, xs, vs, e1, rfl, e3, e4.grow (grow_fz hi), (upd_ne ne).trans e5, e6, c⟩
  | bor =>
    obtain ⟨b, xs, vs, e1, e2, e3, e4, e5, e6, c⟩ := h2
    have ne : b ≠ a := fun z => c (z ▸ h0)
    exact ⟨b, xs, vs, e1, e2, e3, e4.grow (grow_fz hi), (upd_ne ne).trans e5, e6, c⟩
theorem AOk.freeze {s : Env} {σ : L2.St} {a : Arg} {x : V} {v : PV} (h : AOk M G H0 H s σ a x) (hl : leak1 a = some v) (hs : SRel M G H0 H s σ) (r : HRel M G H S) (e : Ext G0 H0 G H) :
    ∃ G', Ext G0 H0 G' H ∧ HRel M G' H S ∧ Rep M G' v x ∧ Grow G G' ∧ SRel M G' H0 H s σ := by
  obtain ⟨w, fl⟩ := a
  cases fl with
  | bor => cases hl
  | frz => cases hl; exact ⟨G, e, r, h.1, .refl, hs⟩
  | own =>
    cases hl
    have ap := h.2 rfl
    obtain ⟨a, xs, vs, rfl, rfl, e3, e4, e5, e6, c⟩ := h.1
    exact ⟨G.fz a (.lst vs), ext_fz e c, hrel_fz r e3 e5 e6, .lst upd_same (e4.grow (grow_fz e5)), grow_fz e5, hs.fz e5 c ap⟩
/-- an own slot is frozen -/
theorem frz_one {s : Env} {σ : L2.St} {i : Nat} {v : PV} (q : s[i]? = some (some (v, .own))) (hs : SRel M G H0 H s σ) (r : HRel M G H S) (e : Ext G0 H0 G H) :
    ∃ G', Ext G0 H0 G' H ∧ HRel M G' H S ∧ Grow G G' ∧ SRel M G' H0 H (s.set i (some (v, .frz))) σ := by
  obtain ⟨x, h1, a, xs, vs, e1, e2, e3, e4, e5, e6, c⟩ := hs.val i v .own q
  subst e1 e2
  have hs' : SRel M G H0 H (s.set i none) (σ.set i none) := hs.setN
  have ap : Apart (s.set i none) (σ.set i none) (.ref a) := by
    intro j u b q1 q2 z
    rcases set_at q1 with ⟨_, z1⟩ | ⟨n, z1⟩
    · cases z1
    · rw [List.getElem?_set_ne n] at q2
      cases z
      exact n (hs.apart i j _ u a q z1 h1 q2)
  have h3 := (hs'.fz (o := .lst vs) e5 c ap).setF (i := i) (Rep.lst (xs := xs) upd_same (e4.grow (grow_fz e5)))
  rw [List.set_set, List.set_set] at h3
  have e7 : σ.set i (some (V.ref a)) = σ := by
    obtain ⟨hl, hg⟩ := List.getElem?_eq_some_iff.mp h1
    rw [← hg]
    exact List.set_getElem_self hl
  rw [e7] at h3
  exact ⟨G.fz a (.lst vs), ext_fz e c, hrel_fz r e3 e5 e6, grow_fz e5, h3⟩
theorem frz_all {σ : L2.St} : ∀ (is : List Nat) {s : Env} {G : Gh}, SRel M G H0 H s σ → HRel M G H S → Ext G0 H0 G H →
    ∃ G', Ext G0 H0 G' H ∧ HRel M G' H S ∧ Grow G G' ∧ SRel M G' H0 H (frzAll s is) σ
  | [], s, G, hs, r, e => ⟨G, e, r, .refl, hs⟩
  | i :: is, s, G, hs, r, e => by
    unfold frzAll
    split
    · rename_i v q
      obtain ⟨G1, e1, r1, g1, s1⟩ := frz_one q hs r e
      obtain ⟨G2, e2, r2, g2, s2⟩ := frz_all is s1 r1 e1
      exact ⟨G2, e2, r2, g1.trans g2, s2⟩
    · exact frz_all is hs r e
theorem sns_frz {rest : List Stmt} {is : List Nat} {ss : List Sq.S} (h : PSs X rest (tSs M ex W cal ss)) : PSs X rest (tSs M ex W cal (.frz is :: ss)) := by
  refine PSs.imp h fun D σ H ⟨G0, H0, G, sl, S, e, hs, hr, hp⟩ => ?_
  unfold execs execS at hp
  obtain ⟨G1, e1, r1, g1, s1⟩ := frz_all is hs hr e
  exact ⟨G0, H0, G1, frzAll sl is, S, e1, s1, r1, PostX.grow hp g1⟩

/-! ### simple ones -/
theorem sn_pas : PS X (.Pass pos) (tS M ex W cal .pas) := by
  refine PS.imp ps_pass fun D σ H ⟨G0, H0, G, sl, S, e, hs, hr, hp⟩ => ?_
  unfold execS at hp
  exact hp.now e .refl hr hs
theorem sn_nev {st : Stmt} : PS X st (tS M ex W cal .nev) := by
  refine PS.imp ps_never fun D σ H ⟨G0, H0, G, sl, S, e, hs, hr, hp⟩ => ?_
  unfold execS at hp
  exact hp
theorem sn_doc {x : Str} {j p} : PS X (.Expr (.Constant (.str x) j p) pos) (tS M ex W cal .pas) := by
  refine PS.imp ps_doc fun D σ H ⟨G0, H0, G, sl, S, e, hs, hr, hp⟩ => ?_
  unfold execS at hp
  exact hp.now e .refl hr hs
theorem sn_exp {a : Expr} {e : E} (h : PE X a (tE M ex W cal e)) (hs : swapsWith a none pos.line X.env = pure false) : PS X (.Expr a pos) (tS M ex W cal (.exp e)) := by
  refine PS.imp (ps_expr h hs) fun D σ H ⟨G0, H0, G, sl, S, e, hs, hr, hp⟩ => ?_
  unfold execS at hp
  refine ⟨G, H0, sl, S, hs, hr, hp.of e hr fun a S1 G1 H1 x _ e1 r1 q1 hp => ?_⟩
  exact hp.now (e.trans e1) .refl r1 (hs.ext hr e1)
theorem sn_ret {a : Expr} {e : E} (h : PE X a (tE M ex W cal e)) : PS X (.Return (some a) pos) (tS M ex W cal (.ret e)) := by
  refine PS.imp (ps_ret h) fun D σ H ⟨G0, H0, G, sl, S, e, hs, hr, hp⟩ => ?_
  unfold execS at hp
  refine ⟨G, H0, sl, S, hs, hr, hp.of e hr fun a S1 G1 H1 x _ e1 r1 q1 hp => ?_⟩
  obtain ⟨v, fl⟩ := a
  cases fl with
  | bor => exact hp.elim
  | frz => exact hp G1 H1 x (e.trans e1) r1 (RRel.back e.back q1)
  | own => exact hp G1 H1 x (e.trans e1) r1 (RRel.back e.back q1)
theorem sn_retm {i : Nat} {x : Str} {p : Pos} (hN : X.N[i]? = some x) (hv : Vis X.env.scope x) (hd : (x == ("__debug__" : Str)) = false) (hcd : (x == ("__classdict__" : Str)) = false) : PS X (.Return (some (.Name x p)) pos) (tS M ex W cal (.retm i)) := by
  refine PS.imp (ps_ret (pe_var hN hv hd hcd)) fun D σ H ⟨G0, H0, G, sl, S, e, hs, hr, hp⟩ => ?_
  unfold execS at hp
  cases q : sl[i]? with
  | none => rw [q] at hp; exact hp.elim
  | some o =>
    rw [q] at hp
    match o, q, hp with
    | some (v, .frz), q, hp =>
      obtain ⟨y, h1, h2⟩ := hs.val i v .frz q
      exact ⟨y, h1, hp G H y e hr h2⟩
    | some (v, .own), q, hp =>
      obtain ⟨y, h1, h2⟩ := hs.val i v .own q
      exact ⟨y, h1, hp G H y e hr h2⟩
    | some (v, .bor), q, hp => exact hp.elim
    | none, q, hp => exact hp.elim
theorem sn_retn : PS X (.Return none pos) (tS M ex W cal .retn) := by
  refine PS.imp ps_retN fun D σ H ⟨G0, H0, G, sl, S, e, hs, hr, hp⟩ => ?_
  unfold execS at hp
  exact hp G H _ e hr Rep.non
theorem sn_iff {c : Expr} {a b : List Stmt} {ec : E} {sa sb : List Sq.S} (hc : PT X c (tT M ex W cal ec)) (ha : PSs X a (tSs M ex W cal sa)) (hb : PSs X b (tSs M ex W cal sb)) : PS X (.If c a b pos) (tS M ex W cal (.iff ec sa sb)) := by
  refine PS.imp (ps_if hc ha hb) fun D σ H ⟨G0, H0, G, sl, S, e, hs, hr, hp⟩ => ?_
  unfold execS at hp
  refine ⟨G, H0, sl, S, hs, hr, hp.of e hr fun t S1 G1 H1 t' _ e1 r1 q1 hp => ?_⟩
  subst q1
  cases t with
  | true => exact ⟨G0, H0, G1, sl, S1, e.trans e1, hs.ext hr e1, r1, hp⟩
  | false => exact ⟨G0, H0, G1, sl, S1, e.trans e1, hs.ext hr e1, r1, hp⟩
theorem sn_whl {c : Expr} {b : List Stmt} {ec : E} {sb : List Sq.S} (hpa : PassesOwn (model X.prog X.w) X.A X.env X.xe) (hc : PT X c (tT M ex W cal ec)) (hb : PSs X b (tSs M ex W cal sb)) : PS X (.While c b [] pos) (tS M ex W cal (.whl ec sb)) := by
  refine PS.imp (ps_while hpa hc hb) fun D σ H ⟨G0, H0, G, sl, S, e, hs, hr, hp⟩ => ?_
  unfold execS at hp
  generalize FUEL = n at hp
  refine ⟨fun m σ H => ∃ G sl S, Ext G0 H0 G H ∧ SRel M G H0 H sl σ ∧ HRel M G H S ∧ PostX M ex W G0 H0 G (whL (fun σ st => testR (evalE cal ec σ st)) (fun σ st => execs cal sb σ st) m sl S) D.nx D.rt, ⟨n, G, sl, S, e, hs, hr, hp⟩, ?_⟩
  rintro m σ H ⟨G, sl, S, e, hs, hr, hp⟩
  cases m with
  | zero => exact hp.elim
  | succ m =>
    unfold whL at hp
    refine ⟨G, H0, sl, S, hs, hr, hp.of e hr fun t S1 G1 H1 t' _ e1 r1 q1 hp => ?_⟩
    subst q1
    cases t with
    | true =>
      refine iteT ⟨fun σ' H' => ∃ G sl S, Ext G0 H0 G H' ∧ SRel M G H0 H' sl σ' ∧ HRel M G H' S ∧ PostX M ex W G0 H0 G (whL (fun σ st => testR (evalE cal ec σ st)) (fun σ st => execs cal sb σ st) m sl S) D.nx D.rt,
        fun σ' H' h => ⟨m, Nat.lt_succ_self m, h⟩, G0, H0, G1, sl, S1, e.trans e1, hs.ext hr e1, r1, ?_⟩
      exact PostX.seq hp fun s' S' G' H' σ' _ e' g' r' q' hp => ⟨G', s', S', e', q', r', hp⟩
    | false =>
      exact iteF (PostX.now hp (e.trans e1) .refl r1 (hs.ext hr e1))
theorem sn_fr {tg iter : Expr} {b : List Stmt} {t : T} {k : IK} {es : List E} {sb : List Sq.S} (hpa : PassesOwn (model X.prog X.w) X.A X.env X.xe) (hc : X.calm = true) (hi : PI X tg iter (tI M ex W cal k es)) (hg : PG X tg (tG M t)) (hb : PSs X b (tSs M ex W cal sb))
    (hsi : ∀ x, foldedSetIterable iter X.env x = pure x) : PS X (.For tg iter b [] pos) (tS M ex W cal (.fr t k es sb)) := by
  refine PS.imp (ps_for hpa hc hi hg hb hsi) fun D σ H ⟨G0, H0, G, sl, S, e, hs, hr, hp⟩ => ?_
  unfold execS at hp
  refine ⟨G, H0, sl, S, hs, hr, hp.of e hr fun xs S1 G1 H1 J _ e1 r1 hJ hp => ?_⟩
  refine ⟨fun i m σ H => ∃ G sl S, m = xs.length - i ∧ i ≤ xs.length ∧ Grow G1 G ∧ Ext G0 H0 G H ∧ SRel M G H0 H sl σ ∧ HRel M G H S ∧ PostX M ex W G0 H0 G (forL t (fun σ st => execs cal sb σ st) (xs.drop i) sl S) D.nx D.rt,
    ⟨xs.length, G1, sl, S1, by simp, Nat.zero_le _, .refl, e.trans e1, hs.ext hr e1, r1, by rw [List.drop_zero]; exact hp⟩, ?_⟩
  rintro i m σ H ⟨G, sl, S, rfl, hi, gr, e, hs, hr, hp⟩
  by_cases hlt : i < xs.length
  · have hv : xs[i]? = some xs[i] := List.getElem?_eq_getElem hlt
    obtain ⟨go, yl⟩ := (hJ G H S gr hr i).1 _ hv
    rw [List.drop_eq_getElem_cons hlt] at hp
    generalize xs[i] = v at hv yl hp
    unfold forL at hp
    refine .inr ⟨go, fun σ' H' => ∃ G sl S, xs.length - (i + 1) = xs.length - (i + 1) ∧ i + 1 ≤ xs.length ∧ Grow G1 G ∧ Ext G0 H0 G H' ∧ SRel M G H0 H' sl σ' ∧ HRel M G H' S ∧ PostX M ex W G0 H0 G (forL t (fun σ st => execs cal sb σ st) (xs.drop (i + 1)) sl S) D.nx D.rt,
      fun σ' H' h => ⟨xs.length - (i + 1), by omega, h⟩, fun x H2 hy => ?_⟩
    obtain ⟨G2, e2, r2, rv⟩ := yl x H2 hy
    cases ha : asgT t v sl with
    | none => rw [ha] at hp; exact hp.elim
    | some s2 =>
      rw [ha] at hp
      have hs2 := hs.ext hr e2
      refine ⟨G2, H0, sl, S, v, s2, hs2, r2, rv, ha, fun σ2 hσ2 hw => ?_⟩
      refine ⟨G0, H0, G2, s2, S, e.trans e2, hσ2, r2, PostX.seq (PostX.grow hp (e2.grow hr)) fun s' S' G' H' σ' _ e' g' r' q' hp => ?_⟩
      exact ⟨G', s', S', rfl, hlt, (gr.trans (e2.grow hr)).trans g', e', q', r', hp⟩
  · have ei : i = xs.length := by omega
    subst ei
    rw [List.drop_length] at hp
    exact .inl ⟨(hJ G H S gr hr _).2 (Nat.le_refl _), PostX.now hp e .refl hr hs⟩

/-! ### targets -/
def tTg (M : Mo) (ex : ExT) (W : XK) (cal : Calls) (t : Tg) : TG := fun x σ H Q => ∃ G0 H0 G sl S a rt, Ext G0 H0 G H ∧ SRel M G H0 H sl σ ∧ HRel M G H S ∧ AOk M G H0 H sl σ a x ∧ PostX M ex W G0 H0 G (asgG cal t a sl S) Q rt
def tTgs (M : Mo) (ex : ExT) (W : XK) (cal : Calls) (ts : List Tg) : TGs := fun xs σ H Q => ∃ G0 H0 G sl S vs rt, Ext G0 H0 G H ∧ SRel M G H0 H sl σ ∧ HRel M G H S ∧ Reps M G vs xs ∧ PostX M ex W G0 H0 G (asgGs cal ts vs sl S) Q rt
theorem stg_nm {i : Nat} {x : Str} (hN : X.N.Nodup) (hi : X.N[i]? = some x) (hx : Loc X.env.scope x) (hf : X.fn x = true ∨ X.env.scope.names.lookup x = some .local) : PG X (.Name x pos) (tTg M ex W cal (.nm i)) := by
  refine PG.imp (pg_name hN hi hx hf) fun x σ H Q ⟨G0, H0, G, sl, S, a, rt, e, hs, hr, ha, hp⟩ => ?_
  unfold asgG at hp
  cases q : setS sl i a with
  | none => rw [q] at hp; exact hp.elim
  | some s' =>
    rw [q] at hp
    exact PostX.now hp e .refl hr (hs.setS ha q)
theorem stgs_nil : PGs X [] (tTgs M ex W cal []) := by
  refine PGs.imp pgs_nil fun xs σ H Q ⟨G0, H0, G, sl, S, vs, rt, e, hs, hr, rv, hp⟩ => ?_
  cases rv with
  | nil =>
    unfold asgGs at hp
    exact ⟨rfl, PostX.now hp e .refl hr hs⟩
  | cons _ _ => exact hp.elim
theorem stgs_cons {e : Expr} {es : List Expr} {t : Tg} {ts : List Tg} (h : PG X e (tTg M ex W cal t)) (hs : PGs X es (tTgs M ex W cal ts)) (ha : (assignEach (e :: es) X.env).map (·.2) = assign e X.env :: (assignEach es X.env).map (·.2)) : PGs X (e :: es) (tTgs M ex W cal (t :: ts)) := by
  refine PGs.imp (pgs_cons h hs ha) fun xs σ H Q ⟨G0, H0, G, sl, S, vs, rt, e, hs, hr, rv, hp⟩ => ?_
  cases rv with
  | nil => exact hp.elim
  | @cons v vr x xr r1 r2 =>
    unfold asgGs at hp
    refine ⟨x, xr, rfl, G0, H0, G, sl, S, (v, .frz), rt, e, hs, hr, ⟨r1, fun z => nomatch z⟩, PostX.seq hp fun s' S' G' H' σ' _ e' g' r' q' hp => ?_⟩
    exact ⟨G0, H0, G', s', S', vr, rt, e', q', r', r2.grow g', hp⟩
theorem stg_tp (hK : X.K = M.K) {es : List Expr} {ts : List Tg} {k : Nat} (hc : X.calm = true) (h : PGs X es (tTgs M ex W cal ts)) (hn : (assignEach es X.env).length = ts.length) (hst : (assignEach es X.env).findIdx? (·.1) = none) : PG X (.Tuple es k pos) (tTg M ex W cal (.tp ts)) := by
  refine PG.imp (pg_tup (n := ts.length) hc h hn hst) fun x σ H Q ⟨G0, H0, G, sl, S, a, rt, e, hs, hr, rv, hp⟩ => ?_
  obtain ⟨v, fl⟩ := a
  cases v with
  | tup vs =>
    unfold asgG at hp
    by_cases hl : vs.length = ts.length
    · rw [if_pos hl] at hp
      obtain ⟨p, us, rfl, k1, k2⟩ := Rdb.tup hr rv.1.rdb
      exact ⟨p, us, rfl, by rw [hK]; exact k1, by rw [← k2.length]; exact hl, G0, H0, G, sl, S, vs, rt, e, hs, hr, k2, hp⟩
    · rw [if_neg hl] at hp; exact hp.elim
  | _ => unfold asgG at hp; exact hp.elim
/-- a list of the store changes -/
theorem obj_upd {n : Nat} {a : Addr} {xs ys : List PV} {us : List V} (r : HRel M G H S) (h1 : G.μ[n]? = some a) (h2 : S[n]? = some (.lst xs)) (hq : Reps M G ys us) : HRel M G (upd H a (.lst us)) (S.set n (.lst ys)) := by
  have ha : a ∈ G.μ := List.mem_of_getElem? h1
  refine ⟨fun b o e => ?_, by rw [List.length_set]; exact r.len, r.nd, r.off, fun m so b q1 q2 => ?_⟩
  · rw [upd_ne (show b ≠ a from fun z => by rw [z, r.off a ha] at e; cases e)]
    exact r.sub b o e
  · by_cases e : n = m
    · subst e
      rw [h1] at q2
      cases q2
      obtain ⟨hl, _⟩ := List.getElem?_eq_some_iff.mp h2
      rw [List.getElem?_set_self hl] at q1
      cases q1
      exact ⟨us, upd_same, hq⟩
    · rw [List.getElem?_set_ne e] at q1
      have ne : b ≠ a := by
        intro z
        subst z
        obtain ⟨l1, g1⟩ := List.getElem?_eq_some_iff.mp h1
        obtain ⟨l2, g2⟩ := List.getElem?_eq_some_iff.mp q2
        have pw := List.pairwise_iff_getElem.mp r.nd
        rcases Nat.lt_or_gt_of_ne e with z | z
        · exact pw n m l1 l2 z (g1.trans g2.symm)
        · exact pw m n l2 l1 z (g2.trans g1.symm)
      have z := r.st m so b q1 q2
      cases so with
      | lst zs =>
        obtain ⟨ws, z1, z2⟩ := z
        exact ⟨ws, by rw [upd_ne ne]; exact z1, z2⟩
theorem ext_obj {a : Addr} {o : HO} (e : Ext G0 H0 G H) (ha : a ∈ G.μ) : Ext G0 H0 G (upd H a o) := by
  refine ⟨e.old, e.μ, fun b u q n => ?_, fun b u q => ?_⟩
  · have ne : b ≠ a := fun z => by
      subst z
      obtain ⟨l, e1, f⟩ := e.μ
      rw [e1] at ha
      rcases List.mem_append.mp ha with z | z
      · exact n z
      · rw [f b z] at q; cases q
    rw [upd_ne ne]
    exact e.keep b u q n
  · by_cases z : b = a
    · subst z; exact ⟨o, upd_same⟩
    · obtain ⟨u', h⟩ := e.there b u q
      exact ⟨u', by rw [upd_ne z]; exact h⟩
theorem srel_obj {s : Env} {σ : L2.St} {a : Addr} {o : HO} (h : SRel M G H0 H s σ) (ha : a ∈ G.μ) : SRel M G H0 (upd H a o) s σ := by
  refine ⟨h.len, fun j w fl q => ?_, h.apart⟩
  obtain ⟨x, h1, h2⟩ := h.val j w fl q
  refine ⟨x, h1, ?_⟩
  cases fl with
  | frz => exact h2
  | own =>
    obtain ⟨b, xs, vs, e1, e2, e3, e4, e5, e6, c⟩ := h2
    have ne : b ≠ a := fun z => by subst z; exact e6 ha
    exact ⟨b, xs, vs, e1, e2, by rw [upd_ne ne]; exact e3, e4, e5, e6, c⟩
  | bor =>
    obtain ⟨b, xs, vs, e1, e2, e3, e4, e5, e6, c⟩ := h2
    have ne : b ≠ a := fun z => by subst z; exact e6 ha
    exact ⟨b, xs, vs, e1, e2, by rw [upd_ne ne]; exact e3, e4, e5, e6, c⟩
/-- an own list changes -/
theorem own_upd {s : Env} {σ : L2.St} {i : Nat} {v : PV} (hs : SRel M G H0 H s σ) (r : HRel M G H S) (e : Ext G0 H0 G H) (q : s[i]? = some (some (v, .own))) :
    ∃ a xs vs, v = .lst xs ∧ σ[i]? = some (some (.ref a)) ∧ H a = some (.lst vs) ∧ Reps M G xs vs ∧ ∀ {ys us}, Reps M G ys us → Ext G0 H0 G (upd H a (.lst us)) ∧ HRel M G (upd H a (.lst us)) S ∧ SRel M G H0 (upd H a (.lst us)) (s.set i (some (.lst ys, .own))) σ := by
  obtain ⟨x, h1, a, xs, vs, e1, e2, e3, e4, e5, e6, c⟩ := hs.val i v .own q
  subst e1 e2
  refine ⟨a, xs, vs, rfl, h1, e3, e4, fun {ys us} hq => ⟨ext_loose e c, hrel_loose r e5 e6, ?_⟩⟩
  refine ⟨by rw [List.length_set]; exact hs.len, fun j w fl q' => ?_, fun j k w u b q1 q2 q3 q4 => ?_⟩
  · rcases set_at q' with ⟨ej, z⟩ | ⟨nj, z⟩
    · subst ej
      cases z
      exact ⟨_, h1, a, ys, us, rfl, rfl, upd_same, hq, e5, e6, c⟩
    · obtain ⟨x, g1, g2⟩ := hs.val j w fl z
      refine ⟨x, g1, ?_⟩
      cases fl with
      | frz => exact g2
      | own =>
        obtain ⟨b, zs, ws, f1, f2, f3, f4, f5, f6, c'⟩ := g2
        subst f2
        have ne : b ≠ a := fun z' => nj (hs.apart i j _ w a q z h1 (by rw [g1, z']))
        exact ⟨b, zs, ws, f1, rfl, by rw [upd_ne ne]; exact f3, f4, f5, f6, c'⟩
      | bor =>
        obtain ⟨b, zs, ws, f1, f2, f3, f4, f5, f6, c'⟩ := g2
        have ne : b ≠ a := fun z' => c' (z' ▸ c)
        exact ⟨b, zs, ws, f1, f2, by rw [upd_ne ne]; exact f3, f4, f5, f6, c'⟩
  · have back : ∀ {j : Nat} {w : PV}, (s.set i (some (PV.lst ys, Fl.own)))[j]? = some (some (w, .own)) → ∃ w', s[j]? = some (some (w', Fl.own)) := fun {j w} z => by
      rcases set_at z with ⟨ej, z⟩ | ⟨_, z⟩
      · subst ej; exact ⟨_, q⟩
      · exact ⟨w, z⟩
    obtain ⟨_, z1⟩ := back q1
    obtain ⟨_, z2⟩ := back q2
    exact hs.apart j k _ _ b z1 z2 q3 q4
theorem ixN_same {n : Nat} {i : Int} {j : Nat} (h : Sq.ixN n i = some j) : L2.ixN n i = some j := h
theorem stg_ix {i : Nat} {x : Str} {p : Pos} {ei : Expr} {ee : E} (hN : X.N[i]? = some x) (hv : Vis X.env.scope x) (hd : (x == ("__debug__" : Str)) = false) (hcd : (x == ("__classdict__" : Str)) = false) (he : PE X ei (tE M ex W cal ee))
    (ha : ∀ v, assign (.Subscript (.Name x p) ei pos) X.env v = (do
      let ov ← holding [v] (eval (.Name x p) X.env)
      let iv ← holding [v, ov] (eval ei X.env)
      standAt pos
      holding [v, ov, iv] (setItem ov iv v)
      release [v, ov, iv] [])) : PG X (.Subscript (.Name x p) ei pos) (tTg M ex W cal (.ix i ee)) := by
  refine PG.imp (pg_sub (pe_var hN hv hd hcd) he set_list ha) fun x σ H Q ⟨G0, H0, G, sl, S, a, rt, e, hs, hr, hva, hp⟩ => ?_
  unfold asgG at hp
  cases hl : leak1 a with
  | none => rw [hl] at hp; exact hp.elim
  | some v =>
    rw [hl] at hp
    dsimp only at hp
    obtain ⟨G', e', r', rv, g', s'⟩ := hva.freeze hl hs hr e
    have hp := PostX.grow hp g'
    by_cases hb : boxed sl i = true
    case neg => rw [if_neg hb] at hp; exact hp.elim
    rw [if_pos hb] at hp
    have ho : ∃ o, σ[i]? = some (some o) := by
      unfold boxed at hb
      split at hb
      · rename_i q; obtain ⟨y, h1, _⟩ := hs.val i _ _ q; exact ⟨y, h1⟩
      · rename_i q; obtain ⟨y, h1, _⟩ := hs.val i _ _ q; exact ⟨y, h1⟩
      · cases hb
    obtain ⟨o, ho⟩ := ho
    refine ⟨o, ho, G', H0, sl, S, s', r', hp.of e' r' fun k S2 G2 H2 kv _ e2 r2 q2 hp => ?_⟩
    cases hlk : leak1 k with
    | none => rw [hlk] at hp; exact hp.elim
    | some kk =>
      rw [hlk] at hp
      dsimp only at hp
      have hkk : kk = k.1 := by
        obtain ⟨w, fl⟩ := k
        cases fl <;> cases hlk <;> rfl
      subst hkk
      have s2 := s'.ext r' e2
      have v2 := rv.grow (e2.grow r')
      have e3 := e'.trans e2
      unfold putS at hp
      split at hp
      · rename_i n q
        split at hp
        · rename_i xs qs
          cases hk : k.1 with
          | int j =>
            rw [hk] at hp
            unfold putV at hp
            split at hp
            · rename_i ys hpv
              dsimp only at hpv
              cases hj : Sq.ixN xs.length j with
              | none => rw [hj] at hpv; cases hpv
              | some jj =>
                rw [hj] at hpv
                cases hpv
                obtain ⟨y, h1, h2⟩ := s2.val i _ _ q
                rw [ho] at h1
                cases h1
                cases h2 with
                | obj hm =>
                  obtain ⟨vs, z1, z2⟩ := r2.st n _ _ qs hm
                  cases (hk ▸ q2.rdb : Rdb M G2 H2 (.int j) kv).int
                  have hm' := List.mem_of_getElem? hm
                  exact ⟨_, vs, j, jj, rfl, rfl, z1, by rw [← z2.length]; exact hj, PostX.now hp (ext_obj e3 hm') .refl (obj_upd r2 hm qs (z2.set v2 jj)) (srel_obj s2 hm')⟩
            · exact hp.elim
          | _ => rw [hk] at hp; exact hp.elim
        · exact hp.elim
      · rename_i c q
        obtain ⟨p, xs, vs, rfl, z1, z2, z3, z4⟩ := own_upd s2 r2 e3 q
        rw [ho] at z1
        cases z1
        cases hk : k.1 with
        | int j =>
          rw [hk] at hp
          unfold putV at hp
          dsimp only at hp
          cases hj : Sq.ixN xs.length j with
          | none => rw [hj] at hp; exact hp.elim
          | some jj =>
            rw [hj] at hp
            cases (hk ▸ q2.rdb : Rdb M G2 H2 (.int j) kv).int
            obtain ⟨w1, w2, w3⟩ := z4 (z3.set v2 jj)
            exact ⟨p, vs, j, jj, rfl, rfl, z2, by rw [← z3.length]; exact hj, PostX.now hp w1 .refl w2 w3⟩
        | _ => rw [hk] at hp; exact hp.elim
      · exact hp.elim

/-! ### assignment -/
theorem aok_new {s : Env} {σ : L2.St} {a : Arg} {x : V} (hs : SRel M G H0 H s σ) (e : Ext G0 H0 G H) (q : RRel M G1 H H1 a.1 x a.2) : AOk M G1 H0 H1 s σ a x := by
  refine ⟨q.back e.back, fun z => ?_⟩
  obtain ⟨v, fl⟩ := a
  dsimp only at z q
  subst z
  exact apart_new hs q
theorem sn_asg {tg a : Expr} {t : Tg} {e : E} (h : PE X a (tE M ex W cal e)) (hg : PG X tg (tTg M ex W cal t)) (hs : swapsWithSole [tg] a pos.line X.env = pure false) (hw : swappedStores [tg] a X.env = pure none) (h1 : (assignEach [tg] X.env).map (·.2) = [assign tg X.env]) :
    PS X (.Assign [tg] a pos) (tS M ex W cal (.asg t e)) := by
  refine PS.imp (ps_asg h hg hs hw h1) fun D σ H ⟨G0, H0, G, sl, S, e, hs, hr, hp⟩ => ?_
  unfold execS at hp
  refine ⟨G, H0, sl, S, hs, hr, hp.of e hr fun a S1 G1 H1 x _ e1 r1 q1 hp => ?_⟩
  exact ⟨G0, H0, G1, sl, S1, a, D.rt, e.trans e1, hs.ext hr e1, r1, aok_new hs e q1, hp⟩
theorem sn_set {i : Nat} {x : Str} {a : Expr} {e : E} {p : Pos} (hN : X.N.Nodup) (hi : X.N[i]? = some x) (hx : Loc X.env.scope x) (h : PE X a (tE M ex W cal e)) (hs : swapsWith a (some (.Name x p)) pos.line X.env = pure false) (hf : X.fn x = true ∨ X.env.scope.names.lookup x = some .local) :
    PS X (.Assign [.Name x p] a pos) (tS M ex W cal (.asg (.nm i) e)) := by
  refine PS.imp (ps_set hN hi hx h hs hf) fun D σ H ⟨G0, H0, G, sl, S, e, hs, hr, hp⟩ => ?_
  unfold execS at hp
  refine ⟨G, H0, sl, S, hs, hr, hp.of e hr fun a S1 G1 H1 x _ e1 r1 q1 hp => ?_⟩
  unfold asgG at hp
  cases q : Sq.setS sl i a with
  | none => rw [q] at hp; exact hp.elim
  | some s' =>
    rw [q] at hp
    exact PostX.now hp (e.trans e1) .refl r1 ((hs.ext hr e1).setS (aok_new hs e q1) q)
/-- more at one time: apart from each other too -/
theorem ps2_apart {a b : Arg} {x y : V} {s s' : Env} {σ : L2.St} {i : Nat} (hb : AOk M G H0 H s σ b y) (ne : ∀ p, a.2 = .own → b.2 = .own → x = .ref p → y ≠ .ref p) (e : Sq.setS s i a = some s') : AOk M G H0 H s' (σ.set i (some x)) b y := by
  refine ⟨hb.1, fun z k u p q1 q2 => ?_⟩
  have hq : ∃ w, s' = s.set i (some w) ∧ (w.2 = .own → a.2 = .own) := by
    obtain ⟨v, fl⟩ := a
    unfold Sq.setS at e
    by_cases hl : i < s.length
    case neg => rw [if_neg hl] at e; cases e
    rw [if_pos hl] at e
    cases fl with
    | bor => cases e
    | frz => cases e; exact ⟨_, rfl, fun z => nomatch z⟩
    | own => cases e; exact ⟨_, rfl, fun _ => rfl⟩
  obtain ⟨w, h, hw⟩ := hq
  subst h
  rcases set_at q1 with ⟨hi, z1⟩ | ⟨hi, z1⟩
  · subst hi
    cases z1
    rcases set_at q2 with ⟨_, z2⟩ | ⟨n, _⟩
    · exact ne p (hw rfl) z (Option.some.inj z2)
    · exact absurd rfl n
  · rw [List.getElem?_set_ne hi] at q2
    exact hb.2 z k u p z1 q2
theorem evalEs_two {a b : E} {s : Env} {S : Store} {f : List Arg → Store → Sq.X} : (evalEs cal [a, b] s S).thenX f = (evalE cal a s S).thenX fun x S1 => (evalE cal b s S1).thenX fun y S2 => f [x, y] S2 := by
  unfold evalEs evalEs evalEs
  cases evalE cal a s S with
  | ok x S1 =>
    rw [R.bind_ok, R.thenX_ok]
    cases evalE cal b s S1 with
    | ok y S2 => rfl
    | exc c fs S2 => rfl
    | bad => rfl
  | exc c fs S1 => rfl
  | bad => rfl
theorem sn_par2 {i j : Nat} {x y : Str} {ea eb : Expr} {a b : E} {px py pt : Pos} {kt k2 pt2} (hc : X.calm = true) (hN : X.N.Nodup) (hi : X.N[i]? = some x) (hj : X.N[j]? = some y) (hij : i ≠ j)
    (hx : X.env.scope.names.lookup x = some .local) (hy : X.env.scope.names.lookup y = some .local) (ha : PE X ea (tE M ex W cal a)) (hb : PE X eb (tE M ex W cal b)) (hn : notStar ea = true) (hn2 : notStar eb = true)
    (hw : swappedStores [.Tuple [.Name x px, .Name y py] kt pt] (.Tuple [ea, eb] k2 pt2) X.env = pure (some [x, y]))
    (hs : swapsWithSole [.Tuple [.Name x px, .Name y py] kt pt] (.Tuple [ea, eb] k2 pt2) pos.line X.env = pure false) :
    PS X (.Assign [.Tuple [.Name x px, .Name y py] kt pt] (.Tuple [ea, eb] k2 pt2) pos) (tS M ex W cal (.par [i, j] [a, b])) := by
  refine PS.imp (ps_par hc hN hi hj hij hx hy (pa_cons ha (pa_cons hb pa_nil (star_cons hn2)) (star_cons hn)) hw hs) fun D σ H ⟨G0, H0, G, sl, S, e, hs, hr, hp⟩ => ?_
  unfold execS at hp
  rw [evalEs_two] at hp
  refine ⟨G, H0, sl, S, hs, hr, hp.of e hr fun a S1 G1 H1 x _ e1 r1 q1 hp => ?_⟩
  refine ⟨G1, H0, sl, S1, hs.ext hr e1, r1, hp.of (e.trans e1) r1 fun b S2 G2 H2 y _ e2 r2 q2 hp => ?_⟩
  refine ⟨x, y, rfl, ?_⟩
  unfold setAll at hp
  cases qa : Sq.setS sl i a with
  | none => rw [qa] at hp; exact hp.elim
  | some s1 =>
    rw [qa] at hp
    dsimp only at hp
    unfold setAll at hp
    cases qb : Sq.setS s1 j b with
    | none => rw [qb] at hp; exact hp.elim
    | some s2 =>
      rw [qb] at hp
      dsimp only at hp
      unfold setAll at hp
      have h1 := hs.ext hr e1
      have h2 := h1.ext r1 e2
      have a1 := aok_new hs e q1
      have a2 : AOk M G2 H0 H2 sl σ a x := ⟨a1.1.ext r1 e2, a1.2⟩
      have b2 := aok_new h1 (e.trans e1) q2
      refine PostX.now hp ((e.trans e1).trans e2) .refl r2 ((h2.setS a2 qa).setS (ps2_apart b2 (fun p z1 z2 z3 z4 => ?_) qa) qb)
      obtain ⟨v, fl⟩ := a
      obtain ⟨w, fl2⟩ := b
      dsimp only at z1 z2 q1 q2
      subst z1 z2 z3 z4
      obtain ⟨p1, _, _, _, f1, f2, _⟩ := q1
      obtain ⟨p2, _, _, _, g1, _, _, _, _, g2⟩ := q2
      cases f1
      cases g1
      rw [g2] at f2; cases f2
end
end Sq

/-! a term stands for a text: the check -/
namespace Sq
open PySem PySem.Spec PyProof.Rows L2

/-! ### equality of values -/
mutual
def PV.beq : PV → PV → Bool
  | .non, .non => true
  | .bl a, .bl b => a == b
  | .int a, .int b => a == b
  | .str a, .str b => a == b
  | .tup a, .tup b => PV.beqs a b
  | _, _ => false
def PV.beqs : List PV → List PV → Bool
  | [], [] => true
  | a :: as, b :: bs => PV.beq a b && PV.beqs as bs
  | _, _ => false
end
mutual
theorem PV.beq_eq : ∀ {a b : PV}, PV.beq a b = true → a = b
  | .non, b, h => by cases b <;> first | rfl | cases h
  | .bl _, b, h => by cases b <;> first | cases h; done | (unfold PV.beq at h; simp at h; rw [h])
  | .int _, b, h => by cases b <;> first | cases h; done | (unfold PV.beq at h; simp at h; rw [h])
  | .str _, b, h => by cases b <;> first | cases h; done | (unfold PV.beq at h; simp at h; rw [h])
  | .tup as, b, h => by cases b <;> first | cases h; done | (unfold PV.beq at h; rw [PV.beqs_eq h])
  | .lst _, _, h => by cases h
  | .dic _, _, h => by cases h
  | .rol _, _, h => by cases h
  | .fn _, _, h => by cases h
  | .obj _, _, h => by cases h
theorem PV.beqs_eq : ∀ {a b : List PV}, PV.beqs a b = true → a = b
  | [], b, h => by cases b <;> first | rfl | cases h
  | a :: as, b, h => by
    cases b with
    | nil => cases h
    | cons b bs =>
      unfold PV.beqs at h
      rw [Bool.and_eq_true] at h
      rw [PV.beq_eq h.1, PV.beqs_eq h.2]
end

/-! ### the module, the def -/
structure MC where
  fn : Str → Option (Nat × List Str)
  cn : Str → Option PV
  bl : Str → Bool
  kd : Str → Option (List (Str × PV))
structure SC where
  N : List Str
  sc : Scope
  fn : Str → Bool
def relS (sc scope : Scope) : Scope := { scope with names := scope.names.map fun (n, k) => if (k == NameKind.free && sc.kind == .function && sc.names.lookup n == some .cell) then (n, NameKind.cell) else (n, k) }
def SC.blk (c : SC) (scope : Scope) : SC := ⟨c.N, relS c.sc scope, fun x => scope.names.lookup x == some .cell⟩
def visB (c : SC) (x : Str) : Bool := match c.sc.names.lookup x with
  | some .local => true
  | some .cell => true
  | some .free => true
  | _ => false
def locB (c : SC) (x : Str) : Bool := match c.sc.names.lookup x with
  | some .local => true
  | some .cell => c.fn x
  | _ => false
def glB (c : SC) (x : Str) : Bool := match c.sc.names.lookup x with
  | some .globalImplicit => true
  | _ => false
def nameB (c : SC) (x : Str) (i : Nat) : Bool := decide (c.N[i]? = some x) && visB c x && !(x == ("__debug__" : Str)) && !(x == ("__classdict__" : Str))
def targB (c : SC) (x : Str) (i : Nat) : Bool := decide (c.N[i]? = some x) && locB c x
def ownN (c : SC) (own : List Nat) : List (Str × Nat) := own.filterMap fun i => (c.N[i]?).map (·, i)
def isComp : Expr → Bool
  | .ListComp .. => true
  | .SetComp .. => true
  | .DictComp .. => true
  | _ => false
def isSet : Expr → Bool
  | .Set .. => true
  | _ => false
/-- 'whole' is the test's value -/
def wholeB : Expr → Bool
  | .UnaryOp .Not _ _ => false
  | .BoolOp .. => false
  | .IfExp .. => false
  | .Compare .. => false
  | _ => true
def baseB : Expr → Bool
  | .Call _ [] _ _ => false
  | _ => true
def isTupE : Expr → Bool
  | .Tuple .. => true
  | .List .. => true
  | _ => false
def swNames (c : SC) (ts : List Expr) : List Str := ts.filterMap fun
  | .Name id pos => if c.sc.names.lookup id == some .local && pos.line == (ts.head?.map (·.pos.line)).getD 0 then some id else none
  | _ => none
/-- no stores from the right -/
def noSwap (c : SC) (tg e : Expr) : Bool := match tg, e with
  | .Tuple ts _ _, .Tuple vs _ _ => (!(ts.length == 2 || ts.length == 3)) || vs.length != ts.length || (swNames c ts).length != ts.length || (swNames c ts).eraseDups.length != (swNames c ts).length || vs.all (foldedForSure 8)
  | .List .., _ => false
  | _, _ => true
def swap2 (x : Str) (px : Pos) (y : Str) (py : Pos) (ea eb : Expr) : Bool := !(x == y) && px.line == py.line && notStar ea && notStar eb && !([ea, eb].all (foldedForSure 8)) && !([ea, eb].all (constantsAlone 8))
def tyNames : List Expr → List TY → Bool
  | [], [] => true
  | .Name x _ :: es, t :: ts => decide (x = tyS t) && tyNames es ts
  | _, _ => false
def swB (c : SC) (e : Expr) (x : Str) (p : Pos) : Bool := match e with
  | .ListComp _ _ s q => c.sc.names.lookup x == some .local && p.line == q.line && !(s.names.any fun (n, k) => n == x && (k == .local || k == .cell))
  | _ => false

def kdEq : List (Str × PV) → List (Str × PV) → Bool
  | [], [] => true
  | (a, v) :: r, (b, w) :: q => decide (a = b) && PV.beq v w && kdEq r q
  | _, _ => false
theorem kdEq_eq : ∀ {a b : List (Str × PV)}, kdEq a b = true → a = b
  | [], [], _ => rfl
  | [], _ :: _, h => by cases h
  | _ :: _, [], h => by cases h
  | (a, v) :: r, (b, w) :: q, h => by
    unfold kdEq at h
    simp only [Bool.and_eq_true, decide_eq_true_eq] at h
    obtain ⟨⟨h1, h2⟩, h3⟩ := h
    rw [h1, PV.beq_eq h2, kdEq_eq h3]
def kdB (m : MC) (c : SC) (y : Str) (d : List (Str × PV)) : Bool := glB c y && !(y == ("__debug__" : Str)) && (match m.kd y with
  | some d' => kdEq d' d
  | none => false)
inductive Job where
  | vs (xs : List Expr) (as : List E)
  | e (x : Expr) (a : E)
  | t (x : Expr) (a : E)
  | ba (es : List Expr) (a : E)
  | bo (es : List Expr) (a : E)
  | wa (es : List Expr) (a : E)
  | wo (es : List Expr) (a : E)
  | es (xs : List Expr) (as : List E)
  | as (xs : List Expr) (as : List E)
  | ks (ks : List Keyword) (as : List E)
  | it (x : Expr) (k : IK) (as : List E)
  | cs (xs : List Expr) (as : List E)
  | o (x : Option Expr) (a : Option E)
  | g (x : Expr) (t : T)
  | gs (xs : List Expr) (ts : List T)
  | tg (x : Expr) (t : Tg)
  | tgs (xs : List Expr) (ts : List Tg)
  | s (st : Stmt) (a : S)
  | ss (sts : List Stmt) (as : List S)

def tr (m : MC) : Nat → SC → Job → Bool
  | 0, _, _ => false
  | n + 1, c, j => match j with
    | .e x a => match a with
      | .var i => match x with
        | .Name y _ => nameB c y i
        | _ => false
      | .bor i => match x with
        | .Name y _ => nameB c y i
        | _ => false
      | .cst v => match x with
        | .Name y _ => glB c y && !(y == ("__debug__" : Str)) && (match m.cn y with
          | some w => PV.beq w v
          | none => false)
        | .Constant (.int i) _ _ => PV.beq (.int i) v
        | .Constant (.bool i) _ _ => PV.beq (.bl i) v
        | .Constant (.str i) _ _ => PV.beq (.str i) v
        | .Constant .none _ _ => PV.beq .non v
        | _ => false
      | .tup as => match x with
        | .Tuple es _ _ => decide (as.length ≤ 1000) && tr m n c (.es es as)
        | _ => false
      | .lst as => match x with
        | .List es _ => decide (as.length ≤ 1000) && tr m n c (.es es as)
        | _ => false
      | .obj as => match x with
        | .List es _ => decide (as.length ≤ 1000) && tr m n c (.es es as)
        | _ => false
      | .bin o a b => match x with
        | .BinOp ea op eb _ => decide (op = boOf o) && tr m n c (.e ea a) && tr m n c (.e eb b)
        | _ => false
      | .neg a => match x with
        | .UnaryOp .USub ea _ => tr m n c (.e ea a)
        | _ => false
      | .not a => match x with
        | .UnaryOp .Not ea _ => tr m n c (.e ea a)
        | _ => false
      | .cmp o a b => match x with
        | .Compare ea [op] [eb] _ => decide (op = coOf o) && !(behindInMarks op eb) && tr m n c (.e ea a) && tr m n c (.e eb b)
        | _ => false
      | .chn o p a b d => match x with
        | .Compare ea [op, oq] [eb, ed] _ => decide (op = coOf o) && decide (oq = coOf p) && !(lastMarks [op, oq] [eb, ed]) && tr m n c (.e ea a) && tr m n c (.e eb b) && tr m n c (.e ed d)
        | _ => false
      | .and a b => match x with
        | .BoolOp .And es _ => tr m n c (.ba es (.and a b))
        | _ => false
      | .or a b => match x with
        | .BoolOp .Or es _ => tr m n c (.bo es (.or a b))
        | _ => false
      | .ite k a b => match x with
        | .IfExp ek ea eb _ => tr m n c (.t ek k) && tr m n c (.e ea a) && tr m n c (.e eb b)
        | _ => false
      | .idx a b => match x with
        | .Subscript ea eb _ => (match eb with | .Slice _ _ none _ => false | _ => true) && tr m n c (.e ea a) && tr m n c (.e eb b)
        | _ => false
      | .cut a lo hi => match x with
        | .Subscript ea (.Slice el eh none _) _ => tr m n c (.e ea a) && tr m n c (.o el lo) && tr m n c (.o eh hi)
        | _ => false
      | .rev a => match x with
        | .Subscript ea (.Slice none none (some (.UnaryOp .USub (.Constant (.int i) _ _) _)) _) _ => decide (i = 1) && tr m n c (.e ea a)
        | _ => false
      | .isi a ts => match x with
        | .Call (.Name f _) [ea, .Name y _] [] _ => match ts with
          | [t] => decide (f = "isinstance") && decide (y = tyS t) && glB c "isinstance" && m.bl "isinstance" && glB c (tyS t) && m.bl (tyS t) && notStar ea && tr m n c (.e ea a)
          | _ => false
        | .Call (.Name f _) [ea, .Tuple es _ _] [] _ => decide (f = "isinstance") && glB c "isinstance" && m.bl "isinstance" && tyNames es ts && decide (ts.length ≤ 10) && (ts.all fun t => glB c (tyS t) && m.bl (tyS t)) && notStar ea && tr m n c (.e ea a)
        | _ => false
      | .cal f as perm => match x with
        | .Call (.Name y _) es kws _ => match m.fn y with
          | some (g, ps) => decide (g = f) && glB c y && !(y == ("__debug__" : Str)) && es.all notStar && kwAll kws && permOk ps es.length (kwNames kws) perm && decide (as.length = es.length + (kwNames kws).length) && tr m n c (.as es (as.take es.length)) && tr m n c (.ks kws (as.drop es.length))
          | none => false
        | _ => false
      | .bif b as => match x with
        | .Call (.Name y _) (ea :: es) [] _ => decide (y = biName b) && glB c (biName b) && m.bl (biName b) && notStar ea && es.all notStar && tr m n c (.es (ea :: es) as)
        | _ => false
      | .mth k a as => match x with
        | .Call (.Attribute ea y apos) (eb :: es) [] pos => decide (y = meName k) && baseB ea && decide (es.length < 20) && notStar eb && es.all notStar && (apos.endLine == pos.line) && tr m n c (.e ea a) && tr m n c (.es (eb :: es) as)
        | _ => false
      | .kix d a => match x with
        | .Subscript (.Name y _) ea _ => kdB m c y d && (match ea with | .Slice _ _ none _ => false | _ => true) && tr m n c (.e ea a)
        | _ => false
      | .kin d a => match x with
        | .Compare ea [op] [.Name y _] _ => decide (op = .In) && kdB m c y d && tr m n c (.e ea a)
        | _ => false
      | .dix ks vs a => match x with
        | .Subscript (.Dict keys values _) ea _ => keysB keys ks && decide (keys.length = values.length) && decide (keys.length ≤ 15) && decide (0 < keys.length) && (match ea with | .Slice _ _ none _ => false | _ => true) && tr m n c (.vs values vs) && tr m n c (.e ea a)
        | _ => false
      | .lc t own k as cs e => match x with
        | .ListComp elt [⟨tg, iter, ifs, 0⟩] scope _ => decide ((ownN c own).map (·.2) = own) && blkC c.N c.sc scope (ownN c own) && !(isSet iter) && (t.slots.all fun i => own.contains i) &&
            tr m n c (.it iter k as) && tr m n (c.blk scope) (.g tg t) && tr m n (c.blk scope) (.cs ifs cs) && tr m n (c.blk scope) (.e elt e)
        | _ => false
    | .t x a => match x with
      | .UnaryOp .Not ea _ => match a with
        | .not a => tr m n c (.t ea a)
        | _ => false
      | .BoolOp .And es _ => match a with
        | .and a b => tr m n c (.wa es (.and a b))
        | _ => false
      | .BoolOp .Or es _ => match a with
        | .or a b => tr m n c (.wo es (.or a b))
        | _ => false
      | .Compare ea [op] [eb] _ => match a with
        | .cmp o a b => decide (op = coOf o) && !(behindInMarks op eb) && tr m n c (.e ea a) && tr m n c (.e eb b)
        | .kin d a => match eb with
          | .Name y _ => decide (op = .In) && kdB m c y d && tr m n c (.e ea a)
          | _ => false
        | _ => false
      | .Compare ea [op, oq] [eb, ed] _ => match a with
        | .chn o p a b d => decide (op = coOf o) && decide (oq = coOf p) && !(lastMarks [op, oq] [eb, ed]) && tr m n c (.e ea a) && tr m n c (.e eb b) && tr m n c (.e ed d)
        | _ => false
      | x => wholeB x && tr m n c (.e x a)
    | .ba es a => match es with
      | [e] => tr m n c (.e e a)
      | e :: es => match a with
        | .and a b => tr m n c (.e e a) && tr m n c (.ba es b)
        | _ => false
      | _ => false
    | .bo es a => match es with
      | [e] => tr m n c (.e e a)
      | e :: es => match a with
        | .or a b => tr m n c (.e e a) && tr m n c (.bo es b)
        | _ => false
      | _ => false
    | .wa es a => match es with
      | [e] => tr m n c (.t e a)
      | e :: es => match a with
        | .and a b => tr m n c (.t e a) && tr m n c (.wa es b)
        | _ => false
      | _ => false
    | .wo es a => match es with
      | [e] => tr m n c (.t e a)
      | e :: es => match a with
        | .or a b => tr m n c (.t e a) && tr m n c (.wo es b)
        | _ => false
      | _ => false
    | .vs xs as => match xs, as with
      | [], [] => true
      | x :: xs, a :: as => tr m n c (.e x a) && tr m n c (.vs xs as)
      | _, _ => false
    | .es xs as => match xs, as with
      | [], [] => true
      | x :: xs, a :: as => notStar x && tr m n c (.e x a) && tr m n c (.es xs as)
      | _, _ => false
    | .as xs as => match xs, as with
      | [], [] => true
      | x :: xs, a :: as => notStar x && tr m n c (.e x a) && tr m n c (.as xs as)
      | _, _ => false
    | .ks ks as => match ks, as with
      | [], [] => true
      | ⟨_, x, _⟩ :: ks, a :: as => tr m n c (.e x a) && tr m n c (.ks ks as)
      | _, _ => false
    | .it x k as => match k, as with
      | .plain, [a] => tr m n c (.e x a)
      | .range1, [a] => match x with
        | .Call (.Name y _) [ea] [] _ => decide (y = "range") && glB c "range" && m.bl "range" && notStar ea && tr m n c (.e ea a)
        | _ => false
      | .range2, [a, b] => match x with
        | .Call (.Name y _) [ea, eb] [] _ => decide (y = "range") && glB c "range" && m.bl "range" && notStar ea && notStar eb && tr m n c (.e ea a) && tr m n c (.e eb b)
        | _ => false
      | _, _ => false
    | .cs xs as => match xs, as with
      | [], [] => true
      | [x], [a] => tr m n c (.t x a)
      | _, _ => false
    | .o x a => match x, a with
      | none, none => true
      | some x, some a => tr m n c (.e x a)
      | _, _ => false
    | .g x t => match t with
      | .nm i => match x with
        | .Name y _ => targB c y i
        | _ => false
      | .tp ts => match x with
        | .Tuple es _ _ => es.all notStar && decide (es.length = ts.length) && tr m n c (.gs es ts)
        | _ => false
    | .gs xs ts => match xs, ts with
      | [], [] => true
      | x :: xs, t :: ts => notStar x && tr m n c (.g x t) && tr m n c (.gs xs ts)
      | _, _ => false
    | .tg x t => match t with
      | .nm i => match x with
        | .Name y _ => targB c y i
        | _ => false
      | .ix i k => match x with
        | .Subscript (.Name y _) ei _ => nameB c y i && (match ei with | .Slice .. => false | _ => true) && tr m n c (.e ei k)
        | _ => false
      | .tp ts => match x with
        | .Tuple es _ _ => es.all notStar && decide (es.length = ts.length) && tr m n c (.tgs es ts)
        | _ => false
    | .tgs xs ts => match xs, ts with
      | [], [] => true
      | x :: xs, t :: ts => notStar x && tr m n c (.tg x t) && tr m n c (.tgs xs ts)
      | _, _ => false
    | .s st a => match a with
      | .asg t e => match st with
        | .Assign [.Name y p] ex _ => match t with
          | .nm i => targB c y i && (if swB c ex y p = true then match ex, e with
              | .ListComp elt [⟨tg, iter, ifs, 0⟩] scope _, .lc t own k as cs e => decide (c.sc.names.lookup y = some .local) && decide ((ownN c own).map (·.2) = own) && blkC c.N c.sc scope (ownN c own) && !(isSet iter) && (t.slots.all fun i => own.contains i) &&
                  tr m n c (.it iter k as) && tr m n (c.blk scope) (.g tg t) && tr m n (c.blk scope) (.cs ifs cs) && tr m n (c.blk scope) (.e elt e)
              | _, _ => false
            else (match ex with | .SetComp .. => false | .DictComp .. => false | _ => true) && tr m n c (.e ex e))
          | _ => false
        | .Assign [tg] ex _ => notStar tg && !(isComp ex) && noSwap c tg ex && tr m n c (.e ex e) && tr m n c (.tg tg t)
        | _ => false
      | .par is as => match st with
        | .Assign [.Tuple [.Name x px, .Name y py] _ _] (.Tuple [ea, eb] _ _) _ => match is, as with
          | [i, j], [a, b] => decide (c.N[i]? = some x) && decide (c.N[j]? = some y) && decide (i ≠ j) && decide (c.sc.names.lookup x = some .local) && decide (c.sc.names.lookup y = some .local) && swap2 x px y py ea eb && tr m n c (.e ea a) && tr m n c (.e eb b)
          | _, _ => false
        | _ => false
      | .exp e => match st with
        | .Expr x _ => !(isComp x) && tr m n c (.e x e)
        | _ => false
      | .mut _ _ _ => false
      | .ret e => match st with
        | .Return (some x) _ => tr m n c (.e x e)
        | _ => false
      | .retm i => match st with
        | .Return (some (.Name y _)) _ => nameB c y i
        | _ => false
      | .retn => match st with
        | .Return none _ => true
        | _ => false
      | .iff k a b => match st with
        | .If x p q _ => tr m n c (.t x k) && tr m n c (.ss p a) && tr m n c (.ss q b)
        | _ => false
      | .whl k b => match st with
        | .While x p [] _ => tr m n c (.t x k) && tr m n c (.ss p b)
        | _ => false
      | .fr t k as b => match st with
        | .For tg iter p [] _ => !(isSet iter) && tr m n c (.it iter k as) && tr m n c (.g tg t) && tr m n c (.ss p b)
        | _ => false
      | .frz _ => false
      | .rai _ _ => false
      | .nev => true
      | .pas => match st with
        | .Pass _ => true
        | .Expr (.Constant (.str _) _ _) _ => true
        | _ => false
    | .ss sts as => match as with
      | [] => match sts with
        | [] => true
        | _ => false
      | .frz _ :: as => tr m n c (.ss sts as)
      | a :: as => match sts with
        | st :: sts => tr m n c (.s st a) && tr m n c (.ss sts as)
        | _ => false
end Sq

/-! the check is sound -/
namespace Sq
open PySem PySem.Spec PyProof.Rows L2

structure XO (M : Mo) (ex : ExT) (prog : Prog) (k : Nat) (m : MC) (c : SC) (W : XK) (X : Cx) : Prop where
  N : X.N = c.N
  sc : X.env.scope = c.sc
  fn : X.fn = c.fn
  calm : X.calm = true
  gd : X.A.guards = some []
  K : X.K = M.K
  hu : X.A.units + 66 < cLine
  nd : c.N.Nodup
  kd : c.sc.kind = .function
  pa : Passes (L2.CX X.prog X.w) X W
  po : PassesOwn (model X.prog X.w) X.A X.env X.xe
  cn : ∀ x v, m.cn x = some v → ∃ u y, X.mg x = some u ∧ RelV y u ∧ ∀ G, Rep M G v y
  bl : ∀ x, m.bl x = true → X.mg x = none
  kdd : ∀ x d, m.kd x = some d → ∃ p, X.mg x = some (.ref p) ∧ KdOk M X.K X.w p d
  call : ∀ x n ps, m.fn x = some (n, ps) → ∃ j f fd, Room j X.A ∧ X.mg x = some (.ref f) ∧ PySem.W.keepIn X.K (.ref f) = true ∧ Plain fd ps ∧ FnG X.prog X.w X.K X.mg X.base j f fd ps (spF M ex prog n k)

section
variable {M : Mo} {ex : ExT} {prog : Prog} {k : Nat} {m : MC} {c : SC} {W : XK} {X : Cx}
theorem XO.vis (o : XO M ex prog k m c W X) {x : Str} (h : visB c x = true) : Vis X.env.scope x := by
  unfold visB at h
  unfold Vis
  rw [o.sc]
  split at h
  · exact .inl (by assumption)
  · exact .inr (.inl (by assumption))
  · exact .inr (.inr (by assumption))
  · cases h
theorem XO.gl (o : XO M ex prog k m c W X) {x : Str} (h : glB c x = true) : Gl X x := by
  unfold glB at h
  show X.env.scope.names.lookup x = _
  rw [o.sc]
  split at h
  · assumption
  · cases h
theorem XO.loc (o : XO M ex prog k m c W X) {x : Str} (h : locB c x = true) : L2.Loc X.env.scope x ∧ (X.fn x = true ∨ X.env.scope.names.lookup x = some .local) := by
  unfold locB at h
  unfold L2.Loc
  rw [o.sc, o.fn]
  split at h
  · rename_i q; exact ⟨.inl q, .inr q⟩
  · rename_i q; exact ⟨.inr q, .inl h⟩
  · cases h
theorem XO.kdB (o : XO M ex prog k m c W X) {y : Str} {d : List (Str × PV)} (h : kdB m c y d = true) : ∃ p, Gl X y ∧ X.mg y = some (.ref p) ∧ (y == ("__debug__" : Str)) = false ∧ KdOk M X.K X.w p d := by
  unfold Sq.kdB at h
  simp only [Bool.and_eq_true, Bool.not_eq_true'] at h
  obtain ⟨⟨h1, h2⟩, h3⟩ := h
  cases q : m.kd y with
  | none => rw [q] at h3; cases h3
  | some d' =>
    rw [q] at h3
    cases kdEq_eq h3
    obtain ⟨p, k1, k2⟩ := o.kdd _ _ q
    exact ⟨p, o.gl h1, k1, h2, k2⟩
theorem nameB_of {x : Str} {i : Nat} (h : nameB c x i = true) : c.N[i]? = some x ∧ visB c x = true ∧ (x == ("__debug__" : Str)) = false ∧ (x == ("__classdict__" : Str)) = false := by
  unfold nameB at h
  simp only [Bool.and_eq_true, decide_eq_true_eq, Bool.not_eq_true'] at h
  exact ⟨h.1.1.1, h.1.1.2, h.1.2, h.2⟩
theorem targB_of {x : Str} {i : Nat} (h : targB c x i = true) : c.N[i]? = some x ∧ locB c x = true := by
  unfold targB at h
  simp only [Bool.and_eq_true, decide_eq_true_eq] at h
  exact h
theorem XO.blk (o : XO M ex prog k m c W X) {scope : Scope} (hk : scope.kind = .function) (s : Shared) (H : Hp) (C : Addr) (cl : List (Str × Addr)) (fp : List Addr) : XO M ex prog k m (c.blk scope) WF (X.blk s H scope (compEnvC scope cl C X.env) fp) := by
  refine ⟨o.N, ?_, rfl, o.calm, o.gd, o.K, o.hu, o.nd, hk, ?_, ?_, o.cn, o.bl, o.kdd, o.call⟩
  · show relabel scope X.env = relS c.sc scope
    rw [← o.sc]
    rfl
  · intro pins σ H s e s' I h
    obtain ⟨a, B, H', cls, d, _, _, _, _, _, _, _, z⟩ := h
    exact z
  · exact PassesOwn.never
end

def Good (M : Mo) (ex : ExT) (prog : Prog) (k : Nat) (W : XK) (X : Cx) : Job → Prop
  | .e x a => PE X x (tE M ex W (callF prog k) a)
  | .t x a => PT X x (tT M ex W (callF prog k) a)
  | .ba es a => ∀ pos, PE X (.BoolOp .And es pos) (tE M ex W (callF prog k) a)
  | .bo es a => ∀ pos, PE X (.BoolOp .Or es pos) (tE M ex W (callF prog k) a)
  | .wa es a => ∀ pos, PW X (.BoolOp .And es pos) (tT M ex W (callF prog k) a)
  | .wo es a => ∀ pos, PW X (.BoolOp .Or es pos) (tT M ex W (callF prog k) a)
  | .vs xs as => PEs X M ex W (callF prog k) xs as
  | .es xs as => PA X xs (tEs M ex W (callF prog k) as)
  | .as xs as => PA X xs (tAs M ex W (callF prog k) as)
  | .ks xs as => PK X xs (tAs M ex W (callF prog k) as)
  | .it x kd as => ∀ tg, PI X tg x (tI M ex W (callF prog k) kd as)
  | .cs xs as => PTs X xs (tCs M ex W (callF prog k) as)
  | .o x a => PO X x (tO M ex W (callF prog k) a)
  | .g x t => PG X x (tG M t)
  | .gs xs ts => PGs X xs (tGs M ts)
  | .tg x t => PG X x (tTg M ex W (callF prog k) t)
  | .tgs xs ts => PGs X xs (tTgs M ex W (callF prog k) ts)
  | .s st a => PS X st (tS M ex W (callF prog k) a)
  | .ss sts as => PSs X sts (tSs M ex W (callF prog k) as)

theorem asg_each {env : PySem.Env} : ∀ {es : List Expr}, es.all notStar = true → assignEach es env = es.map fun t => (false, assign t env)
  | [], _ => rfl
  | e :: es, h => by
    rw [List.all_cons, Bool.and_eq_true] at h
    have ih := asg_each (env := env) h.2
    cases e <;> first | (cases h.1; done) | (unfold assignEach; rw [ih]; rfl)
theorem asg_len {env : PySem.Env} {es : List Expr} {n : Nat} (h : es.all notStar = true) (hl : es.length = n) : (assignEach es env).length = n := by rw [asg_each h, List.length_map, hl]
theorem asg_st {env : PySem.Env} {es : List Expr} (h : es.all notStar = true) : (assignEach es env).findIdx? (·.1) = none := by
  rw [asg_each h, List.findIdx?_eq_none_iff]
  intro x hx
  obtain ⟨t, _, rfl⟩ := List.mem_map.mp hx
  rfl
theorem asg_cons {env : PySem.Env} {e : Expr} {es : List Expr} (h : notStar e = true) : (assignEach (e :: es) env).map (·.2) = assign e env :: (assignEach es env).map (·.2) := by
  cases e <;> first | (cases h; done) | rfl
theorem tyNames_of : ∀ {es : List Expr} {ts : List TY}, tyNames es ts = true → ∃ ps : List Pos, ps.length = ts.length ∧ es = (ts.zip ps).map fun p => Expr.Name (tyS p.1) p.2
  | [], [], _ => ⟨[], rfl, rfl⟩
  | [], _ :: _, h => by cases h
  | e :: es, [], h => by cases e <;> cases h
  | e :: es, t :: ts, h => by
    cases e <;> first | (cases h; done) | skip
    rename_i x p
    unfold tyNames at h
    rw [Bool.and_eq_true, decide_eq_true_eq] at h
    obtain ⟨ps, h1, h2⟩ := tyNames_of h.2
    exact ⟨p :: ps, by rw [List.length_cons, List.length_cons, h1], by rw [h.1, h2]; rfl⟩
theorem whole_of {e : Expr} {env : PySem.Env} (h : wholeB e = true) : ∀ whole, isTrue e env whole = (do let v ← whole; standAt e.pos; holding [v] (truthy v)) := by
  intro whole
  cases e with
  | UnaryOp op x p => cases op <;> first | (cases h; done) | rfl
  | _ => first | (cases h; done) | rfl
theorem base_of {e : Expr} {nm : Str} {env : PySem.Env} (h : baseB e = true) : attributeBase e nm env (eval e env) = eval e env := by
  cases e with
  | Call f as ks p =>
    cases as with
    | nil => cases h
    | cons a as => cases f <;> rfl
  | _ => rfl
theorem set_of {e : Expr} {env : PySem.Env} (h : (!(isSet e)) = true) : ∀ x, foldedSetIterable e env x = pure x := by
  intro x
  cases e <;> first | rfl | cases h
theorem sw_none {e : Expr} {o : Option Expr} {l : Nat} {env : PySem.Env} (h : (!(isComp e)) = true) : swapsWith e o l env = pure false := by
  cases e <;> first | rfl | cases h
theorem noSwap_of {c : SC} {tg e : Expr} {env : PySem.Env} (hs : env.scope = c.sc) (h : noSwap c tg e = true) : swappedStores [tg] e env = pure none := by
  cases tg with
  | Tuple ts k p =>
    cases e with
    | Tuple vs k2 p2 =>
      unfold noSwap swNames at h
      rw [← hs] at h
      simp only [Bool.or_eq_true] at h
      unfold swappedStores
      dsimp only
      split
      · rfl
      · rename_i n1
        split
        · rfl
        · split
          · rfl
          · rename_i n3
            split
            · rfl
            · rename_i n4
              exfalso
              simp only [Bool.or_eq_true, not_or] at n1 n3
              rcases h with (((h | h) | h) | h) | h
              · exact n1.1.1 h
              · exact n1.1.2 h
              · exact n3.1 h
              · exact n3.2 h
              · exact n4 h
    | _ => rfl
  | List ts p => cases h
  | _ => rfl
theorem star_no : ∀ (e : Expr), notStar e = true → (match e with | .Starred .. => true | _ => false) = false := fun e h => by cases e <;> first | rfl | cases h
theorem swap2_of {x y : Str} {px py pt pt2 : Pos} {k k2 : Nat} {ea eb : Expr} {env : PySem.Env} (hb : env.scope.kind = .function) (hx : env.scope.names.lookup x = some .local) (hy : env.scope.names.lookup y = some .local) (h : swap2 x px y py ea eb = true) :
    swappedStores [.Tuple [.Name x px, .Name y py] k pt] (.Tuple [ea, eb] k2 pt2) env = pure (some [x, y]) := by
  have hk : ∀ id, env.kindOf id = env.scope.names.lookup id := fun _ => rfl
  have hbk : env.blockKind = .function := by unfold Env.blockKind; rw [hb]; rfl
  unfold swap2 at h
  simp only [Bool.and_eq_true, Bool.not_eq_true', beq_iff_eq] at h
  obtain ⟨⟨⟨⟨⟨h1, h2⟩, h3⟩, h4⟩, h5⟩, h6⟩ := h
  have n1 := star_no ea h3
  have n2 := star_no eb h4
  have hd : ([x, y] : List Str).eraseDups.length = 2 := by
    simp [List.eraseDups_cons, List.filter_cons, h1, bne, beq_eq_false_iff_ne.mpr (Ne.symm (beq_eq_false_iff_ne.mp h1))]
  have hl : ([Expr.Name x px, Expr.Name y py] : List Expr).filterMap (fun
        | .Name id pos => if (env.kindOf id == some .local && pos.line == ((([Expr.Name x px, Expr.Name y py] : List Expr).head?.map (·.pos.line)).getD 0)) = true then some id else none
        | _ => none) = [x, y] := by
    have e1 : (env.kindOf x == some .local) = true := by rw [hk, hx]; rfl
    have e2 : (env.kindOf y == some .local) = true := by rw [hk, hy]; rfl
    have e3 : ((([Expr.Name x px, Expr.Name y py] : List Expr).head?.map (·.pos.line)).getD 0) = px.line := rfl
    simp only [List.filterMap_cons, e1, e2, e3, h2, beq_self_eq_true, Bool.and_self, if_true, List.filterMap_nil]
  unfold swappedStores
  dsimp only
  have na : ([ea, eb].any fun e => match e with | .Starred .. => true | _ => false) = false := by
    rw [List.any_cons, List.any_cons, n1, n2]; rfl
  rw [if_neg (by rw [hbk]; exact Bool.false_ne_true)]
  split
  · rename_i h; exact absurd (na.symm.trans h) Bool.false_ne_true
  · split
    · rename_i h
      refine absurd ((congrArg (fun l : List Str => (l.length != 2 || l.eraseDups.length != l.length)) hl).symm.trans h) ?_
      show ¬ (([x, y].length != 2 || ([x, y] : List Str).eraseDups.length != [x, y].length) = true)
      rw [hd]; exact Bool.false_ne_true
    · split
      · rename_i h; exact absurd (h5.symm.trans h) Bool.false_ne_true
      · split
        · rename_i h; exact absurd (h6.symm.trans h) Bool.false_ne_true
        · exact congrArg (fun l : List Str => (pure (some l) : Sem (Option (List Str)))) hl
theorem and4 {a b : Bool} (h : (a && b) = true) : a = true ∧ b = true := by
  rw [Bool.and_eq_true] at h; exact h
theorem lc_ok {c : SC} {own : List Nat} {t : T} (h1 : (ownN c own).map (·.2) = own) (h2 : (t.slots.all fun i => own.contains i) = true) : ∀ i ∈ t.slots, i ∈ (ownN c own).map (·.2) := fun i hi => by
  rw [h1]
  have z := List.all_eq_true.mp h2 i hi
  simpa using z
theorem sn_setLc {M : Mo} {ex : ExT} {W : XK} {cal : Calls} {X : Cx} {pos spos : Pos} {i : Nat} {y : Str} {py : Pos} (hc : X.calm = true) (hN : X.N.Nodup) (hy : X.N[i]? = some y) (hyl : X.env.scope.names.lookup y = some .local)
    {t : T} {k : IK} {as cs : List E} {e : E} {tg iter elt : Expr} {ifs : List Expr} {scope : Scope} {own : List (Str × Nat)} (hsw : swapsWith (.ListComp elt [⟨tg, iter, ifs, 0⟩] scope pos) (some (.Name y py)) spos.line X.env = pure true) (hi : PI X tg iter (tI M ex W cal k as)) (ok : BlkOk X.N X.env.scope scope own)
    (hg : ∀ (s : Shared) (H : Hp) (C : Addr) (cl : List (Str × Addr)) (fp : List Addr), PG (X.blk s H scope (compEnvC scope cl C X.env) fp) tg (tG M t))
    (ht : ∀ (s : Shared) (H : Hp) (C : Addr) (cl : List (Str × Addr)) (fp : List Addr), PTs (X.blk s H scope (compEnvC scope cl C X.env) fp) ifs (tCs M ex WF cal cs))
    (he : ∀ (s : Shared) (H : Hp) (C : Addr) (cl : List (Str × Addr)) (fp : List Addr), PE (X.blk s H scope (compEnvC scope cl C X.env) fp) elt (tE M ex WF cal e))
    (hsl : ∀ i ∈ t.slots, i ∈ own.map (·.2)) (hs : ∀ x, foldedSetIterable iter X.env x = pure x) :
    PS X (.Assign [.Name y py] (.ListComp elt [⟨tg, iter, ifs, 0⟩] scope pos) spos) (tS M ex W cal (.asg (.nm i) (.lc t (own.map (·.2)) k as cs e))) := by
  refine PS.imp (ps_setLc hc hN hy hyl hsw hi ok hg ht he hs) fun D σ H ⟨G0, H0, G, sl, S, e, hs, hr, hp⟩ => ?_
  unfold execS at hp
  refine lc_imp hsl ⟨G, H0, sl, S, hs, hr, hp.of e hr fun a S1 G1 H1 x _ e1 r1 q1 hp => ?_⟩
  unfold asgG at hp
  cases q : Sq.setS sl i a with
  | none => rw [q] at hp; exact hp.elim
  | some s' =>
    rw [q] at hp
    exact PostX.now hp (e.trans e1) .refl r1 ((hs.ext hr e1).setS (aok_new hs e q1) q)
theorem swB_of {c : SC} {e : Expr} {x : Str} {p : Pos} {l : Nat} {env : PySem.Env} (hs : env.scope = c.sc) (hk : c.sc.kind = .function) (h : (match e with | .SetComp .. => false | .DictComp .. => false | _ => true) = true) : swapsWith e (some (.Name x p)) l env = pure (swB c e x p) := by
  cases e <;> first | rfl | (cases h; done) | skip
  have hbk : env.blockKind = .function := by unfold Env.blockKind; rw [hs, hk]; rfl
  have hx : env.kindOf x = c.sc.names.lookup x := by unfold Env.kindOf; rw [hs]
  unfold swapsWith swB
  dsimp only
  rw [hbk, hx]
  rfl

theorem asg_ix {o ei : Expr} {env : PySem.Env} {pos : Pos} (h : (match ei with | .Slice .. => false | _ => true) = true) : ∀ v, assign (.Subscript o ei pos) env v = (do
      let ov ← holding [v] (eval o env)
      let iv ← holding [v, ov] (eval ei env)
      standAt pos
      holding [v, ov, iv] (setItem ov iv v)
      release [v, ov, iv] []) := by
  intro v
  cases ei <;> first | rfl | cases h
section
variable {M : Mo} {ex : ExT} {prog : Prog} {k : Nat} {m : MC}
theorem tr_ok : ∀ (n : Nat) (c : SC) (j : Job), tr m n c j = true → ∀ (W : XK) (X : Cx), XO M ex prog k m c W X → Good M ex prog k W X j := by
  intro n
  induction n with
  | zero => intro c j h; unfold tr at h; cases h
  | succ n ih =>
    intro c j h W X o
    have nd := o.nd
    have oN := o.N
    have hndX : X.N.Nodup := by rw [oN]; exact nd
    cases j with
    | e x a =>
      cases a with
      | var i =>
        unfold tr at h
        dsimp only at h
        split at h
        · obtain ⟨h1, h2, h3, h4⟩ := nameB_of h
          exact snd_var (by rw [oN]; exact h1) (o.vis h2) h3 h4
        · cases h
      | bor i =>
        unfold tr at h
        dsimp only at h
        split at h
        · obtain ⟨h1, h2, h3, h4⟩ := nameB_of h
          exact snd_bor (by rw [oN]; exact h1) (o.vis h2) h3 h4
        · cases h
      | cst v =>
        unfold tr at h
        dsimp only at h
        split at h
        · rename_i y p
          obtain ⟨h1, h3⟩ := and4 h
          obtain ⟨h1, h2⟩ := and4 h1
          split at h3
          · rename_i w hw
            have e := PV.beq_eq h3
            subst e
            obtain ⟨u, y', q1, q2, q3⟩ := o.cn _ _ hw
            exact snd_cst (pe_glob (o.gl h1) q1 q2 (by simpa using h2)) q3
          · cases h3
        · have e := PV.beq_eq h
          subst e
          exact snd_cst pe_int fun _ => .int _
        · have e := PV.beq_eq h
          subst e
          exact snd_cst pe_bl fun _ => .bl _
        · have e := PV.beq_eq h
          subst e
          exact snd_cst pe_str fun _ => .str _
        · have e := PV.beq_eq h
          subst e
          exact snd_cst pe_non fun _ => .non
        · cases h
      | tup as =>
        unfold tr at h
        dsimp only at h
        split at h
        · obtain ⟨h1, h2⟩ := and4 h
          exact snd_tup (ih _ _ h2 _ _ o) (Nat.le_trans (of_decide_eq_true h1) (by decide))
        · cases h
      | lst as =>
        unfold tr at h
        dsimp only at h
        split at h
        · obtain ⟨h1, h2⟩ := and4 h
          exact snd_lst (ih _ _ h2 _ _ o) (Nat.le_trans (of_decide_eq_true h1) (by decide))
        · cases h
      | obj as =>
        unfold tr at h
        dsimp only at h
        split at h
        · obtain ⟨h1, h2⟩ := and4 h
          exact snd_obj (ih _ _ h2 _ _ o) (Nat.le_trans (of_decide_eq_true h1) (by decide))
        · cases h
      | bin op a b =>
        unfold tr at h
        dsimp only at h
        split at h
        · obtain ⟨h1, h3⟩ := and4 h
          obtain ⟨h1, h2⟩ := and4 h1
          cases of_decide_eq_true h1
          exact snd_bin o.K (ih _ _ h2 _ _ o) (ih _ _ h3 _ _ o)
        · cases h
      | neg a =>
        unfold tr at h
        dsimp only at h
        split at h
        · exact snd_neg (ih _ _ h _ _ o)
        · cases h
      | not a =>
        unfold tr at h
        dsimp only at h
        split at h
        · exact snd_not (ih _ _ h _ _ o)
        · cases h
      | cmp op a b =>
        unfold tr at h
        dsimp only at h
        split at h
        · obtain ⟨h1, h4⟩ := and4 h
          obtain ⟨h1, h3⟩ := and4 h1
          obtain ⟨h1, h2⟩ := and4 h1
          cases of_decide_eq_true h1
          exact snd_cmp o.K (by have := o.hu; omega) (ih _ _ h3 _ _ o) (ih _ _ h4 _ _ o) (by simpa using h2)
        · cases h
      | chn op oq a b d =>
        unfold tr at h
        dsimp only at h
        split at h
        · obtain ⟨h1, h6⟩ := and4 h
          obtain ⟨h1, h5⟩ := and4 h1
          obtain ⟨h1, h4⟩ := and4 h1
          obtain ⟨h1, h3⟩ := and4 h1
          obtain ⟨h1, h2⟩ := and4 h1
          cases of_decide_eq_true h1
          cases of_decide_eq_true h2
          exact snd_chn o.K (by have := o.hu; omega) (ih _ _ h4 _ _ o) (ih _ _ h5 _ _ o) (ih _ _ h6 _ _ o) (by simpa using h3)
        · cases h
      | and a b =>
        unfold tr at h
        dsimp only at h
        split at h
        · exact ih _ _ h _ _ o _
        · cases h
      | or a b =>
        unfold tr at h
        dsimp only at h
        split at h
        · exact ih _ _ h _ _ o _
        · cases h
      | ite q a b =>
        unfold tr at h
        dsimp only at h
        split at h
        · obtain ⟨h1, h3⟩ := and4 h
          obtain ⟨h1, h2⟩ := and4 h1
          exact snd_ite (ih _ _ h1 _ _ o) (ih _ _ h2 _ _ o) (ih _ _ h3 _ _ o)
        · cases h
      | idx a b =>
        unfold tr at h
        dsimp only at h
        split at h
        · obtain ⟨h1, h3⟩ := and4 h
          obtain ⟨h1, h2⟩ := and4 h1
          exact snd_idx o.K (ih _ _ h2 _ _ o) (ih _ _ h3 _ _ o) (plainIx h1)
        · cases h
      | cut a lo hi =>
        unfold tr at h
        dsimp only at h
        split at h
        · obtain ⟨h1, h3⟩ := and4 h
          obtain ⟨h1, h2⟩ := and4 h1
          exact snd_cut o.K (ih _ _ h1 _ _ o) (ih _ _ h2 _ _ o) (ih _ _ h3 _ _ o)
        · cases h
      | rev a =>
        unfold tr at h
        dsimp only at h
        split at h
        · obtain ⟨h1, h2⟩ := and4 h
          cases of_decide_eq_true h1
          exact snd_rev o.K (ih _ _ h2 _ _ o)
        · cases h
      | isi a ts =>
        unfold tr at h
        dsimp only at h
        split at h
        · split at h
          · obtain ⟨h1, h8⟩ := and4 h
            obtain ⟨h1, h7⟩ := and4 h1
            obtain ⟨h1, h6⟩ := and4 h1
            obtain ⟨h1, h5⟩ := and4 h1
            obtain ⟨h1, h4⟩ := and4 h1
            obtain ⟨h1, h3⟩ := and4 h1
            obtain ⟨h1, h2⟩ := and4 h1
            cases of_decide_eq_true h1
            cases of_decide_eq_true h2
            exact snd_isi o.K (ih _ _ h8 _ _ o) (o.gl h3) (o.bl _ h4) (o.gl h5) (o.bl _ h6) h7
          · cases h
        · obtain ⟨h1, h8⟩ := and4 h
          obtain ⟨h1, h7⟩ := and4 h1
          obtain ⟨h1, h6⟩ := and4 h1
          obtain ⟨h1, h5⟩ := and4 h1
          obtain ⟨h1, h4⟩ := and4 h1
          obtain ⟨h1, h3⟩ := and4 h1
          obtain ⟨h1, h2⟩ := and4 h1
          cases of_decide_eq_true h1
          obtain ⟨ps, q1, q2⟩ := tyNames_of h4
          subst q2
          refine snd_isiT o.K q1 (of_decide_eq_true h5) (ih _ _ h8 _ _ o) (o.gl h2) (o.bl _ h3) (fun t ht => ?_) h7
          obtain ⟨z1, z2⟩ := and4 (List.all_eq_true.mp h6 t ht)
          exact ⟨o.gl z1, o.bl _ z2⟩
        · cases h
      | cal f as perm =>
        unfold tr at h
        dsimp only at h
        split at h
        · rename_i y p es kws pos
          split at h
          · rename_i g ps hf
            obtain ⟨h1, h9⟩ := and4 h
            obtain ⟨h1, h8⟩ := and4 h1
            obtain ⟨h1, h7⟩ := and4 h1
            obtain ⟨h1, h6⟩ := and4 h1
            obtain ⟨h1, h5⟩ := and4 h1
            obtain ⟨h1, h4⟩ := and4 h1
            obtain ⟨h1, h3⟩ := and4 h1
            obtain ⟨h1, h2⟩ := and4 h1
            cases of_decide_eq_true h1
            have hl := of_decide_eq_true h7
            obtain ⟨j, fa, fd, c1, c2, c3, c4, c5⟩ := o.call _ _ _ hf
            have g8 := ih _ _ h8 _ _ o
            have g9 := ih _ _ h9 _ _ o
            have eas : as = as.take es.length ++ as.drop es.length := (List.take_append_drop _ _).symm
            have hl2 : (as.drop es.length).length = (kwNames kws).length := by rw [List.length_drop, hl]; omega
            have h3' : (y == ("__debug__" : Str)) = false := by simpa using h3
            cases es with
            | nil =>
              exact snd_cal0 c5 c1 o.gd (o.gl h2) c2 c3 c4 o.pa g9 h3' h5 h6 (by simpa using hl2)
            | cons e es =>
              have hns : notStar e = true ∧ es.all notStar = true := by rw [List.all_cons] at h4; exact and4 h4
              rw [eas]
              exact snd_cal c5 c1 o.gd (o.gl h2) c2 c3 c4 o.pa g8 g9 h3' hns.1 hns.2 h5 h6 (by rw [List.length_take, hl]; omega) hl2
          · cases h
        · cases h
      | «bif» b as =>
        unfold tr at h
        dsimp only at h
        split at h
        · obtain ⟨h1, h6⟩ := and4 h
          obtain ⟨h1, h5⟩ := and4 h1
          obtain ⟨h1, h4⟩ := and4 h1
          obtain ⟨h1, h3⟩ := and4 h1
          obtain ⟨h1, h2⟩ := and4 h1
          cases of_decide_eq_true h1
          exact snd_bif o.K o.gd o.hu o.calm (ih _ _ h6 _ _ o) (o.gl h2) (o.bl _ h3) h4 h5
        · cases h
      | mth q a as =>
        unfold tr at h
        dsimp only at h
        split at h
        · obtain ⟨h1, h8⟩ := and4 h
          obtain ⟨h1, h7⟩ := and4 h1
          obtain ⟨h1, h6⟩ := and4 h1
          obtain ⟨h1, h5⟩ := and4 h1
          obtain ⟨h1, h4⟩ := and4 h1
          obtain ⟨h1, h3⟩ := and4 h1
          obtain ⟨h1, h2⟩ := and4 h1
          cases of_decide_eq_true h1
          exact snd_mth o.K o.hu (ih _ _ h7 _ _ o) (ih _ _ h8 _ _ o) (base_of h2) (of_decide_eq_true h3) h4 h5 h6
        · cases h
      | kix d a =>
        unfold tr at h
        dsimp only at h
        split at h
        · obtain ⟨h1, h3⟩ := and4 h
          obtain ⟨h1, h2⟩ := and4 h1
          obtain ⟨p, k1, k2, k3, k4⟩ := o.kdB h1
          exact snd_kix k1 k2 k3 k4 (ih _ _ h3 _ _ o) (plainIx h2)
        · cases h
      | kin d a =>
        unfold tr at h
        dsimp only at h
        split at h
        · obtain ⟨h1, h3⟩ := and4 h
          obtain ⟨h1, h2⟩ := and4 h1
          cases of_decide_eq_true h1
          obtain ⟨p, k1, k2, k3, k4⟩ := o.kdB h2
          exact snd_kin k1 k2 k3 k4 (ih _ _ h3 _ _ o)
        · cases h
      | dix ks vs a =>
        unfold tr at h
        dsimp only at h
        split at h
        · obtain ⟨h1, h7⟩ := and4 h
          obtain ⟨h1, h6⟩ := and4 h1
          obtain ⟨h1, h5⟩ := and4 h1
          obtain ⟨h1, h4⟩ := and4 h1
          obtain ⟨h1, h3⟩ := and4 h1
          obtain ⟨h1, h2⟩ := and4 h1
          exact snd_dix o.hu h1 (ih _ _ h6 _ _ o) (of_decide_eq_true h2) (fun z => by rw [z] at h4; exact absurd (of_decide_eq_true h4) (Nat.lt_irrefl 0)) (of_decide_eq_true h3) (ih _ _ h7 _ _ o) (plainIx h5)
        · cases h
      | lc t own q as cs e =>
        unfold tr at h
        dsimp only at h
        split at h
        · obtain ⟨h1, h8⟩ := and4 h
          obtain ⟨h1, h7⟩ := and4 h1
          obtain ⟨h1, h6⟩ := and4 h1
          obtain ⟨h1, h5⟩ := and4 h1
          obtain ⟨h1, h4⟩ := and4 h1
          obtain ⟨h1, h3⟩ := and4 h1
          obtain ⟨h1, h2⟩ := and4 h1
          have eo := of_decide_eq_true h1
          have ok := blkOk_by h2
          have ob := fun s H C cl fp => o.blk ok.kind s H C cl fp
          have hsl := lc_ok eo h4
          rw [← eo]
          exact snd_lc (own := ownN c own) o.calm hndX (ih _ _ h5 _ _ o _) (by rw [oN, o.sc]; exact ok) (fun s H C cl fp => ih _ _ h6 _ _ (ob s H C cl fp)) (fun s H C cl fp => ih _ _ h7 _ _ (ob s H C cl fp)) (fun s H C cl fp => ih _ _ h8 _ _ (ob s H C cl fp)) hsl (set_of h3)
        · cases h
    | t x a =>
      unfold tr at h
      dsimp only at h
      split at h
      · split at h
        · exact pst_not (ih _ _ h _ _ o)
        · cases h
      · split at h
        · exact (ih _ _ h _ _ o _).pt
        · cases h
      · split at h
        · exact (ih _ _ h _ _ o _).pt
        · cases h
      · split at h
        · obtain ⟨h1, h4⟩ := and4 h
          obtain ⟨h1, h3⟩ := and4 h1
          obtain ⟨h1, h2⟩ := and4 h1
          cases of_decide_eq_true h1
          exact pst_cmp o.K (by have := o.hu; omega) (ih _ _ h3 _ _ o) (ih _ _ h4 _ _ o) (by simpa using h2)
        · split at h
          · obtain ⟨h1, h3⟩ := and4 h
            obtain ⟨h1, h2⟩ := and4 h1
            cases of_decide_eq_true h1
            obtain ⟨p, k1, k2, k3, k4⟩ := o.kdB h2
            exact pst_kin k1 k2 k3 k4 (ih _ _ h3 _ _ o)
          · cases h
        · cases h
      · split at h
        · obtain ⟨h1, h6⟩ := and4 h
          obtain ⟨h1, h5⟩ := and4 h1
          obtain ⟨h1, h4⟩ := and4 h1
          obtain ⟨h1, h3⟩ := and4 h1
          obtain ⟨h1, h2⟩ := and4 h1
          cases of_decide_eq_true h1
          cases of_decide_eq_true h2
          exact pst_chn o.K (by have := o.hu; omega) (ih _ _ h4 _ _ o) (ih _ _ h5 _ _ o) (ih _ _ h6 _ _ o) (by simpa using h3)
        · cases h
      · obtain ⟨h1, h2⟩ := and4 h
        exact pst_val (ih _ _ h2 _ _ o) (whole_of h1)
    | ba es a =>
      unfold tr at h
      dsimp only at h
      split at h
      · exact fun pos => pe_one (ih _ _ h _ _ o)
      · rename_i e es hne
        split at h
        · obtain ⟨h1, h2⟩ := and4 h
          cases es with
          | nil => exact absurd rfl hne
          | cons e2 es => exact fun pos => snd_and (ih _ _ h1 _ _ o) (ih _ _ h2 _ _ o _)
        · cases h
      · cases h
    | bo es a =>
      unfold tr at h
      dsimp only at h
      split at h
      · exact fun pos => pe_one (ih _ _ h _ _ o)
      · rename_i e es hne
        split at h
        · obtain ⟨h1, h2⟩ := and4 h
          cases es with
          | nil => exact absurd rfl hne
          | cons e2 es => exact fun pos => snd_or (ih _ _ h1 _ _ o) (ih _ _ h2 _ _ o _)
        · cases h
      · cases h
    | wa es a =>
      unfold tr at h
      dsimp only at h
      split at h
      · exact fun pos => pw_and1 (ih _ _ h _ _ o)
      · rename_i e es hne
        split at h
        · obtain ⟨h1, h2⟩ := and4 h
          cases es with
          | nil => exact absurd rfl hne
          | cons e2 es => exact fun pos => pst_and (ih _ _ h1 _ _ o) (ih _ _ h2 _ _ o _)
        · cases h
      · cases h
    | wo es a =>
      unfold tr at h
      dsimp only at h
      split at h
      · exact fun pos => pw_or1 (ih _ _ h _ _ o)
      · rename_i e es hne
        split at h
        · obtain ⟨h1, h2⟩ := and4 h
          cases es with
          | nil => exact absurd rfl hne
          | cons e2 es => exact fun pos => pst_or (ih _ _ h1 _ _ o) (ih _ _ h2 _ _ o _)
        · cases h
      · cases h
    | vs xs as =>
      unfold tr at h
      dsimp only at h
      split at h
      · exact .nil
      · obtain ⟨h1, h2⟩ := and4 h
        exact .cons (ih _ _ h1 _ _ o) (ih _ _ h2 _ _ o)
      · cases h
    | es xs as =>
      unfold tr at h
      dsimp only at h
      split at h
      · exact snd_nil
      · obtain ⟨h1, h3⟩ := and4 h
        obtain ⟨h1, h2⟩ := and4 h1
        exact snd_cons (ih _ _ h2 _ _ o) (ih _ _ h3 _ _ o) (star_cons h1)
      · cases h
    | as xs as =>
      unfold tr at h
      dsimp only at h
      split at h
      · exact sna_nil
      · obtain ⟨h1, h3⟩ := and4 h
        obtain ⟨h1, h2⟩ := and4 h1
        exact sna_cons (ih _ _ h2 _ _ o) (ih _ _ h3 _ _ o) (star_cons h1)
      · cases h
    | ks xs as =>
      unfold tr at h
      dsimp only at h
      split at h
      · exact snk_nil
      · obtain ⟨h1, h2⟩ := and4 h
        exact snk_cons (ih _ _ h1 _ _ o) (ih _ _ h2 _ _ o)
      · cases h
    | it x q as =>
      unfold tr at h
      dsimp only at h
      split at h
      · exact fun tg => sni_plain o.K (ih _ _ h _ _ o)
      · split at h
        · obtain ⟨h1, h5⟩ := and4 h
          obtain ⟨h1, h4⟩ := and4 h1
          obtain ⟨h1, h3⟩ := and4 h1
          obtain ⟨h1, h2⟩ := and4 h1
          cases of_decide_eq_true h1
          exact fun tg => sni_range1 (ih _ _ h5 _ _ o) (o.gl h2) (o.bl _ h3) h4
        · cases h
      · split at h
        · obtain ⟨h1, h7⟩ := and4 h
          obtain ⟨h1, h6⟩ := and4 h1
          obtain ⟨h1, h5⟩ := and4 h1
          obtain ⟨h1, h4⟩ := and4 h1
          obtain ⟨h1, h3⟩ := and4 h1
          obtain ⟨h1, h2⟩ := and4 h1
          cases of_decide_eq_true h1
          exact fun tg => sni_range2 (ih _ _ h6 _ _ o) (ih _ _ h7 _ _ o) (o.gl h2) (o.bl _ h3) h4 h5
        · cases h
      · cases h
    | cs xs as =>
      unfold tr at h
      dsimp only at h
      split at h
      · exact snc_nil
      · exact snc_one (ih _ _ h _ _ o)
      · cases h
    | o x a =>
      unfold tr at h
      dsimp only at h
      split at h
      · exact snd_ono
      · exact snd_oso (ih _ _ h _ _ o)
      · cases h
    | g x t =>
      unfold tr at h
      dsimp only at h
      split at h
      · split at h
        · obtain ⟨h1, h2⟩ := targB_of h
          exact sng_nm hndX (by rw [oN]; exact h1) (o.loc h2).1 (o.loc h2).2
        · cases h
      · split at h
        · obtain ⟨h1, h3⟩ := and4 h
          obtain ⟨h1, h2⟩ := and4 h1
          exact sng_tp o.K o.calm (ih _ _ h3 _ _ o) (asg_len h1 (of_decide_eq_true h2)) (asg_st h1)
        · cases h
    | gs xs ts =>
      unfold tr at h
      dsimp only at h
      split at h
      · exact sngs_nil
      · obtain ⟨h1, h3⟩ := and4 h
        obtain ⟨h1, h2⟩ := and4 h1
        exact sngs_cons (ih _ _ h2 _ _ o) (ih _ _ h3 _ _ o) (asg_cons h1)
      · cases h
    | tg x t =>
      unfold tr at h
      dsimp only at h
      split at h
      · split at h
        · obtain ⟨h1, h2⟩ := targB_of h
          exact stg_nm hndX (by rw [oN]; exact h1) (o.loc h2).1 (o.loc h2).2
        · cases h
      · split at h
        · obtain ⟨h1, h3⟩ := and4 h
          obtain ⟨h1, h2⟩ := and4 h1
          obtain ⟨q1, q2, q3, q4⟩ := nameB_of h1
          exact stg_ix (by rw [oN]; exact q1) (o.vis q2) q3 q4 (ih _ _ h3 _ _ o) (fun v => asg_ix h2 v)
        · cases h
      · split at h
        · obtain ⟨h1, h3⟩ := and4 h
          obtain ⟨h1, h2⟩ := and4 h1
          exact stg_tp o.K o.calm (ih _ _ h3 _ _ o) (asg_len h1 (of_decide_eq_true h2)) (asg_st h1)
        · cases h
    | tgs xs ts =>
      unfold tr at h
      dsimp only at h
      split at h
      · exact stgs_nil
      · obtain ⟨h1, h3⟩ := and4 h
        obtain ⟨h1, h2⟩ := and4 h1
        exact stgs_cons (ih _ _ h2 _ _ o) (ih _ _ h3 _ _ o) (asg_cons h1)
      · cases h
    | s st a =>
      unfold tr at h
      dsimp only at h
      split at h
      · split at h
        · split at h
          · obtain ⟨h1, h2⟩ := and4 h
            obtain ⟨t1, t2⟩ := targB_of h1
            split at h2
            · rename_i hsw
              split at h2
              · obtain ⟨h1, h8⟩ := and4 h2
                obtain ⟨h1, h7⟩ := and4 h1
                obtain ⟨h1, h6⟩ := and4 h1
                obtain ⟨h1, h5⟩ := and4 h1
                obtain ⟨h1, h4⟩ := and4 h1
                obtain ⟨h1, h3⟩ := and4 h1
                obtain ⟨h1, h2⟩ := and4 h1
                obtain ⟨h0, h1⟩ := and4 h1
                have eo := of_decide_eq_true h1
                have ok := blkOk_by h2
                have ob := fun s H C cl fp => o.blk ok.kind s H C cl fp
                have hsl := lc_ok eo h4
                rw [← eo]
                exact sn_setLc o.calm hndX (by rw [oN]; exact t1) (by rw [o.sc]; exact of_decide_eq_true h0) (by rw [swB_of o.sc o.kd rfl, hsw]) (ih _ _ h5 _ _ o _) (by rw [oN, o.sc]; exact ok) (fun s H C cl fp => ih _ _ h6 _ _ (ob s H C cl fp)) (fun s H C cl fp => ih _ _ h7 _ _ (ob s H C cl fp)) (fun s H C cl fp => ih _ _ h8 _ _ (ob s H C cl fp)) hsl (set_of h3)
              · cases h2
            · rename_i hsw
              obtain ⟨h3, h4⟩ := and4 h2
              exact sn_set hndX (by rw [oN]; exact t1) (o.loc t2).1 (ih _ _ h4 _ _ o) (by rw [swB_of o.sc o.kd h3, Bool.eq_false_iff.mpr hsw]) (o.loc t2).2
          · cases h
        · obtain ⟨h1, h5⟩ := and4 h
          obtain ⟨h1, h4⟩ := and4 h1
          obtain ⟨h1, h3⟩ := and4 h1
          obtain ⟨h1, h2⟩ := and4 h1
          exact sn_asg (ih _ _ h4 _ _ o) (ih _ _ h5 _ _ o) (sw_none h2) (noSwap_of o.sc h3) (by rw [asg_cons h1]; rfl)
        · cases h
      · split at h
        · split at h
          · obtain ⟨h1, h8⟩ := and4 h
            obtain ⟨h1, h7⟩ := and4 h1
            obtain ⟨h1, h6⟩ := and4 h1
            obtain ⟨h1, h5⟩ := and4 h1
            obtain ⟨h1, h4⟩ := and4 h1
            obtain ⟨h1, h3⟩ := and4 h1
            obtain ⟨h1, h2⟩ := and4 h1
            have l4 := of_decide_eq_true h4
            have l5 := of_decide_eq_true h5
            rw [← o.sc] at l4 l5
            have h6' := h6
            unfold swap2 at h6'
            simp only [Bool.and_eq_true] at h6'
            exact sn_par2 o.calm hndX (by rw [oN]; exact of_decide_eq_true h1) (by rw [oN]; exact of_decide_eq_true h2) (of_decide_eq_true h3) l4 l5 (ih _ _ h7 _ _ o) (ih _ _ h8 _ _ o) h6'.1.1.1.2 h6'.1.1.2 (swap2_of (by rw [o.sc]; exact o.kd) l4 l5 h6) rfl
          · cases h
        · cases h
      · split at h
        · obtain ⟨h1, h2⟩ := and4 h
          exact sn_exp (ih _ _ h2 _ _ o) (sw_none h1)
        · cases h
      · cases h
      · split at h
        · exact sn_ret (ih _ _ h _ _ o)
        · cases h
      · split at h
        · obtain ⟨h1, h2, h3, h4⟩ := nameB_of h
          exact sn_retm (by rw [oN]; exact h1) (o.vis h2) h3 h4
        · cases h
      · split at h
        · exact sn_retn
        · cases h
      · split at h
        · obtain ⟨h1, h3⟩ := and4 h
          obtain ⟨h1, h2⟩ := and4 h1
          exact sn_iff (ih _ _ h1 _ _ o) (ih _ _ h2 _ _ o) (ih _ _ h3 _ _ o)
        · cases h
      · split at h
        · obtain ⟨h1, h2⟩ := and4 h
          exact sn_whl o.po (ih _ _ h1 _ _ o) (ih _ _ h2 _ _ o)
        · cases h
      · split at h
        · obtain ⟨h1, h4⟩ := and4 h
          obtain ⟨h1, h3⟩ := and4 h1
          obtain ⟨h1, h2⟩ := and4 h1
          exact sn_fr o.po o.calm (ih _ _ h2 _ _ o _) (ih _ _ h3 _ _ o) (ih _ _ h4 _ _ o) (set_of h1)
        · cases h
      · cases h
      · cases h
      · exact sn_nev
      · split at h
        · exact sn_pas
        · exact sn_doc
        · cases h
    | ss sts as =>
      unfold tr at h
      dsimp only at h
      split at h
      · split at h
        · exact sns_nil
        · cases h
      · exact sns_frz (ih _ _ h _ _ o)
      · split at h
        · obtain ⟨h1, h2⟩ := and4 h
          exact sns_cons (ih _ _ h1 _ _ o) (ih _ _ h2 _ _ o)
        · cases h
end
end Sq

/-! defs, the law -/
namespace Sq
open PySem PySem.Spec PyProof.Rows L2

theorem fn_ofG {P : Program} {w : World} {K : PySem.W.Frag} {mg : Str → Option Value} {base : Heap} {k : Nat} {f : Addr} {name qual : Str} {prm : Arguments} {sts : List Stmt} {sc : Scope}
    {dv kv doc pm cv ct oc : Value} {an od : Option Addr} {sl : Array (Option Value)} {N ps : List Str} {sp : Sp}
    (found : K.lookup f = some ⟨oc, od, .func (PySem.W.fnOf name qual prm sts sc dv kv doc pm an cv ct), sl⟩) (code : PySem.W.codeIn K cv qual = true) (FS : FnScope N ps sc)
    (count : ∀ xs H Q E, sp xs H Q E → xs.length = ps.length)
    (inner : ∀ (A : Around) (outer : List PySem.Env) (s : Shared) (H : Hp) (xs : List V) (Q : VK) (E : XK), Room k (A.deeper (envOfC qual sc s.heap.objs.size f cv)) → (A.deeper (envOfC qual sc s.heap.objs.size f cv)).guards = some [] → sp xs H Q E →
      ∃ t, PSs (cxOf (L2.CX P w) P w K mg base N qual sc f cv A outer s H E) sts t ∧ t { nx := fun _ H' => Q .non H', rt := Q } (L2.start N xs) H) :
    FnG P w K mg base (k + 1) f (PySem.W.fnOf name qual prm sts sc dv kv doc pm an cv ct) ps sp := by
  constructor
  · exact count
  intro A outer s0 H given ws xs Q E room calmG here bound rel want
  have old : ∀ b o, base.get? b = some o → s0.heap.get? b = some o := fun b o q => (here.bs b o q).1
  have inK : K.In s0.heap := here.mod.kin.keeps old
  have free : s0.heap.NoLimit := here.mod.nolimit.keeps old
  obtain ⟨t, pt, qt⟩ := inner A outer s0 H xs Q E (room.deeper _) calmG want
  refine codeAny_call_function room.depth (inK f _ found) rfl FS.co FS.gen rfl (PySem.W.codeRec_of inK code) (bound _ _ _ _ (wpAny_newFunctionEnv_cells FS.kind ?kinds fun e2 eq2 s2 inside => ?body))
  case kinds =>
    rintro ⟨nm, u⟩ mem
    have isP := FS.par nm (List.of_mem_zip mem).1
    exact isP.imp id fun cell => ⟨cell, PySem.W.cellsFrom_some _ _ _ (.inl cell)⟩
  case body =>
    subst eq2
    have J0 := inv_start (CX := L2.CX P w) (mg := mg) (base := base) (E := E) FS room.hd here (count _ _ _ _ want) rel inside
    refine ⟨free.keeps inside.toInCall.keep, codeAny_func (wpAny_mono (pt.run [] s2 (L2.start N xs) H _ J0 qt) (fun flow s3 end3 => ?_) fun _ _ raised => raised)⟩
    match flow, end3 with
    | .ret u, ⟨v, σ3, H3, J, rv, q⟩ => exact ⟨v, H3, J.os, J.bare, J.base, J.hok, rv, q⟩
    | .next, ⟨σ3, H3, J, q⟩ => exact ⟨.non, H3, J.os, J.bare, J.base, J.hok, rfl, q⟩
    | .brk, ⟨_, _, _, q⟩ => exact q.elim
    | .cont, ⟨_, _, _, q⟩ => exact q.elim

theorem srel_start {M : Mo} {G : Gh} {H : Hp} : ∀ {as : List Arg} {vs : List V} (n : Nat), PRel M G H as vs → SRel M G H H (as.map some ++ List.replicate n none) (vs.map some ++ List.replicate n none) := by
  intro as vs n h
  have key : ∀ (i : Nat) (v : PV) (fl : Fl), (as.map some ++ List.replicate n none)[i]? = some (some (v, fl)) → as[i]? = some (v, fl) := by
    intro i v fl q
    by_cases hi : i < as.length
    · rw [List.getElem?_append_left (by simpa using hi), List.getElem?_map] at q
      cases e : as[i]? with
      | none => rw [e] at q; cases q
      | some a => rw [e] at q; cases q; rfl
    · rw [List.getElem?_append_right (by simpa using hi), List.getElem?_replicate] at q
      split at q <;> cases q
  refine ⟨by simp [h.length], fun i v fl q => ?_, fun i j v u a q1 q2 _ _ => ?_⟩
  · have e := key i v fl q
    obtain ⟨x, h1, h2⟩ := h.get e
    refine ⟨x, ?_, ?_⟩
    · obtain ⟨hl, _⟩ := List.getElem?_eq_some_iff.mp h1
      rw [List.getElem?_append_left (by simpa using hl), List.getElem?_map, h1]
      rfl
    · rcases h2 with ⟨z, h2⟩ | ⟨z, h2⟩
      · dsimp only at z; subst z; exact h2
      · dsimp only at z; subst z
        obtain ⟨a, xs, us, e1, e2, e3, e4, e5, e6, _⟩ := h2
        exact ⟨a, xs, us, e1, e2, e3, e4, e5, e6, fun z => by rw [e3] at z; cases z⟩
  · have e := key i v .own q1
    obtain ⟨x, _, h2⟩ := h.get e
    rcases h2 with ⟨z, _⟩ | ⟨z, _⟩ <;> cases z

/-- a def of the module and its term -/
structure DefOk (K : PySem.W.Frag) (mg : Str → Option Value) (m : MC) (prog : Prog) (x : Str) (n : Nat) (ps : List Str) (f : Addr) (fd : FuncData) : Prop where
  mgx : mg x = some (.ref f)
  pl : Plain fd ps
  bd : ∃ (st : Stmt) (N : List Str) (d : Def) (fuel : Nat), L2.Fun K x x st f fd ∧ FnScope N ps (defScope st) ∧ prog n = some d ∧ d.np = ps.length ∧ d.ns = N.length ∧ tr m fuel ⟨N, defScope st, fun _ => true⟩ (.ss (defBody st) d.body) = true

theorem fns {P : Program} {w : World} {M : Mo} {mg : Str → Option Value} {base : Heap} {ex : ExT} {prog : Prog} {m : MC}
    (hcn : ∀ x v, m.cn x = some v → ∃ u y, mg x = some u ∧ RelV y u ∧ ∀ G, Rep M G v y) (hbl : ∀ x, m.bl x = true → mg x = none) (hkd : ∀ x d, m.kd x = some d → ∃ p, mg x = some (.ref p) ∧ KdOk M M.K w p d) (hd : ∀ x n ps, m.fn x = some (n, ps) → ∃ f fd, DefOk M.K mg m prog x n ps f fd) :
    ∀ (k : Nat) (x : Str) (n : Nat) (ps : List Str), m.fn x = some (n, ps) → ∀ (f : Addr) (fd : FuncData), DefOk M.K mg m prog x n ps f fd → FnG P w M.K mg base k f fd ps (spF M ex prog n k) := by
  intro k
  induction k with
  | zero =>
    intro x n ps _ f fd D
    exact ⟨fun vs H Q E ⟨G, as, S, _, _, h⟩ => h.elim, fun A outer s H args us vs Q E _ _ _ _ _ ⟨G, as, S, _, _, h⟩ => h.elim⟩
  | succ k ih =>
    intro x n ps hx f fd D
    obtain ⟨st, N, d, fuel, F, sc, hp, hnp, hns, ht⟩ := D.bd
    obtain ⟨oc, od, kV, doc, pm, an, cdv, ct, osl, rfl, lk, hcd⟩ := F.ex
    have len : ∀ (vs : List V) (H : Hp) (Q : VK) (E : XK), spF M ex prog n (k + 1) vs H Q E → vs.length = ps.length := by
      intro vs H Q E ⟨G, as, S, _, hr, h⟩
      unfold callF at h
      rw [hp] at h
      dsimp only at h
      by_cases hl : as.length = d.np
      · rw [← hr.length, hl, hnp]
      · rw [if_neg hl] at h; exact h.elim
    refine fn_ofG lk hcd sc len fun A outer s H vs Q E hr hgd hsp => ?_
    have o : XO M ex prog k m ⟨N, defScope st, fun _ => true⟩ E (cxOf (L2.CX P w) P w M.K mg base N x (defScope st) f cdv A outer s H E) := by
      refine ⟨rfl, rfl, rfl, rfl, hgd, rfl, ?_, sc.nd, sc.kind, ?_, passes_of rfl, hcn, hbl, hkd, fun x' n' ps' h' => ?_⟩
      · have := hr.un
        show (A.deeper _).units + 66 < cLine
        omega
      · exact passes_call (W := fun cls d _ H => E cls d H) (takes_of rfl rfl rfl rfl) fun _ _ _ _ h => h
      · obtain ⟨f', fd', D'⟩ := hd x' n' ps' h'
        obtain ⟨_, _, _, _, F', _⟩ := D'.bd
        exact ⟨k, f', fd', hr, D'.mgx, F'.kp, D'.pl, ih x' n' ps' h' f' fd' D'⟩
    refine ⟨_, tr_ok fuel _ _ ht E _ o, ?_⟩
    obtain ⟨G, as, S, h1, h2, h3⟩ := hsp
    unfold callF at h3
    rw [hp] at h3
    dsimp only at h3
    by_cases hl : as.length = d.np
    case neg => rw [if_neg hl] at h3; exact h3.elim
    rw [if_pos hl] at h3
    have es : L2.start N vs = vs.map some ++ List.replicate (d.ns - d.np) none := by
      unfold L2.start
      rw [← h2.length, hl, hns]
    refine ⟨G, H, G, as.map some ++ List.replicate (d.ns - d.np) none, S, .refl, by rw [es]; exact srel_start _ h2, h1, ?_⟩
    generalize execs (callF prog k) d.body (as.map some ++ List.replicate (d.ns - d.np) none) S = r at h3
    cases r with
    | nx s' S' => exact fun G' H' σ' e g r' q => h3 G' H' .non e r' .non
    | rt a S' => exact h3
    | exc c fs S' => exact h3
    | bad => exact h3

/-! ### the law -/
/-- a heap of the script alone -/
theorem script_heap {K : PySem.W.Frag} {h : Heap} {a : Addr} {us : List Value} {xs : List V} (inK : K.In h) (at_ : h.get? a = some { cls := .type "list", data := .seq us.toArray }) (rel : Vals xs us) (small : xs.length ≤ sizeLine) :
    ∃ H : Hp, (∀ b u, H b = some u → b = a ∧ u = .frz { cls := .type "list", data := .seq us.toArray } (.lst xs)) ∧ SqL K H a xs ∧ ∀ b o, K.lookup b = some o → H b = none := by
  cases known : K.lookup a with
  | none =>
    refine ⟨fun b => if b = a then some (.frz { cls := .type "list", data := .seq us.toArray } (.lst xs)) else none, fun b u q => ?_, .inl (.inr ⟨_, if_pos rfl⟩), fun b o q => if_neg fun z => ?_⟩
    · by_cases z : b = a
      · have q := (if_pos z).symm.trans q
        exact ⟨z, (Option.some.inj q).symm⟩
      · have q := (if_neg z).symm.trans q
        cases q
    · rw [z, known] at q; cases q
  | some o =>
    have same := (inK a o known).symm.trans at_
    cases same
    exact ⟨fun _ => none, (fun _ _ q => nomatch q), .inr ⟨_, us.toArray, 0, known, rfl, rfl, rfl, by rw [List.size_toArray, ← rel.length]; exact small, rel⟩, fun _ _ _ => rfl⟩
theorem law_callG {P : Program} {w : World} {K : PySem.W.Frag} {mg mb : Str → Option Value} {k : Nat} {fa a : Addr} {fd : FuncData} {x : Str} {sp : Sp} {s1 : Shared} {us : List Value} {ns : List Int}
    (inK : K.In s1.heap) (glob : s1.heap.Ns mainGlobals mg) (blt : s1.heap.Ns builtinsNs mb) (boot : ∀ x : Str, x ≠ "__name__" → mb x = bootBuiltins x) (free : s1.heap.NoLimit) (noGens : s1.gens = #[])
    (at_ : s1.heap.get? a = some { cls := .type "list", data := .seq us.toArray }) (whole : IntsAre us ns) (small : ns.length ≤ sizeLine) (room : Room k callerA)
    (F : ∀ base : Heap, K.In base → base.Ns mainGlobals mg → FnG P w K mg base k fa fd [x] sp) (bind : ∀ (s : Shared) (u : Value), BindsTo s fd ⟨[u], []⟩ [(x, u)])
    (want : ∀ H : Hp, SqL K H a (ns.map V.int) → sp [.ref a] H (fun v _ => v = .bl true) fun _ _ _ => False) :
    codeAny (model P w) callerA (.call (.ref fa) ⟨[.ref a], []⟩) (fun r s' => r = .ok (.ret (.bool true)) ∧ OldK s1.heap s'.heap ∧ s'.os = s1.os ∧ AllBare s'.gens) s1 := by
  have rel := vals_ints whole
  obtain ⟨H, only, script, apart⟩ := script_heap inK at_ rel (by rw [List.length_map]; exact small)
  -- the tables are not the script
  have table : ∀ (b : Addr) (m : Str → Option Value), s1.heap.Ns b m → (hidT s1.heap H).Ns b m := by
    rintro b m ⟨o, es, ep, q, isDict, rest⟩
    refine ⟨o, es, ep, hidT_get q ?_, isDict, rest⟩
    cases z : H b with
    | none => rfl
    | some u =>
      obtain ⟨rfl, _⟩ := only b u z
      cases at_.symm.trans q
      cases isDict
  have inK' : K.In (hidT s1.heap H) := fun b o q => hidT_get (inK b o q) (apart b o q)
  have lim' : (hidT s1.heap H).NoLimit := let ⟨m, q1, q2⟩ := free; ⟨m, table _ _ q1, q2⟩
  have objs : HOk P w H s1.heap := fun b u z => by
    obtain ⟨rfl, rfl⟩ := only b u z
    exact ⟨at_, by rw [List.length_map]; exact small, us, _, rel, at_⟩
  have here : Env0 P w K mg (hidT s1.heap H) callerA [] s1 H := ⟨rfl, ⟨inK', table _ _ glob, ⟨mb, table _ _ blt, boot⟩, lim'⟩, fun _ _ q => of_hidT q, Nat.le_of_eq (hidT_size _ _), trivial, fun _ z => (nomatch z), objs, .of_eq noGens⟩
  refine codeAny_mono ((F _ inK' (table _ _ glob)).run callerA [] s1 H ⟨[.ref a], []⟩ [.ref a] [.ref a] _ _ room rfl here (bind s1 (.ref a)) (.cons rfl .nil) (want H script)) fun r s2 end2 => ?_
  match r, end2 with
  | .error _, ⟨_, _, _, _, _, _, _, _, _, _, _, _, z⟩ => exact z.elim
  | .ok (.ret u), ⟨v, H2, os, bare, un, ok2, rv, (q : v = .bl true)⟩ =>
    subst q
    cases (show u = Value.bool true from rv)
    refine ⟨rfl, OldK.of_keep fun b o q => ?_, os, bare⟩
    cases z : H b with
    | none => exact un.keep b o q z (fun m => nomatch m) (fun m => nomatch m)
    | some u =>
      obtain ⟨rfl, rfl⟩ := only b u z
      cases at_.symm.trans q
      exact (ok2 b _ (un.frzs b _ _ z)).1

/-- the script as the law's argument -/
theorem sp_law {M : Mo} {ex : ExT} {prog : Prog} {n k : Nat} {H : Hp} {a : Addr} {ns : List Int} {fl : Fl} {S' : Store} (hS : SqL M.K H a (ns.map V.int)) (h : callF prog k n [(.rol (ns.map .int), .frz)] [] = .ok (.bl true, fl) S') :
    spF M ex prog n k [.ref a] H (fun v _ => v = .bl true) fun _ _ _ => False := by
  refine ⟨⟨H, []⟩, [(.rol (ns.map .int), .frz)], [], ⟨fun _ _ e => e, rfl, List.nodup_nil, fun _ h => (nomatch h), fun n o a h => (by simp at h)⟩, .frz (.rol hS ?_) .nil, ?_⟩
  · clear h hS
    induction ns with
    | nil => exact .nil
    | cons x r ih => exact .cons (.int x) ih
  · rw [h]
    intro G' H' b e r q
    exact q.rdb.bl
theorem walk_ofG {l : PySem.W.OpenLaw} {n k : Nat} {q : Program} {loose : List Str} {XP : (Str → Option Value) → Heap → Prop} {YP : World → Heap → Prop} {d : DefRec} {K : Params → PySem.W.Frag} {sp : World → Sp} {x : Str}
    (hn : l.most = some n) (hn2 : n ≤ sizeLine) (hdf : d.params.defaults = []) (hr : Room k callerA)
    (hY : ∀ (w : World) (h : Heap), YP w h → (K w.params).In h)
    (F : ∀ (w : World) (mg : Str → Option Value) (fa : Addr) (h : Heap), (K w.params).In h → h.Ns mainGlobals mg → mg d.name = some (.ref fa) →
      ∃ fd : FuncData, (∀ (s : Shared) (u : Value), BindsTo s fd ⟨[u], []⟩ [(x, u)]) ∧
        ∀ base : Heap, (K w.params).In base → base.Ns mainGlobals mg → FnG l.prog w (K w.params) mg base k fa fd [x] (sp w))
    (hsp : ∀ (w : World) (H : Hp) (a : Addr) (ns : List Int), ns.length ≤ n → SqL (K w.params) H a (ns.map V.int) → sp w [.ref a] H (fun v _ => v = .bl true) fun _ _ _ => False) :
    PySem.W.WalkO q loose XP YP l.row.toRowW d [] (fun f vs => PySem.call f vs) := by
  refine Att.attach_call hn hdf fun w s₀ s₁ mg mb fa o pm cd doc a vs ns G Y ho hd hcd hmg hobj hints hlen hg => ?_
  have KX := hY w _ Y
  obtain ⟨fd, hb, hF⟩ := F w mg fa _ KX G.T.g hmg
  exact law_callG KX G.T.g G.T.b G.T.builtins G.T.nolimit hg hobj hints (Nat.le_trans hlen hn2) hr hF hb (fun H hS => hsp w H a ns hlen hS)
/-- plain parameters, by the text -/
def plainB (st : Stmt) (ps : List Str) : Bool := match defArgs st with
  | ⟨po, ar, va, ko, _, kw, _⟩ => po.isEmpty && decide (ar.map (·.arg) = ps) && ko.isEmpty && va.isNone && kw.isNone && decide ps.Nodup
theorem plain_of {K : PySem.W.Frag} {x qual : Str} {st : Stmt} {f : Addr} {fd : FuncData} {ps : List Str} (F : L2.Fun K x qual st f fd) (h : plainB st ps = true) : Plain fd ps := by
  obtain ⟨oc, od, kV, doc, pm, an, cdv, ct, osl, rfl, lk, hcd⟩ := F.ex
  unfold plainB at h
  generalize hA : defArgs st = A at h
  cases A with
  | mk po ar va ko kd kw df =>
    simp only [Bool.and_eq_true, decide_eq_true_eq, List.isEmpty_iff, Option.isNone_iff_eq_none] at h
    obtain ⟨⟨⟨⟨⟨h1, h2⟩, h3⟩, h4⟩, h5⟩, h6⟩ := h
    exact ⟨h1, h2, h3, h4, h5, rfl, h6⟩
/-- a def's scope, by the text -/
def scopeB (N ps : List Str) (sc : Scope) : Bool := (match sc.kind with | .function => true | _ => false) && !sc.isCoroutine && !sc.isGenerator && decide N.Nodup && decide (N.take ps.length = ps) && (ps.all fun x => match sc.names.lookup x with | some .local => true | some .cell => true | _ => false) && (sc.names.all fun y => match y.2 with | .free => false | _ => true)
theorem scope_of {N ps : List Str} {sc : Scope} (h : scopeB N ps sc = true) : FnScope N ps sc := by
  unfold scopeB at h
  simp only [Bool.and_eq_true, decide_eq_true_eq, List.all_eq_true, Bool.not_eq_true'] at h
  obtain ⟨⟨⟨⟨⟨⟨h1, h2⟩, h3⟩, h4⟩, h5⟩, h6⟩, h7⟩ := h
  refine ⟨?_, h2, h3, h4, h5, fun x hx => ?_, fun y hy e => ?_⟩
  · split at h1
    · assumption
    · cases h1
  · have z := h6 x hx
    split at z
    · exact .inl (by assumption)
    · exact .inr (by assumption)
    · cases z
  · have z := h7 y hy
    rw [e] at z
    cases z
theorem defOk_mk {K : PySem.W.Frag} {mg : Str → Option Value} {m : MC} {prog : Prog} {x : Str} {n : Nat} {ps : List Str} {f : Addr} {fd : FuncData} {st : Stmt} (N : List Str) (d : Def) (fuel : Nat) (F : L2.Fun K x x st f fd) (g : mg x = some (.ref f)) (hp : prog n = some d) 
    (h : (plainB st ps && scopeB N ps (defScope st) && decide (d.np = ps.length) && decide (d.ns = N.length) && tr m fuel ⟨N, defScope st, fun _ => true⟩ (.ss (defBody st) d.body)) = true) : DefOk K mg m prog x n ps f fd := by
  obtain ⟨h1, h5⟩ := and4 h
  obtain ⟨h1, h4⟩ := and4 h1
  obtain ⟨h1, h3⟩ := and4 h1
  obtain ⟨h1, h2⟩ := and4 h1
  exact ⟨g, plain_of F h1, st, N, d, fuel, F, scope_of h2, hp, of_decide_eq_true h3, of_decide_eq_true h4, h5⟩
/-! ### tables -/
inductive AllL {α : Type} (P : α → Prop) : List α → Prop
  | nil : AllL P []
  | cons {x : α} {l : List α} : P x → AllL P l → AllL P (x :: l)
theorem AllL.of {α : Type} {P : α → Prop} {l : List α} (h : AllL P l) : AllL P l := h
theorem look_ex {α : Type} {L : List (Str × α)} {Q : Str → α → Prop} (h : AllL (fun p => Q p.1 p.2) L) {x : Str} {v : α} (e : L.lookup x = some v) : Q x v := by
  induction h with
  | nil => cases e
  | @cons p l h1 _ ih =>
    rw [List.lookup_cons] at e
    cases q : x == p.1 with
    | true =>
      rw [q] at e
      cases e
      rw [eq_of_beq q]
      exact h1
    | false =>
      rw [q] at e
      exact ih e
theorem mem_all {L : List Str} {P : Str → Prop} (h : AllL P L) {x : Str} (e : L.contains x = true) : P x := by
  induction h with
  | nil => cases e
  | @cons p l h1 _ ih =>
    rw [List.contains_cons, Bool.or_eq_true] at e
    rcases e with e | e
    · rw [eq_of_beq e]; exact h1
    · exact ih e
theorem look_all {α : Type} {L : List (Str × α)} {Q : Str → α → Prop} (h : AllL (fun p => Q p.1 p.2) L) : ∀ z v, lookS z L = some v → Q z v := by
  intro z v e
  induction h with
  | nil => cases e
  | @cons p l h1 _ ih =>
    unfold lookS at e
    by_cases q : p.1 = z
    · rw [if_pos q] at e
      cases e
      rw [← q]
      exact h1
    · rw [if_neg q] at e
      exact ih e
theorem rv_non : RelV .non .none := rfl
theorem rv_bl {b : Bool} : RelV (.bl b) (.bool b) := rfl
theorem rv_int {i : Int} {t : Tok} : RelV (.int i) (.int i t) := ⟨t, rfl⟩
theorem rv_str {x : Str} {t : Tok} : RelV (.str x) (.str x t) := ⟨t, rfl⟩
theorem rv_ref {a : Addr} : RelV (.ref a) (.ref a) := rfl
end Sq

/-! words for a run of the small language -/
namespace Sq
open PySem

@[simp] theorem bin_add (i j : Int) : binV .add (.int i) (.int j) = some (.int (i + j), .frz) := rfl
@[simp] theorem bin_sub (i j : Int) : binV .sub (.int i) (.int j) = some (.int (i - j), .frz) := rfl
theorem bin_mul {i j : Int} (h : mulOk i j = true) : binV .mul (.int i) (.int j) = some (.int (i * j), .frz) := by
  show (if mulOk i j = true then some (PV.int (i * j), Fl.frz) else none) = _
  rw [if_pos h]
theorem bin_fdv {i j : Int} (h : 0 < j) (h2 : j.natAbs.log2 < 9000) : binV .fdv (.int i) (.int j) = some (.int (i / j), .frz) := by
  show (if 0 < j ∧ j.natAbs.log2 < 9000 then some (PV.int (i / j), Fl.frz) else none) = _
  rw [if_pos ⟨h, h2⟩]
theorem bin_mod {i j : Int} (h : 0 < j) : binV .mod (.int i) (.int j) = some (.int (i % j), .frz) := by
  show (if 0 < j then some (PV.int (i % j), Fl.frz) else none) = _
  rw [if_pos h]
theorem bin_pow {i j : Int} (h : 0 ≤ j) (h2 : j ≤ 1000000) (h3 : i.natAbs < 2 ^ 64) : binV .pow (.int i) (.int j) = some (.int (i ^ j.toNat), .frz) := by
  show (if 0 ≤ j ∧ j ≤ 1000000 ∧ i.natAbs < 2 ^ 64 then some (PV.int (i ^ j.toNat), Fl.frz) else none) = _
  rw [if_pos ⟨h, h2, h3⟩]
theorem bin_cat {x y : Str} (h : x.length + y.length ≤ LINE) : binV .add (.str x) (.str y) = some (.str (x ++ y), .frz) := by
  show (if x.length + y.length ≤ LINE then some (PV.str (x ++ y), Fl.frz) else none) = _
  rw [if_pos h]
theorem bin_catL {xs ys : List PV} (h : xs.length + ys.length ≤ LINE) : binV .add (.lst xs) (.lst ys) = some (.lst (xs ++ ys), .own) := by
  show (if xs.length + ys.length ≤ LINE then some (PV.lst (xs ++ ys), Fl.own) else none) = _
  rw [if_pos h]
theorem bin_catT {xs ys : List PV} (h : xs.length + ys.length ≤ LINE) : binV .add (.tup xs) (.tup ys) = some (.tup (xs ++ ys), .frz) := by
  show (if xs.length + ys.length ≤ LINE then some (PV.tup (xs ++ ys), Fl.frz) else none) = _
  rw [if_pos h]
theorem bin_rep {xs : List PV} {k : Int} (h : -(2 ^ 63) ≤ k ∧ k < 2 ^ 63 ∧ xs.length * k.toNat ≤ LINE) : binV .mul (.lst xs) (.int k) = some (.lst (List.replicate k.toNat xs).flatten, .own) := by
  show (if -(2 ^ 63) ≤ k ∧ k < 2 ^ 63 ∧ xs.length * k.toNat ≤ LINE then some (PV.lst (List.replicate k.toNat xs).flatten, Fl.own) else none) = _
  rw [if_pos h]
theorem log2_le {i : Int} {n : Nat} (h : i.natAbs ≤ 2 ^ n) : i.natAbs.log2 ≤ n := by
  by_cases z : i.natAbs = 0
  · rw [z]; simp
  · have : i.natAbs < 2 ^ (n + 1) := Nat.lt_of_le_of_lt h (by rw [Nat.pow_succ]; have := Nat.two_pow_pos n; omega)
    have := (Nat.log2_lt z).mpr this
    omega
theorem mulOk_of {i j : Int} {n k : Nat} (hi : i.natAbs ≤ 2 ^ n) (hj : j.natAbs ≤ 2 ^ k) (h : n + k < 900000) : mulOk i j = true := by
  unfold mulOk
  have h1 := log2_le hi
  have h2 := log2_le hj
  exact decide_eq_true (by omega)

@[simp] theorem cmp_lt (i j : Int) : cmpV .lt (.int i) (.int j) = some (decide (i < j)) := rfl
@[simp] theorem cmp_le (i j : Int) : cmpV .le (.int i) (.int j) = some (decide (i ≤ j)) := rfl
@[simp] theorem cmp_gt (i j : Int) : cmpV .gt (.int i) (.int j) = some (decide (j < i)) := rfl
@[simp] theorem cmp_ge (i j : Int) : cmpV .ge (.int i) (.int j) = some (decide (j ≤ i)) := rfl
@[simp] theorem cmp_eqI (i j : Int) : cmpV .eq (.int i) (.int j) = some (i == j) := rfl
@[simp] theorem cmp_neI (i j : Int) : cmpV .ne (.int i) (.int j) = some (!(i == j)) := rfl
@[simp] theorem cmp_eqS (i j : Str) : cmpV .eq (.str i) (.str j) = some (i == j) := rfl
@[simp] theorem cmp_neS (i j : Str) : cmpV .ne (.str i) (.str j) = some (!(i == j)) := rfl
@[simp] theorem cmp_isN (x : PV) : cmpV .is x .non = some (match x with | .non => true | _ => false) := rfl
@[simp] theorem cmp_isnotN (x : PV) : cmpV .isnot x .non = some (!(match x with | .non => true | _ => false)) := rfl
theorem eqP_t4 (a b c d e f g h : Int) : eqP (.tup [.int a, .int b, .int c, .int d]) (.tup [.int e, .int f, .int g, .int h]) = some (a == e && (b == f && (c == g && (d == h && true)))) := rfl
theorem eqP_t2 (a b e f : Int) : eqP (.tup [.int a, .int b]) (.tup [.int e, .int f]) = some (a == e && (b == f && true)) := rfl
@[simp] theorem cmp_eq4 (a b c d e f g h : Int) : cmpV .eq (.tup [.int a, .int b, .int c, .int d]) (.tup [.int e, .int f, .int g, .int h]) = some (a == e && (b == f && (c == g && (d == h && true)))) := rfl
@[simp] theorem cmp_ne4 (a b c d e f g h : Int) : cmpV .ne (.tup [.int a, .int b, .int c, .int d]) (.tup [.int e, .int f, .int g, .int h]) = some (!(a == e && (b == f && (c == g && (d == h && true))))) := rfl
@[simp] theorem cmp_eq2 (a b e f : Int) : cmpV .eq (.tup [.int a, .int b]) (.tup [.int e, .int f]) = some (a == e && (b == f && true)) := rfl
@[simp] theorem cmp_ne2 (a b e f : Int) : cmpV .ne (.tup [.int a, .int b]) (.tup [.int e, .int f]) = some (!(a == e && (b == f && true))) := rfl
@[simp] theorem bif_lenL (xs : List PV) : bifV .len [.lst xs] = some (.int xs.length, .frz) := rfl
@[simp] theorem bif_lenR (xs : List PV) : bifV .len [.rol xs] = some (.int xs.length, .frz) := rfl
@[simp] theorem bif_lenT (xs : List PV) : bifV .len [.tup xs] = some (.int xs.length, .frz) := rfl
theorem bif_lenS {x : Str} (h : x.length ≤ LINE) : bifV .len [.str x] = some (.int x.length, .frz) := by
  show (if x.length ≤ LINE then some (PV.int x.length, Fl.frz) else none) = _
  rw [if_pos h]
@[simp] theorem bif_tupL (xs : List PV) : bifV .tuple [.lst xs] = some (.tup xs, .frz) := rfl
@[simp] theorem bif_int (i : Int) : bifV .int [.int i] = some (.int i, .frz) := rfl
@[simp] theorem bif_abs (i : Int) : bifV .abs [.int i] = some (.int (if i < 0 then -i else i), .frz) := rfl
@[simp] theorem bif_all (xs : List PV) : bifV .all [.lst xs] = (blsP xs).map fun bs => (.bl (bs.all id), .frz) := rfl
@[simp] theorem bif_any (xs : List PV) : bifV .any [.lst xs] = (blsP xs).map fun bs => (.bl (bs.any id), .frz) := rfl
@[simp] theorem bif_min2 (i j : Int) : bifV .min2 [.int i, .int j] = some (.int (if j < i then j else i), .frz) := rfl
@[simp] theorem bif_max2 (i j : Int) : bifV .max2 [.int i, .int j] = some (.int (if j > i then j else i), .frz) := rfl
theorem bif_divmod {i j : Int} (h : 0 < j) (h2 : j < 1073741824) : bifV .divmod [.int i, .int j] = some (.tup [.int (i / j), .int (i % j)], .frz) := by
  show (if 0 < j ∧ j < 1073741824 then some (PV.tup [.int (i / j), .int (i % j)], Fl.frz) else none) = _
  rw [if_pos ⟨h, h2⟩]
theorem join_ok {sep : Str} {ys : List Str} {xs : List PV} (h : strsP xs = some ys) (h2 : joinLen sep ys ≤ LINE) : methV .join (.str sep) [.lst xs] = some (.str (Str.join sep ys), .frz) := by
  show (match strsP xs with
    | some ys => if joinLen sep ys ≤ LINE then some (PV.str (Str.join sep ys), Fl.frz) else none
    | none => none) = _
  rw [h]
  dsimp only
  rw [if_pos h2]

/-! ### data that is written -/
def OkD (v : PV) (dep wt : Nat) : Prop := ∃ d, v.toD = some d ∧ d.showable = true ∧ d.canLay0 = true ∧ d.depth ≤ dep ∧ wtD d ≤ wt
def OkDs (xs : List PV) (dep wt : Nat) : Prop := ∃ ds, PV.toDs xs = some ds ∧ PyData.showableAll ds = true ∧ PyData.canLayAll0 ds = true ∧ PyData.depthAll ds ≤ dep ∧ wtDs ds ≤ xs.length * (wt + 2)
theorem OkD.mono {v : PV} {a b c d : Nat} (h : OkD v a b) (h1 : a ≤ c) (h2 : b ≤ d) : OkD v c d := by
  obtain ⟨x, p, q, r, s, t⟩ := h
  exact ⟨x, p, q, r, by omega, by omega⟩
theorem okd_int {i : Int} (h : i.natAbs.log2 < 1920) : OkD (.int i) 0 600 := ⟨.int i, rfl, decide_eq_true h, rfl, Nat.le_refl _, Nat.le_refl _⟩
theorem okd_non : OkD .non 0 600 := ⟨.none, rfl, rfl, rfl, Nat.le_refl _, by decide⟩
theorem okd_bl {b : Bool} : OkD (.bl b) 0 600 := ⟨.bool b, rfl, rfl, rfl, Nat.le_refl _, by show 5 ≤ 600; decide⟩
theorem okds_of {dep wt : Nat} : ∀ {xs : List PV}, (∀ x ∈ xs, OkD x dep wt) → OkDs xs dep wt
  | [], _ => ⟨[], rfl, rfl, rfl, Nat.zero_le _, Nat.zero_le _⟩
  | x :: xs, h => by
    obtain ⟨d, p1, p2, p3, p4, p5⟩ := h x List.mem_cons_self
    obtain ⟨ds, q1, q2, q3, q4, q5⟩ := okds_of fun y hy => h y (List.mem_cons_of_mem _ hy)
    refine ⟨d :: ds, ?_, ?_, ?_, ?_, ?_⟩
    · unfold PV.toDs; rw [p1, q1]
    · show (d.showable && PyData.showableAll ds) = true; rw [p2, q2]; rfl
    · show (d.canLay0 && PyData.canLayAll0 ds) = true; rw [p3, q3]; rfl
    · show max d.depth (PyData.depthAll ds) ≤ dep; exact Nat.max_le.mpr ⟨p4, q4⟩
    · show wtD d + 2 + wtDs ds ≤ _
      rw [List.length_cons, Nat.add_mul, Nat.one_mul]; omega
theorem okd_tup {xs : List PV} {dep wt : Nat} (h : ∀ x ∈ xs, OkD x dep wt) : OkD (.tup xs) (dep + 1) (3 + xs.length * (wt + 2)) := by
  obtain ⟨ds, q1, q2, q3, q4, q5⟩ := okds_of h
  refine ⟨.tuple ds, by unfold PV.toD; rw [q1]; rfl, q2, q3, Nat.succ_le_succ q4, ?_⟩
  show 3 + wtDs ds ≤ _
  omega
theorem okd_lst {xs : List PV} {dep wt : Nat} (h : ∀ x ∈ xs, OkD x dep wt) : OkD (.lst xs) (dep + 1) (3 + xs.length * (wt + 2)) := by
  obtain ⟨ds, q1, q2, q3, q4, q5⟩ := okds_of h
  refine ⟨.list ds, by unfold PV.toD; rw [q1]; rfl, q2, q3, Nat.succ_le_succ q4, ?_⟩
  show 3 + wtDs ds ≤ _
  omega
def rpr (v : PV) : Str := match v.toD with
  | some d => d.shown
  | none => ⟨#[]⟩
theorem repr_ok {v : PV} {dep wt : Nat} (h : OkD v dep wt) (h1 : dep ≤ 64) (h2 : wt ≤ LINE) : bifV .repr [v] = some (.str (rpr v), .frz) := by
  obtain ⟨d, p1, p2, p3, p4, p5⟩ := h
  show (match v.toD with
    | some d => if d.showable = true ∧ PySem.SeqAt.shaped d = true ∧ wtD d ≤ LINE then some (PV.str d.shown, Fl.frz) else none
    | none => none) = _
  unfold rpr
  rw [p1]
  dsimp only
  have hs : PySem.SeqAt.shaped d = true := by
    unfold PySem.SeqAt.shaped
    rw [p3, Bool.true_and]
    exact decide_eq_true (by omega)
  rw [if_pos ⟨p2, hs, by omega⟩]
/-- in a comprehension: one turn -/
@[simp] theorem lcGo_nil (f : PV → Store → R (Option PV)) (acc : List PV) (S : Store) : lcGo f acc [] S = .ok acc S := rfl
theorem lcGo_cons (f : PV → Store → R (Option PV)) (acc : List PV) (x : PV) (xs : List PV) (S : Store) : lcGo f acc (x :: xs) S = (f x S).nox.bind fun o S' => match o with
    | none => lcGo f acc xs S'
    | some y => lcGo f (acc ++ [y]) xs S' := rfl
/-- each turn gives a value -/
theorem lcGo_map {f : PV → Store → R (Option PV)} {S : Store} (g : PV → PV) : ∀ {xs acc : List PV}, (∀ x ∈ xs, f x S = .ok (some (g x)) S) → lcGo f acc xs S = .ok (acc ++ xs.map g) S
  | [], acc, _ => by rw [lcGo_nil]; simp
  | x :: xs, acc, h => by
    rw [lcGo_cons, h x List.mem_cons_self]
    simp only [R.nox_ok, R.bind_ok]
    rw [lcGo_map g fun y hy => h y (List.mem_cons_of_mem _ hy)]
    simp
/-- .. of a changing store -/
theorem lcGo_inv {f : PV → Store → R (Option PV)} (P : Store → Prop) (V : PV → Prop) : ∀ {xs acc : List PV} {S : Store}, P S → (∀ y ∈ acc, V y) → (∀ x ∈ xs, ∀ S, P S → ∃ y S', f x S = .ok (some y) S' ∧ V y ∧ P S') →
    ∃ ys S', lcGo f acc xs S = .ok ys S' ∧ P S' ∧ (∀ y ∈ ys, V y) ∧ ys.length = acc.length + xs.length
  | [], acc, S, hP, hA, _ => ⟨acc, S, rfl, hP, hA, rfl⟩
  | x :: xs, acc, S, hP, hA, h => by
    obtain ⟨y, S', h1, h2, h3⟩ := h x List.mem_cons_self S hP
    obtain ⟨ys, S2, k1, k2, k3, k4⟩ := lcGo_inv P V (acc := acc ++ [y]) h3 (fun z hz => by
      rcases List.mem_append.mp hz with hz | hz
      · exact hA z hz
      · rw [List.mem_singleton.mp hz]; exact h2) fun z hz => h z (List.mem_cons_of_mem _ hz)
    refine ⟨ys, S2, ?_, k2, k3, ?_⟩
    · rw [lcGo_cons, h1]; exact k1
    · rw [k4, List.length_append, List.length_cons, List.length_cons, List.length_nil]; omega
/-- a for over items, by an invariant -/
theorem forL_inv {t : T} {b : Env → Store → X} (P : Env → Store → Prop) : ∀ {xs : List PV} {σ : Env} {S : Store}, P σ S → (∀ x ∈ xs, ∀ σ S, P σ S → ∃ σ1, asgT t x σ = some σ1 ∧ ∃ σ2 S2, b σ1 S = .nx σ2 S2 ∧ P σ2 S2) →
    ∃ σ' S', forL t b xs σ S = .nx σ' S' ∧ P σ' S'
  | [], σ, S, hP, _ => ⟨σ, S, rfl, hP⟩
  | x :: xs, σ, S, hP, h => by
    obtain ⟨σ1, h1, σ2, S2, h2, h3⟩ := h x List.mem_cons_self σ S hP
    obtain ⟨σ', S', k1, k2⟩ := forL_inv P (xs := xs) h3 fun y hy => h y (List.mem_cons_of_mem _ hy)
    refine ⟨σ', S', ?_, k2⟩
    unfold forL
    rw [h1]
    dsimp only
    rw [h2, X.andThen_nx]
    exact k1
@[simp] theorem dat_non : isDatum .non = true := rfl
@[simp] theorem ty_int_non : isTy .int .non = false := rfl
@[simp] theorem ty_bool_non : isTy .bool .non = false := rfl
@[simp] theorem ty_str_non : isTy .str .non = false := rfl
@[simp] theorem ty_tuple_non : isTy .tuple .non = false := rfl
@[simp] theorem ty_list_non : isTy .list .non = false := rfl
@[simp] theorem ty_dict_non : isTy .dict .non = false := rfl
@[simp] theorem dat_bl (b : Bool) : isDatum (.bl b) = true := rfl
@[simp] theorem ty_int_bl (b : Bool) : isTy .int (.bl b) = true := rfl
@[simp] theorem ty_bool_bl (b : Bool) : isTy .bool (.bl b) = true := rfl
@[simp] theorem ty_str_bl (b : Bool) : isTy .str (.bl b) = false := rfl
@[simp] theorem ty_tuple_bl (b : Bool) : isTy .tuple (.bl b) = false := rfl
@[simp] theorem ty_list_bl (b : Bool) : isTy .list (.bl b) = false := rfl
@[simp] theorem ty_dict_bl (b : Bool) : isTy .dict (.bl b) = false := rfl
@[simp] theorem dat_int (i : Int) : isDatum (.int i) = true := rfl
@[simp] theorem ty_int_int (i : Int) : isTy .int (.int i) = true := rfl
@[simp] theorem ty_bool_int (i : Int) : isTy .bool (.int i) = false := rfl
@[simp] theorem ty_str_int (i : Int) : isTy .str (.int i) = false := rfl
@[simp] theorem ty_tuple_int (i : Int) : isTy .tuple (.int i) = false := rfl
@[simp] theorem ty_list_int (i : Int) : isTy .list (.int i) = false := rfl
@[simp] theorem ty_dict_int (i : Int) : isTy .dict (.int i) = false := rfl
@[simp] theorem dat_str (x : Str) : isDatum (.str x) = true := rfl
@[simp] theorem ty_int_str (x : Str) : isTy .int (.str x) = false := rfl
@[simp] theorem ty_bool_str (x : Str) : isTy .bool (.str x) = false := rfl
@[simp] theorem ty_str_str (x : Str) : isTy .str (.str x) = true := rfl
@[simp] theorem ty_tuple_str (x : Str) : isTy .tuple (.str x) = false := rfl
@[simp] theorem ty_list_str (x : Str) : isTy .list (.str x) = false := rfl
@[simp] theorem ty_dict_str (x : Str) : isTy .dict (.str x) = false := rfl
@[simp] theorem dat_tup (xs : List PV) : isDatum (.tup xs) = true := rfl
@[simp] theorem ty_int_tup (xs : List PV) : isTy .int (.tup xs) = false := rfl
@[simp] theorem ty_bool_tup (xs : List PV) : isTy .bool (.tup xs) = false := rfl
@[simp] theorem ty_str_tup (xs : List PV) : isTy .str (.tup xs) = false := rfl
@[simp] theorem ty_tuple_tup (xs : List PV) : isTy .tuple (.tup xs) = true := rfl
@[simp] theorem ty_list_tup (xs : List PV) : isTy .list (.tup xs) = false := rfl
@[simp] theorem ty_dict_tup (xs : List PV) : isTy .dict (.tup xs) = false := rfl
@[simp] theorem dat_lst (xs : List PV) : isDatum (.lst xs) = true := rfl
@[simp] theorem ty_int_lst (xs : List PV) : isTy .int (.lst xs) = false := rfl
@[simp] theorem ty_bool_lst (xs : List PV) : isTy .bool (.lst xs) = false := rfl
@[simp] theorem ty_str_lst (xs : List PV) : isTy .str (.lst xs) = false := rfl
@[simp] theorem ty_tuple_lst (xs : List PV) : isTy .tuple (.lst xs) = false := rfl
@[simp] theorem ty_list_lst (xs : List PV) : isTy .list (.lst xs) = true := rfl
@[simp] theorem ty_dict_lst (xs : List PV) : isTy .dict (.lst xs) = false := rfl
@[simp] theorem dat_dic (kvs : List (PV × PV)) : isDatum (.dic kvs) = true := rfl
@[simp] theorem ty_int_dic (kvs : List (PV × PV)) : isTy .int (.dic kvs) = false := rfl
@[simp] theorem ty_bool_dic (kvs : List (PV × PV)) : isTy .bool (.dic kvs) = false := rfl
@[simp] theorem ty_str_dic (kvs : List (PV × PV)) : isTy .str (.dic kvs) = false := rfl
@[simp] theorem ty_tuple_dic (kvs : List (PV × PV)) : isTy .tuple (.dic kvs) = false := rfl
@[simp] theorem ty_list_dic (kvs : List (PV × PV)) : isTy .list (.dic kvs) = false := rfl
@[simp] theorem ty_dict_dic (kvs : List (PV × PV)) : isTy .dict (.dic kvs) = true := rfl
@[simp] theorem it_lst (xs : List PV) : itemsV .plain [.lst xs] = some xs := rfl
@[simp] theorem it_tup (xs : List PV) : itemsV .plain [.tup xs] = some xs := rfl
@[simp] theorem it_rol (xs : List PV) : itemsV .plain [.rol xs] = some xs := rfl
@[simp] theorem it_str (x : Str) : itemsV .plain [.str x] = some (x.cps.toList.map fun c => .str ⟨#[c]⟩) := rfl
theorem it_range1 {j : Int} (h : j < 2 ^ 62) (h2 : -(2 ^ 62) ≤ j) : itemsV .range1 [.int j] = some (rangeL 0 j) := by
  show (if j < 2 ^ 62 ∧ -(2 ^ 62) ≤ j then some (rangeL 0 j) else none) = _
  rw [if_pos ⟨h, h2⟩]
theorem it_range2 {i j : Int} (h : j < 2 ^ 62 ∧ -(2 ^ 62) ≤ j ∧ i < 2 ^ 62 ∧ -(2 ^ 62) ≤ i) : itemsV .range2 [.int i, .int j] = some (rangeL i j) := by
  show (if j < 2 ^ 62 ∧ -(2 ^ 62) ≤ j ∧ i < 2 ^ 62 ∧ -(2 ^ 62) ≤ i then some (rangeL i j) else none) = _
  rw [if_pos h]
@[simp] theorem ix_tup (S : Store) (xs : List PV) (i : Int) : idxS S (.tup xs) (.int i) = atI xs i := rfl
@[simp] theorem ix_lst (S : Store) (xs : List PV) (i : Int) : idxS S (.lst xs) (.int i) = atI xs i := rfl
@[simp] theorem ix_rol (S : Store) (xs : List PV) (i : Int) : idxS S (.rol xs) (.int i) = atI xs i := rfl
theorem ix_obj {S : Store} {n : Nat} {xs : List PV} (h : S[n]? = some (.lst xs)) (i : Int) : idxS S (.obj n) (.int i) = atI xs i := by
  show (match S[n]?, (PV.int i) with
    | some (.lst xs), .int i => atI xs i
    | _, _ => none) = _
  rw [h]
theorem rangeL_mem {lo hi : Int} {x : PV} (h : x ∈ rangeL lo hi) : ∃ i : Int, x = .int i ∧ lo ≤ i ∧ i < hi := by
  unfold rangeL at h
  obtain ⟨k, hk, rfl⟩ := List.mem_map.mp h
  rw [List.mem_range] at hk
  exact ⟨_, rfl, by omega, by omega⟩
theorem rangeL_len (lo hi : Int) : (rangeL lo hi).length = (hi - lo).toNat := by unfold rangeL; rw [List.length_map, List.length_range]
theorem run1 {cal : Calls} {s : S} {ss : List S} {σ : Env} {st : Store} (σ' : Env) (st' : Store) (h : execS cal s σ st = .nx σ' st') : execs cal (s :: ss) σ st = execs cal ss σ' st' := by
  show (execS cal s σ st).andThen _ = _
  rw [h]; rfl
theorem runF {cal : Calls} {s : S} {σ : Env} {st : Store} {x : X} (h : execS cal s σ st = x) : execs cal [s] σ st = x.andThen fun σ st => .nx σ st := by
  show (execS cal s σ st).andThen _ = _
  rw [h]; rfl
theorem runR {cal : Calls} {s : S} {ss : List S} {σ : Env} {st : Store} (a : Arg) (st' : Store) (h : execS cal s σ st = .rt a st') : execs cal (s :: ss) σ st = .rt a st' := by
  show (execS cal s σ st).andThen _ = _
  rw [h]; rfl
theorem call_run {P : Prog} {k f : Nat} {d : Def} {as : List Arg} {st : Store} (h : P f = some d) (h2 : as.length = d.np) : callF P (k + 1) f as st = (execs (callF P k) d.body (as.map some ++ List.replicate (d.ns - d.np) none) st).fin := by
  show (match P f with
    | some d => if as.length = d.np then (execs (callF P k) d.body (as.map some ++ List.replicate (d.ns - d.np) none) st).fin else .bad
    | none => .bad) = _
  rw [h]
  dsimp only
  rw [if_pos h2]
theorem call_rt {P : Prog} {k f : Nat} {d : Def} {as : List Arg} {st st' : Store} {a : Arg} (h : P f = some d) (h2 : as.length = d.np) (h3 : execs (callF P k) d.body (as.map some ++ List.replicate (d.ns - d.np) none) st = .rt a st') : callF P (k + 1) f as st = .ok a st' := by
  rw [call_run h h2, h3]; rfl
theorem fr_eq {cal : Calls} {t : T} {kd : IK} {es : List E} {b : List S} {σ : Env} {st st' : Store} {xs : List PV} (h : itOf kd (evalEs cal es σ st) = .ok xs st') : execS cal (.fr t kd es b) σ st = forL t (fun σ st => execs cal b σ st) xs σ st' := by
  show (itOf kd (evalEs cal es σ st)).thenX _ = _
  rw [h]; rfl
/-- a comprehension's turn -/
def lcF (cal : Calls) (t : T) (own : List Nat) (cs : List E) (e : E) (σ : Env) : PV → Store → R (Option PV) := fun x S2 => match asgT t x (wipeE σ own) with
  | some σ2 => (evalCs cal cs σ2 S2).bind fun b S3 => if b = true then (evalE cal e σ2 S3).bind fun y S4 => match leak1 y with
      | some v => .ok (some v) S4
      | none => .bad
    else .ok none S3
  | none => .bad
theorem lcF_ok {cal : Calls} {t : T} {own : List Nat} {e : E} {σ σ2 : Env} {x v : PV} {fl : Fl} {S S' : Store} (h1 : asgT t x (wipeE σ own) = some σ2) (h2 : evalE cal e σ2 S = .ok (v, fl) S') (h3 : fl ≠ .bor) : lcF cal t own [] e σ x S = .ok (some v) S' := by
  unfold lcF
  rw [h1]
  simp only [evalCs, R.bind_ok, if_true, h2]
  cases fl <;> first | rfl | exact absurd rfl h3
theorem lc_eq {cal : Calls} {t : T} {own : List Nat} {k : IK} {es cs : List E} {e : E} {σ : Env} {S S1 S5 : Store} {xs ys : List PV} (h1 : itOf k (evalEs cal es σ S) = .ok xs S1) (h2 : xs.length ≤ LINE) (h3 : lcGo (lcF cal t own cs e σ) [] xs S1 = .ok ys S5) :
    evalE cal (.lc t own k es cs e) σ S = .ok (.lst ys, .own) S5 := by
  show (itOf k (evalEs cal es σ S)).bind _ = _
  rw [h1, R.bind_ok]
  show (if xs.length ≤ LINE then (lcGo (lcF cal t own cs e σ) [] xs S1).bind _ else _) = _
  rw [if_pos h2, h3]
  rfl
theorem ev_and_t {cal : Calls} {a b : E} {σ : Env} {S S1 : Store} {fl : Fl} (h : evalE cal a σ S = .ok (.bl true, fl) S1) : evalE cal (.and a b) σ S = evalE cal b σ S1 := by
  show (evalE cal a σ S).bind _ = _
  rw [h]; rfl
theorem ev_and_f {cal : Calls} {a b : E} {σ : Env} {S S1 : Store} {fl : Fl} (h : evalE cal a σ S = .ok (.bl false, fl) S1) : evalE cal (.and a b) σ S = .ok (.bl false, .frz) S1 := by
  show (evalE cal a σ S).bind _ = _
  rw [h]; rfl
theorem ev_or_f {cal : Calls} {a b : E} {σ : Env} {S S1 : Store} {fl : Fl} (h : evalE cal a σ S = .ok (.bl false, fl) S1) : evalE cal (.or a b) σ S = evalE cal b σ S1 := by
  show (evalE cal a σ S).bind _ = _
  rw [h]; rfl
theorem ev_or_t {cal : Calls} {a b : E} {σ : Env} {S S1 : Store} {fl : Fl} (h : evalE cal a σ S = .ok (.bl true, fl) S1) : evalE cal (.or a b) σ S = .ok (.bl true, .frz) S1 := by
  show (evalE cal a σ S).bind _ = _
  rw [h]; rfl
theorem ev_not {cal : Calls} {a : E} {σ : Env} {S S1 : Store} {fl : Fl} {b : Bool} (h : evalE cal a σ S = .ok (.bl b, fl) S1) : evalE cal (.not a) σ S = .ok (.bl (!b), .frz) S1 := by
  show (evalE cal a σ S).bind _ = _
  rw [h]; rfl
theorem ev_bif {cal : Calls} {b : BI} {es : List E} {σ : Env} {S S1 : Store} {as : List Arg} {r : Arg} (h : evalEs cal es σ S = .ok as S1) (h2 : bifV b (as.map (·.1)) = some r) : evalE cal (.bif b es) σ S = .ok r S1 := by
  show (evalEs cal es σ S).bind _ = _
  rw [h, R.bind_ok, h2]; rfl
theorem ev_mth {cal : Calls} {m : ME} {a : E} {es : List E} {σ : Env} {S S1 S2 : Store} {x : Arg} {as : List Arg} {r : Arg} (h0 : evalE cal a σ S = .ok x S1) (ho : okRecv m x.1 = true) (h : evalEs cal es σ S1 = .ok as S2) (h2 : methV m x.1 (as.map (·.1)) = some r) : evalE cal (.mth m a es) σ S = .ok r S2 := by
  show (evalE cal a σ S).bind _ = _
  rw [h0, R.bind_ok, if_pos ho, h, R.bind_ok, h2]; rfl
theorem evs_one {cal : Calls} {e : E} {σ : Env} {S S1 : Store} {a : Arg} (h : evalE cal e σ S = .ok a S1) : evalEs cal [e] σ S = .ok [a] S1 := by
  show (evalE cal e σ S).bind _ = _
  rw [h]; rfl
theorem evs_cons {cal : Calls} {e : E} {es : List E} {σ : Env} {S S1 S2 : Store} {a : Arg} {as : List Arg} (h : evalE cal e σ S = .ok a S1) (h2 : evalEs cal es σ S1 = .ok as S2) : evalEs cal (e :: es) σ S = .ok (a :: as) S2 := by
  show (evalE cal e σ S).bind _ = _
  rw [h, R.bind_ok, h2]; rfl
theorem eva_cons {cal : Calls} {e : E} {es : List E} {σ : Env} {S S1 S2 : Store} {a : Arg} {as : List Arg} (h : evalE cal e σ S = .ok a S1) (h2 : evalAs cal es σ S1 = .ok as S2) : evalAs cal (e :: es) σ S = .ok (handOn a :: as) S2 := by
  show (evalE cal e σ S).bind _ = _
  rw [h, R.bind_ok, h2]; rfl
theorem ev_cal {cal : Calls} {f : Nat} {es : List E} {perm : List Nat} {σ : Env} {S S1 : Store} {as bs : List Arg} (h : evalAs cal es σ S = .ok as S1) (h2 : pick as perm = some bs) : evalE cal (.cal f es perm) σ S = cal f bs S1 := by
  show (evalAs cal es σ S).bind _ = _
  rw [h, R.bind_ok, h2]
theorem all_true : ∀ {xs : List PV}, (∀ x ∈ xs, x = .bl true) → bifV .all [.lst xs] = some (.bl true, .frz) := by
  intro xs h
  have : ∃ n, blsP xs = some (List.replicate n true) := by
    induction xs with
    | nil => exact ⟨0, rfl⟩
    | cons x xs ih =>
      obtain ⟨n, hn⟩ := ih fun y hy => h y (List.mem_cons_of_mem _ hy)
      cases h x List.mem_cons_self
      exact ⟨n + 1, by unfold blsP; rw [hn]; rfl⟩
  obtain ⟨n, hn⟩ := this
  rw [bif_all, hn]
  simp
theorem ret_run {cal : Calls} {e : E} {ss : List S} {σ : Env} {st st' : Store} {v : PV} {fl : Fl} (h : evalE cal e σ st = .ok (v, fl) st') (hf : fl ≠ .bor) : execs cal (.ret e :: ss) σ st = .rt (v, fl) st' := by
  refine runR _ _ ?_
  show (evalE cal e σ st).thenX _ = _
  rw [h, R.thenX_ok]
  cases fl <;> first | rfl | exact absurd rfl hf
theorem exp_run {cal : Calls} {e : E} {ss : List S} {σ : Env} {st st' : Store} {a : Arg} (h : evalE cal e σ st = .ok a st') : execs cal (.exp e :: ss) σ st = execs cal ss σ st' := by
  refine run1 _ _ ?_
  show (evalE cal e σ st).thenX _ = _
  rw [h]; rfl
theorem asg_run {cal : Calls} {e : E} {i : Nat} {ss : List S} {σ σ' : Env} {st st' : Store} {a : Arg} (h : evalE cal e σ st = .ok a st') (h2 : setS σ i a = some σ') : execs cal (.asg (.nm i) e :: ss) σ st = execs cal ss σ' st' := by
  refine run1 _ _ ?_
  show (evalE cal e σ st).thenX _ = _
  rw [h, R.thenX_ok]
  show (match setS σ i a with | some σ' => X.nx σ' st' | none => X.bad) = _
  rw [h2]
theorem iff_f {cal : Calls} {c : E} {a : List S} {ss : List S} {σ : Env} {st st' : Store} {fl : Fl} (h : evalE cal c σ st = .ok (.bl false, fl) st') : execs cal (.iff c a [] :: ss) σ st = execs cal ss σ st' := by
  refine run1 _ _ ?_
  show (testR (evalE cal c σ st)).thenX _ = _
  rw [h]; rfl
theorem join_chars : ∀ w : List Nat, Str.join ⟨#[]⟩ (w.map fun c => (⟨#[c]⟩ : Str)) = ⟨w.toArray⟩
  | [] => rfl
  | [c] => rfl
  | c :: d :: w => by
    show (⟨#[c]⟩ : Str) ++ ⟨#[]⟩ ++ Str.join ⟨#[]⟩ ((d :: w).map fun c => (⟨#[c]⟩ : Str)) = _
    rw [join_chars (d :: w)]
    show (⟨#[c] ++ #[] ++ (d :: w).toArray⟩ : Str) = _
    simp
theorem joinLen_chars (w : List Nat) : joinLen ⟨#[]⟩ (w.map fun c => (⟨#[c]⟩ : Str)) = w.length := by
  unfold joinLen
  have : ((w.map fun c => (⟨#[c]⟩ : Str)).map (·.length)).sum = w.length := by
    induction w with
    | nil => rfl
    | cons c w ih =>
      rw [List.map_cons, List.map_cons, List.sum_cons, ih, List.length_cons]
      show 1 + w.length = _
      omega
  rw [this]
  show w.length + _ * 0 = _
  simp
end Sq

namespace Pk38
open Sq PySem L2 PyProof.Rows
def topS (i : Nat) : Stmt := PySem.Challenge.pw_squarefloors_k38_whole_matrices.main.body.getD i (.Pass ⟨0, 0, 0, 0⟩)
def kd_MATRICES : List (Str × PV) := [(⟨#[116]⟩, (.tup [(.int 1), (.int 1), (.int 0), (.int 1)])), (⟨#[84]⟩, (.tup [(.int 1), (.int (-1)), (.int 0), (.int 1)])), (⟨#[118]⟩, (.tup [(.int 1), (.int 0), (.int 1), (.int 1)])), (⟨#[86]⟩, (.tup [(.int 1), (.int 0), (.int (-1)), (.int 1)])), (⟨#[106]⟩, (.tup [(.int 0), (.int (-1)), (.int 1), (.int 0)])), (⟨#[74]⟩, (.tup [(.int 0), (.int 1), (.int (-1)), (.int 0)]))]
def kd_TURNED : List (Str × PV) := [(⟨#[116]⟩, (.str ⟨#[84]⟩)), (⟨#[84]⟩, (.str ⟨#[116]⟩)), (⟨#[118]⟩, (.str ⟨#[86]⟩)), (⟨#[86]⟩, (.str ⟨#[118]⟩)), (⟨#[106]⟩, (.str ⟨#[74]⟩)), (⟨#[74]⟩, (.str ⟨#[106]⟩))]
/-- is_integer: 0 value -/
def D_is_integer : Def := ⟨1, 1, [
    .ret (.and (.isi (.bor 0) [.int]) (.not (.isi (.bor 0) [.bool])))]⟩
/-- is_list: 0 value -/
def D_is_list : Def := ⟨1, 1, [
    .ret (.isi (.bor 0) [.list, .tuple])]⟩
/-- is_matrix: 0 value, 1 one -/
def D_is_matrix : Def := ⟨1, 2, [
    .iff (.or (.not (.isi (.bor 0) [.tuple])) (.or (.cmp .ne (.bif .len [.bor 0]) (.cst (.int 4))) (.not (.bif .all [.lc (.nm 1) [1] .plain [.bor 0] [] (.cal 0 [.bor 1] [0])])))) [.ret (.cst (.bl false))] [],
    .ret (.cmp .eq (.bin .sub (.bin .mul (.idx (.bor 0) (.cst (.int 0))) (.idx (.bor 0) (.cst (.int 3)))) (.bin .mul (.idx (.bor 0) (.cst (.int 1))) (.idx (.bor 0) (.cst (.int 2))))) (.cst (.int 1)))]⟩
/-- is_small_matrix: 0 value, 1 one -/
def D_is_small_matrix : Def := ⟨1, 2, [
    .ret (.and (.cal 2 [.bor 0] [0]) (.bif .all [.lc (.nm 1) [1] .plain [.bor 0] [] (.cmp .lt (.bif .abs [.bor 1]) (.cst (.int 1000000000000000000000000000000)))]))]⟩
/-- check_matrix: 0 value -/
def D_check_matrix : Def := ⟨1, 1, [
    .iff (.not (.cal 3 [.bor 0] [0])) [.nev] []]⟩
/-- check_vector: 0 value, 1 one -/
def D_check_vector : Def := ⟨1, 2, [
    .iff (.or (.not (.isi (.bor 0) [.tuple])) (.or (.cmp .ne (.bif .len [.bor 0]) (.cst (.int 2))) (.not (.bif .all [.lc (.nm 1) [1] .plain [.bor 0] [] (.cal 0 [.bor 1] [0])])))) [.nev] []]⟩
/-- product_by: 0 one, 1 late, 2 a, 3 b, 4 c, 5 d, 6 e, 7 f, 8 g, 9 h -/
def D_product_by : Def := ⟨2, 10, [
    .asg (.tp [.nm 2, .nm 3, .nm 4, .nm 5]) (.var 0),
    .asg (.tp [.nm 6, .nm 7, .nm 8, .nm 9]) (.var 1),
    .ret (.tup [.bin .add (.bin .mul (.bor 2) (.bor 6)) (.bin .mul (.bor 3) (.bor 8)), .bin .add (.bin .mul (.bor 2) (.bor 7)) (.bin .mul (.bor 3) (.bor 9)), .bin .add (.bin .mul (.bor 4) (.bor 6)) (.bin .mul (.bor 5) (.bor 8)), .bin .add (.bin .mul (.bor 4) (.bor 7)) (.bin .mul (.bor 5) (.bor 9))])]⟩
/-- inverse_by: 0 matrix, 1 a, 2 b, 3 c, 4 d -/
def D_inverse_by : Def := ⟨1, 5, [
    .asg (.tp [.nm 1, .nm 2, .nm 3, .nm 4]) (.var 0),
    .ret (.tup [.var 4, .neg (.bor 2), .neg (.bor 3), .var 1])]⟩
/-- led_by_matrix: 0 matrix, 1 vector, 2 a, 3 b, 4 c, 5 d -/
def D_led_by_matrix : Def := ⟨2, 6, [
    .asg (.tp [.nm 2, .nm 3, .nm 4, .nm 5]) (.var 0),
    .ret (.tup [.bin .add (.bin .mul (.bor 2) (.idx (.bor 1) (.cst (.int 0)))) (.bin .mul (.bor 3) (.idx (.bor 1) (.cst (.int 1)))), .bin .add (.bin .mul (.bor 4) (.idx (.bor 1) (.cst (.int 0)))) (.bin .mul (.bor 5) (.idx (.bor 1) (.cst (.int 1))))])]⟩
/-- product: 0 matrix, 1 other_matrix -/
def D_product : Def := ⟨2, 2, [
    .exp (.cal 4 [.bor 0] [0]),
    .exp (.cal 4 [.bor 1] [0]),
    .ret (.cal 6 [.bor 0, .bor 1] [0, 1])]⟩
/-- inverse: 0 matrix -/
def D_inverse : Def := ⟨1, 1, [
    .exp (.cal 4 [.bor 0] [0]),
    .ret (.cal 7 [.bor 0] [0])]⟩
/-- product_of: 0 matrices, 1 one, 2 found -/
def D_product_of : Def := ⟨1, 3, [
    .iff (.or (.not (.cal 1 [.bor 0] [0])) (.or (.cmp .gt (.bif .len [.bor 0]) (.cst (.int 40))) (.not (.bif .all [.lc (.nm 1) [1] .plain [.bor 0] [] (.cal 3 [.bor 1] [0])])))) [.nev] [],
    .asg (.nm 2) (.cst (.tup [(.int 1), (.int 0), (.int 0), (.int 1)])),
    .fr (.nm 1) .plain [.bor 0] [.asg (.nm 2) (.cal 6 [.bor 2, .bor 1] [0, 1])],
    .retm 2]⟩
/-- led: 0 matrix, 1 vector -/
def D_led : Def := ⟨2, 2, [
    .exp (.cal 4 [.bor 0] [0]),
    .exp (.cal 5 [.bor 1] [0]),
    .ret (.cal 8 [.bor 0, .bor 1] [0, 1])]⟩
/-- order: 0 matrix, 1 found, 2 many -/
def D_order : Def := ⟨1, 3, [
    .exp (.cal 4 [.bor 0] [0]),
    .asg (.nm 1) (.var 0),
    .fr (.nm 2) .range2 [.cst (.int 1), .bin .add (.cst (.int 6)) (.cst (.int 1))] [.iff (.cmp .eq (.bor 1) (.cst (.tup [(.int 1), (.int 0), (.int 0), (.int 1)]))) [.retm 2] [], .asg (.nm 1) (.cal 6 [.bor 0, .bor 1] [0, 1])],
    .ret (.cst .non)]⟩
/-- is_moves_of: 0 value, 1 letter -/
def D_is_moves_of : Def := ⟨1, 2, [
    .ret (.and (.isi (.bor 0) [.str]) (.and (.cmp .le (.bif .len [.bor 0]) (.cst (.int 400))) (.bif .all [.lc (.nm 1) [1] .plain [.bor 0] [] (.kin kd_MATRICES (.bor 1))])))]⟩
/-- check_moves: 0 value -/
def D_check_moves : Def := ⟨1, 1, [
    .iff (.not (.cal 14 [.bor 0] [0])) [.nev] []]⟩
/-- matrix_by: 0 moves, 1 found, 2 letter -/
def D_matrix_by : Def := ⟨1, 3, [
    .asg (.nm 1) (.cst (.tup [(.int 1), (.int 0), (.int 0), (.int 1)])),
    .fr (.nm 2) .plain [.bor 0] [.asg (.nm 1) (.cal 6 [.kix kd_MATRICES (.bor 2), .bor 1] [0, 1])],
    .retm 1]⟩
/-- turned_moves_by: 0 moves, 1 letter -/
def D_turned_moves_by : Def := ⟨1, 2, [
    .ret (.mth .join (.cst (.str ⟨#[]⟩)) [.lc (.nm 1) [1] .plain [.rev (.bor 0)] [] (.kix kd_TURNED (.bor 1))])]⟩
/-- matrix_of: 0 moves -/
def D_matrix_of : Def := ⟨1, 1, [
    .exp (.cal 15 [.bor 0] [0]),
    .ret (.cal 16 [.bor 0] [0])]⟩
/-- turned_moves: 0 moves -/
def D_turned_moves : Def := ⟨1, 1, [
    .exp (.cal 15 [.bor 0] [0]),
    .ret (.cal 17 [.bor 0] [0])]⟩
/-- _law_pot: 0 script, 1 k, 2 cell -/
def D__law_pot : Def := ⟨2, 3, [
    .asg (.nm 2) (.ite (.cmp .lt (.bor 1) (.bif .len [.bor 0])) (.bif .abs [.idx (.bor 0) (.bor 1)]) (.bin .add (.bin .mul (.cst (.int 3842)) (.bor 1)) (.cst (.int 3609)))),
    .ret (.obj [.bif .max2 [.cst (.int 0), .bin .sub (.bor 2) (.bin .pow (.cst (.int 10)) (.cst (.int 18)))], .bin .add (.bin .mod (.bif .int [.bin .add (.bin .add (.bin .mul (.bin .mod (.bif .int [.bor 2]) (.cst (.int 2147483549))) (.cst (.int 40014))) (.bin .mul (.cst (.int 3609)) (.bor 1))) (.cst (.int 99))]) (.cst (.int 2147483563))) (.cst (.int 1))])]⟩
/-- _law_draw: 0 pot, 1 many, 2 digit -/
def D__law_draw : Def := ⟨2, 3, [
    .iff (.cmp .gt (.idx (.bor 0) (.cst (.int 0))) (.cst (.int 0))) [.asg (.tp [.ix 0 (.cst (.int 0)), .nm 2]) (.bif .divmod [.idx (.bor 0) (.cst (.int 0)), .bor 1]), .retm 2] [],
    .asg (.ix 0 (.cst (.int 1))) (.bin .mod (.bif .int [.bin .add (.bin .mul (.idx (.bor 0) (.cst (.int 1))) (.cst (.int 40692))) (.cst (.int 11649))]) (.cst (.int 2147483563))),
    .ret (.bin .mod (.bif .int [.bin .fdv (.bin .mod (.bif .int [.bin .mul (.idx (.bor 0) (.cst (.int 1))) (.idx (.bor 0) (.cst (.int 1)))]) (.cst (.int 2147483549))) (.cst (.int 19))]) (.bor 1))]⟩
/-- _law_pick: 0 pot, 1 some -/
def D__law_pick : Def := ⟨2, 2, [
    .ret (.idx (.bor 1) (.cal 21 [.bor 0, .bif .len [.bor 1]] [0, 1]))]⟩
/-- _law_matrix: 0 moves, 1 a, 2 b, 3 c, 4 d, 5 letter, 6 p, 7 q, 8 r, 9 s -/
def D__law_matrix : Def := ⟨1, 10, [
    .asg (.tp [.nm 1, .nm 2, .nm 3, .nm 4]) (.tup [.cst (.int 1), .cst (.int 0), .cst (.int 0), .cst (.int 1)]),
    .fr (.nm 5) .plain [.bor 0] [.asg (.tp [.nm 6, .nm 7, .nm 8, .nm 9]) (.dix [⟨#[116]⟩, ⟨#[84]⟩, ⟨#[118]⟩, ⟨#[86]⟩, ⟨#[106]⟩, ⟨#[74]⟩] [.tup [.cst (.int 1), .cst (.int 1), .cst (.int 0), .cst (.int 1)], .tup [.cst (.int 1), .neg (.cst (.int 1)), .cst (.int 0), .cst (.int 1)], .tup [.cst (.int 1), .cst (.int 0), .cst (.int 1), .cst (.int 1)], .tup [.cst (.int 1), .cst (.int 0), .neg (.cst (.int 1)), .cst (.int 1)], .tup [.cst (.int 0), .neg (.cst (.int 1)), .cst (.int 1), .cst (.int 0)], .tup [.cst (.int 0), .cst (.int 1), .neg (.cst (.int 1)), .cst (.int 0)]] (.bor 5)), .asg (.tp [.nm 1, .nm 2, .nm 3, .nm 4]) (.tup [.bin .add (.bin .mul (.bor 6) (.bor 1)) (.bin .mul (.bor 7) (.bor 3)), .bin .add (.bin .mul (.bor 6) (.bor 2)) (.bin .mul (.bor 7) (.bor 4)), .bin .add (.bin .mul (.bor 8) (.bor 1)) (.bin .mul (.bor 9) (.bor 3)), .bin .add (.bin .mul (.bor 8) (.bor 2)) (.bin .mul (.bor 9) (.bor 4))])],
    .ret (.tup [.var 1, .var 2, .var 3, .var 4])]⟩
/-- _law_product: 0 one, 1 late, 2 a, 3 b, 4 c, 5 d, 6 e, 7 f, 8 g, 9 h -/
def D__law_product : Def := ⟨2, 10, [
    .asg (.tp [.nm 2, .nm 3, .nm 4, .nm 5]) (.var 0),
    .asg (.tp [.nm 6, .nm 7, .nm 8, .nm 9]) (.var 1),
    .ret (.tup [.bin .add (.bin .mul (.bor 2) (.bor 6)) (.bin .mul (.bor 3) (.bor 8)), .bin .add (.bin .mul (.bor 2) (.bor 7)) (.bin .mul (.bor 3) (.bor 9)), .bin .add (.bin .mul (.bor 4) (.bor 6)) (.bin .mul (.bor 5) (.bor 8)), .bin .add (.bin .mul (.bor 4) (.bor 7)) (.bin .mul (.bor 5) (.bor 9))])]⟩
/-- _law_order: 0 matrix, 1 here, 2 many -/
def D__law_order : Def := ⟨1, 3, [
    .asg (.nm 1) (.var 0),
    .fr (.nm 2) .range2 [.cst (.int 1), .cst (.int 7)] [.iff (.cmp .eq (.bor 1) (.tup [.cst (.int 1), .cst (.int 0), .cst (.int 0), .cst (.int 1)])) [.retm 2] [], .asg (.nm 1) (.cal 24 [.bor 0, .bor 1] [0, 1])],
    .ret (.cst .non)]⟩
/-- _law_word: 0 pot, 1 most, 2 turn -/
def D__law_word : Def := ⟨2, 3, [
    .ret (.mth .join (.cst (.str ⟨#[]⟩)) [.lc (.nm 2) [2] .range1 [.cal 21 [.bor 0, .bin .add (.bor 1) (.cst (.int 1))] [0, 1]] [] (.cal 22 [.bor 0, .lst [.cst (.str ⟨#[116]⟩), .cst (.str ⟨#[84]⟩), .cst (.str ⟨#[118]⟩), .cst (.str ⟨#[86]⟩), .cst (.str ⟨#[106]⟩), .cst (.str ⟨#[74]⟩)]] [0, 1])])]⟩
/-- _law_right: 0 pot, 1 turn, 2 near, 3 far, 4 one, 5 late, 6 back, 7 told, 8 vector, 9 due, 10 some, 11 shown, 12 matrix, 13 bare, 14 carried -/
def D__law_right : Def := ⟨1, 15, [
    .fr (.nm 1) .range1 [.cst (.int 4)] [.par [2, 3] [.cal 26 [.bor 0, .cst (.int 30)] [0, 1], .cal 26 [.bor 0, .cst (.int 30)] [0, 1]], .par [4, 5] [.cal 23 [.bor 2] [0], .cal 23 [.bor 3] [0]], .asg (.nm 6) (.tup [.idx (.bor 4) (.cst (.int 3)), .bin .sub (.cst (.int 0)) (.idx (.bor 4) (.cst (.int 1))), .bin .sub (.cst (.int 0)) (.idx (.bor 4) (.cst (.int 2))), .idx (.bor 4) (.cst (.int 0))]), .asg (.nm 7) (.lst [.cal 18 [.bor 2] [0], .cal 18 [.bor 2] [0], .cal 9 [.bor 4, .bor 5] [0, 1], .cal 9 [.bor 5, .bor 4] [1, 0], .cal 10 [.bor 4] [0], .cal 10 [.bor 4] [0]]), .frz [7], .iff (.or (.cmp .ne (.bif .repr [.bor 7]) (.bif .repr [.lst [.var 4, .var 4, .cal 24 [.bor 4, .bor 5] [0, 1], .cal 24 [.bor 4, .bor 5] [0, 1], .var 6, .var 6]])) (.cmp .ne (.cal 9 [.bor 4, .cal 10 [.bor 4] [0]] [0, 1]) (.tup [.cst (.int 1), .cst (.int 0), .cst (.int 0), .cst (.int 1)]))) [.ret (.cst (.bl false))] [], .iff (.or (.cmp .ne (.cal 18 [.bin .add (.bor 2) (.bor 3)] [0]) (.cal 9 [.bor 5, .bor 4] [0, 1])) (.or (.cmp .ne (.cal 18 [.cal 19 [.bor 2] [0]] [0]) (.bor 6)) (.not (.cal 2 [.cal 9 [.bor 4, .bor 5] [0, 1]] [0])))) [.ret (.cst (.bl false))] [], .asg (.nm 8) (.tup [.bin .sub (.cal 21 [.bor 0, .cst (.int 41)] [0, 1]) (.cst (.int 20)), .cal 22 [.bor 0, .lst [.cst (.int 0), .cst (.int 1), .neg (.cst (.int 7)), .bin .add (.bin .pow (.cst (.int 10)) (.cst (.int 12))) (.cst (.int 1))]] [0, 1]]), .asg (.nm 9) (.tup [.bin .add (.bin .mul (.idx (.bor 4) (.cst (.int 0))) (.idx (.bor 8) (.cst (.int 0)))) (.bin .mul (.idx (.bor 4) (.cst (.int 1))) (.idx (.bor 8) (.cst (.int 1)))), .bin .add (.bin .mul (.idx (.bor 4) (.cst (.int 2))) (.idx (.bor 8) (.cst (.int 0)))) (.bin .mul (.idx (.bor 4) (.cst (.int 3))) (.idx (.bor 8) (.cst (.int 1))))]), .iff (.or (.cmp .ne (.bif .repr [.lst [.cal 12 [.bor 4, .bor 8] [0, 1], .cal 12 [.bor 8, .bor 4] [1, 0]]]) (.bif .repr [.lst [.var 9, .var 9]])) (.cmp .ne (.cal 12 [.bor 5, .cal 12 [.bor 4, .bor 8] [0, 1]] [0, 1]) (.cal 12 [.cal 9 [.bor 5, .bor 4] [0, 1], .bor 8] [0, 1]))) [.ret (.cst (.bl false))] [], .asg (.nm 10) (.lc (.nm 1) [1] .range1 [.cal 22 [.bor 0, .lst [.cst (.int 0), .cst (.int 1), .cst (.int 2), .cst (.int 5), .cst (.int 40)]] [0, 1]] [] (.cal 23 [.cal 26 [.bor 0, .cst (.int 5)] [0, 1]] [0])), .frz [10], .par [9, 11] [.tup [.cst (.int 1), .cst (.int 0), .cst (.int 0), .cst (.int 1)], .bif .repr [.bor 10]], .fr (.nm 12) .plain [.bor 10] [.asg (.nm 9) (.cal 24 [.bor 9, .bor 12] [0, 1])], .iff (.or (.cmp .ne (.bif .repr [.lst [.cal 11 [.bor 10] [0], .cal 11 [.bif .tuple [.bor 10]] [0]]]) (.bif .repr [.lst [.var 9, .var 9]])) (.cmp .ne (.bif .repr [.bor 10]) (.bor 11))) [.ret (.cst (.bl false))] [], .fr (.nm 13) .plain [.lst [.tup [.cst (.int 1), .cst (.int 0), .cst (.int 0), .cst (.int 1)], .tup [.neg (.cst (.int 1)), .cst (.int 0), .cst (.int 0), .neg (.cst (.int 1))], .tup [.cst (.int 0), .neg (.cst (.int 1)), .cst (.int 1), .cst (.int 0)], .tup [.cst (.int 0), .neg (.cst (.int 1)), .cst (.int 1), .neg (.cst (.int 1))], .tup [.cst (.int 0), .neg (.cst (.int 1)), .cst (.int 1), .cst (.int 1)], .tup [.cst (.int 1), .cst (.int 1), .cst (.int 0), .cst (.int 1)], .tup [.neg (.cst (.int 1)), .cst (.int 3), .cst (.int 0), .neg (.cst (.int 1))]]] [.asg (.nm 14) (.cal 24 [.cal 24 [.bor 4, .bor 13] [0, 1], .bor 6] [0, 1]), .fr (.nm 12) .plain [.tup [.var 13, .var 14, .var 4, .var 5]] [.iff (.cmp .ne (.bif .repr [.lst [.cal 13 [.bor 12] [0], .cal 13 [.bor 12] [0]]]) (.bif .repr [.bin .mul (.lst [.cal 25 [.bor 12] [0]]) (.cst (.int 2))])) [.ret (.cst (.bl false))] []]]],
    .ret (.cst (.bl true))]⟩
/-- law: 0 script, 1 k -/
def D_law : Def := ⟨1, 2, [
    .ret (.bif .all [.lc (.nm 1) [1] .range1 [.bif .max2 [.cst (.int 1), .bif .min2 [.cst (.int 2), .bif .len [.bor 0]]]] [] (.cal 27 [.cal 20 [.bor 0, .bor 1] [0, 1]] [0])])]⟩
def prog : Prog := fun n => [D_is_integer, D_is_list, D_is_matrix, D_is_small_matrix, D_check_matrix, D_check_vector, D_product_by, D_inverse_by, D_led_by_matrix, D_product, D_inverse, D_product_of, D_led, D_order, D_is_moves_of, D_check_moves, D_matrix_by, D_turned_moves_by, D_matrix_of, D_turned_moves, D__law_pot, D__law_draw, D__law_pick, D__law_matrix, D__law_product, D__law_order, D__law_word, D__law_right, D_law][n]?
def fnL : List (Str × (Nat × List Str)) := [("is_integer", (0, ["value"])), ("is_list", (1, ["value"])), ("is_matrix", (2, ["value"])), ("is_small_matrix", (3, ["value"])), ("check_matrix", (4, ["value"])), ("check_vector", (5, ["value"])), ("product_by", (6, ["one", "late"])), ("inverse_by", (7, ["matrix"])), ("led_by_matrix", (8, ["matrix", "vector"])), ("product", (9, ["matrix", "other_matrix"])), ("inverse", (10, ["matrix"])), ("product_of", (11, ["matrices"])), ("led", (12, ["matrix", "vector"])), ("order", (13, ["matrix"])), ("is_moves_of", (14, ["value"])), ("check_moves", (15, ["value"])), ("matrix_by", (16, ["moves"])), ("turned_moves_by", (17, ["moves"])), ("matrix_of", (18, ["moves"])), ("turned_moves", (19, ["moves"])), ("_law_pot", (20, ["script", "k"])), ("_law_draw", (21, ["pot", "many"])), ("_law_pick", (22, ["pot", "some"])), ("_law_matrix", (23, ["moves"])), ("_law_product", (24, ["one", "late"])), ("_law_order", (25, ["matrix"])), ("_law_word", (26, ["pot", "most"])), ("_law_right", (27, ["pot"])), ("law", (28, ["script"]))]
def cnL : List (Str × PV) := [("MOST_SIZE", (.int 1000000000000000000000000000000)), ("UNIT", (.tup [(.int 1), (.int 0), (.int 0), (.int 1)])), ("MOST_MATRICES", (.int 40)), ("MOST_ORDER", (.int 6)), ("MOST_MOVES", (.int 400))]
def kdL : List (Str × List (Str × PV)) := [("MATRICES", kd_MATRICES), ("TURNED", kd_TURNED)]
def blL : List Str := ["abs", "all", "bool", "divmod", "int", "isinstance", "len", "list", "max", "min", "range", "repr", "str", "tuple"]
def mc : MC := ⟨fun x => fnL.lookup x, fun x => cnL.lookup x, fun x => blL.contains x, fun x => kdL.lookup x⟩
def N_is_integer : List Str := ["value"]
abbrev s_is_integer : Stmt := topS 7
theorem ok_is_integer : (plainB s_is_integer ["value"] && scopeB N_is_integer ["value"] (defScope s_is_integer) && decide (D_is_integer.np = (["value"] : List Str).length) && decide (D_is_integer.ns = N_is_integer.length) && tr mc 60 ⟨N_is_integer, defScope s_is_integer, fun _ => true⟩ (.ss (defBody s_is_integer) D_is_integer.body)) = true := by decide +kernel
def N_is_list : List Str := ["value"]
abbrev s_is_list : Stmt := topS 8
theorem ok_is_list : (plainB s_is_list ["value"] && scopeB N_is_list ["value"] (defScope s_is_list) && decide (D_is_list.np = (["value"] : List Str).length) && decide (D_is_list.ns = N_is_list.length) && tr mc 60 ⟨N_is_list, defScope s_is_list, fun _ => true⟩ (.ss (defBody s_is_list) D_is_list.body)) = true := by decide +kernel
def N_is_matrix : List Str := ["value", "one"]
abbrev s_is_matrix : Stmt := topS 14
theorem ok_is_matrix : (plainB s_is_matrix ["value"] && scopeB N_is_matrix ["value"] (defScope s_is_matrix) && decide (D_is_matrix.np = (["value"] : List Str).length) && decide (D_is_matrix.ns = N_is_matrix.length) && tr mc 60 ⟨N_is_matrix, defScope s_is_matrix, fun _ => true⟩ (.ss (defBody s_is_matrix) D_is_matrix.body)) = true := by decide +kernel
def N_is_small_matrix : List Str := ["value", "one"]
abbrev s_is_small_matrix : Stmt := topS 15
theorem ok_is_small_matrix : (plainB s_is_small_matrix ["value"] && scopeB N_is_small_matrix ["value"] (defScope s_is_small_matrix) && decide (D_is_small_matrix.np = (["value"] : List Str).length) && decide (D_is_small_matrix.ns = N_is_small_matrix.length) && tr mc 60 ⟨N_is_small_matrix, defScope s_is_small_matrix, fun _ => true⟩ (.ss (defBody s_is_small_matrix) D_is_small_matrix.body)) = true := by decide +kernel
def N_check_matrix : List Str := ["value"]
abbrev s_check_matrix : Stmt := topS 16
theorem ok_check_matrix : (plainB s_check_matrix ["value"] && scopeB N_check_matrix ["value"] (defScope s_check_matrix) && decide (D_check_matrix.np = (["value"] : List Str).length) && decide (D_check_matrix.ns = N_check_matrix.length) && tr mc 60 ⟨N_check_matrix, defScope s_check_matrix, fun _ => true⟩ (.ss (defBody s_check_matrix) D_check_matrix.body)) = true := by decide +kernel
def N_check_vector : List Str := ["value", "one"]
abbrev s_check_vector : Stmt := topS 17
theorem ok_check_vector : (plainB s_check_vector ["value"] && scopeB N_check_vector ["value"] (defScope s_check_vector) && decide (D_check_vector.np = (["value"] : List Str).length) && decide (D_check_vector.ns = N_check_vector.length) && tr mc 60 ⟨N_check_vector, defScope s_check_vector, fun _ => true⟩ (.ss (defBody s_check_vector) D_check_vector.body)) = true := by decide +kernel
def N_product_by : List Str := ["one", "late", "a", "b", "c", "d", "e", "f", "g", "h"]
abbrev s_product_by : Stmt := topS 18
theorem ok_product_by : (plainB s_product_by ["one", "late"] && scopeB N_product_by ["one", "late"] (defScope s_product_by) && decide (D_product_by.np = (["one", "late"] : List Str).length) && decide (D_product_by.ns = N_product_by.length) && tr mc 60 ⟨N_product_by, defScope s_product_by, fun _ => true⟩ (.ss (defBody s_product_by) D_product_by.body)) = true := by decide +kernel
def N_inverse_by : List Str := ["matrix", "a", "b", "c", "d"]
abbrev s_inverse_by : Stmt := topS 19
theorem ok_inverse_by : (plainB s_inverse_by ["matrix"] && scopeB N_inverse_by ["matrix"] (defScope s_inverse_by) && decide (D_inverse_by.np = (["matrix"] : List Str).length) && decide (D_inverse_by.ns = N_inverse_by.length) && tr mc 60 ⟨N_inverse_by, defScope s_inverse_by, fun _ => true⟩ (.ss (defBody s_inverse_by) D_inverse_by.body)) = true := by decide +kernel
def N_led_by_matrix : List Str := ["matrix", "vector", "a", "b", "c", "d"]
abbrev s_led_by_matrix : Stmt := topS 20
theorem ok_led_by_matrix : (plainB s_led_by_matrix ["matrix", "vector"] && scopeB N_led_by_matrix ["matrix", "vector"] (defScope s_led_by_matrix) && decide (D_led_by_matrix.np = (["matrix", "vector"] : List Str).length) && decide (D_led_by_matrix.ns = N_led_by_matrix.length) && tr mc 60 ⟨N_led_by_matrix, defScope s_led_by_matrix, fun _ => true⟩ (.ss (defBody s_led_by_matrix) D_led_by_matrix.body)) = true := by decide +kernel
def N_product : List Str := ["matrix", "other_matrix"]
abbrev s_product : Stmt := topS 21
theorem ok_product : (plainB s_product ["matrix", "other_matrix"] && scopeB N_product ["matrix", "other_matrix"] (defScope s_product) && decide (D_product.np = (["matrix", "other_matrix"] : List Str).length) && decide (D_product.ns = N_product.length) && tr mc 60 ⟨N_product, defScope s_product, fun _ => true⟩ (.ss (defBody s_product) D_product.body)) = true := by decide +kernel
def N_inverse : List Str := ["matrix"]
abbrev s_inverse : Stmt := topS 22
theorem ok_inverse : (plainB s_inverse ["matrix"] && scopeB N_inverse ["matrix"] (defScope s_inverse) && decide (D_inverse.np = (["matrix"] : List Str).length) && decide (D_inverse.ns = N_inverse.length) && tr mc 60 ⟨N_inverse, defScope s_inverse, fun _ => true⟩ (.ss (defBody s_inverse) D_inverse.body)) = true := by decide +kernel
def N_product_of : List Str := ["matrices", "one", "found"]
abbrev s_product_of : Stmt := topS 23
theorem ok_product_of : (plainB s_product_of ["matrices"] && scopeB N_product_of ["matrices"] (defScope s_product_of) && decide (D_product_of.np = (["matrices"] : List Str).length) && decide (D_product_of.ns = N_product_of.length) && tr mc 60 ⟨N_product_of, defScope s_product_of, fun _ => true⟩ (.ss (defBody s_product_of) D_product_of.body)) = true := by decide +kernel
def N_led : List Str := ["matrix", "vector"]
abbrev s_led : Stmt := topS 24
theorem ok_led : (plainB s_led ["matrix", "vector"] && scopeB N_led ["matrix", "vector"] (defScope s_led) && decide (D_led.np = (["matrix", "vector"] : List Str).length) && decide (D_led.ns = N_led.length) && tr mc 60 ⟨N_led, defScope s_led, fun _ => true⟩ (.ss (defBody s_led) D_led.body)) = true := by decide +kernel
def N_order : List Str := ["matrix", "found", "many"]
abbrev s_order : Stmt := topS 25
theorem ok_order : (plainB s_order ["matrix"] && scopeB N_order ["matrix"] (defScope s_order) && decide (D_order.np = (["matrix"] : List Str).length) && decide (D_order.ns = N_order.length) && tr mc 60 ⟨N_order, defScope s_order, fun _ => true⟩ (.ss (defBody s_order) D_order.body)) = true := by decide +kernel
def N_is_moves_of : List Str := ["value", "letter"]
abbrev s_is_moves_of : Stmt := topS 30
theorem ok_is_moves_of : (plainB s_is_moves_of ["value"] && scopeB N_is_moves_of ["value"] (defScope s_is_moves_of) && decide (D_is_moves_of.np = (["value"] : List Str).length) && decide (D_is_moves_of.ns = N_is_moves_of.length) && tr mc 60 ⟨N_is_moves_of, defScope s_is_moves_of, fun _ => true⟩ (.ss (defBody s_is_moves_of) D_is_moves_of.body)) = true := by decide +kernel
def N_check_moves : List Str := ["value"]
abbrev s_check_moves : Stmt := topS 31
theorem ok_check_moves : (plainB s_check_moves ["value"] && scopeB N_check_moves ["value"] (defScope s_check_moves) && decide (D_check_moves.np = (["value"] : List Str).length) && decide (D_check_moves.ns = N_check_moves.length) && tr mc 60 ⟨N_check_moves, defScope s_check_moves, fun _ => true⟩ (.ss (defBody s_check_moves) D_check_moves.body)) = true := by decide +kernel
def N_matrix_by : List Str := ["moves", "found", "letter"]
abbrev s_matrix_by : Stmt := topS 32
theorem ok_matrix_by : (plainB s_matrix_by ["moves"] && scopeB N_matrix_by ["moves"] (defScope s_matrix_by) && decide (D_matrix_by.np = (["moves"] : List Str).length) && decide (D_matrix_by.ns = N_matrix_by.length) && tr mc 60 ⟨N_matrix_by, defScope s_matrix_by, fun _ => true⟩ (.ss (defBody s_matrix_by) D_matrix_by.body)) = true := by decide +kernel
def N_turned_moves_by : List Str := ["moves", "letter"]
abbrev s_turned_moves_by : Stmt := topS 33
theorem ok_turned_moves_by : (plainB s_turned_moves_by ["moves"] && scopeB N_turned_moves_by ["moves"] (defScope s_turned_moves_by) && decide (D_turned_moves_by.np = (["moves"] : List Str).length) && decide (D_turned_moves_by.ns = N_turned_moves_by.length) && tr mc 60 ⟨N_turned_moves_by, defScope s_turned_moves_by, fun _ => true⟩ (.ss (defBody s_turned_moves_by) D_turned_moves_by.body)) = true := by decide +kernel
def N_matrix_of : List Str := ["moves"]
abbrev s_matrix_of : Stmt := topS 34
theorem ok_matrix_of : (plainB s_matrix_of ["moves"] && scopeB N_matrix_of ["moves"] (defScope s_matrix_of) && decide (D_matrix_of.np = (["moves"] : List Str).length) && decide (D_matrix_of.ns = N_matrix_of.length) && tr mc 60 ⟨N_matrix_of, defScope s_matrix_of, fun _ => true⟩ (.ss (defBody s_matrix_of) D_matrix_of.body)) = true := by decide +kernel
def N_turned_moves : List Str := ["moves"]
abbrev s_turned_moves : Stmt := topS 35
theorem ok_turned_moves : (plainB s_turned_moves ["moves"] && scopeB N_turned_moves ["moves"] (defScope s_turned_moves) && decide (D_turned_moves.np = (["moves"] : List Str).length) && decide (D_turned_moves.ns = N_turned_moves.length) && tr mc 60 ⟨N_turned_moves, defScope s_turned_moves, fun _ => true⟩ (.ss (defBody s_turned_moves) D_turned_moves.body)) = true := by decide +kernel
def N__law_pot : List Str := ["script", "k", "cell"]
abbrev s__law_pot : Stmt := topS 37
theorem ok__law_pot : (plainB s__law_pot ["script", "k"] && scopeB N__law_pot ["script", "k"] (defScope s__law_pot) && decide (D__law_pot.np = (["script", "k"] : List Str).length) && decide (D__law_pot.ns = N__law_pot.length) && tr mc 60 ⟨N__law_pot, defScope s__law_pot, fun _ => true⟩ (.ss (defBody s__law_pot) D__law_pot.body)) = true := by decide +kernel
def N__law_draw : List Str := ["pot", "many", "digit"]
abbrev s__law_draw : Stmt := topS 38
theorem ok__law_draw : (plainB s__law_draw ["pot", "many"] && scopeB N__law_draw ["pot", "many"] (defScope s__law_draw) && decide (D__law_draw.np = (["pot", "many"] : List Str).length) && decide (D__law_draw.ns = N__law_draw.length) && tr mc 60 ⟨N__law_draw, defScope s__law_draw, fun _ => true⟩ (.ss (defBody s__law_draw) D__law_draw.body)) = true := by decide +kernel
def N__law_pick : List Str := ["pot", "some"]
abbrev s__law_pick : Stmt := topS 39
theorem ok__law_pick : (plainB s__law_pick ["pot", "some"] && scopeB N__law_pick ["pot", "some"] (defScope s__law_pick) && decide (D__law_pick.np = (["pot", "some"] : List Str).length) && decide (D__law_pick.ns = N__law_pick.length) && tr mc 60 ⟨N__law_pick, defScope s__law_pick, fun _ => true⟩ (.ss (defBody s__law_pick) D__law_pick.body)) = true := by decide +kernel
def N__law_matrix : List Str := ["moves", "a", "b", "c", "d", "letter", "p", "q", "r", "s"]
abbrev s__law_matrix : Stmt := topS 40
theorem ok__law_matrix : (plainB s__law_matrix ["moves"] && scopeB N__law_matrix ["moves"] (defScope s__law_matrix) && decide (D__law_matrix.np = (["moves"] : List Str).length) && decide (D__law_matrix.ns = N__law_matrix.length) && tr mc 60 ⟨N__law_matrix, defScope s__law_matrix, fun _ => true⟩ (.ss (defBody s__law_matrix) D__law_matrix.body)) = true := by decide +kernel
def N__law_product : List Str := ["one", "late", "a", "b", "c", "d", "e", "f", "g", "h"]
abbrev s__law_product : Stmt := topS 41
theorem ok__law_product : (plainB s__law_product ["one", "late"] && scopeB N__law_product ["one", "late"] (defScope s__law_product) && decide (D__law_product.np = (["one", "late"] : List Str).length) && decide (D__law_product.ns = N__law_product.length) && tr mc 60 ⟨N__law_product, defScope s__law_product, fun _ => true⟩ (.ss (defBody s__law_product) D__law_product.body)) = true := by decide +kernel
def N__law_order : List Str := ["matrix", "here", "many"]
abbrev s__law_order : Stmt := topS 42
theorem ok__law_order : (plainB s__law_order ["matrix"] && scopeB N__law_order ["matrix"] (defScope s__law_order) && decide (D__law_order.np = (["matrix"] : List Str).length) && decide (D__law_order.ns = N__law_order.length) && tr mc 60 ⟨N__law_order, defScope s__law_order, fun _ => true⟩ (.ss (defBody s__law_order) D__law_order.body)) = true := by decide +kernel
def N__law_word : List Str := ["pot", "most", "turn"]
abbrev s__law_word : Stmt := topS 43
theorem ok__law_word : (plainB s__law_word ["pot", "most"] && scopeB N__law_word ["pot", "most"] (defScope s__law_word) && decide (D__law_word.np = (["pot", "most"] : List Str).length) && decide (D__law_word.ns = N__law_word.length) && tr mc 60 ⟨N__law_word, defScope s__law_word, fun _ => true⟩ (.ss (defBody s__law_word) D__law_word.body)) = true := by decide +kernel
def N__law_right : List Str := ["pot", "turn", "near", "far", "one", "late", "back", "told", "vector", "due", "some", "shown", "matrix", "bare", "carried"]
abbrev s__law_right : Stmt := topS 44
theorem ok__law_right : (plainB s__law_right ["pot"] && scopeB N__law_right ["pot"] (defScope s__law_right) && decide (D__law_right.np = (["pot"] : List Str).length) && decide (D__law_right.ns = N__law_right.length) && tr mc 60 ⟨N__law_right, defScope s__law_right, fun _ => true⟩ (.ss (defBody s__law_right) D__law_right.body)) = true := by decide +kernel
def N_law : List Str := ["script", "k"]
abbrev s_law : Stmt := topS 45
theorem ok_law : (plainB s_law ["script"] && scopeB N_law ["script"] (defScope s_law) && decide (D_law.np = (["script"] : List Str).length) && decide (D_law.ns = N_law.length) && tr mc 60 ⟨N_law, defScope s_law, fun _ => true⟩ (.ss (defBody s_law) D_law.body)) = true := by decide +kernel
abbrev M (K : PySem.W.Frag) : Mo := ⟨K, fun _ => none⟩
abbrev exs : ExT := fun _ => none
theorem facts {l : PySem.W.OpenLaw} {w : World} {K : PySem.W.Frag} {h : Heap} {mg : Str → Option Value} {fa : Addr} (X : K.In h) (G : h.Ns mainGlobals mg) (hfa : mg "law" = some (.ref fa))
    {f1 : Addr} {x2 : Value} {x3 : Option Addr} {x4 : Value} {x5 : Value} {x6 : Value} {x7 : Option Addr} {x8 : Value} {x9 : Value} {x10 : Array (Option Value)} {f15 : Addr} {x16 : Value} {x17 : Option Addr} {x18 : Value} {x19 : Value} {x20 : Value} {x21 : Option Addr} {x22 : Value} {x23 : Value} {x24 : Array (Option Value)} {f29 : Addr} {x30 : Value} {x31 : Option Addr} {x32 : Value} {x33 : Value} {x34 : Value} {x35 : Option Addr} {x36 : Value} {x37 : Value} {x38 : Array (Option Value)} {f43 : Addr} {x44 : Value} {x45 : Option Addr} {x46 : Value} {x47 : Value} {x48 : Value} {x49 : Option Addr} {x50 : Value} {x51 : Value} {x52 : Array (Option Value)} {f57 : Addr} {x58 : Value} {x59 : Option Addr} {x60 : Value} {x61 : Value} {x62 : Value} {x63 : Option Addr} {x64 : Value} {x65 : Value} {x66 : Array (Option Value)} {f71 : Addr} {x72 : Value} {x73 : Option Addr} {x74 : Value} {x75 : Value} {x76 : Value} {x77 : Option Addr} {x78 : Value} {x79 : Value} {x80 : Array (Option Value)} {f85 : Addr} {x86 : Value} {x87 : Option Addr} {x88 : Value} {x89 : Value} {x90 : Value} {x91 : Option Addr} {x92 : Value} {x93 : Value} {x94 : Array (Option Value)} {f99 : Addr} {x100 : Value} {x101 : Option Addr} {x102 : Value} {x103 : Value} {x104 : Value} {x105 : Option Addr} {x106 : Value} {x107 : Value} {x108 : Array (Option Value)} {f113 : Addr} {x114 : Value} {x115 : Option Addr} {x116 : Value} {x117 : Value} {x118 : Value} {x119 : Option Addr} {x120 : Value} {x121 : Value} {x122 : Array (Option Value)} {f127 : Addr} {x128 : Value} {x129 : Option Addr} {x130 : Value} {x131 : Value} {x132 : Value} {x133 : Option Addr} {x134 : Value} {x135 : Value} {x136 : Array (Option Value)} {f141 : Addr} {x142 : Value} {x143 : Option Addr} {x144 : Value} {x145 : Value} {x146 : Value} {x147 : Option Addr} {x148 : Value} {x149 : Value} {x150 : Array (Option Value)} {f155 : Addr} {x156 : Value} {x157 : Option Addr} {x158 : Value} {x159 : Value} {x160 : Value} {x161 : Option Addr} {x162 : Value} {x163 : Value} {x164 : Array (Option Value)} {f169 : Addr} {x170 : Value} {x171 : Option Addr} {x172 : Value} {x173 : Value} {x174 : Value} {x175 : Option Addr} {x176 : Value} {x177 : Value} {x178 : Array (Option Value)} {f183 : Addr} {x184 : Value} {x185 : Option Addr} {x186 : Value} {x187 : Value} {x188 : Value} {x189 : Option Addr} {x190 : Value} {x191 : Value} {x192 : Array (Option Value)} {f197 : Addr} {x198 : Value} {x199 : Option Addr} {x200 : Value} {x201 : Value} {x202 : Value} {x203 : Option Addr} {x204 : Value} {x205 : Value} {x206 : Array (Option Value)} {f211 : Addr} {x212 : Value} {x213 : Option Addr} {x214 : Value} {x215 : Value} {x216 : Value} {x217 : Option Addr} {x218 : Value} {x219 : Value} {x220 : Array (Option Value)} {f225 : Addr} {x226 : Value} {x227 : Option Addr} {x228 : Value} {x229 : Value} {x230 : Value} {x231 : Option Addr} {x232 : Value} {x233 : Value} {x234 : Array (Option Value)} {f239 : Addr} {x240 : Value} {x241 : Option Addr} {x242 : Value} {x243 : Value} {x244 : Value} {x245 : Option Addr} {x246 : Value} {x247 : Value} {x248 : Array (Option Value)} {f253 : Addr} {x254 : Value} {x255 : Option Addr} {x256 : Value} {x257 : Value} {x258 : Value} {x259 : Option Addr} {x260 : Value} {x261 : Value} {x262 : Array (Option Value)} {f267 : Addr} {x268 : Value} {x269 : Option Addr} {x270 : Value} {x271 : Value} {x272 : Value} {x273 : Option Addr} {x274 : Value} {x275 : Value} {x276 : Array (Option Value)} {f281 : Addr} {x282 : Value} {x283 : Option Addr} {x284 : Value} {x285 : Value} {x286 : Value} {x287 : Option Addr} {x288 : Value} {x289 : Value} {x290 : Array (Option Value)} {f295 : Addr} {x296 : Value} {x297 : Option Addr} {x298 : Value} {x299 : Value} {x300 : Value} {x301 : Option Addr} {x302 : Value} {x303 : Value} {x304 : Array (Option Value)} {f309 : Addr} {x310 : Value} {x311 : Option Addr} {x312 : Value} {x313 : Value} {x314 : Value} {x315 : Option Addr} {x316 : Value} {x317 : Value} {x318 : Array (Option Value)} {f323 : Addr} {x324 : Value} {x325 : Option Addr} {x326 : Value} {x327 : Value} {x328 : Value} {x329 : Option Addr} {x330 : Value} {x331 : Value} {x332 : Array (Option Value)} {f337 : Addr} {x338 : Value} {x339 : Option Addr} {x340 : Value} {x341 : Value} {x342 : Value} {x343 : Option Addr} {x344 : Value} {x345 : Value} {x346 : Array (Option Value)} {f351 : Addr} {x352 : Value} {x353 : Option Addr} {x354 : Value} {x355 : Value} {x356 : Value} {x357 : Option Addr} {x358 : Value} {x359 : Value} {x360 : Array (Option Value)} {f365 : Addr} {x366 : Value} {x367 : Option Addr} {x368 : Value} {x369 : Value} {x370 : Value} {x371 : Option Addr} {x372 : Value} {x373 : Value} {x374 : Array (Option Value)} {f379 : Addr} {x380 : Value} {x381 : Option Addr} {x382 : Value} {x383 : Value} {x384 : Value} {x385 : Option Addr} {x386 : Value} {x387 : Value} {x388 : Array (Option Value)} {f393 : Addr} {x394 : Value} {x395 : Option Addr} {x396 : Value} {x397 : Value} {x398 : Value} {x399 : Option Addr} {x400 : Value} {x401 : Value} {x402 : Array (Option Value)} {t407 : Tok} {a409 : Addr} {o410 : Option Addr} {n411 : Nat} {s412 : Array (Option Value)} {t413 : Tok} {t414 : Tok} {t415 : Tok} {t416 : Tok} {t419 : Tok} {t421 : Tok} {t423 : Tok} {a425 : Addr} {e426 : Array DictEntry} {n427 : Nat} {a432 : Addr} {o433 : Option Addr} {n434 : Nat} {s435 : Array (Option Value)} {t436 : Tok} {t437 : Tok} {t438 : Tok} {t439 : Tok} {a442 : Addr} {o443 : Option Addr} {n444 : Nat} {s445 : Array (Option Value)} {t446 : Tok} {t447 : Tok} {t448 : Tok} {t449 : Tok} {a452 : Addr} {o453 : Option Addr} {n454 : Nat} {s455 : Array (Option Value)} {t456 : Tok} {t457 : Tok} {t458 : Tok} {t459 : Tok} {a462 : Addr} {o463 : Option Addr} {n464 : Nat} {s465 : Array (Option Value)} {t466 : Tok} {t467 : Tok} {t468 : Tok} {t469 : Tok} {a472 : Addr} {o473 : Option Addr} {n474 : Nat} {s475 : Array (Option Value)} {t476 : Tok} {t477 : Tok} {t478 : Tok} {t479 : Tok} {a482 : Addr} {o483 : Option Addr} {n484 : Nat} {s485 : Array (Option Value)} {t486 : Tok} {t487 : Tok} {t488 : Tok} {t489 : Tok} {a492 : Addr} {e493 : Array DictEntry} {n494 : Nat} {t499 : Tok} {t501 : Tok} {t503 : Tok} {t505 : Tok} {t507 : Tok} {t509 : Tok}
    (h11 : PySem.W.nsIn K mainGlobals "is_integer" = some (some (.ref f1)))
    (h12 : K.lookup f1 = some ⟨x2, x3, .func (PySem.W.fnOf "is_integer" "is_integer" (defArgs s_is_integer) (defBody s_is_integer) (defScope s_is_integer) .none x4 x5 x6 x7 x8 x9), x10⟩)
    (h13 : PySem.W.codeIn K x8 "is_integer" = true)
    (h14 : PySem.W.keepIn K (.ref f1) = true)
    (h25 : PySem.W.nsIn K mainGlobals "is_list" = some (some (.ref f15)))
    (h26 : K.lookup f15 = some ⟨x16, x17, .func (PySem.W.fnOf "is_list" "is_list" (defArgs s_is_list) (defBody s_is_list) (defScope s_is_list) .none x18 x19 x20 x21 x22 x23), x24⟩)
    (h27 : PySem.W.codeIn K x22 "is_list" = true)
    (h28 : PySem.W.keepIn K (.ref f15) = true)
    (h39 : PySem.W.nsIn K mainGlobals "is_matrix" = some (some (.ref f29)))
    (h40 : K.lookup f29 = some ⟨x30, x31, .func (PySem.W.fnOf "is_matrix" "is_matrix" (defArgs s_is_matrix) (defBody s_is_matrix) (defScope s_is_matrix) .none x32 x33 x34 x35 x36 x37), x38⟩)
    (h41 : PySem.W.codeIn K x36 "is_matrix" = true)
    (h42 : PySem.W.keepIn K (.ref f29) = true)
    (h53 : PySem.W.nsIn K mainGlobals "is_small_matrix" = some (some (.ref f43)))
    (h54 : K.lookup f43 = some ⟨x44, x45, .func (PySem.W.fnOf "is_small_matrix" "is_small_matrix" (defArgs s_is_small_matrix) (defBody s_is_small_matrix) (defScope s_is_small_matrix) .none x46 x47 x48 x49 x50 x51), x52⟩)
    (h55 : PySem.W.codeIn K x50 "is_small_matrix" = true)
    (h56 : PySem.W.keepIn K (.ref f43) = true)
    (h67 : PySem.W.nsIn K mainGlobals "check_matrix" = some (some (.ref f57)))
    (h68 : K.lookup f57 = some ⟨x58, x59, .func (PySem.W.fnOf "check_matrix" "check_matrix" (defArgs s_check_matrix) (defBody s_check_matrix) (defScope s_check_matrix) .none x60 x61 x62 x63 x64 x65), x66⟩)
    (h69 : PySem.W.codeIn K x64 "check_matrix" = true)
    (h70 : PySem.W.keepIn K (.ref f57) = true)
    (h81 : PySem.W.nsIn K mainGlobals "check_vector" = some (some (.ref f71)))
    (h82 : K.lookup f71 = some ⟨x72, x73, .func (PySem.W.fnOf "check_vector" "check_vector" (defArgs s_check_vector) (defBody s_check_vector) (defScope s_check_vector) .none x74 x75 x76 x77 x78 x79), x80⟩)
    (h83 : PySem.W.codeIn K x78 "check_vector" = true)
    (h84 : PySem.W.keepIn K (.ref f71) = true)
    (h95 : PySem.W.nsIn K mainGlobals "product_by" = some (some (.ref f85)))
    (h96 : K.lookup f85 = some ⟨x86, x87, .func (PySem.W.fnOf "product_by" "product_by" (defArgs s_product_by) (defBody s_product_by) (defScope s_product_by) .none x88 x89 x90 x91 x92 x93), x94⟩)
    (h97 : PySem.W.codeIn K x92 "product_by" = true)
    (h98 : PySem.W.keepIn K (.ref f85) = true)
    (h109 : PySem.W.nsIn K mainGlobals "inverse_by" = some (some (.ref f99)))
    (h110 : K.lookup f99 = some ⟨x100, x101, .func (PySem.W.fnOf "inverse_by" "inverse_by" (defArgs s_inverse_by) (defBody s_inverse_by) (defScope s_inverse_by) .none x102 x103 x104 x105 x106 x107), x108⟩)
    (h111 : PySem.W.codeIn K x106 "inverse_by" = true)
    (h112 : PySem.W.keepIn K (.ref f99) = true)
    (h123 : PySem.W.nsIn K mainGlobals "led_by_matrix" = some (some (.ref f113)))
    (h124 : K.lookup f113 = some ⟨x114, x115, .func (PySem.W.fnOf "led_by_matrix" "led_by_matrix" (defArgs s_led_by_matrix) (defBody s_led_by_matrix) (defScope s_led_by_matrix) .none x116 x117 x118 x119 x120 x121), x122⟩)
    (h125 : PySem.W.codeIn K x120 "led_by_matrix" = true)
    (h126 : PySem.W.keepIn K (.ref f113) = true)
    (h137 : PySem.W.nsIn K mainGlobals "product" = some (some (.ref f127)))
    (h138 : K.lookup f127 = some ⟨x128, x129, .func (PySem.W.fnOf "product" "product" (defArgs s_product) (defBody s_product) (defScope s_product) .none x130 x131 x132 x133 x134 x135), x136⟩)
    (h139 : PySem.W.codeIn K x134 "product" = true)
    (h140 : PySem.W.keepIn K (.ref f127) = true)
    (h151 : PySem.W.nsIn K mainGlobals "inverse" = some (some (.ref f141)))
    (h152 : K.lookup f141 = some ⟨x142, x143, .func (PySem.W.fnOf "inverse" "inverse" (defArgs s_inverse) (defBody s_inverse) (defScope s_inverse) .none x144 x145 x146 x147 x148 x149), x150⟩)
    (h153 : PySem.W.codeIn K x148 "inverse" = true)
    (h154 : PySem.W.keepIn K (.ref f141) = true)
    (h165 : PySem.W.nsIn K mainGlobals "product_of" = some (some (.ref f155)))
    (h166 : K.lookup f155 = some ⟨x156, x157, .func (PySem.W.fnOf "product_of" "product_of" (defArgs s_product_of) (defBody s_product_of) (defScope s_product_of) .none x158 x159 x160 x161 x162 x163), x164⟩)
    (h167 : PySem.W.codeIn K x162 "product_of" = true)
    (h168 : PySem.W.keepIn K (.ref f155) = true)
    (h179 : PySem.W.nsIn K mainGlobals "led" = some (some (.ref f169)))
    (h180 : K.lookup f169 = some ⟨x170, x171, .func (PySem.W.fnOf "led" "led" (defArgs s_led) (defBody s_led) (defScope s_led) .none x172 x173 x174 x175 x176 x177), x178⟩)
    (h181 : PySem.W.codeIn K x176 "led" = true)
    (h182 : PySem.W.keepIn K (.ref f169) = true)
    (h193 : PySem.W.nsIn K mainGlobals "order" = some (some (.ref f183)))
    (h194 : K.lookup f183 = some ⟨x184, x185, .func (PySem.W.fnOf "order" "order" (defArgs s_order) (defBody s_order) (defScope s_order) .none x186 x187 x188 x189 x190 x191), x192⟩)
    (h195 : PySem.W.codeIn K x190 "order" = true)
    (h196 : PySem.W.keepIn K (.ref f183) = true)
    (h207 : PySem.W.nsIn K mainGlobals "is_moves_of" = some (some (.ref f197)))
    (h208 : K.lookup f197 = some ⟨x198, x199, .func (PySem.W.fnOf "is_moves_of" "is_moves_of" (defArgs s_is_moves_of) (defBody s_is_moves_of) (defScope s_is_moves_of) .none x200 x201 x202 x203 x204 x205), x206⟩)
    (h209 : PySem.W.codeIn K x204 "is_moves_of" = true)
    (h210 : PySem.W.keepIn K (.ref f197) = true)
    (h221 : PySem.W.nsIn K mainGlobals "check_moves" = some (some (.ref f211)))
    (h222 : K.lookup f211 = some ⟨x212, x213, .func (PySem.W.fnOf "check_moves" "check_moves" (defArgs s_check_moves) (defBody s_check_moves) (defScope s_check_moves) .none x214 x215 x216 x217 x218 x219), x220⟩)
    (h223 : PySem.W.codeIn K x218 "check_moves" = true)
    (h224 : PySem.W.keepIn K (.ref f211) = true)
    (h235 : PySem.W.nsIn K mainGlobals "matrix_by" = some (some (.ref f225)))
    (h236 : K.lookup f225 = some ⟨x226, x227, .func (PySem.W.fnOf "matrix_by" "matrix_by" (defArgs s_matrix_by) (defBody s_matrix_by) (defScope s_matrix_by) .none x228 x229 x230 x231 x232 x233), x234⟩)
    (h237 : PySem.W.codeIn K x232 "matrix_by" = true)
    (h238 : PySem.W.keepIn K (.ref f225) = true)
    (h249 : PySem.W.nsIn K mainGlobals "turned_moves_by" = some (some (.ref f239)))
    (h250 : K.lookup f239 = some ⟨x240, x241, .func (PySem.W.fnOf "turned_moves_by" "turned_moves_by" (defArgs s_turned_moves_by) (defBody s_turned_moves_by) (defScope s_turned_moves_by) .none x242 x243 x244 x245 x246 x247), x248⟩)
    (h251 : PySem.W.codeIn K x246 "turned_moves_by" = true)
    (h252 : PySem.W.keepIn K (.ref f239) = true)
    (h263 : PySem.W.nsIn K mainGlobals "matrix_of" = some (some (.ref f253)))
    (h264 : K.lookup f253 = some ⟨x254, x255, .func (PySem.W.fnOf "matrix_of" "matrix_of" (defArgs s_matrix_of) (defBody s_matrix_of) (defScope s_matrix_of) .none x256 x257 x258 x259 x260 x261), x262⟩)
    (h265 : PySem.W.codeIn K x260 "matrix_of" = true)
    (h266 : PySem.W.keepIn K (.ref f253) = true)
    (h277 : PySem.W.nsIn K mainGlobals "turned_moves" = some (some (.ref f267)))
    (h278 : K.lookup f267 = some ⟨x268, x269, .func (PySem.W.fnOf "turned_moves" "turned_moves" (defArgs s_turned_moves) (defBody s_turned_moves) (defScope s_turned_moves) .none x270 x271 x272 x273 x274 x275), x276⟩)
    (h279 : PySem.W.codeIn K x274 "turned_moves" = true)
    (h280 : PySem.W.keepIn K (.ref f267) = true)
    (h291 : PySem.W.nsIn K mainGlobals "_law_pot" = some (some (.ref f281)))
    (h292 : K.lookup f281 = some ⟨x282, x283, .func (PySem.W.fnOf "_law_pot" "_law_pot" (defArgs s__law_pot) (defBody s__law_pot) (defScope s__law_pot) .none x284 x285 x286 x287 x288 x289), x290⟩)
    (h293 : PySem.W.codeIn K x288 "_law_pot" = true)
    (h294 : PySem.W.keepIn K (.ref f281) = true)
    (h305 : PySem.W.nsIn K mainGlobals "_law_draw" = some (some (.ref f295)))
    (h306 : K.lookup f295 = some ⟨x296, x297, .func (PySem.W.fnOf "_law_draw" "_law_draw" (defArgs s__law_draw) (defBody s__law_draw) (defScope s__law_draw) .none x298 x299 x300 x301 x302 x303), x304⟩)
    (h307 : PySem.W.codeIn K x302 "_law_draw" = true)
    (h308 : PySem.W.keepIn K (.ref f295) = true)
    (h319 : PySem.W.nsIn K mainGlobals "_law_pick" = some (some (.ref f309)))
    (h320 : K.lookup f309 = some ⟨x310, x311, .func (PySem.W.fnOf "_law_pick" "_law_pick" (defArgs s__law_pick) (defBody s__law_pick) (defScope s__law_pick) .none x312 x313 x314 x315 x316 x317), x318⟩)
    (h321 : PySem.W.codeIn K x316 "_law_pick" = true)
    (h322 : PySem.W.keepIn K (.ref f309) = true)
    (h333 : PySem.W.nsIn K mainGlobals "_law_matrix" = some (some (.ref f323)))
    (h334 : K.lookup f323 = some ⟨x324, x325, .func (PySem.W.fnOf "_law_matrix" "_law_matrix" (defArgs s__law_matrix) (defBody s__law_matrix) (defScope s__law_matrix) .none x326 x327 x328 x329 x330 x331), x332⟩)
    (h335 : PySem.W.codeIn K x330 "_law_matrix" = true)
    (h336 : PySem.W.keepIn K (.ref f323) = true)
    (h347 : PySem.W.nsIn K mainGlobals "_law_product" = some (some (.ref f337)))
    (h348 : K.lookup f337 = some ⟨x338, x339, .func (PySem.W.fnOf "_law_product" "_law_product" (defArgs s__law_product) (defBody s__law_product) (defScope s__law_product) .none x340 x341 x342 x343 x344 x345), x346⟩)
    (h349 : PySem.W.codeIn K x344 "_law_product" = true)
    (h350 : PySem.W.keepIn K (.ref f337) = true)
    (h361 : PySem.W.nsIn K mainGlobals "_law_order" = some (some (.ref f351)))
    (h362 : K.lookup f351 = some ⟨x352, x353, .func (PySem.W.fnOf "_law_order" "_law_order" (defArgs s__law_order) (defBody s__law_order) (defScope s__law_order) .none x354 x355 x356 x357 x358 x359), x360⟩)
    (h363 : PySem.W.codeIn K x358 "_law_order" = true)
    (h364 : PySem.W.keepIn K (.ref f351) = true)
    (h375 : PySem.W.nsIn K mainGlobals "_law_word" = some (some (.ref f365)))
    (h376 : K.lookup f365 = some ⟨x366, x367, .func (PySem.W.fnOf "_law_word" "_law_word" (defArgs s__law_word) (defBody s__law_word) (defScope s__law_word) .none x368 x369 x370 x371 x372 x373), x374⟩)
    (h377 : PySem.W.codeIn K x372 "_law_word" = true)
    (h378 : PySem.W.keepIn K (.ref f365) = true)
    (h389 : PySem.W.nsIn K mainGlobals "_law_right" = some (some (.ref f379)))
    (h390 : K.lookup f379 = some ⟨x380, x381, .func (PySem.W.fnOf "_law_right" "_law_right" (defArgs s__law_right) (defBody s__law_right) (defScope s__law_right) .none x382 x383 x384 x385 x386 x387), x388⟩)
    (h391 : PySem.W.codeIn K x386 "_law_right" = true)
    (h392 : PySem.W.keepIn K (.ref f379) = true)
    (h403 : PySem.W.nsIn K mainGlobals "law" = some (some (.ref f393)))
    (h404 : K.lookup f393 = some ⟨x394, x395, .func (PySem.W.fnOf "law" "law" (defArgs s_law) (defBody s_law) (defScope s_law) .none x396 x397 x398 x399 x400 x401), x402⟩)
    (h405 : PySem.W.codeIn K x400 "law" = true)
    (h406 : PySem.W.keepIn K (.ref f393) = true)
    (h408 : PySem.W.nsIn K mainGlobals "MOST_SIZE" = some (some (.int 1000000000000000000000000000000 t407)))
    (h417 : K.lookup a409 = some ⟨.type "tuple", o410, .seq #[(.int 1 t413), (.int 0 t414), (.int 0 t415), (.int 1 t416)] n411, s412⟩)
    (h418 : PySem.W.nsIn K mainGlobals "UNIT" = some (some (.ref a409)))
    (h420 : PySem.W.nsIn K mainGlobals "MOST_MATRICES" = some (some (.int 40 t419)))
    (h422 : PySem.W.nsIn K mainGlobals "MOST_ORDER" = some (some (.int 6 t421)))
    (h424 : PySem.W.nsIn K mainGlobals "MOST_MOVES" = some (some (.int 400 t423)))
    (h428 : PySem.W.nsIn K mainGlobals "MATRICES" = some (some (.ref a425)))
    (h429 : K.lookup a425 = some ⟨.type "dict", none, .dict e426 n427, #[]⟩)
    (h430 : PySem.W.KeysLit w.params e426.toList)
    (h431 : (a425 == sysModules) = false)
    (h440 : K.lookup a432 = some ⟨.type "tuple", o433, .seq #[(.int 1 t436), (.int 1 t437), (.int 0 t438), (.int 1 t439)] n434, s435⟩)
    (h441 : PySem.W.nsIn K a425 "t" = some (some (.ref a432)))
    (h450 : K.lookup a442 = some ⟨.type "tuple", o443, .seq #[(.int 1 t446), (.int (-1) t447), (.int 0 t448), (.int 1 t449)] n444, s445⟩)
    (h451 : PySem.W.nsIn K a425 "T" = some (some (.ref a442)))
    (h460 : K.lookup a452 = some ⟨.type "tuple", o453, .seq #[(.int 1 t456), (.int 0 t457), (.int 1 t458), (.int 1 t459)] n454, s455⟩)
    (h461 : PySem.W.nsIn K a425 "v" = some (some (.ref a452)))
    (h470 : K.lookup a462 = some ⟨.type "tuple", o463, .seq #[(.int 1 t466), (.int 0 t467), (.int (-1) t468), (.int 1 t469)] n464, s465⟩)
    (h471 : PySem.W.nsIn K a425 "V" = some (some (.ref a462)))
    (h480 : K.lookup a472 = some ⟨.type "tuple", o473, .seq #[(.int 0 t476), (.int (-1) t477), (.int 1 t478), (.int 0 t479)] n474, s475⟩)
    (h481 : PySem.W.nsIn K a425 "j" = some (some (.ref a472)))
    (h490 : K.lookup a482 = some ⟨.type "tuple", o483, .seq #[(.int 0 t486), (.int 1 t487), (.int (-1) t488), (.int 0 t489)] n484, s485⟩)
    (h491 : PySem.W.nsIn K a425 "J" = some (some (.ref a482)))
    (h495 : PySem.W.nsIn K mainGlobals "TURNED" = some (some (.ref a492)))
    (h496 : K.lookup a492 = some ⟨.type "dict", none, .dict e493 n494, #[]⟩)
    (h497 : PySem.W.KeysLit w.params e493.toList)
    (h498 : (a492 == sysModules) = false)
    (h500 : PySem.W.nsIn K a492 "t" = some (some (.str ⟨#[84]⟩ t499)))
    (h502 : PySem.W.nsIn K a492 "T" = some (some (.str ⟨#[116]⟩ t501)))
    (h504 : PySem.W.nsIn K a492 "v" = some (some (.str ⟨#[86]⟩ t503)))
    (h506 : PySem.W.nsIn K a492 "V" = some (some (.str ⟨#[118]⟩ t505)))
    (h508 : PySem.W.nsIn K a492 "j" = some (some (.str ⟨#[74]⟩ t507)))
    (h510 : PySem.W.nsIn K a492 "J" = some (some (.str ⟨#[106]⟩ t509)))
    (h511 : PySem.W.nsIn K mainGlobals "abs" = some none)
    (h512 : PySem.W.nsIn K mainGlobals "all" = some none)
    (h513 : PySem.W.nsIn K mainGlobals "bool" = some none)
    (h514 : PySem.W.nsIn K mainGlobals "divmod" = some none)
    (h515 : PySem.W.nsIn K mainGlobals "int" = some none)
    (h516 : PySem.W.nsIn K mainGlobals "isinstance" = some none)
    (h517 : PySem.W.nsIn K mainGlobals "len" = some none)
    (h518 : PySem.W.nsIn K mainGlobals "list" = some none)
    (h519 : PySem.W.nsIn K mainGlobals "max" = some none)
    (h520 : PySem.W.nsIn K mainGlobals "min" = some none)
    (h521 : PySem.W.nsIn K mainGlobals "range" = some none)
    (h522 : PySem.W.nsIn K mainGlobals "repr" = some none)
    (h523 : PySem.W.nsIn K mainGlobals "str" = some none)
    (h524 : PySem.W.nsIn K mainGlobals "tuple" = some none) :
    ∃ fd : FuncData, (∀ (s : Shared) (v : Value), BindsTo s fd ⟨[v], []⟩ [("script", v)]) ∧ ∀ base : Heap, K.In base → base.Ns mainGlobals mg → FnG l.prog w K mg base 7 fa fd ["script"] (spF (M K) exs prog 28 7) := by
  have D_is_integer : DefOk K mg mc prog "is_integer" 0 ["value"] f1 _ := defOk_mk N_is_integer D_is_integer 60 (fun_mk (st := s_is_integer) h12 h13 h14) (PySem.W.mg_of X G h11) rfl ok_is_integer
  have D_is_list : DefOk K mg mc prog "is_list" 1 ["value"] f15 _ := defOk_mk N_is_list D_is_list 60 (fun_mk (st := s_is_list) h26 h27 h28) (PySem.W.mg_of X G h25) rfl ok_is_list
  have D_is_matrix : DefOk K mg mc prog "is_matrix" 2 ["value"] f29 _ := defOk_mk N_is_matrix D_is_matrix 60 (fun_mk (st := s_is_matrix) h40 h41 h42) (PySem.W.mg_of X G h39) rfl ok_is_matrix
  have D_is_small_matrix : DefOk K mg mc prog "is_small_matrix" 3 ["value"] f43 _ := defOk_mk N_is_small_matrix D_is_small_matrix 60 (fun_mk (st := s_is_small_matrix) h54 h55 h56) (PySem.W.mg_of X G h53) rfl ok_is_small_matrix
  have D_check_matrix : DefOk K mg mc prog "check_matrix" 4 ["value"] f57 _ := defOk_mk N_check_matrix D_check_matrix 60 (fun_mk (st := s_check_matrix) h68 h69 h70) (PySem.W.mg_of X G h67) rfl ok_check_matrix
  have D_check_vector : DefOk K mg mc prog "check_vector" 5 ["value"] f71 _ := defOk_mk N_check_vector D_check_vector 60 (fun_mk (st := s_check_vector) h82 h83 h84) (PySem.W.mg_of X G h81) rfl ok_check_vector
  have D_product_by : DefOk K mg mc prog "product_by" 6 ["one", "late"] f85 _ := defOk_mk N_product_by D_product_by 60 (fun_mk (st := s_product_by) h96 h97 h98) (PySem.W.mg_of X G h95) rfl ok_product_by
  have D_inverse_by : DefOk K mg mc prog "inverse_by" 7 ["matrix"] f99 _ := defOk_mk N_inverse_by D_inverse_by 60 (fun_mk (st := s_inverse_by) h110 h111 h112) (PySem.W.mg_of X G h109) rfl ok_inverse_by
  have D_led_by_matrix : DefOk K mg mc prog "led_by_matrix" 8 ["matrix", "vector"] f113 _ := defOk_mk N_led_by_matrix D_led_by_matrix 60 (fun_mk (st := s_led_by_matrix) h124 h125 h126) (PySem.W.mg_of X G h123) rfl ok_led_by_matrix
  have D_product : DefOk K mg mc prog "product" 9 ["matrix", "other_matrix"] f127 _ := defOk_mk N_product D_product 60 (fun_mk (st := s_product) h138 h139 h140) (PySem.W.mg_of X G h137) rfl ok_product
  have D_inverse : DefOk K mg mc prog "inverse" 10 ["matrix"] f141 _ := defOk_mk N_inverse D_inverse 60 (fun_mk (st := s_inverse) h152 h153 h154) (PySem.W.mg_of X G h151) rfl ok_inverse
  have D_product_of : DefOk K mg mc prog "product_of" 11 ["matrices"] f155 _ := defOk_mk N_product_of D_product_of 60 (fun_mk (st := s_product_of) h166 h167 h168) (PySem.W.mg_of X G h165) rfl ok_product_of
  have D_led : DefOk K mg mc prog "led" 12 ["matrix", "vector"] f169 _ := defOk_mk N_led D_led 60 (fun_mk (st := s_led) h180 h181 h182) (PySem.W.mg_of X G h179) rfl ok_led
  have D_order : DefOk K mg mc prog "order" 13 ["matrix"] f183 _ := defOk_mk N_order D_order 60 (fun_mk (st := s_order) h194 h195 h196) (PySem.W.mg_of X G h193) rfl ok_order
  have D_is_moves_of : DefOk K mg mc prog "is_moves_of" 14 ["value"] f197 _ := defOk_mk N_is_moves_of D_is_moves_of 60 (fun_mk (st := s_is_moves_of) h208 h209 h210) (PySem.W.mg_of X G h207) rfl ok_is_moves_of
  have D_check_moves : DefOk K mg mc prog "check_moves" 15 ["value"] f211 _ := defOk_mk N_check_moves D_check_moves 60 (fun_mk (st := s_check_moves) h222 h223 h224) (PySem.W.mg_of X G h221) rfl ok_check_moves
  have D_matrix_by : DefOk K mg mc prog "matrix_by" 16 ["moves"] f225 _ := defOk_mk N_matrix_by D_matrix_by 60 (fun_mk (st := s_matrix_by) h236 h237 h238) (PySem.W.mg_of X G h235) rfl ok_matrix_by
  have D_turned_moves_by : DefOk K mg mc prog "turned_moves_by" 17 ["moves"] f239 _ := defOk_mk N_turned_moves_by D_turned_moves_by 60 (fun_mk (st := s_turned_moves_by) h250 h251 h252) (PySem.W.mg_of X G h249) rfl ok_turned_moves_by
  have D_matrix_of : DefOk K mg mc prog "matrix_of" 18 ["moves"] f253 _ := defOk_mk N_matrix_of D_matrix_of 60 (fun_mk (st := s_matrix_of) h264 h265 h266) (PySem.W.mg_of X G h263) rfl ok_matrix_of
  have D_turned_moves : DefOk K mg mc prog "turned_moves" 19 ["moves"] f267 _ := defOk_mk N_turned_moves D_turned_moves 60 (fun_mk (st := s_turned_moves) h278 h279 h280) (PySem.W.mg_of X G h277) rfl ok_turned_moves
  have D__law_pot : DefOk K mg mc prog "_law_pot" 20 ["script", "k"] f281 _ := defOk_mk N__law_pot D__law_pot 60 (fun_mk (st := s__law_pot) h292 h293 h294) (PySem.W.mg_of X G h291) rfl ok__law_pot
  have D__law_draw : DefOk K mg mc prog "_law_draw" 21 ["pot", "many"] f295 _ := defOk_mk N__law_draw D__law_draw 60 (fun_mk (st := s__law_draw) h306 h307 h308) (PySem.W.mg_of X G h305) rfl ok__law_draw
  have D__law_pick : DefOk K mg mc prog "_law_pick" 22 ["pot", "some"] f309 _ := defOk_mk N__law_pick D__law_pick 60 (fun_mk (st := s__law_pick) h320 h321 h322) (PySem.W.mg_of X G h319) rfl ok__law_pick
  have D__law_matrix : DefOk K mg mc prog "_law_matrix" 23 ["moves"] f323 _ := defOk_mk N__law_matrix D__law_matrix 60 (fun_mk (st := s__law_matrix) h334 h335 h336) (PySem.W.mg_of X G h333) rfl ok__law_matrix
  have D__law_product : DefOk K mg mc prog "_law_product" 24 ["one", "late"] f337 _ := defOk_mk N__law_product D__law_product 60 (fun_mk (st := s__law_product) h348 h349 h350) (PySem.W.mg_of X G h347) rfl ok__law_product
  have D__law_order : DefOk K mg mc prog "_law_order" 25 ["matrix"] f351 _ := defOk_mk N__law_order D__law_order 60 (fun_mk (st := s__law_order) h362 h363 h364) (PySem.W.mg_of X G h361) rfl ok__law_order
  have D__law_word : DefOk K mg mc prog "_law_word" 26 ["pot", "most"] f365 _ := defOk_mk N__law_word D__law_word 60 (fun_mk (st := s__law_word) h376 h377 h378) (PySem.W.mg_of X G h375) rfl ok__law_word
  have D__law_right : DefOk K mg mc prog "_law_right" 27 ["pot"] f379 _ := defOk_mk N__law_right D__law_right 60 (fun_mk (st := s__law_right) h390 h391 h392) (PySem.W.mg_of X G h389) rfl ok__law_right
  have D_law : DefOk K mg mc prog "law" 28 ["script"] f393 _ := defOk_mk N_law D_law 60 (fun_mk (st := s_law) h404 h405 h406) (PySem.W.mg_of X G h403) rfl ok_law
  have hd : ∀ x n ps, mc.fn x = some (n, ps) → ∃ f fd, DefOk K mg mc prog x n ps f fd := fun x n ps h => look_ex (L := fnL) (Q := fun x v => ∃ f fd, DefOk K mg mc prog x v.1 v.2 f fd) (.of (.cons ⟨_, _, D_is_integer⟩ (.cons ⟨_, _, D_is_list⟩ (.cons ⟨_, _, D_is_matrix⟩ (.cons ⟨_, _, D_is_small_matrix⟩ (.cons ⟨_, _, D_check_matrix⟩ (.cons ⟨_, _, D_check_vector⟩ (.cons ⟨_, _, D_product_by⟩ (.cons ⟨_, _, D_inverse_by⟩ (.cons ⟨_, _, D_led_by_matrix⟩ (.cons ⟨_, _, D_product⟩ (.cons ⟨_, _, D_inverse⟩ (.cons ⟨_, _, D_product_of⟩ (.cons ⟨_, _, D_led⟩ (.cons ⟨_, _, D_order⟩ (.cons ⟨_, _, D_is_moves_of⟩ (.cons ⟨_, _, D_check_moves⟩ (.cons ⟨_, _, D_matrix_by⟩ (.cons ⟨_, _, D_turned_moves_by⟩ (.cons ⟨_, _, D_matrix_of⟩ (.cons ⟨_, _, D_turned_moves⟩ (.cons ⟨_, _, D__law_pot⟩ (.cons ⟨_, _, D__law_draw⟩ (.cons ⟨_, _, D__law_pick⟩ (.cons ⟨_, _, D__law_matrix⟩ (.cons ⟨_, _, D__law_product⟩ (.cons ⟨_, _, D__law_order⟩ (.cons ⟨_, _, D__law_word⟩ (.cons ⟨_, _, D__law_right⟩ (.cons ⟨_, _, D_law⟩ .nil)))))))))))))))))))))))))))))) h
  have hc : ∀ x v, mc.cn x = some v → ∃ u y, mg x = some u ∧ RelV y u ∧ ∀ G, Rep (M K) G v y := fun x v h => look_ex (L := cnL) (Q := fun x v => ∃ u y, mg x = some u ∧ RelV y u ∧ ∀ G, Rep (M K) G v y) (.of (.cons ⟨_, (.int 1000000000000000000000000000000), PySem.W.mg_of X G h408, rv_int, fun _ => .int _⟩ (.cons ⟨_, (.ref a409), PySem.W.mg_of X G h418, rv_ref, fun G => .tup (.inr ⟨_, _, _, h417, rfl, rfl, (show (4 : Nat) ≤ sizeLine from by decide), (.cons rv_int (.cons rv_int (.cons rv_int (.cons rv_int .nil))))⟩) (.cons ((fun _ => .int _) G) (.cons ((fun _ => .int _) G) (.cons ((fun _ => .int _) G) (.cons ((fun _ => .int _) G) .nil))))⟩ (.cons ⟨_, (.int 40), PySem.W.mg_of X G h420, rv_int, fun _ => .int _⟩ (.cons ⟨_, (.int 6), PySem.W.mg_of X G h422, rv_int, fun _ => .int _⟩ (.cons ⟨_, (.int 400), PySem.W.mg_of X G h424, rv_int, fun _ => .int _⟩ .nil)))))) h
  have hk : ∀ x d, mc.kd x = some d → ∃ p, mg x = some (.ref p) ∧ KdOk (M K) K w p d := fun x d h => look_ex (L := kdL) (Q := fun x d => ∃ p, mg x = some (.ref p) ∧ KdOk (M K) K w p d) (.of (.cons ⟨_, PySem.W.mg_of X G h428, _, _, ⟨h429, h430, h431⟩, look_all (AllL.of (.cons ⟨_, (.ref a432), h441, rv_ref, fun G => .tup (.inr ⟨_, _, _, h440, rfl, rfl, (show (4 : Nat) ≤ sizeLine from by decide), (.cons rv_int (.cons rv_int (.cons rv_int (.cons rv_int .nil))))⟩) (.cons ((fun _ => .int _) G) (.cons ((fun _ => .int _) G) (.cons ((fun _ => .int _) G) (.cons ((fun _ => .int _) G) .nil))))⟩ (.cons ⟨_, (.ref a442), h451, rv_ref, fun G => .tup (.inr ⟨_, _, _, h450, rfl, rfl, (show (4 : Nat) ≤ sizeLine from by decide), (.cons rv_int (.cons rv_int (.cons rv_int (.cons rv_int .nil))))⟩) (.cons ((fun _ => .int _) G) (.cons ((fun _ => .int _) G) (.cons ((fun _ => .int _) G) (.cons ((fun _ => .int _) G) .nil))))⟩ (.cons ⟨_, (.ref a452), h461, rv_ref, fun G => .tup (.inr ⟨_, _, _, h460, rfl, rfl, (show (4 : Nat) ≤ sizeLine from by decide), (.cons rv_int (.cons rv_int (.cons rv_int (.cons rv_int .nil))))⟩) (.cons ((fun _ => .int _) G) (.cons ((fun _ => .int _) G) (.cons ((fun _ => .int _) G) (.cons ((fun _ => .int _) G) .nil))))⟩ (.cons ⟨_, (.ref a462), h471, rv_ref, fun G => .tup (.inr ⟨_, _, _, h470, rfl, rfl, (show (4 : Nat) ≤ sizeLine from by decide), (.cons rv_int (.cons rv_int (.cons rv_int (.cons rv_int .nil))))⟩) (.cons ((fun _ => .int _) G) (.cons ((fun _ => .int _) G) (.cons ((fun _ => .int _) G) (.cons ((fun _ => .int _) G) .nil))))⟩ (.cons ⟨_, (.ref a472), h481, rv_ref, fun G => .tup (.inr ⟨_, _, _, h480, rfl, rfl, (show (4 : Nat) ≤ sizeLine from by decide), (.cons rv_int (.cons rv_int (.cons rv_int (.cons rv_int .nil))))⟩) (.cons ((fun _ => .int _) G) (.cons ((fun _ => .int _) G) (.cons ((fun _ => .int _) G) (.cons ((fun _ => .int _) G) .nil))))⟩ (.cons ⟨_, (.ref a482), h491, rv_ref, fun G => .tup (.inr ⟨_, _, _, h490, rfl, rfl, (show (4 : Nat) ≤ sizeLine from by decide), (.cons rv_int (.cons rv_int (.cons rv_int (.cons rv_int .nil))))⟩) (.cons ((fun _ => .int _) G) (.cons ((fun _ => .int _) G) (.cons ((fun _ => .int _) G) (.cons ((fun _ => .int _) G) .nil))))⟩ .nil)))))))⟩ (.cons ⟨_, PySem.W.mg_of X G h495, _, _, ⟨h496, h497, h498⟩, look_all (AllL.of (.cons ⟨_, (.str ⟨#[84]⟩), h500, rv_str, fun _ => .str _⟩ (.cons ⟨_, (.str ⟨#[116]⟩), h502, rv_str, fun _ => .str _⟩ (.cons ⟨_, (.str ⟨#[86]⟩), h504, rv_str, fun _ => .str _⟩ (.cons ⟨_, (.str ⟨#[118]⟩), h506, rv_str, fun _ => .str _⟩ (.cons ⟨_, (.str ⟨#[74]⟩), h508, rv_str, fun _ => .str _⟩ (.cons ⟨_, (.str ⟨#[106]⟩), h510, rv_str, fun _ => .str _⟩ .nil)))))))⟩ .nil))) h
  have hb : ∀ x, mc.bl x = true → mg x = none := fun x h => mem_all (L := blL) (P := fun x => mg x = none) (.of (.cons (PySem.W.mg_none_of X G h511) (.cons (PySem.W.mg_none_of X G h512) (.cons (PySem.W.mg_none_of X G h513) (.cons (PySem.W.mg_none_of X G h514) (.cons (PySem.W.mg_none_of X G h515) (.cons (PySem.W.mg_none_of X G h516) (.cons (PySem.W.mg_none_of X G h517) (.cons (PySem.W.mg_none_of X G h518) (.cons (PySem.W.mg_none_of X G h519) (.cons (PySem.W.mg_none_of X G h520) (.cons (PySem.W.mg_none_of X G h521) (.cons (PySem.W.mg_none_of X G h522) (.cons (PySem.W.mg_none_of X G h523) (.cons (PySem.W.mg_none_of X G h524) .nil))))))))))))))) h
  have e := hfa.symm.trans D_law.mgx
  cases e
  exact ⟨_, fun s v => .of_eq rfl, fun base _ _ => fns (M := M K) (ex := exs) hc hb hk hd 7 "law" 28 ["script"] rfl _ _ D_law⟩
end Pk38
namespace Pk38
open Sq
structure Mt where
  a : Int
  b : Int
  c : Int
  d : Int
  deriving DecidableEq
def pv (m : Mt) : PV := .tup [.int m.a, .int m.b, .int m.c, .int m.d]
def mul (x y : Mt) : Mt := ⟨x.a * y.a + x.b * y.c, x.a * y.b + x.b * y.d, x.c * y.a + x.d * y.c, x.c * y.b + x.d * y.d⟩
def inv (x : Mt) : Mt := ⟨x.d, -x.b, -x.c, x.a⟩
def one : Mt := ⟨1, 0, 0, 1⟩
def det (x : Mt) : Int := x.a * x.d - x.b * x.c
structure Bd (n : Nat) (x : Mt) : Prop where
  a : x.a.natAbs ≤ 2 ^ n
  b : x.b.natAbs ≤ 2 ^ n
  c : x.c.natAbs ≤ 2 ^ n
  d : x.d.natAbs ≤ 2 ^ n
theorem dot_bd {p q r s : Int} {n k : Nat} (hp : p.natAbs ≤ 2 ^ n) (hq : q.natAbs ≤ 2 ^ k) (hr : r.natAbs ≤ 2 ^ n) (hs : s.natAbs ≤ 2 ^ k) : (p * q + r * s).natAbs ≤ 2 ^ (n + k + 1) := by
  have h1 : (p * q).natAbs ≤ 2 ^ (n + k) := by rw [Int.natAbs_mul, Nat.pow_add]; exact Nat.mul_le_mul hp hq
  have h2 : (r * s).natAbs ≤ 2 ^ (n + k) := by rw [Int.natAbs_mul, Nat.pow_add]; exact Nat.mul_le_mul hr hs
  have h3 := Int.natAbs_add_le (p * q) (r * s)
  rw [Nat.pow_succ]; omega
theorem Bd.mul {n k : Nat} {x y : Mt} (hx : Bd n x) (hy : Bd k y) : Bd (n + k + 1) (mul x y) :=
  ⟨dot_bd hx.a hy.a hx.b hy.c, dot_bd hx.a hy.b hx.b hy.d, dot_bd hx.c hy.a hx.d hy.c, dot_bd hx.c hy.b hx.d hy.d⟩
theorem Bd.inv {n : Nat} {x : Mt} (hx : Bd n x) : Bd n (inv x) := ⟨hx.d, by show (-x.b).natAbs ≤ _; rw [Int.natAbs_neg]; exact hx.b, by show (-x.c).natAbs ≤ _; rw [Int.natAbs_neg]; exact hx.c, hx.a⟩
theorem Bd.mono {n k : Nat} {x : Mt} (hx : Bd n x) (h : n ≤ k) : Bd k x :=
  have := Nat.pow_le_pow_right (n := 2) (by decide) h
  ⟨Nat.le_trans hx.a this, Nat.le_trans hx.b this, Nat.le_trans hx.c this, Nat.le_trans hx.d this⟩
theorem det_mul (x y : Mt) : det (mul x y) = det x * det y := by unfold det mul; grind
theorem mul_inv (x : Mt) (h : det x = 1) : mul x (inv x) = one := by
  unfold det at h
  unfold mul inv one
  congr 1 <;> grind
theorem mul_assoc (x y z : Mt) : mul (mul x y) z = mul x (mul y z) := by
  unfold mul
  congr 1 <;> grind
theorem det_inv (x : Mt) : det (inv x) = det x := by unfold det inv; grind
theorem one_bd : Bd 0 one := ⟨by decide, by decide, by decide, by decide⟩
theorem mul_one (x : Mt) : mul x one = x := by unfold mul one; cases x; simp
theorem one_mul (x : Mt) : mul one x = x := by unfold mul one; cases x; simp

@[simp] theorem pv_mk (a b c d : Int) : PV.tup [.int a, .int b, .int c, .int d] = pv ⟨a, b, c, d⟩ := rfl
theorem cmp_eqM (x y : Mt) : cmpV .eq (pv x) (pv y) = some (decide (x = y)) := by
  obtain ⟨a, b, c, d⟩ := x
  obtain ⟨e, f, g, h⟩ := y
  show some (a == e && (b == f && (c == g && (d == h && true)))) = _
  congr 1
  simp [Bool.beq_eq_decide_eq, ← Bool.decide_and]
theorem cmp_neM (x y : Mt) : cmpV .ne (pv x) (pv y) = some (!decide (x = y)) := by
  have := cmp_eqM x y
  show (eqP (pv x) (pv y)).map (!·) = _
  rw [show eqP (pv x) (pv y) = some (decide (x = y)) from this]
  rfl
@[simp] theorem idx0 (S : Store) (m : Mt) : idxS S (pv m) (.int 0) = some (.int m.a) := rfl
@[simp] theorem idx1 (S : Store) (m : Mt) : idxS S (pv m) (.int 1) = some (.int m.b) := rfl
@[simp] theorem idx2 (S : Store) (m : Mt) : idxS S (pv m) (.int 2) = some (.int m.c) := rfl
@[simp] theorem idx3 (S : Store) (m : Mt) : idxS S (pv m) (.int 3) = some (.int m.d) := rfl
@[simp] theorem datM (m : Mt) : isDatum (pv m) = true := rfl
@[simp] theorem tyM (m : Mt) : isTy .tuple (pv m) = true := rfl
@[simp] theorem lenM (m : Mt) : bifV .len [pv m] = some (.int 4, .frz) := rfl
@[simp] theorem itM (m : Mt) : itemsV .plain [pv m] = some [.int m.a, .int m.b, .int m.c, .int m.d] := rfl
theorem c0 (k : Nat) (S : Store) (i : Int) : callF prog (k + 1) 0 [(.int i, .frz)] S = .ok (.bl true, .frz) S := by
  unfold callF
  simp [prog, D_is_integer, execs, execS, evalE, evalEs, evalAs, evalCs, evalO, asgG, asgGs, setS, slotOf, leaks, leak1, X.fin, R.thenX, liftO, X.andThen, pick, handOn, isBl, testR, itOf, setAll, boxed, putS, putV, asgT, asgTs, wipeE, frzAll, isLst, atI, ixN, okRecv]
theorem c2 (k : Nat) (S : Store) {x : Mt} (hx : Bd 400000 x) : callF prog (k + 2) 2 [(pv x, .frz)] S = .ok (.bl (det x == 1), .frz) S := by
  have m {i j : Int} (hi : i.natAbs ≤ 2 ^ 400000) (hj : j.natAbs ≤ 2 ^ 400000) := bin_mul (mulOk_of hi hj (by decide))
  unfold callF
  simp [prog, D_is_matrix, execs, execS, evalE, evalEs, evalAs, evalCs, evalO, asgG, asgGs, setS, slotOf, leaks, leak1, X.fin, R.thenX, liftO, X.andThen, pick, handOn, isBl, testR, itOf, setAll, boxed, putS, putV, asgT, asgTs, wipeE, frzAll, isLst, atI, ixN, okRecv, lcGo_cons, c0, LINE, blsP, m hx.a hx.d, m hx.b hx.c, det]
theorem abs_bd {i : Int} (h : i.natAbs ≤ 2 ^ 99) : (if i < 0 then -i else i) < 1000000000000000000000000000000 := by
  have : (2 : Nat) ^ 99 < 1000000000000000000000000000000 := by decide
  split <;> omega
theorem c3 (k : Nat) (S : Store) {x : Mt} (hx : Bd 99 x) (hd : det x = 1) : callF prog (k + 3) 3 [(pv x, .frz)] S = .ok (.bl true, .frz) S := by
  unfold callF
  simp [prog, D_is_small_matrix, execs, execS, evalE, evalEs, evalAs, evalCs, evalO, asgG, asgGs, setS, slotOf, leaks, leak1, X.fin, R.thenX, liftO, X.andThen, pick, handOn, isBl, testR, itOf, setAll, boxed, putS, putV, asgT, asgTs, wipeE, frzAll, isLst, atI, ixN, okRecv, lcGo_cons, c2 _ _ (hx.mono (k := 400000) (by decide)), hd, LINE, blsP, abs_bd hx.a, abs_bd hx.b, abs_bd hx.c, abs_bd hx.d]
theorem c4 (k : Nat) (S : Store) {x : Mt} (hx : Bd 99 x) (hd : det x = 1) : callF prog (k + 4) 4 [(pv x, .frz)] S = .ok (.non, .frz) S := by
  unfold callF
  simp [prog, D_check_matrix, execs, execS, evalE, evalEs, evalAs, evalCs, evalO, asgG, asgGs, setS, slotOf, leaks, leak1, X.fin, R.thenX, liftO, X.andThen, pick, handOn, isBl, testR, itOf, setAll, boxed, putS, putV, asgT, asgTs, wipeE, frzAll, isLst, atI, ixN, okRecv, c3 _ _ hx hd]
theorem c5 (k : Nat) (S : Store) (a b : Int) : callF prog (k + 2) 5 [(.tup [.int a, .int b], .frz)] S = .ok (.non, .frz) S := by
  unfold callF
  simp [prog, D_check_vector, execs, execS, evalE, evalEs, evalAs, evalCs, evalO, asgG, asgGs, setS, slotOf, leaks, leak1, X.fin, R.thenX, liftO, X.andThen, pick, handOn, isBl, testR, itOf, setAll, boxed, putS, putV, asgT, asgTs, wipeE, frzAll, isLst, atI, ixN, okRecv, lcGo_cons, c0, LINE, blsP]
theorem c6 (k : Nat) (S : Store) {x y : Mt} (hx : Bd 400000 x) (hy : Bd 400000 y) : callF prog (k + 1) 6 [(pv x, .frz), (pv y, .frz)] S = .ok (pv (mul x y), .frz) S := by
  have m {i j : Int} (hi : i.natAbs ≤ 2 ^ 400000) (hj : j.natAbs ≤ 2 ^ 400000) := bin_mul (mulOk_of hi hj (by decide))
  obtain ⟨a, b, c, d⟩ := x
  obtain ⟨e, f, g, h⟩ := y
  obtain ⟨ha, hb, hc, hd⟩ := hx
  obtain ⟨he, hf, hg, hh⟩ := hy
  unfold callF
  simp [-pv_mk, prog, D_product_by, execs, execS, evalE, evalEs, evalAs, evalCs, evalO, asgG, asgGs, setS, slotOf, leaks, leak1, X.fin, R.thenX, liftO, X.andThen, pick, handOn, isBl, testR, itOf, setAll, boxed, putS, putV, asgT, asgTs, wipeE, frzAll, isLst, atI, ixN, okRecv, pv, mul, m ha he, m hb hg, m ha hf, m hb hh, m hc he, m hd hg, m hc hf, m hd hh]
theorem c24 (k : Nat) (S : Store) {x y : Mt} (hx : Bd 400000 x) (hy : Bd 400000 y) : callF prog (k + 1) 24 [(pv x, .frz), (pv y, .frz)] S = .ok (pv (mul x y), .frz) S := by
  have m {i j : Int} (hi : i.natAbs ≤ 2 ^ 400000) (hj : j.natAbs ≤ 2 ^ 400000) := bin_mul (mulOk_of hi hj (by decide))
  obtain ⟨a, b, c, d⟩ := x
  obtain ⟨e, f, g, h⟩ := y
  obtain ⟨ha, hb, hc, hd⟩ := hx
  obtain ⟨he, hf, hg, hh⟩ := hy
  unfold callF
  simp [-pv_mk, prog, D__law_product, execs, execS, evalE, evalEs, evalAs, evalCs, evalO, asgG, asgGs, setS, slotOf, leaks, leak1, X.fin, R.thenX, liftO, X.andThen, pick, handOn, isBl, testR, itOf, setAll, boxed, putS, putV, asgT, asgTs, wipeE, frzAll, isLst, atI, ixN, okRecv, pv, mul, m ha he, m hb hg, m ha hf, m hb hh, m hc he, m hd hg, m hc hf, m hd hh]
theorem c7 (k : Nat) (S : Store) (x : Mt) : callF prog (k + 1) 7 [(pv x, .frz)] S = .ok (pv (inv x), .frz) S := by
  unfold callF
  simp [-pv_mk, prog, D_inverse_by, execs, execS, evalE, evalEs, evalAs, evalCs, evalO, asgG, asgGs, setS, slotOf, leaks, leak1, X.fin, R.thenX, liftO, X.andThen, pick, handOn, isBl, testR, itOf, setAll, boxed, putS, putV, asgT, asgTs, wipeE, frzAll, isLst, atI, ixN, okRecv, pv, inv]
theorem c8 (k : Nat) (S : Store) {x : Mt} {p q : Int} (hx : Bd 400000 x) (hp : p.natAbs ≤ 2 ^ 400000) (hq : q.natAbs ≤ 2 ^ 400000) : callF prog (k + 1) 8 [(pv x, .frz), (.tup [.int p, .int q], .frz)] S = .ok (.tup [.int (x.a * p + x.b * q), .int (x.c * p + x.d * q)], .frz) S := by
  have m {i j : Int} (hi : i.natAbs ≤ 2 ^ 400000) (hj : j.natAbs ≤ 2 ^ 400000) := bin_mul (mulOk_of hi hj (by decide))
  obtain ⟨a, b, c, d⟩ := x
  obtain ⟨ha, hb, hc, hd⟩ := hx
  unfold callF
  simp [-pv_mk, prog, D_led_by_matrix, execs, execS, evalE, evalEs, evalAs, evalCs, evalO, asgG, asgGs, setS, slotOf, leaks, leak1, X.fin, R.thenX, liftO, X.andThen, pick, handOn, isBl, testR, itOf, setAll, boxed, putS, putV, asgT, asgTs, wipeE, frzAll, isLst, atI, ixN, okRecv, pv, m ha hp, m hb hq, m hc hp, m hd hq]
theorem c9 (k : Nat) (S : Store) {x y : Mt} (hx : Bd 99 x) (hd : det x = 1) (hy : Bd 99 y) (hd2 : det y = 1) : callF prog (k + 5) 9 [(pv x, .frz), (pv y, .frz)] S = .ok (pv (mul x y), .frz) S := by
  unfold callF
  simp [prog, D_product, execs, execS, evalE, evalEs, evalAs, evalCs, evalO, asgG, asgGs, setS, slotOf, leaks, leak1, X.fin, R.thenX, liftO, X.andThen, pick, handOn, isBl, testR, itOf, setAll, boxed, putS, putV, asgT, asgTs, wipeE, frzAll, isLst, atI, ixN, okRecv, c4 _ _ hx hd, c4 _ _ hy hd2, c6 _ _ (hx.mono (k := 400000) (by decide)) (hy.mono (k := 400000) (by decide))]
theorem c10 (k : Nat) (S : Store) {x : Mt} (hx : Bd 99 x) (hd : det x = 1) : callF prog (k + 5) 10 [(pv x, .frz)] S = .ok (pv (inv x), .frz) S := by
  unfold callF
  simp [prog, D_inverse, execs, execS, evalE, evalEs, evalAs, evalCs, evalO, asgG, asgGs, setS, slotOf, leaks, leak1, X.fin, R.thenX, liftO, X.andThen, pick, handOn, isBl, testR, itOf, setAll, boxed, putS, putV, asgT, asgTs, wipeE, frzAll, isLst, atI, ixN, okRecv, c4 _ _ hx hd, c7]
theorem c12 (k : Nat) (S : Store) {x : Mt} {p q : Int} (hx : Bd 99 x) (hd : det x = 1) (hp : p.natAbs ≤ 2 ^ 400000) (hq : q.natAbs ≤ 2 ^ 400000) : callF prog (k + 5) 12 [(pv x, .frz), (.tup [.int p, .int q], .frz)] S = .ok (.tup [.int (x.a * p + x.b * q), .int (x.c * p + x.d * q)], .frz) S := by
  unfold callF
  simp [prog, D_led, execs, execS, evalE, evalEs, evalAs, evalCs, evalO, asgG, asgGs, setS, slotOf, leaks, leak1, X.fin, R.thenX, liftO, X.andThen, pick, handOn, isBl, testR, itOf, setAll, boxed, putS, putV, asgT, asgTs, wipeE, frzAll, isLst, atI, ixN, okRecv, c4 _ _ hx hd, c5, c8 _ _ (hx.mono (k := 400000) (by decide)) hp hq]
theorem c1 (k : Nat) (S : Store) (xs : List PV) (fl : Fl) (hf : fl ≠ .own) : callF prog (k + 1) 1 [(.lst xs, fl)] S = .ok (.bl true, .frz) S := by
  unfold callF
  cases fl <;> first | exact absurd rfl hf | simp [prog, D_is_list, execs, execS, evalE, evalEs, evalAs, evalCs, evalO, asgG, asgGs, setS, slotOf, leaks, leak1, X.fin, R.thenX, liftO, X.andThen, pick, handOn, isBl, testR, itOf, setAll, boxed, putS, putV, asgT, asgTs, wipeE, frzAll, isLst, atI, ixN, okRecv]
theorem c1t (k : Nat) (S : Store) (xs : List PV) : callF prog (k + 1) 1 [(.tup xs, .frz)] S = .ok (.bl true, .frz) S := by
  unfold callF
  simp [prog, D_is_list, execs, execS, evalE, evalEs, evalAs, evalCs, evalO, asgG, asgGs, setS, slotOf, leaks, leak1, X.fin, R.thenX, liftO, X.andThen, pick, handOn, isBl, testR, itOf, setAll, boxed, putS, putV, asgT, asgTs, wipeE, frzAll, isLst, atI, ixN, okRecv]

/-! ### order -/
def ordL (m : Mt) : List Int → Mt → Option Int
  | [], _ => none
  | i :: xs, f => if f = one then some i else ordL m xs (mul m f)
def ordP (m : Mt) : PV := match ordL m [1, 2, 3, 4, 5, 6] m with
  | some i => .int i
  | none => .non
theorem one_pv : pv one = pv ⟨1, 0, 0, 1⟩ := rfl
theorem ord_loop {b : Env → Store → X} {m : Mt} {N : Nat} (hb : ∀ (i : Int) (f : Mt) (S : Store), Bd N f → b [some (pv m, .frz), some (pv f, .frz), some (.int i, .frz)] S = if f = one then .rt (.int i, .frz) S else .nx [some (pv m, .frz), some (pv (mul m f), .frz), some (.int i, .frz)] S)
    {n0 : Nat} (hm : Bd n0 m) : ∀ (xs : List Int) (f : Mt) (s2 : Slot) (S : Store) (n : Nat), Bd n f → n + xs.length * (n0 + 1) ≤ N →
    ((forL (.nm 2) b (xs.map .int) [some (pv m, .frz), some (pv f, .frz), s2] S).andThen fun σ st => X.rt (.non, .frz) st) = .rt ((match ordL m xs f with | some i => .int i | none => .non), .frz) S
  | [], f, s2, S, n, hf, hn => rfl
  | i :: xs, f, s2, S, n, hf, hn => by
    rw [List.length_cons, Nat.add_mul, Nat.one_mul] at hn
    rw [List.map_cons]
    unfold forL asgT
    simp only [List.length_cons, List.length_nil]
    rw [if_pos (by omega)]
    dsimp only
    rw [show ([some (pv m, Fl.frz), some (pv f, Fl.frz), s2] : Env).set 2 (some (PV.int i, Fl.frz)) = [some (pv m, Fl.frz), some (pv f, Fl.frz), some (PV.int i, Fl.frz)] from rfl]
    rw [hb i f S (hf.mono (by omega))]
    unfold ordL
    by_cases e : f = one
    · rw [if_pos e, if_pos e]
      rfl
    · rw [if_neg e, if_neg e, X.andThen_nx]
      exact ord_loop hb hm xs (mul m f) _ S (n0 + n + 1) (hm.mul hf) (by omega)
theorem c13 (k : Nat) (S : Store) {x : Mt} (hx : Bd 99 x) (hd : det x = 1) : callF prog (k + 5) 13 [(pv x, .frz)] S = .ok (ordP x, .frz) S := by
  have L := @ord_loop (fun σ st => execs (callF prog (k + 4)) [.iff (.cmp .eq (.bor 1) (.cst (.tup [(.int 1), (.int 0), (.int 0), (.int 1)]))) [.retm 2] [], .asg (.nm 1) (.cal 6 [.bor 0, .bor 1] [0, 1])] σ st) x 10000
    (fun i f S hf => by
      simp only [pv_mk, ← show one = ⟨1, 0, 0, 1⟩ from rfl]
      by_cases e : f = one <;> simp [execs, execS, evalE, evalEs, evalAs, evalCs, evalO, asgG, asgGs, setS, slotOf, leaks, leak1, X.fin, R.thenX, liftO, X.andThen, pick, handOn, isBl, testR, itOf, setAll, boxed, putS, putV, asgT, asgTs, wipeE, frzAll, isLst, atI, ixN, okRecv, cmp_eqM, e, c6 _ _ (hx.mono (k := 400000) (by decide)) (hf.mono (k := 400000) (by decide))])
    99 hx [1, 2, 3, 4, 5, 6] x none S 99 hx (by decide)
  have hr' : itemsV .range2 [.int 1, .int (6 + 1)] = some ([1, 2, 3, 4, 5, 6].map .int) := rfl
  refine call_rt rfl rfl ?_
  show execs _ D_order.body [some (pv x, .frz), none, none] S = _
  refine (run1 [some (pv x, .frz), none, none] S (by simp [execs, execS, evalE, evalEs, evalAs, evalCs, evalO, asgG, asgGs, setS, slotOf, leaks, leak1, X.fin, R.thenX, liftO, X.andThen, pick, handOn, isBl, testR, itOf, setAll, boxed, putS, putV, asgT, asgTs, wipeE, frzAll, isLst, atI, ixN, okRecv, c4 _ _ hx hd])).trans ?_
  refine (run1 [some (pv x, .frz), some (pv x, .frz), none] S (by simp [execs, execS, evalE, evalEs, evalAs, evalCs, evalO, asgG, asgGs, setS, slotOf, leaks, leak1, X.fin, R.thenX, liftO, X.andThen, pick, handOn, isBl, testR, itOf, setAll, boxed, putS, putV, asgT, asgTs, wipeE, frzAll, isLst, atI, ixN, okRecv])).trans ?_
  show (execS _ _ _ _).andThen _ = _
  rw [fr_eq (xs := [1, 2, 3, 4, 5, 6].map .int) (st' := S) (by simp [execs, execS, evalE, evalEs, evalAs, evalCs, evalO, asgG, asgGs, setS, slotOf, leaks, leak1, X.fin, R.thenX, liftO, X.andThen, pick, handOn, isBl, testR, itOf, setAll, boxed, putS, putV, asgT, asgTs, wipeE, frzAll, isLst, atI, ixN, okRecv, it_range2, hr', rangeL]; rfl)]
  exact L
theorem c25 (k : Nat) (S : Store) {x : Mt} (hx : Bd 99 x) : callF prog (k + 2) 25 [(pv x, .frz)] S = .ok (ordP x, .frz) S := by
  have L := @ord_loop (fun σ st => execs (callF prog (k + 1)) [.iff (.cmp .eq (.bor 1) (.tup [.cst (.int 1), .cst (.int 0), .cst (.int 0), .cst (.int 1)])) [.retm 2] [], .asg (.nm 1) (.cal 24 [.bor 0, .bor 1] [0, 1])] σ st) x 10000
    (fun i f S hf => by
      by_cases e : f = one <;> simp [execs, execS, evalE, evalEs, evalAs, evalCs, evalO, asgG, asgGs, setS, slotOf, leaks, leak1, X.fin, R.thenX, liftO, X.andThen, pick, handOn, isBl, testR, itOf, setAll, boxed, putS, putV, asgT, asgTs, wipeE, frzAll, isLst, atI, ixN, okRecv, ← show one = ⟨1, 0, 0, 1⟩ from rfl, cmp_eqM, e, c24 _ _ (hx.mono (k := 400000) (by decide)) (hf.mono (k := 400000) (by decide))])
    99 hx [1, 2, 3, 4, 5, 6] x none S 99 hx (by decide)
  have hr' : itemsV .range2 [.int 1, .int 7] = some ([1, 2, 3, 4, 5, 6].map .int) := rfl
  refine call_rt rfl rfl ?_
  show execs _ D__law_order.body [some (pv x, .frz), none, none] S = _
  refine (run1 [some (pv x, .frz), some (pv x, .frz), none] S (by simp [execs, execS, evalE, evalEs, evalAs, evalCs, evalO, asgG, asgGs, setS, slotOf, leaks, leak1, X.fin, R.thenX, liftO, X.andThen, pick, handOn, isBl, testR, itOf, setAll, boxed, putS, putV, asgT, asgTs, wipeE, frzAll, isLst, atI, ixN, okRecv])).trans ?_
  show (execS _ _ _ _).andThen _ = _
  rw [fr_eq (xs := [1, 2, 3, 4, 5, 6].map .int) (st' := S) (by simp [execs, execS, evalE, evalEs, evalAs, evalCs, evalO, asgG, asgGs, setS, slotOf, leaks, leak1, X.fin, R.thenX, liftO, X.andThen, pick, handOn, isBl, testR, itOf, setAll, boxed, putS, putV, asgT, asgTs, wipeE, frzAll, isLst, atI, ixN, okRecv, hr'])]
  exact L
/-! ### words -/
def ml (c : Nat) : Mt := if c = 116 then ⟨1, 1, 0, 1⟩ else if c = 84 then ⟨1, -1, 0, 1⟩ else if c = 118 then ⟨1, 0, 1, 1⟩ else if c = 86 then ⟨1, 0, -1, 1⟩ else if c = 106 then ⟨0, -1, 1, 0⟩ else ⟨0, 1, -1, 0⟩
def tl (c : Nat) : Nat := if c = 116 then 84 else if c = 84 then 116 else if c = 118 then 86 else if c = 86 then 118 else if c = 106 then 74 else 106
def isL (c : Nat) : Prop := c = 116 ∨ c = 84 ∨ c = 118 ∨ c = 86 ∨ c = 106 ∨ c = 74
def Wd (w : List Nat) : Prop := ∀ c ∈ w, isL c
def foldW (m : Mt) (w : List Nat) : Mt := w.foldl (fun m c => mul (ml c) m) m
def matW (w : List Nat) : Mt := foldW one w
theorem ml_bd {c : Nat} (h : isL c) : Bd 0 (ml c) := by
  rcases h with h | h | h | h | h | h <;> subst h <;> exact ⟨by decide, by decide, by decide, by decide⟩
theorem ml_det {c : Nat} (h : isL c) : det (ml c) = 1 := by
  rcases h with h | h | h | h | h | h <;> subst h <;> decide
theorem foldW_bd : ∀ {w : List Nat} {m : Mt} {n : Nat}, Wd w → Bd n m → Bd (n + w.length) (foldW m w)
  | [], m, n, _, h => h
  | c :: w, m, n, hw, h => by
    have h1 := (ml_bd (hw c List.mem_cons_self)).mul h
    have := foldW_bd (w := w) (fun d hd => hw d (List.mem_cons_of_mem _ hd)) h1
    show Bd _ (foldW (mul (ml c) m) w)
    exact this.mono (by rw [List.length_cons]; omega)
theorem foldW_det : ∀ {w : List Nat} {m : Mt}, Wd w → det m = 1 → det (foldW m w) = 1
  | [], m, _, h => h
  | c :: w, m, hw, h => foldW_det (w := w) (m := mul (ml c) m) (fun d hd => hw d (List.mem_cons_of_mem _ hd)) (by rw [det_mul, ml_det (hw c List.mem_cons_self), h]; rfl)
theorem foldW_mul : ∀ {w : List Nat} {m : Mt}, foldW m w = mul (matW w) m
  | [], m => (one_mul m).symm
  | c :: w, m => by
    show foldW (mul (ml c) m) w = mul (foldW (mul (ml c) one) w) m
    rw [foldW_mul, foldW_mul, mul_one, mul_assoc]
theorem matW_app (u w : List Nat) : matW (u ++ w) = mul (matW w) (matW u) := by
  show foldW one (u ++ w) = _
  unfold foldW
  rw [List.foldl_append]
  exact foldW_mul
theorem tl_is {c : Nat} (h : isL c) : isL (tl c) := by
  rcases h with h | h | h | h | h | h <;> subst h <;> simp [isL, tl]
theorem ml_tl {c : Nat} (h : isL c) : ml (tl c) = inv (ml c) := by
  rcases h with h | h | h | h | h | h <;> subst h <;> decide
theorem inv_mul (x y : Mt) : inv (mul x y) = mul (inv y) (inv x) := by
  unfold inv mul
  congr 1 <;> grind
theorem inv_one : inv one = one := by decide
def tw (w : List Nat) : List Nat := w.reverse.map tl
theorem matW_tw : ∀ {w : List Nat}, Wd w → matW (tw w) = inv (matW w)
  | [], _ => inv_one.symm
  | c :: w, h => by
    have e : tw (c :: w) = tw w ++ [tl c] := by unfold tw; rw [List.reverse_cons, List.map_append]; rfl
    rw [e, matW_app, matW_tw fun d hd => h d (List.mem_cons_of_mem _ hd)]
    have e2 : matW (c :: w) = mul (matW w) (ml c) := by
      show foldW (mul (ml c) one) w = _
      rw [foldW_mul, mul_one]
    have e3 : matW [tl c] = ml (tl c) := by show mul (ml (tl c)) one = _; rw [mul_one]
    rw [e2, inv_mul, e3, ml_tl (h c List.mem_cons_self)]
def wv (w : List Nat) : PV := .str ⟨w.toArray⟩
def ch (c : Nat) : PV := .str ⟨#[c]⟩
@[simp] theorem it_wv (w : List Nat) : itemsV .plain [wv w] = some (w.map ch) := by
  show some ((w.toArray).toList.map fun c => PV.str ⟨#[c]⟩) = _
  simp [ch]
theorem str_len (w : List Nat) : (⟨w.toArray⟩ : PySem.Str).length = w.length := by show w.toArray.size = _; simp
theorem kix_m (cal : Calls) (σ : Env) (S : Store) (i : Nat) {c : Nat} (hc : isL c) (h : σ[i]? = some (some (ch c, .frz))) : evalE cal (.kix kd_MATRICES (.bor i)) σ S = .ok (pv (ml c), .frz) S := by
  rcases hc with e | e | e | e | e | e <;> subst e <;> simp [execs, execS, evalE, evalEs, evalAs, evalCs, evalO, asgG, asgGs, setS, slotOf, leaks, leak1, X.fin, R.thenX, liftO, X.andThen, pick, handOn, isBl, testR, itOf, setAll, boxed, putS, putV, asgT, asgTs, wipeE, frzAll, isLst, atI, ixN, okRecv, h, ch, kd_MATRICES, lookS, ml]
theorem kin_m (cal : Calls) (σ : Env) (S : Store) (i : Nat) {c : Nat} (hc : isL c) (h : σ[i]? = some (some (ch c, .frz))) : evalE cal (.kin kd_MATRICES (.bor i)) σ S = .ok (.bl true, .frz) S := by
  rcases hc with e | e | e | e | e | e <;> subst e <;> simp [execs, execS, evalE, evalEs, evalAs, evalCs, evalO, asgG, asgGs, setS, slotOf, leaks, leak1, X.fin, R.thenX, liftO, X.andThen, pick, handOn, isBl, testR, itOf, setAll, boxed, putS, putV, asgT, asgTs, wipeE, frzAll, isLst, atI, ixN, okRecv, h, ch, kd_MATRICES, lookS]
theorem kix_t (cal : Calls) (σ : Env) (S : Store) (i : Nat) {c : Nat} (hc : isL c) (h : σ[i]? = some (some (ch c, .frz))) : evalE cal (.kix kd_TURNED (.bor i)) σ S = .ok (ch (tl c), .frz) S := by
  rcases hc with e | e | e | e | e | e <;> subst e <;> simp [execs, execS, evalE, evalEs, evalAs, evalCs, evalO, asgG, asgGs, setS, slotOf, leaks, leak1, X.fin, R.thenX, liftO, X.andThen, pick, handOn, isBl, testR, itOf, setAll, boxed, putS, putV, asgT, asgTs, wipeE, frzAll, isLst, atI, ixN, okRecv, h, ch, kd_TURNED, lookS, tl]
theorem c14 (k : Nat) (S : Store) {w : List Nat} (hw : Wd w) (hl : w.length ≤ 400) : callF prog (k + 1) 14 [(wv w, .frz)] S = .ok (.bl true, .frz) S := by
  have h1 : bifV .len [wv w] = some (.int w.length, .frz) := by
    have := bif_lenS (x := ⟨w.toArray⟩) (by rw [str_len]; exact Nat.le_trans hl (by decide))
    rw [str_len] at this
    exact this
  have L := lcGo_map (S := S) (f := lcF (callF prog k) (.nm 1) [1] [] (.kin kd_MATRICES (.bor 1)) [some (wv w, .frz), none]) (fun _ => .bl true) (xs := w.map ch) (acc := []) (fun x hx => by
    obtain ⟨c, hc, rfl⟩ := List.mem_map.mp hx
    exact lcF_ok rfl (kin_m _ _ _ 1 (hw c hc) rfl) (fun z => nomatch z))
  refine call_rt rfl rfl (ret_run ?_ (fun z => nomatch z))
  refine (ev_and_t (S1 := S) (fl := .frz) rfl).trans ((ev_and_t (S1 := S) (fl := .frz) (by simp [execs, execS, evalE, evalEs, evalAs, evalCs, evalO, asgG, asgGs, setS, slotOf, leaks, leak1, X.fin, R.thenX, liftO, X.andThen, pick, handOn, isBl, testR, itOf, setAll, boxed, putS, putV, asgT, asgTs, wipeE, frzAll, isLst, atI, ixN, okRecv, h1]; omega)).trans ?_)
  refine ev_bif (evs_one (lc_eq (xs := w.map ch) (S1 := S) (by simp [execs, execS, evalE, evalEs, evalAs, evalCs, evalO, asgG, asgGs, setS, slotOf, leaks, leak1, X.fin, R.thenX, liftO, X.andThen, pick, handOn, isBl, testR, itOf, setAll, boxed, putS, putV, asgT, asgTs, wipeE, frzAll, isLst, atI, ixN, okRecv]) (by rw [List.length_map]; exact Nat.le_trans hl (by decide)) L)) (all_true fun x hx => ?_)
  simp at hx
  exact hx.2.symm
theorem c15 (k : Nat) (S : Store) {w : List Nat} (hw : Wd w) (hl : w.length ≤ 400) : callF prog (k + 2) 15 [(wv w, .frz)] S = .ok (.non, .frz) S := by
  unfold callF
  simp [prog, D_check_moves, execs, execS, evalE, evalEs, evalAs, evalCs, evalO, asgG, asgGs, setS, slotOf, leaks, leak1, X.fin, R.thenX, liftO, X.andThen, pick, handOn, isBl, testR, itOf, setAll, boxed, putS, putV, asgT, asgTs, wipeE, frzAll, isLst, atI, ixN, okRecv, c14 _ _ hw hl]
theorem w_loop {b : Env → Store → X} {x : PV} {N : Nat} (hb : ∀ (c : Nat) (f : Mt) (S : Store), isL c → Bd N f → b [some (x, .frz), some (pv f, .frz), some (ch c, .frz)] S = .nx [some (x, .frz), some (pv (mul (ml c) f), .frz), some (ch c, .frz)] S) :
    ∀ (w : List Nat) (f : Mt) (s2 : Slot) (S : Store) (n : Nat), Wd w → Bd n f → n + w.length ≤ N → ∃ s2', forL (.nm 2) b (w.map ch) [some (x, .frz), some (pv f, .frz), s2] S = .nx [some (x, .frz), some (pv (foldW f w), .frz), s2'] S
  | [], f, s2, S, n, _, _, _ => ⟨s2, rfl⟩
  | c :: w, f, s2, S, n, hw, hf, hn => by
    rw [List.length_cons] at hn
    have hc := hw c List.mem_cons_self
    obtain ⟨s2', h⟩ := w_loop hb w (mul (ml c) f) (some (ch c, .frz)) S (n + 1) (fun d hd => hw d (List.mem_cons_of_mem _ hd)) (((ml_bd hc).mul hf).mono (by omega)) (by omega)
    refine ⟨s2', ?_⟩
    rw [List.map_cons]
    unfold forL
    show (b [some (x, .frz), some (pv f, .frz), some (ch c, .frz)] S).andThen _ = _
    rw [hb c f S hc (hf.mono (by omega)), X.andThen_nx]
    exact h
theorem c16 (k : Nat) (S : Store) {w : List Nat} (hw : Wd w) (hl : w.length ≤ 400) : callF prog (k + 2) 16 [(wv w, .frz)] S = .ok (pv (matW w), .frz) S := by
  obtain ⟨s2, L⟩ := @w_loop (fun σ st => execs (callF prog (k + 1)) [.asg (.nm 1) (.cal 6 [.kix kd_MATRICES (.bor 2), .bor 1] [0, 1])] σ st) (wv w) 10000 (fun c f S hc hf => by
    refine (asg_run (ev_cal (eva_cons (kix_m _ _ _ 2 hc rfl) (eva_cons (show evalE _ (.bor 1) _ S = .ok (pv f, .frz) S from rfl) rfl)) rfl |>.trans (c6 _ _ ((ml_bd hc).mono (by decide)) (hf.mono (by decide)))) rfl).trans rfl) w one none S 0 hw one_bd (by omega)
  refine call_rt rfl rfl ?_
  show execs _ D_matrix_by.body [some (wv w, .frz), none, none] S = _
  refine (run1 [some (wv w, .frz), some (pv one, .frz), none] S rfl).trans ?_
  show (execS _ _ _ _).andThen _ = _
  rw [fr_eq (xs := w.map ch) (st' := S) (by simp [execs, execS, evalE, evalEs, evalAs, evalCs, evalO, asgG, asgGs, setS, slotOf, leaks, leak1, X.fin, R.thenX, liftO, X.andThen, pick, handOn, isBl, testR, itOf, setAll, boxed, putS, putV, asgT, asgTs, wipeE, frzAll, isLst, atI, ixN, okRecv])]
  rw [L]
  rfl
theorem c18 (k : Nat) (S : Store) {w : List Nat} (hw : Wd w) (hl : w.length ≤ 400) : callF prog (k + 3) 18 [(wv w, .frz)] S = .ok (pv (matW w), .frz) S := by
  unfold callF
  simp [prog, D_matrix_of, execs, execS, evalE, evalEs, evalAs, evalCs, evalO, asgG, asgGs, setS, slotOf, leaks, leak1, X.fin, R.thenX, liftO, X.andThen, pick, handOn, isBl, testR, itOf, setAll, boxed, putS, putV, asgT, asgTs, wipeE, frzAll, isLst, atI, ixN, okRecv, c15 _ _ hw hl, c16 _ _ hw hl]
theorem strs_ch : ∀ w : List Nat, strsP (w.map ch) = some (w.map fun c => ⟨#[c]⟩)
  | [] => rfl
  | c :: w => by
    show (strsP (w.map ch)).map _ = _
    rw [strs_ch w]; rfl
theorem join_w (w : List Nat) (h : w.length ≤ LINE) : methV .join (.str ⟨#[]⟩) [.lst (w.map ch)] = some (wv w, .frz) := by
  have := join_ok (sep := ⟨#[]⟩) (strs_ch w) (by rw [joinLen_chars]; exact h)
  rw [join_chars] at this
  exact this
theorem c17 (k : Nat) (S : Store) {w : List Nat} (hw : Wd w) (hl : w.length ≤ 400) : callF prog (k + 1) 17 [(wv w, .frz)] S = .ok (wv (tw w), .frz) S := by
  have L := lcGo_map (S := S) (f := lcF (callF prog k) (.nm 1) [1] [] (.kix kd_TURNED (.bor 1)) [some (wv w, .frz), none]) (fun x => match x with | .str x => ch (tl (x.cps.toList.headD 0)) | _ => .non) (xs := w.reverse.map ch) (acc := []) (fun x hx => by
    obtain ⟨c, hc, rfl⟩ := List.mem_map.mp hx
    exact lcF_ok rfl (kix_t _ _ _ 1 (hw c (List.mem_reverse.mp hc)) rfl) (fun z => nomatch z))
  have e : ((w.reverse.map ch).map fun x => match x with | .str x => ch (tl (x.cps.toList.headD 0)) | _ => PV.non) = (tw w).map ch := by
    unfold tw
    rw [List.map_map, List.map_map]
    rfl
  rw [List.nil_append, e] at L
  have hr : revV (wv w) = some (wv w.reverse, .frz) := by
    show (if (⟨w.toArray⟩ : PySem.Str).length ≤ LINE then some (PV.str ⟨w.toArray.toList.reverse.toArray⟩, Fl.frz) else none) = _
    rw [if_pos (by rw [str_len]; exact Nat.le_trans hl (by decide))]
    rfl
  refine call_rt rfl rfl (ret_run ?_ (fun z => nomatch z))
  have ht : (tw w).length = w.length := by unfold tw; simp
  exact ev_mth (x := (.str ⟨#[]⟩, .frz)) rfl rfl (evs_one (lc_eq (xs := w.reverse.map ch) (S1 := S) (by simp [execs, execS, evalE, evalEs, evalAs, evalCs, evalO, asgG, asgGs, setS, slotOf, leaks, leak1, X.fin, R.thenX, liftO, X.andThen, pick, handOn, isBl, testR, itOf, setAll, boxed, putS, putV, asgT, asgTs, wipeE, frzAll, isLst, atI, ixN, okRecv, hr]) (by simp; exact Nat.le_trans hl (by decide)) L)) (join_w (tw w) (by rw [ht]; exact Nat.le_trans hl (by decide)))
theorem c19 (k : Nat) (S : Store) {w : List Nat} (hw : Wd w) (hl : w.length ≤ 400) : callF prog (k + 3) 19 [(wv w, .frz)] S = .ok (wv (tw w), .frz) S := by
  unfold callF
  simp [prog, D_turned_moves, execs, execS, evalE, evalEs, evalAs, evalCs, evalO, asgG, asgGs, setS, slotOf, leaks, leak1, X.fin, R.thenX, liftO, X.andThen, pick, handOn, isBl, testR, itOf, setAll, boxed, putS, putV, asgT, asgTs, wipeE, frzAll, isLst, atI, ixN, okRecv, c15 _ _ hw hl, c17 _ _ hw hl]
/-! ### draws -/
structure Pot (S : Store) (n : Nat) : Prop where
  ex : ∃ p q : Int, S[n]? = some (.lst [.int p, .int q]) ∧ 0 ≤ p ∧ 0 ≤ q ∧ q ≤ 2147483563
theorem Pot.set {S : Store} {n : Nat} (h : Pot S n) {p q : Int} (hp : 0 ≤ p) (hq : 0 ≤ q) (hq2 : q ≤ 2147483563) : Pot (S.set n (.lst [.int p, .int q])) n := by
  obtain ⟨_, _, e, _⟩ := h.ex
  obtain ⟨hl, _⟩ := List.getElem?_eq_some_iff.mp e
  exact ⟨p, q, by rw [List.getElem?_set_self hl], hp, hq, hq2⟩
theorem c21 (k : Nat) {S : Store} {n : Nat} (h : Pot S n) {m : Int} (h0 : 0 < m) (h1 : m < 1073741824) : ∃ d S', callF prog (k + 1) 21 [(.obj n, .frz), (.int m, .frz)] S = .ok (.int d, .frz) S' ∧ 0 ≤ d ∧ d < m ∧ Pot S' n := by
  obtain ⟨p, q, e, hp, hq, hq2⟩ := h.ex
  obtain ⟨hl, _⟩ := List.getElem?_eq_some_iff.mp e
  by_cases hc : 0 < p
  · refine ⟨p % m, S.set n (.lst [.int (p / m), .int q]), ?_, Int.emod_nonneg _ (by omega), Int.emod_lt_of_pos _ h0, h.set (Int.ediv_nonneg hp (by omega)) hq hq2⟩
    unfold callF
    simp [prog, D__law_draw, execs, execS, evalE, evalEs, evalAs, evalCs, evalO, asgG, asgGs, setS, slotOf, leaks, leak1, X.fin, R.thenX, liftO, X.andThen, pick, handOn, isBl, testR, itOf, setAll, boxed, putS, putV, asgT, asgTs, wipeE, frzAll, isLst, atI, ixN, okRecv, ix_obj e, hc, bif_divmod h0 h1, e]
  · have e0 : p = 0 := by omega
    subst e0
    have m1 : mulOk q 40692 = true := mulOk_of (n := 40) (k := 20) (by have : (2 : Nat) ^ 40 = 1099511627776 := by decide
                                                                       omega) (by decide) (by decide)
    generalize hq' : (q * 40692 + 11649) % 2147483563 = q'
    have b0 : 0 ≤ q' := by rw [← hq']; exact Int.emod_nonneg _ (by decide)
    have b1 : q' < 2147483563 := by rw [← hq']; exact Int.emod_lt_of_pos _ (by decide)
    have m2 : mulOk q' q' = true := mulOk_of (n := 40) (k := 40) (by have : (2 : Nat) ^ 40 = 1099511627776 := by decide
                                                                     omega) (by have : (2 : Nat) ^ 40 = 1099511627776 := by decide
                                                                                omega) (by decide)
    refine ⟨q' * q' % 2147483549 / 19 % m, S.set n (.lst [.int 0, .int q']), ?_, Int.emod_nonneg _ (by omega), Int.emod_lt_of_pos _ h0, h.set (Int.le_refl 0) b0 (by omega)⟩
    have e' : (S.set n (.lst [.int 0, .int q']))[n]? = some (.lst [.int 0, .int q']) := List.getElem?_set_self hl
    unfold callF
    simp [prog, D__law_draw, execs, execS, evalE, evalEs, evalAs, evalCs, evalO, asgG, asgGs, setS, slotOf, leaks, leak1, X.fin, R.thenX, liftO, X.andThen, pick, handOn, isBl, testR, itOf, setAll, boxed, putS, putV, asgT, asgTs, wipeE, frzAll, isLst, atI, ixN, okRecv, ix_obj e, e, bin_mul m1, bin_mod (show (0 : Int) < 2147483563 by decide), hq', ix_obj e', bin_mul m2, bin_mod (show (0 : Int) < 2147483549 by decide), bin_fdv (show (0 : Int) < 19 by decide) (by decide), bin_mod h0]
theorem c22 (k : Nat) {S : Store} {n : Nat} (h : Pot S n) {xs : List PV} (h0 : xs ≠ []) (h1 : xs.length < 1073741824) : ∃ x S', callF prog (k + 2) 22 [(.obj n, .frz), (.lst xs, .frz)] S = .ok (x, .frz) S' ∧ x ∈ xs ∧ Pot S' n := by
  have hl : 0 < xs.length := List.length_pos_iff.mpr h0
  obtain ⟨d, S', e, h2, h3, h4⟩ := c21 k h (m := xs.length) (by omega) (by omega)
  have hd : d.toNat < xs.length := by omega
  refine ⟨xs[d.toNat], S', ?_, List.getElem_mem hd, h4⟩
  unfold callF
  have hx : xs[d.toNat]? = some xs[d.toNat] := List.getElem?_eq_getElem hd
  simp [prog, D__law_pick, execs, execS, evalE, evalEs, evalAs, evalCs, evalO, asgG, asgGs, setS, slotOf, leaks, leak1, X.fin, R.thenX, liftO, X.andThen, pick, handOn, isBl, testR, itOf, setAll, boxed, putS, putV, asgT, asgTs, wipeE, frzAll, isLst, atI, ixN, okRecv, e, h2, h3, hx]
theorem c20 (k : Nat) (S : Store) (ns : List Int) (i : Int) (hi : i = 0 ∨ i = 1) : ∃ S', callF prog (k + 1) 20 [(.rol (ns.map .int), .frz), (.int i, .frz)] S = .ok (.obj S.length, .frz) S' ∧ Pot S' S.length := by
  have hc : ∃ c : Int, evalE (callF prog k) (.ite (.cmp .lt (.bor 1) (.bif .len [.bor 0])) (.bif .abs [.idx (.bor 0) (.bor 1)]) (.bin .add (.bin .mul (.cst (.int 3842)) (.bor 1)) (.cst (.int 3609)))) [some (.rol (ns.map .int), .frz), some (.int i, .frz), none] S = .ok (.int c, .frz) S := by
    have m : mulOk 3842 i = true := by rcases hi with e | e <;> subst e <;> decide
    by_cases h : i < ns.length
    · have hn : 0 ≤ i := by omega
      have hk : i.toNat < ns.length := by omega
      refine ⟨if ns[i.toNat] < 0 then -ns[i.toNat] else ns[i.toNat], ?_⟩
      have hx : ns[i.toNat]? = some ns[i.toNat] := List.getElem?_eq_getElem hk
      simp [execs, execS, evalE, evalEs, evalAs, evalCs, evalO, asgG, asgGs, setS, slotOf, leaks, leak1, X.fin, R.thenX, liftO, X.andThen, pick, handOn, isBl, testR, itOf, setAll, boxed, putS, putV, asgT, asgTs, wipeE, frzAll, isLst, atI, ixN, okRecv, h, hn, hx]
    · refine ⟨3842 * i + 3609, ?_⟩
      simp [execs, execS, evalE, evalEs, evalAs, evalCs, evalO, asgG, asgGs, setS, slotOf, leaks, leak1, X.fin, R.thenX, liftO, X.andThen, pick, handOn, isBl, testR, itOf, setAll, boxed, putS, putV, asgT, asgTs, wipeE, frzAll, isLst, atI, ixN, okRecv, h, bin_mul m]
  obtain ⟨c, hc⟩ := hc
  generalize hq : c % 2147483549 = q
  have b0 : 0 ≤ q := by rw [← hq]; exact Int.emod_nonneg _ (by decide)
  have b1 : q < 2147483549 := by rw [← hq]; exact Int.emod_lt_of_pos _ (by decide)
  have m1 : mulOk q 40014 = true := mulOk_of (n := 40) (k := 20) (by have : (2 : Nat) ^ 40 = 1099511627776 := by decide
                                                                     omega) (by decide) (by decide)
  have m2 : mulOk 3609 i = true := by rcases hi with e | e <;> subst e <;> decide
  generalize hr : (q * 40014 + 3609 * i + 99) % 2147483563 = r
  have r0 : 0 ≤ r := by rw [← hr]; exact Int.emod_nonneg _ (by decide)
  have r1 : r < 2147483563 := by rw [← hr]; exact Int.emod_lt_of_pos _ (by decide)
  generalize hp : (if c - 10 ^ 18 > 0 then c - 10 ^ 18 else 0) = p
  have p0 : 0 ≤ p := by rw [← hp]; split <;> omega
  refine ⟨S ++ [.lst [.int p, .int (r + 1)]], ?_, ⟨p, r + 1, by simp, p0, by omega, by omega⟩⟩
  refine call_rt rfl rfl ?_
  show execs _ D__law_pot.body [some (.rol (ns.map .int), .frz), some (.int i, .frz), none] S = _
  refine (asg_run hc rfl).trans (ret_run ?_ (fun z => nomatch z))
  have hp' : (if c - 1000000000000000000 > 0 then c - 1000000000000000000 else 0) = p := hp
  simp [execs, execS, evalE, evalEs, evalAs, evalCs, evalO, asgG, asgGs, setS, slotOf, leaks, leak1, X.fin, R.thenX, liftO, X.andThen, pick, handOn, isBl, testR, itOf, setAll, boxed, putS, putV, asgT, asgTs, wipeE, frzAll, isLst, atI, ixN, okRecv, bin_pow (show (0 : Int) ≤ 18 by decide) (by decide) (show (10 : Int).natAbs < 2 ^ 64 by decide), bin_mod (show (0 : Int) < 2147483549 by decide), hq, bin_mul m1, bin_mul m2, bin_mod (show (0 : Int) < 2147483563 by decide), hr]
  rw [← hp']; split <;> split <;> omega
theorem lst6 : ∀ x ∈ ([.str ⟨#[116]⟩, .str ⟨#[84]⟩, .str ⟨#[118]⟩, .str ⟨#[86]⟩, .str ⟨#[106]⟩, .str ⟨#[74]⟩] : List PV), ∃ c, isL c ∧ x = ch c := by
  intro x hx
  simp at hx
  rcases hx with h | h | h | h | h | h <;> subst h
  · exact ⟨116, by simp [isL], rfl⟩
  · exact ⟨84, by simp [isL], rfl⟩
  · exact ⟨118, by simp [isL], rfl⟩
  · exact ⟨86, by simp [isL], rfl⟩
  · exact ⟨106, by simp [isL], rfl⟩
  · exact ⟨74, by simp [isL], rfl⟩
theorem chars_of : ∀ {ys : List PV}, (∀ y ∈ ys, ∃ c, isL c ∧ y = ch c) → ∃ w, ys = w.map ch ∧ Wd w
  | [], _ => ⟨[], rfl, fun _ h => nomatch h⟩
  | y :: ys, h => by
    obtain ⟨c, hc, rfl⟩ := h y List.mem_cons_self
    obtain ⟨w, rfl, hw⟩ := chars_of fun z hz => h z (List.mem_cons_of_mem _ hz)
    exact ⟨c :: w, rfl, fun d hd => by
      rcases List.mem_cons.mp hd with e | e
      · rw [e]; exact hc
      · exact hw d e⟩
theorem c26 (k : Nat) {S : Store} {n : Nat} (h : Pot S n) {m : Int} (h0 : 0 ≤ m) (h1 : m ≤ 400) : ∃ w S', callF prog (k + 3) 26 [(.obj n, .frz), (.int m, .frz)] S = .ok (wv w, .frz) S' ∧ Wd w ∧ (w.length : Int) ≤ m ∧ Pot S' n := by
  obtain ⟨d, S1, e1, d0, d1, h2⟩ := c21 (k + 1) h (m := m + 1) (by omega) (by omega)
  obtain ⟨ys, S2, e2, h3, h4, h5⟩ := lcGo_inv (f := lcF (callF prog (k + 2)) (.nm 2) [2] [] (.cal 22 [.bor 0, .lst [.cst (.str ⟨#[116]⟩), .cst (.str ⟨#[84]⟩), .cst (.str ⟨#[118]⟩), .cst (.str ⟨#[86]⟩), .cst (.str ⟨#[106]⟩), .cst (.str ⟨#[74]⟩)]] [0, 1]) [some (.obj n, .frz), some (.int m, .frz), none])
    (fun S => Pot S n) (fun y => ∃ c, isL c ∧ y = ch c) (xs := rangeL 0 d) (acc := []) (S := S1) h2 (fun _ h => nomatch h) (fun x hx S hS => by
      obtain ⟨i, rfl, _, _⟩ := rangeL_mem hx
      obtain ⟨y, S', e, hy, hS'⟩ := c22 k hS (xs := [.str ⟨#[116]⟩, .str ⟨#[84]⟩, .str ⟨#[118]⟩, .str ⟨#[86]⟩, .str ⟨#[106]⟩, .str ⟨#[74]⟩]) (fun z => nomatch z) (by decide)
      exact ⟨y, S', lcF_ok rfl e (fun z => nomatch z), lst6 y hy, hS'⟩)
  obtain ⟨w, rfl, hw⟩ := chars_of h4
  have hl : w.length = d.toNat := by
    rw [List.length_map, rangeL_len] at h5
    simpa using h5
  refine ⟨w, S2, ?_, hw, by omega, h3⟩
  refine call_rt rfl rfl (ret_run ?_ (fun z => nomatch z))
  refine ev_mth (x := (.str ⟨#[]⟩, .frz)) rfl rfl (evs_one (lc_eq (xs := rangeL 0 d) (S1 := S1) ?_ (by rw [rangeL_len]; show _ ≤ 16777216; omega) e2)) (join_w w (by show _ ≤ 16777216; omega))
  simp [execs, execS, evalE, evalEs, evalAs, evalCs, evalO, asgG, asgGs, setS, slotOf, leaks, leak1, X.fin, R.thenX, liftO, X.andThen, pick, handOn, isBl, testR, itOf, setAll, boxed, putS, putV, asgT, asgTs, wipeE, frzAll, isLst, atI, ixN, okRecv, e1, it_range1 (show d < 2 ^ 62 by omega) (show -(2 ^ 62) ≤ d by omega)]
/-- the display that is read at once -/
theorem dix_m (cal : Calls) (σ : Env) (S : Store) (i : Nat) {c : Nat} (hc : isL c) (h : σ[i]? = some (some (ch c, .frz))) : evalE cal (.dix [⟨#[116]⟩, ⟨#[84]⟩, ⟨#[118]⟩, ⟨#[86]⟩, ⟨#[106]⟩, ⟨#[74]⟩] [.tup [.cst (.int 1), .cst (.int 1), .cst (.int 0), .cst (.int 1)], .tup [.cst (.int 1), .neg (.cst (.int 1)), .cst (.int 0), .cst (.int 1)], .tup [.cst (.int 1), .cst (.int 0), .cst (.int 1), .cst (.int 1)], .tup [.cst (.int 1), .cst (.int 0), .neg (.cst (.int 1)), .cst (.int 1)], .tup [.cst (.int 0), .neg (.cst (.int 1)), .cst (.int 1), .cst (.int 0)], .tup [.cst (.int 0), .cst (.int 1), .neg (.cst (.int 1)), .cst (.int 0)]] (.bor i)) σ S = .ok (pv (ml c), .frz) S := by
  rcases hc with e | e | e | e | e | e <;> subst e <;> simp [execs, execS, evalE, evalEs, evalAs, evalCs, evalO, asgG, asgGs, setS, slotOf, leaks, leak1, X.fin, R.thenX, liftO, X.andThen, pick, handOn, isBl, testR, itOf, setAll, boxed, putS, putV, asgT, asgTs, wipeE, frzAll, isLst, atI, ixN, okRecv, h, ch, lookL, ml]
theorem c23_loop (cal : Calls) (x : PV) : ∀ (w : List Nat) (f : Mt) (s5 s6 s7 s8 s9 : Slot) (S : Store) (n : Nat), Wd w → Bd n f → n + w.length ≤ 10000 → ∃ t5 t6 t7 t8 t9,
    forL (.nm 5) (fun σ st => execs cal (match D__law_matrix.body with | [_, .fr _ _ _ b, _] => b | _ => []) σ st) (w.map ch) [some (x, .frz), some (.int f.a, .frz), some (.int f.b, .frz), some (.int f.c, .frz), some (.int f.d, .frz), s5, s6, s7, s8, s9] S =
      .nx [some (x, .frz), some (.int (foldW f w).a, .frz), some (.int (foldW f w).b, .frz), some (.int (foldW f w).c, .frz), some (.int (foldW f w).d, .frz), t5, t6, t7, t8, t9] S
  | [], f, s5, s6, s7, s8, s9, S, n, _, _, _ => ⟨s5, s6, s7, s8, s9, rfl⟩
  | c :: w, f, s5, s6, s7, s8, s9, S, n, hw, hf, hn => by
    rw [List.length_cons] at hn
    have hc := hw c List.mem_cons_self
    have hm := ml_bd hc
    obtain ⟨t5, t6, t7, t8, t9, h⟩ := c23_loop cal x w (mul (ml c) f) (some (ch c, .frz)) (some (.int (ml c).a, .frz)) (some (.int (ml c).b, .frz)) (some (.int (ml c).c, .frz)) (some (.int (ml c).d, .frz)) S (n + 1) (fun d hd => hw d (List.mem_cons_of_mem _ hd)) ((hm.mul hf).mono (by omega)) (by omega)
    refine ⟨t5, t6, t7, t8, t9, ?_⟩
    rw [List.map_cons]
    unfold forL
    show (execs cal _ [some (x, .frz), some (.int f.a, .frz), some (.int f.b, .frz), some (.int f.c, .frz), some (.int f.d, .frz), some (ch c, .frz), s6, s7, s8, s9] S).andThen _ = _
    have b : execs cal (match D__law_matrix.body with | [_, .fr _ _ _ b, _] => b | _ => []) [some (x, .frz), some (.int f.a, .frz), some (.int f.b, .frz), some (.int f.c, .frz), some (.int f.d, .frz), some (ch c, .frz), s6, s7, s8, s9] S =
        .nx [some (x, .frz), some (.int (mul (ml c) f).a, .frz), some (.int (mul (ml c) f).b, .frz), some (.int (mul (ml c) f).c, .frz), some (.int (mul (ml c) f).d, .frz), some (ch c, .frz), some (.int (ml c).a, .frz), some (.int (ml c).b, .frz), some (.int (ml c).c, .frz), some (.int (ml c).d, .frz)] S := by
      have m {i j : Int} (hi : i.natAbs ≤ 2 ^ 0) (hj : j.natAbs ≤ 2 ^ n) := bin_mul (mulOk_of hi hj (by omega))
      refine (run1 [some (x, .frz), some (.int f.a, .frz), some (.int f.b, .frz), some (.int f.c, .frz), some (.int f.d, .frz), some (ch c, .frz), some (.int (ml c).a, .frz), some (.int (ml c).b, .frz), some (.int (ml c).c, .frz), some (.int (ml c).d, .frz)] S ?_).trans ?_
      · show (evalE cal _ _ S).thenX _ = _
        rw [dix_m cal _ S 5 hc rfl]
        simp [execs, execS, evalE, evalEs, evalAs, evalCs, evalO, asgG, asgGs, setS, slotOf, leaks, leak1, X.fin, R.thenX, liftO, X.andThen, pick, handOn, isBl, testR, itOf, setAll, boxed, putS, putV, asgT, asgTs, wipeE, frzAll, isLst, atI, ixN, okRecv, -pv_mk, pv]
      · simp [execs, execS, evalE, evalEs, evalAs, evalCs, evalO, asgG, asgGs, setS, slotOf, leaks, leak1, X.fin, R.thenX, liftO, X.andThen, pick, handOn, isBl, testR, itOf, setAll, boxed, putS, putV, asgT, asgTs, wipeE, frzAll, isLst, atI, ixN, okRecv, -pv_mk, mul, m hm.a hf.a, m hm.b hf.c, m hm.a hf.b, m hm.b hf.d, m hm.c hf.a, m hm.d hf.c, m hm.c hf.b, m hm.d hf.d]
    rw [b, X.andThen_nx]
    exact h
theorem c23 (k : Nat) (S : Store) {w : List Nat} (hw : Wd w) (hl : w.length ≤ 400) : callF prog (k + 1) 23 [(wv w, .frz)] S = .ok (pv (matW w), .frz) S := by
  obtain ⟨t5, t6, t7, t8, t9, L⟩ := c23_loop (callF prog k) (wv w) w one none none none none none S 0 hw one_bd (by omega)
  refine call_rt rfl rfl ?_
  show execs _ D__law_matrix.body [some (wv w, .frz), none, none, none, none, none, none, none, none, none] S = _
  refine (run1 [some (wv w, .frz), some (.int 1, .frz), some (.int 0, .frz), some (.int 0, .frz), some (.int 1, .frz), none, none, none, none, none] S rfl).trans ?_
  show (execS _ _ _ _).andThen _ = _
  rw [fr_eq (xs := w.map ch) (st' := S) (by simp [execs, execS, evalE, evalEs, evalAs, evalCs, evalO, asgG, asgGs, setS, slotOf, leaks, leak1, X.fin, R.thenX, liftO, X.andThen, pick, handOn, isBl, testR, itOf, setAll, boxed, putS, putV, asgT, asgTs, wipeE, frzAll, isLst, atI, ixN, okRecv])]
  refine (congrArg (fun x => X.andThen x _) L).trans ?_
  rfl

/-! ### what is written -/
theorem okd_m {m : Mt} (h : Bd 1000 m) : OkD (pv m) 1 2411 := by
  have f {i : Int} (hi : i.natAbs ≤ 2 ^ 1000) : OkD (.int i) 0 600 := okd_int (Nat.lt_of_le_of_lt (log2_le hi) (by decide))
  refine (okd_tup (dep := 0) (wt := 600) fun x hx => ?_).mono (Nat.le_refl _) (by show 3 + 4 * 602 ≤ _; decide)
  simp at hx
  rcases hx with e | e | e | e <;> subst e
  · exact f h.a
  · exact f h.b
  · exact f h.c
  · exact f h.d
theorem repr_ms {ms : List Mt} (h : ∀ m ∈ ms, Bd 1000 m) (hl : ms.length ≤ 1000) : bifV .repr [.lst (ms.map pv)] = some (.str (rpr (.lst (ms.map pv))), .frz) := by
  refine repr_ok (okd_lst (dep := 1) (wt := 2411) fun x hx => ?_) (by decide) ?_
  · obtain ⟨m, hm, rfl⟩ := List.mem_map.mp hx
    exact okd_m (h m hm)
  · rw [List.length_map]; show _ ≤ 16777216; omega
theorem okd_ord (m : Mt) : OkD (ordP m) 0 600 := by
  unfold ordP
  have : ∀ (xs : List Int) (f : Mt), (∀ i ∈ xs, i.natAbs ≤ 6) → OkD (match ordL m xs f with | some i => .int i | none => .non) 0 600 := by
    intro xs
    induction xs with
    | nil => intro f _; exact okd_non
    | cons i xs ih =>
      intro f h
      unfold ordL
      by_cases e : f = one
      · rw [if_pos e]
        refine okd_int (Nat.lt_of_le_of_lt (log2_le (n := 3) (by have := h i List.mem_cons_self; omega)) (by decide))
      · rw [if_neg e]
        exact ih _ fun j hj => h j (List.mem_cons_of_mem _ hj)
  exact this _ _ (by decide)
theorem repr_o (m : Mt) : bifV .repr [.lst [ordP m, ordP m]] = some (.str (rpr (.lst [ordP m, ordP m])), .frz) := by
  refine repr_ok (okd_lst (dep := 0) (wt := 600) fun x hx => ?_) (by decide) (by show 3 + 2 * 602 ≤ 16777216; decide)
  simp at hx
  rw [hx]; exact okd_ord m
theorem repr_v {p q : Int} (hp : p.natAbs ≤ 2 ^ 1000) (hq : q.natAbs ≤ 2 ^ 1000) : bifV .repr [.lst [.tup [.int p, .int q], .tup [.int p, .int q]]] = some (.str (rpr (.lst [.tup [.int p, .int q], .tup [.int p, .int q]])), .frz) := by
  have f {i : Int} (hi : i.natAbs ≤ 2 ^ 1000) : OkD (.int i) 0 600 := okd_int (Nat.lt_of_le_of_lt (log2_le hi) (by decide))
  refine repr_ok (okd_lst (dep := 1) (wt := 1207) fun x hx => ?_) (by decide) (by show 3 + 2 * 1209 ≤ 16777216; decide)
  simp at hx
  subst hx
  refine okd_tup (dep := 0) (wt := 600) fun x hx => ?_
  simp at hx
  rcases hx with e | e <;> subst e
  · exact f hp
  · exact f hq
/-! ### product_of -/
def foldM (m : Mt) (ms : List Mt) : Mt := ms.foldl mul m
theorem foldM_bd : ∀ {ms : List Mt} {m : Mt} {n : Nat}, (∀ x ∈ ms, Bd 5 x) → Bd n m → Bd (n + ms.length * 6) (foldM m ms)
  | [], m, n, _, h => h
  | x :: ms, m, n, hs, h => by
    have := foldM_bd (ms := ms) (fun y hy => hs y (List.mem_cons_of_mem _ hy)) (h.mul (hs x List.mem_cons_self))
    exact this.mono (by rw [List.length_cons]; omega)
theorem m_loop {b : Env → Store → X} {x : PV} {N : Nat} (hb : ∀ (y f : Mt) (S : Store), Bd 5 y → Bd N f → b [some (x, .frz), some (pv y, .frz), some (pv f, .frz)] S = .nx [some (x, .frz), some (pv y, .frz), some (pv (mul f y), .frz)] S) :
    ∀ (ms : List Mt) (f : Mt) (s1 : Slot) (S : Store) (n : Nat), (∀ y ∈ ms, Bd 5 y) → Bd n f → n + ms.length * 6 ≤ N → ∃ s1', forL (.nm 1) b (ms.map pv) [some (x, .frz), s1, some (pv f, .frz)] S = .nx [some (x, .frz), s1', some (pv (foldM f ms), .frz)] S
  | [], f, s1, S, n, _, _, _ => ⟨s1, rfl⟩
  | y :: ms, f, s1, S, n, hs, hf, hn => by
    rw [List.length_cons] at hn
    have hy := hs y List.mem_cons_self
    obtain ⟨s1', h⟩ := m_loop hb ms (mul f y) (some (pv y, .frz)) S (n + 6) (fun d hd => hs d (List.mem_cons_of_mem _ hd)) (hf.mul hy) (by omega)
    refine ⟨s1', ?_⟩
    rw [List.map_cons]
    unfold forL
    show (b [some (x, .frz), some (pv y, .frz), some (pv f, .frz)] S).andThen _ = _
    rw [hb y f S hy (hf.mono (by omega)), X.andThen_nx]
    exact h
theorem c11 (k : Nat) (S : Store) {ms : List Mt} {x : PV} {fl : Fl} (hs : ∀ y ∈ ms, Bd 5 y) (hd : ∀ y ∈ ms, det y = 1) (hl : ms.length ≤ 40) (hx : x = .lst (ms.map pv) ∨ x = .tup (ms.map pv)) : callF prog (k + 4) 11 [(x, .frz)] S = .ok (pv (foldM one ms), .frz) S := by
  have hit : itemsV .plain [x] = some (ms.map pv) := by rcases hx with e | e <;> subst e <;> rfl
  have hlen : bifV .len [x] = some (.int ms.length, .frz) := by rcases hx with e | e <;> subst e <;> simp
  have h1 : callF prog (k + 3) 1 [(x, .frz)] S = .ok (.bl true, .frz) S := by
    rcases hx with e | e <;> subst e
    · exact c1 _ _ _ _ (fun z => nomatch z)
    · exact c1t _ _ _
  have L := lcGo_map (S := S) (f := lcF (callF prog (k + 3)) (.nm 1) [1] [] (.cal 3 [.bor 1] [0]) [some (x, .frz), none, none]) (fun _ => .bl true) (xs := ms.map pv) (acc := []) (fun y hy => by
    obtain ⟨m, hm, rfl⟩ := List.mem_map.mp hy
    exact lcF_ok rfl (c3 k S ((hs m hm).mono (by decide)) (hd m hm)) (fun z => nomatch z))
  obtain ⟨s1, M⟩ := @m_loop (fun σ st => execs (callF prog (k + 3)) [.asg (.nm 2) (.cal 6 [.bor 2, .bor 1] [0, 1])] σ st) x 10000 (fun y f S hy hf => by
    exact (asg_run (show evalE (callF prog (k + 3)) (.cal 6 [.bor 2, .bor 1] [0, 1]) [some (x, .frz), some (pv y, .frz), some (pv f, .frz)] S = _ from c6 (k + 2) S (hf.mono (by decide)) (hy.mono (by decide))) rfl).trans rfl) ms one none S 0 hs one_bd (by omega)
  refine call_rt rfl rfl ?_
  show execs _ D_product_of.body [some (x, .frz), none, none] S = _
  refine (iff_f (fl := .frz) (st' := S) ?_).trans ?_
  · refine (ev_or_f (ev_not (show evalE (callF prog (k + 3)) (.cal 1 [.bor 0] [0]) [some (x, .frz), none, none] S = .ok (.bl true, .frz) S from h1))).trans ((ev_or_f (S1 := S) (fl := .frz) (by simp [execs, execS, evalE, evalEs, evalAs, evalCs, evalO, asgG, asgGs, setS, slotOf, leaks, leak1, X.fin, R.thenX, liftO, X.andThen, pick, handOn, isBl, testR, itOf, setAll, boxed, putS, putV, asgT, asgTs, wipeE, frzAll, isLst, atI, ixN, okRecv, hlen]; omega)).trans ?_)
    refine ev_not (b := true) (fl := .frz) (ev_bif (evs_one (lc_eq (xs := ms.map pv) (S1 := S) (by simp [execs, execS, evalE, evalEs, evalAs, evalCs, evalO, asgG, asgGs, setS, slotOf, leaks, leak1, X.fin, R.thenX, liftO, X.andThen, pick, handOn, isBl, testR, itOf, setAll, boxed, putS, putV, asgT, asgTs, wipeE, frzAll, isLst, atI, ixN, okRecv, hit]) (by rw [List.length_map]; show _ ≤ 16777216; omega) L)) (all_true fun y hy => ?_))
    simp at hy
    exact hy.2.symm
  · refine (run1 [some (x, .frz), none, some (pv one, .frz)] S rfl).trans ?_
    show (execS _ _ _ _).andThen _ = _
    rw [fr_eq (xs := ms.map pv) (st' := S) (by simp [execs, execS, evalE, evalEs, evalAs, evalCs, evalO, asgG, asgGs, setS, slotOf, leaks, leak1, X.fin, R.thenX, liftO, X.andThen, pick, handOn, isBl, testR, itOf, setAll, boxed, putS, putV, asgT, asgTs, wipeE, frzAll, isLst, atI, ixN, okRecv, hit])]
    refine (congrArg (fun x => X.andThen x _) M).trans ?_
    rfl
/-! ### a turn -/
theorem cat_w {u w : List Nat} (h : u.length + w.length ≤ LINE) : binV .add (wv u) (wv w) = some (wv (u ++ w), .frz) := by
  have := bin_cat (x := ⟨u.toArray⟩) (y := ⟨w.toArray⟩) (by rw [str_len, str_len]; exact h)
  refine this.trans ?_
  show some (PV.str ⟨u.toArray ++ w.toArray⟩, Fl.frz) = _
  simp [wv]
def bares : List Mt := [⟨1, 0, 0, 1⟩, ⟨-1, 0, 0, -1⟩, ⟨0, -1, 1, 0⟩, ⟨0, -1, 1, -1⟩, ⟨0, -1, 1, 1⟩, ⟨1, 1, 0, 1⟩, ⟨-1, 3, 0, -1⟩]
theorem bares_ok : ∀ m ∈ bares, Bd 2 m ∧ det m = 1 := by
  intro m hm
  simp [bares] at hm
  rcases hm with e | e | e | e | e | e | e <;> subst e <;> exact ⟨⟨by decide, by decide, by decide, by decide⟩, by decide⟩
def tb : List S := match D__law_right.body with
  | [.fr _ _ _ b, _] => b
  | _ => []
def ordB : List S := [.iff (.cmp .ne (.bif .repr [.lst [.cal 13 [.bor 12] [0], .cal 13 [.bor 12] [0]]]) (.bif .repr [.bin .mul (.lst [.cal 25 [.bor 12] [0]]) (.cst (.int 2))])) [.ret (.cst (.bl false))] []]
theorem ord_turn (k : Nat) (S : Store) {x : Mt} (hx : Bd 99 x) (hd : det x = 1) {σ : Env} (h : σ[12]? = some (some (pv x, .frz))) : execs (callF prog (k + 5)) ordB σ S = .nx σ S := by
  have r := repr_o x
  have b : binV .mul (.lst [ordP x]) (.int 2) = some (.lst [ordP x, ordP x], .own) := bin_rep ⟨by decide, by decide, by show 1 * 2 ≤ 16777216; decide⟩
  simp [execs, execS, evalE, evalEs, evalAs, evalCs, evalO, asgG, asgGs, setS, slotOf, leaks, leak1, X.fin, R.thenX, liftO, X.andThen, pick, handOn, isBl, testR, itOf, setAll, boxed, putS, putV, asgT, asgTs, wipeE, frzAll, isLst, atI, ixN, okRecv, ordB, h, c13 _ _ hx hd, c25 (k + 3) _ hx, r, b]
def bareB : List S := [.asg (.nm 14) (.cal 24 [.cal 24 [.bor 4, .bor 13] [0, 1], .bor 6] [0, 1]), .fr (.nm 12) .plain [.tup [.var 13, .var 14, .var 4, .var 5]] ordB]
theorem bare_turn (k : Nat) (S : Store) {o l m : Mt} (ho : Bd 30 o) (hod : det o = 1) (hl : Bd 30 l) (hld : det l = 1) (hm : Bd 2 m) (hmd : det m = 1) (s0 s1 s2 s3 s7 s8 s9 s10 s11 s12 s14 : Slot) :
    ∃ t12 t14, execs (callF prog (k + 5)) bareB [s0, s1, s2, s3, some (pv o, .frz), some (pv l, .frz), some (pv (inv o), .frz), s7, s8, s9, s10, s11, s12, some (pv m, .frz), s14] S = .nx [s0, s1, s2, s3, some (pv o, .frz), some (pv l, .frz), some (pv (inv o), .frz), s7, s8, s9, s10, s11, t12, some (pv m, .frz), t14] S := by
  have hc : Bd 99 (mul (mul o m) (inv o)) := ((ho.mul hm).mul ho.inv).mono (by decide)
  have hcd : det (mul (mul o m) (inv o)) = 1 := by rw [det_mul, det_mul, det_inv, hod, hmd]; rfl
  have L := @forL_inv (.nm 12) (fun σ st => execs (callF prog (k + 5)) ordB σ st) (fun σ st => st = S ∧ ∃ t, σ = [s0, s1, s2, s3, some (pv o, .frz), some (pv l, .frz), some (pv (inv o), .frz), s7, s8, s9, s10, s11, t, some (pv m, .frz), some (pv (mul (mul o m) (inv o)), .frz)])
    ([m, mul (mul o m) (inv o), o, l].map pv) [s0, s1, s2, s3, some (pv o, .frz), some (pv l, .frz), some (pv (inv o), .frz), s7, s8, s9, s10, s11, s12, some (pv m, .frz), some (pv (mul (mul o m) (inv o)), .frz)] S ⟨rfl, s12, rfl⟩ (fun x hx σ st ⟨e1, t, e2⟩ => by
      subst e1 e2
      obtain ⟨y, hy, rfl⟩ := List.mem_map.mp hx
      have hy' : Bd 99 y ∧ det y = 1 := by
        simp at hy
        rcases hy with e | e | e | e <;> subst e
        · exact ⟨hm.mono (by decide), hmd⟩
        · exact ⟨hc, hcd⟩
        · exact ⟨ho.mono (by decide), hod⟩
        · exact ⟨hl.mono (by decide), hld⟩
      exact ⟨_, rfl, _, _, ord_turn k st hy'.1 hy'.2 rfl, rfl, _, rfl⟩)
  obtain ⟨σ', S', e, rfl, t, rfl⟩ := L
  refine ⟨t, some (pv (mul (mul o m) (inv o)), .frz), ?_⟩
  refine (run1 [s0, s1, s2, s3, some (pv o, .frz), some (pv l, .frz), some (pv (inv o), .frz), s7, s8, s9, s10, s11, s12, some (pv m, .frz), some (pv (mul (mul o m) (inv o)), .frz)] S' ?_).trans ?_
  · simp [execs, execS, evalE, evalEs, evalAs, evalCs, evalO, asgG, asgGs, setS, slotOf, leaks, leak1, X.fin, R.thenX, liftO, X.andThen, pick, handOn, isBl, testR, itOf, setAll, boxed, putS, putV, asgT, asgTs, wipeE, frzAll, isLst, atI, ixN, okRecv, c24 (k + 4) _ (ho.mono (k := 400000) (by decide)) (hm.mono (k := 400000) (by decide)), c24 (k + 4) _ ((ho.mul hm).mono (k := 400000) (by decide)) (ho.inv.mono (k := 400000) (by decide))]
  · show (execS _ _ _ _).andThen _ = _
    rw [fr_eq (xs := [m, mul (mul o m) (inv o), o, l].map pv) (st' := S') (by simp [execs, execS, evalE, evalEs, evalAs, evalCs, evalO, asgG, asgGs, setS, slotOf, leaks, leak1, X.fin, R.thenX, liftO, X.andThen, pick, handOn, isBl, testR, itOf, setAll, boxed, putS, putV, asgT, asgTs, wipeE, frzAll, isLst, atI, ixN, okRecv])]
    refine (congrArg (fun x => X.andThen x _) e).trans ?_
    rfl
theorem due_loop (cal : Calls) (hcal : ∀ (S : Store) (x y : Mt), Bd 400000 x → Bd 400000 y → cal 24 [(pv x, .frz), (pv y, .frz)] S = .ok (pv (mul x y), .frz) S) (s0 s1 s2 s3 s4 s5 s6 s7 s8 s10 s11 s13 s14 : Slot) : ∀ (ms : List Mt) (f : Mt) (s12 : Slot) (S : Store) (n : Nat), (∀ y ∈ ms, Bd 5 y) → Bd n f → n + ms.length * 6 ≤ 10000 →
    ∃ t, forL (.nm 12) (fun σ st => execs cal [.asg (.nm 9) (.cal 24 [.bor 9, .bor 12] [0, 1])] σ st) (ms.map pv) [s0, s1, s2, s3, s4, s5, s6, s7, s8, some (pv f, .frz), s10, s11, s12, s13, s14] S = .nx [s0, s1, s2, s3, s4, s5, s6, s7, s8, some (pv (foldM f ms), .frz), s10, s11, t, s13, s14] S
  | [], f, s12, S, n, _, _, _ => ⟨s12, rfl⟩
  | y :: ms, f, s12, S, n, hs, hf, hn => by
    rw [List.length_cons] at hn
    have hy := hs y List.mem_cons_self
    obtain ⟨t, h⟩ := due_loop cal hcal s0 s1 s2 s3 s4 s5 s6 s7 s8 s10 s11 s13 s14 ms (mul f y) (some (pv y, .frz)) S (n + 6) (fun d hd => hs d (List.mem_cons_of_mem _ hd)) (hf.mul hy) (by omega)
    refine ⟨t, ?_⟩
    rw [List.map_cons]
    unfold forL
    show (execs cal _ [s0, s1, s2, s3, s4, s5, s6, s7, s8, some (pv f, .frz), s10, s11, some (pv y, .frz), s13, s14] S).andThen _ = _
    refine (congrArg (fun x => X.andThen x _) (asg_run (show evalE cal (.cal 24 [.bor 9, .bor 12] [0, 1]) [s0, s1, s2, s3, s4, s5, s6, s7, s8, some (pv f, .frz), s10, s11, some (pv y, .frz), s13, s14] S = _ from hcal S f y (hf.mono (by omega)) (hy.mono (by decide))) rfl)).trans ?_
    exact h
theorem mats_of : ∀ {ys : List PV}, (∀ y ∈ ys, ∃ m, y = pv m ∧ Bd 5 m ∧ det m = 1) → ∃ ms : List Mt, ys = ms.map pv ∧ (∀ m ∈ ms, Bd 5 m) ∧ ∀ m ∈ ms, det m = 1
  | [], _ => ⟨[], rfl, (fun _ h => nomatch h), (fun _ h => nomatch h)⟩
  | y :: ys, h => by
    obtain ⟨m, rfl, h1, h2⟩ := h y List.mem_cons_self
    obtain ⟨ms, rfl, k1, k2⟩ := mats_of fun z hz => h z (List.mem_cons_of_mem _ hz)
    refine ⟨m :: ms, rfl, fun x hx => ?_, fun x hx => ?_⟩
    · rcases List.mem_cons.mp hx with e | e
      · rw [e]; exact h1
      · exact k1 x e
    · rcases List.mem_cons.mp hx with e | e
      · rw [e]; exact h2
      · exact k2 x e

theorem c27_turn (k : Nat) {S : Store} {n : Nat} (hP : Pot S n) (s1 s2 s3 s4 s5 s6 s7 s8 s9 s10 s11 s12 s13 s14 : Slot) :
    ∃ σ' S', execs (callF prog (k + 5)) tb [some (.obj n, .frz), s1, s2, s3, s4, s5, s6, s7, s8, s9, s10, s11, s12, s13, s14] S = .nx (some (.obj n, .frz) :: σ') S' ∧ σ'.length = 14 ∧ Pot S' n := by
  obtain ⟨w1, S1, e1, hw1, hl1, P1⟩ := c26 (k + 2) hP (m := 30) (by decide) (by decide)
  obtain ⟨w2, S2, e2, hw2, hl2, P2⟩ := c26 (k + 2) P1 (m := 30) (by decide) (by decide)
  have l1 : w1.length ≤ 30 := by omega
  have l2 : w2.length ≤ 30 := by omega
  have ho : Bd 30 (matW w1) := (foldW_bd hw1 one_bd).mono (by omega)
  have hl : Bd 30 (matW w2) := (foldW_bd hw2 one_bd).mono (by omega)
  have hod : det (matW w1) = 1 := foldW_det hw1 (by decide)
  have hld : det (matW w2) = 1 := foldW_det hw2 (by decide)
  have f18 := fun S => c18 (k + 2) S hw1 (by omega)
  have f18b := fun S => c18 (k + 2) S (w := w1 ++ w2) (fun c hc => (List.mem_append.mp hc).elim (hw1 c) (hw2 c)) (by rw [List.length_append]; omega)
  have hwt : Wd (tw w1) := fun c hc => by
    obtain ⟨d, hd, rfl⟩ := List.mem_map.mp hc
    exact tl_is (hw1 d (List.mem_reverse.mp hd))
  have f18c := fun S => c18 (k + 2) S hwt (by unfold tw; rw [List.length_map, List.length_reverse]; omega)
  have f19 := fun S => c19 (k + 2) S hw1 (by omega)
  have f23 := fun S => c23 (k + 4) S hw1 (by omega)
  have f23b := fun S => c23 (k + 4) S hw2 (by omega)
  rw [matW_tw hw1] at f18c
  rw [matW_app] at f18b
  have hcat := cat_w (u := w1) (w := w2) (by show _ ≤ 16777216; omega)
  generalize matW w1 = o at *
  generalize matW w2 = l at *
  have ho9 : Bd 99 o := ho.mono (by decide)
  have hl9 : Bd 99 l := hl.mono (by decide)
  have f9 := fun S => c9 k S ho9 hod hl9 hld
  have f9b := fun S => c9 k S hl9 hld ho9 hod
  have f10 := fun S => c10 k S ho9 hod
  have f9c := fun S => c9 k S ho9 hod ho9.inv (by rw [det_inv]; exact hod)
  have f24 := fun S => c24 (k + 4) S (ho.mono (k := 400000) (by decide)) (hl.mono (k := 400000) (by decide))
  have hmi : mul o (inv o) = ⟨1, 0, 0, 1⟩ := mul_inv o hod
  rw [hmi] at f9c
  have rms := repr_ms (ms := [o, o, mul o l, mul o l, inv o, inv o]) (fun m hm => by
    simp at hm
    rcases hm with e | e | e <;> subst e
    · exact ho.mono (by decide)
    · exact (ho.mul hl).mono (by decide)
    · exact ho.inv.mono (by decide)) (by show 6 ≤ 1000; decide)
  simp only [List.map_cons, List.map_nil] at rms
  have f2 := fun S => c2 (k + 3) S ((ho.mul hl).mono (k := 400000) (by decide))
  have hdet : det (mul o l) = 1 := by rw [det_mul, hod, hld]; rfl
  have h0 : execs (callF prog (k + 5)) tb [some (.obj n, .frz), s1, s2, s3, s4, s5, s6, s7, s8, s9, s10, s11, s12, s13, s14] S = execs (callF prog (k + 5)) (tb.drop 7) [some (.obj n, .frz), s1, some (wv w1, .frz), some (wv w2, .frz), some (pv o, .frz), some (pv l, .frz), some (pv (inv o), .frz), some (.lst [pv o, pv o, pv (mul o l), pv (mul o l), pv (inv o), pv (inv o)], .frz), s8, s9, s10, s11, s12, s13, s14] S2 := by
    refine (run1 [some (.obj n, .frz), s1, some (wv w1, .frz), some (wv w2, .frz), s4, s5, s6, s7, s8, s9, s10, s11, s12, s13, s14] S2 (by simp [execs, execS, evalE, evalEs, evalAs, evalCs, evalO, asgG, asgGs, setS, slotOf, leaks, leak1, X.fin, R.thenX, liftO, X.andThen, pick, handOn, isBl, testR, itOf, setAll, boxed, putS, putV, asgT, asgTs, wipeE, frzAll, isLst, atI, ixN, okRecv, e1, e2])).trans ?_
    refine (run1 [some (.obj n, .frz), s1, some (wv w1, .frz), some (wv w2, .frz), some (pv o, .frz), some (pv l, .frz), s6, s7, s8, s9, s10, s11, s12, s13, s14] S2 (by simp [execs, execS, evalE, evalEs, evalAs, evalCs, evalO, asgG, asgGs, setS, slotOf, leaks, leak1, X.fin, R.thenX, liftO, X.andThen, pick, handOn, isBl, testR, itOf, setAll, boxed, putS, putV, asgT, asgTs, wipeE, frzAll, isLst, atI, ixN, okRecv, f23, f23b])).trans ?_
    refine (run1 [some (.obj n, .frz), s1, some (wv w1, .frz), some (wv w2, .frz), some (pv o, .frz), some (pv l, .frz), some (pv (inv o), .frz), s7, s8, s9, s10, s11, s12, s13, s14] S2 (by simp [execs, execS, evalE, evalEs, evalAs, evalCs, evalO, asgG, asgGs, setS, slotOf, leaks, leak1, X.fin, R.thenX, liftO, X.andThen, pick, handOn, isBl, testR, itOf, setAll, boxed, putS, putV, asgT, asgTs, wipeE, frzAll, isLst, atI, ixN, okRecv]; rfl)).trans ?_
    refine (run1 [some (.obj n, .frz), s1, some (wv w1, .frz), some (wv w2, .frz), some (pv o, .frz), some (pv l, .frz), some (pv (inv o), .frz), some (.lst [pv o, pv o, pv (mul o l), pv (mul o l), pv (inv o), pv (inv o)], .own), s8, s9, s10, s11, s12, s13, s14] S2 (by simp [execs, execS, evalE, evalEs, evalAs, evalCs, evalO, asgG, asgGs, setS, slotOf, leaks, leak1, X.fin, R.thenX, liftO, X.andThen, pick, handOn, isBl, testR, itOf, setAll, boxed, putS, putV, asgT, asgTs, wipeE, frzAll, isLst, atI, ixN, okRecv, f18, f9, f10])).trans ?_
    refine (run1 [some (.obj n, .frz), s1, some (wv w1, .frz), some (wv w2, .frz), some (pv o, .frz), some (pv l, .frz), some (pv (inv o), .frz), some (.lst [pv o, pv o, pv (mul o l), pv (mul o l), pv (inv o), pv (inv o)], .frz), s8, s9, s10, s11, s12, s13, s14] S2 (by simp [execs, execS, evalE, evalEs, evalAs, evalCs, evalO, asgG, asgGs, setS, slotOf, leaks, leak1, X.fin, R.thenX, liftO, X.andThen, pick, handOn, isBl, testR, itOf, setAll, boxed, putS, putV, asgT, asgTs, wipeE, frzAll, isLst, atI, ixN, okRecv])).trans ?_
    refine (iff_f (fl := .frz) (st' := S2) (by simp [execs, execS, evalE, evalEs, evalAs, evalCs, evalO, asgG, asgGs, setS, slotOf, leaks, leak1, X.fin, R.thenX, liftO, X.andThen, pick, handOn, isBl, testR, itOf, setAll, boxed, putS, putV, asgT, asgTs, wipeE, frzAll, isLst, atI, ixN, okRecv, rms, f24, f10, f9c, cmp_neM])).trans ?_
    exact iff_f (fl := .frz) (st' := S2) (by simp [execs, execS, evalE, evalEs, evalAs, evalCs, evalO, asgG, asgGs, setS, slotOf, leaks, leak1, X.fin, R.thenX, liftO, X.andThen, pick, handOn, isBl, testR, itOf, setAll, boxed, putS, putV, asgT, asgTs, wipeE, frzAll, isLst, atI, ixN, okRecv, hcat, f18b, f9b, f19, f18c, f9, f2, hdet, cmp_neM])
  rw [h0]
  clear h0
  obtain ⟨d, S3, e3, d0, d1, P3⟩ := c21 (k + 4) P2 (m := 41) (by decide) (by decide)
  obtain ⟨x, S4, e4, hx, P4⟩ := c22 (k + 3) P3 (xs := [.int 0, .int 1, .int (-7), .int (10 ^ 12 + 1)]) (fun z => nomatch z) (by decide)
  obtain ⟨q, rfl, hq⟩ : ∃ q : Int, x = .int q ∧ q.natAbs ≤ 2 ^ 50 := by
    simp at hx
    rcases hx with e | e | e | e <;> subst e
    · exact ⟨0, rfl, by decide⟩
    · exact ⟨1, rfl, by decide⟩
    · exact ⟨-7, rfl, by decide⟩
    · exact ⟨_, rfl, by decide⟩
  obtain ⟨p, hp⟩ : ∃ p, p = d - 20 := ⟨_, rfl⟩
  have hp50 : p.natAbs ≤ 2 ^ 50 := by
    have : (2 : Nat) ^ 50 = 1125899906842624 := by decide
    omega
  have m {i j : Int} (hi : i.natAbs ≤ 2 ^ 30) (hj : j.natAbs ≤ 2 ^ 50) := bin_mul (mulOk_of hi hj (by decide))
  have v1 : (o.a * p + o.b * q).natAbs ≤ 2 ^ 81 := dot_bd (n := 30) (k := 50) ho.a hp50 ho.b hq
  have v2 : (o.c * p + o.d * q).natAbs ≤ 2 ^ 81 := dot_bd (n := 30) (k := 50) ho.c hp50 ho.d hq
  have big {i : Int} {n : Nat} (hn : n ≤ 1000) (h : i.natAbs ≤ 2 ^ n) : i.natAbs ≤ 2 ^ 1000 := Nat.le_trans h (Nat.pow_le_pow_right (by decide) hn)
  have big' {i : Int} {n : Nat} (hn : n ≤ 400000) (h : i.natAbs ≤ 2 ^ n) : i.natAbs ≤ 2 ^ 400000 := Nat.le_trans h (Nat.pow_le_pow_right (by decide) hn)
  have rv := repr_v (big (by decide) v1) (big (by decide) v2)
  have f12 := fun S => c12 k S ho9 hod (big' (by decide) hp50) (big' (by decide) hq)
  have f12b := fun S => c12 k S hl9 hld (big' (by decide) v1) (big' (by decide) v2)
  have f12c := fun S => c12 k S (x := mul l o) ((hl.mul ho).mono (by decide)) (by rw [det_mul, hod, hld]; rfl) (big' (by decide) hp50) (big' (by decide) hq)
  have i1 : (mul l o).a * p + (mul l o).b * q = l.a * (o.a * p + o.b * q) + l.b * (o.c * p + o.d * q) := by unfold mul; grind
  have i2 : (mul l o).c * p + (mul l o).d * q = l.c * (o.a * p + o.b * q) + l.d * (o.c * p + o.d * q) := by unfold mul; grind
  rw [i1, i2] at f12c
  generalize (some (PV.lst [pv o, pv o, pv (mul o l), pv (mul o l), pv (inv o), pv (inv o)], Fl.frz) : Slot) = t7
  generalize (some (wv w1, Fl.frz) : Slot) = t2
  generalize (some (wv w2, Fl.frz) : Slot) = t3
  generalize hV : PV.tup [.int p, .int q] = v at *
  have hv0 : ∀ S, idxS S v (.int 0) = some (.int p) := fun S => by rw [← hV]; rfl
  have hv1 : ∀ S, idxS S v (.int 1) = some (.int q) := fun S => by rw [← hV]; rfl
  generalize hU : PV.tup [.int (o.a * p + o.b * q), .int (o.c * p + o.d * q)] = u at *
  have h1 : execs (callF prog (k + 5)) (tb.drop 7) [some (.obj n, .frz), s1, t2, t3, some (pv o, .frz), some (pv l, .frz), some (pv (inv o), .frz), t7, s8, s9, s10, s11, s12, s13, s14] S2 = execs (callF prog (k + 5)) (tb.drop 10) [some (.obj n, .frz), s1, t2, t3, some (pv o, .frz), some (pv l, .frz), some (pv (inv o), .frz), t7, some (v, .frz), some (u, .frz), s10, s11, s12, s13, s14] S4 := by
    refine (run1 [some (.obj n, .frz), s1, t2, t3, some (pv o, .frz), some (pv l, .frz), some (pv (inv o), .frz), t7, some (v, .frz), s9, s10, s11, s12, s13, s14] S4 ?_).trans ?_
    · simp [execs, execS, evalE, evalEs, evalAs, evalCs, evalO, asgG, asgGs, setS, slotOf, leaks, leak1, X.fin, R.thenX, liftO, X.andThen, pick, handOn, isBl, testR, itOf, setAll, boxed, putS, putV, asgT, asgTs, wipeE, frzAll, isLst, atI, ixN, okRecv, e3, bin_pow (show (0 : Int) ≤ 12 by decide) (by decide) (show (10 : Int).natAbs < 2 ^ 64 by decide)]
      simp at e4
      rw [e4]
      simp [execs, execS, evalE, evalEs, evalAs, evalCs, evalO, asgG, asgGs, setS, slotOf, leaks, leak1, X.fin, R.thenX, liftO, X.andThen, pick, handOn, isBl, testR, itOf, setAll, boxed, putS, putV, asgT, asgTs, wipeE, frzAll, isLst, atI, ixN, okRecv, ← hV, hp]
    refine (run1 [some (.obj n, .frz), s1, t2, t3, some (pv o, .frz), some (pv l, .frz), some (pv (inv o), .frz), t7, some (v, .frz), some (u, .frz), s10, s11, s12, s13, s14] S4 ?_).trans ?_
    · simp [execs, execS, evalE, evalEs, evalAs, evalCs, evalO, asgG, asgGs, setS, slotOf, leaks, leak1, X.fin, R.thenX, liftO, X.andThen, pick, handOn, isBl, testR, itOf, setAll, boxed, putS, putV, asgT, asgTs, wipeE, frzAll, isLst, atI, ixN, okRecv, hv0, hv1, m ho.a hp50, m ho.b hq, m ho.c hp50, m ho.d hq, hU]
    exact iff_f (fl := .frz) (st' := S4) (by simp [execs, execS, evalE, evalEs, evalAs, evalCs, evalO, asgG, asgGs, setS, slotOf, leaks, leak1, X.fin, R.thenX, liftO, X.andThen, pick, handOn, isBl, testR, itOf, setAll, boxed, putS, putV, asgT, asgTs, wipeE, frzAll, isLst, atI, ixN, okRecv, f12, rv, f12b, f9b, f12c])
  rw [h1]
  clear h1
  obtain ⟨x, S5, e5, hx5, P5⟩ := c22 (k + 3) P4 (xs := [.int 0, .int 1, .int 2, .int 5, .int 40]) (fun z => nomatch z) (by decide)
  obtain ⟨j, rfl, j0, j1⟩ : ∃ j : Int, x = .int j ∧ 0 ≤ j ∧ j ≤ 40 := by
    simp at hx5
    rcases hx5 with e | e | e | e | e <;> subst e <;> exact ⟨_, rfl, by decide, by decide⟩
  obtain ⟨ys, S6, e6, P6, hys, hlen⟩ := lcGo_inv (f := lcF (callF prog (k + 5)) (.nm 1) [1] [] (.cal 23 [.cal 26 [.bor 0, .cst (.int 5)] [0, 1]] [0]) [some (.obj n, .frz), s1, t2, t3, some (pv o, .frz), some (pv l, .frz), some (pv (inv o), .frz), t7, some (v, .frz), some (u, .frz), s10, s11, s12, s13, s14])
    (fun S => Pot S n) (fun y => ∃ m, y = pv m ∧ Bd 5 m ∧ det m = 1) (xs := rangeL 0 j) (acc := []) (S := S5) P5 (fun _ h => nomatch h) (fun x hx S hS => by
      obtain ⟨i, rfl, _, _⟩ := rangeL_mem hx
      obtain ⟨w, S', e, hw, hl, hS'⟩ := c26 (k + 2) hS (m := 5) (by decide) (by decide)
      refine ⟨pv (matW w), S', lcF_ok (fl := .frz) rfl ?_ (fun z => nomatch z), ⟨_, rfl, (foldW_bd hw one_bd).mono (by omega), foldW_det hw (by decide)⟩, hS'⟩
      have f := c23 (k + 4) S' hw (by omega)
      simp [execs, execS, evalE, evalEs, evalAs, evalCs, evalO, asgG, asgGs, setS, slotOf, leaks, leak1, X.fin, R.thenX, liftO, X.andThen, pick, handOn, isBl, testR, itOf, setAll, boxed, putS, putV, asgT, asgTs, wipeE, frzAll, isLst, atI, ixN, okRecv, e, f])
  obtain ⟨ms, rfl, hms, hmd⟩ := mats_of hys
  have hml : ms.length ≤ 40 := by
    rw [List.length_map, rangeL_len] at hlen
    simp at hlen
    omega
  have rss := repr_ms (ms := ms) (fun m hm => (hms m hm).mono (by decide)) (by omega)
  generalize hD : foldM one ms = due
  have hdue : Bd 1000 due := by rw [← hD]; exact (foldM_bd hms one_bd).mono (by omega)
  have rdd := repr_ms (ms := [due, due]) (fun m hm => by simp at hm; rw [hm]; exact hdue) (by show 2 ≤ 1000; decide)
  simp only [List.map_cons, List.map_nil] at rdd
  have f11 := fun S => c11 (k + 1) S (x := .lst (ms.map pv)) (fl := .frz) hms hmd hml (.inl rfl)
  have f11t := fun S => c11 (k + 1) S (x := .tup (ms.map pv)) (fl := .frz) hms hmd hml (.inr rfl)
  rw [hD] at f11 f11t
  obtain ⟨t12, L⟩ := due_loop (callF prog (k + 5)) (fun S x y hx hy => c24 (k + 4) S hx hy) (some (.obj n, .frz)) s1 t2 t3 (some (pv o, .frz)) (some (pv l, .frz)) (some (pv (inv o), .frz)) t7 (some (v, .frz)) (some (.lst (ms.map pv), .frz)) (some (.str (rpr (.lst (ms.map pv))), .frz)) s13 s14 ms one s12 S6 0 hms one_bd (by omega)
  rw [hD] at L
  have h2 : execs (callF prog (k + 5)) (tb.drop 10) [some (.obj n, .frz), s1, t2, t3, some (pv o, .frz), some (pv l, .frz), some (pv (inv o), .frz), t7, some (v, .frz), some (u, .frz), s10, s11, s12, s13, s14] S4 = execs (callF prog (k + 5)) (tb.drop 15) [some (.obj n, .frz), s1, t2, t3, some (pv o, .frz), some (pv l, .frz), some (pv (inv o), .frz), t7, some (v, .frz), some (pv due, .frz), some (.lst (ms.map pv), .frz), some (.str (rpr (.lst (ms.map pv))), .frz), t12, s13, s14] S6 := by
    refine (asg_run (σ' := [some (.obj n, .frz), s1, t2, t3, some (pv o, .frz), some (pv l, .frz), some (pv (inv o), .frz), t7, some (v, .frz), some (u, .frz), some (.lst (ms.map pv), .own), s11, s12, s13, s14]) (lc_eq (xs := rangeL 0 j) (S1 := S5) ?_ (by rw [rangeL_len]; show _ ≤ 16777216; omega) e6) rfl).trans ?_
    · simp [execs, execS, evalE, evalEs, evalAs, evalCs, evalO, asgG, asgGs, setS, slotOf, leaks, leak1, X.fin, R.thenX, liftO, X.andThen, pick, handOn, isBl, testR, itOf, setAll, boxed, putS, putV, asgT, asgTs, wipeE, frzAll, isLst, atI, ixN, okRecv, e5, it_range1 (show j < 2 ^ 62 by omega) (show -(2 ^ 62) ≤ j by omega)]
    refine (run1 [some (.obj n, .frz), s1, t2, t3, some (pv o, .frz), some (pv l, .frz), some (pv (inv o), .frz), t7, some (v, .frz), some (u, .frz), some (.lst (ms.map pv), .frz), s11, s12, s13, s14] S6 rfl).trans ?_
    refine (run1 [some (.obj n, .frz), s1, t2, t3, some (pv o, .frz), some (pv l, .frz), some (pv (inv o), .frz), t7, some (v, .frz), some (pv one, .frz), some (.lst (ms.map pv), .frz), some (.str (rpr (.lst (ms.map pv))), .frz), s12, s13, s14] S6 (by simp [execs, execS, evalE, evalEs, evalAs, evalCs, evalO, asgG, asgGs, setS, slotOf, leaks, leak1, X.fin, R.thenX, liftO, X.andThen, pick, handOn, isBl, testR, itOf, setAll, boxed, putS, putV, asgT, asgTs, wipeE, frzAll, isLst, atI, ixN, okRecv, rss]; rfl)).trans ?_
    refine (run1 [some (.obj n, .frz), s1, t2, t3, some (pv o, .frz), some (pv l, .frz), some (pv (inv o), .frz), t7, some (v, .frz), some (pv due, .frz), some (.lst (ms.map pv), .frz), some (.str (rpr (.lst (ms.map pv))), .frz), t12, s13, s14] S6 ?_).trans ?_
    · rw [fr_eq (xs := ms.map pv) (st' := S6) (by simp [execs, execS, evalE, evalEs, evalAs, evalCs, evalO, asgG, asgGs, setS, slotOf, leaks, leak1, X.fin, R.thenX, liftO, X.andThen, pick, handOn, isBl, testR, itOf, setAll, boxed, putS, putV, asgT, asgTs, wipeE, frzAll, isLst, atI, ixN, okRecv])]
      exact L
    exact iff_f (fl := .frz) (st' := S6) (by simp [execs, execS, evalE, evalEs, evalAs, evalCs, evalO, asgG, asgGs, setS, slotOf, leaks, leak1, X.fin, R.thenX, liftO, X.andThen, pick, handOn, isBl, testR, itOf, setAll, boxed, putS, putV, asgT, asgTs, wipeE, frzAll, isLst, atI, ixN, okRecv, f11, f11t, rdd, rss])
  rw [h2]
  clear h2
  have B := @forL_inv (.nm 13) (fun σ st => execs (callF prog (k + 5)) bareB σ st) (fun σ st => st = S6 ∧ ∃ a b c, σ = [some (.obj n, .frz), s1, t2, t3, some (pv o, .frz), some (pv l, .frz), some (pv (inv o), .frz), t7, some (v, .frz), some (pv due, .frz), some (.lst (ms.map pv), .frz), some (.str (rpr (.lst (ms.map pv))), .frz), a, b, c])
    (bares.map pv) [some (.obj n, .frz), s1, t2, t3, some (pv o, .frz), some (pv l, .frz), some (pv (inv o), .frz), t7, some (v, .frz), some (pv due, .frz), some (.lst (ms.map pv), .frz), some (.str (rpr (.lst (ms.map pv))), .frz), t12, s13, s14] S6 ⟨rfl, t12, s13, s14, rfl⟩ (fun x hx σ st ⟨h1, a, b, c, h2⟩ => by
      subst h1 h2
      obtain ⟨y, hy, rfl⟩ := List.mem_map.mp hx
      obtain ⟨yb, yd⟩ := bares_ok y hy
      obtain ⟨r1, r2, e⟩ := bare_turn k st ho hod hl hld yb yd (some (.obj n, .frz)) s1 t2 t3 t7 (some (v, .frz)) (some (pv due, .frz)) (some (.lst (ms.map pv), .frz)) (some (.str (rpr (.lst (ms.map pv))), .frz)) a c
      exact ⟨_, rfl, _, _, e, rfl, _, _, _, rfl⟩)
  obtain ⟨σ', S', eB, rfl, a, b, c, rfl⟩ := B
  refine ⟨[s1, t2, t3, some (pv o, .frz), some (pv l, .frz), some (pv (inv o), .frz), t7, some (v, .frz), some (pv due, .frz), some (.lst (ms.map pv), .frz), some (.str (rpr (.lst (ms.map pv))), .frz), a, b, c], S', ?_, rfl, P6⟩
  show (execS _ _ _ _).andThen _ = _
  rw [fr_eq (xs := bares.map pv) (st' := S') (by simp [execs, execS, evalE, evalEs, evalAs, evalCs, evalO, asgG, asgGs, setS, slotOf, leaks, leak1, X.fin, R.thenX, liftO, X.andThen, pick, handOn, isBl, testR, itOf, setAll, boxed, putS, putV, asgT, asgTs, wipeE, frzAll, isLst, atI, ixN, okRecv, bares])]
  refine (congrArg (fun x => X.andThen x _) eB).trans ?_
  rfl
theorem c27 (k : Nat) {S : Store} {n : Nat} (hP : Pot S n) : ∃ S', callF prog (k + 6) 27 [(.obj n, .frz)] S = .ok (.bl true, .frz) S' := by
  obtain ⟨σ', S', e, h1, h2⟩ := @forL_inv (.nm 1) (fun σ st => execs (callF prog (k + 5)) tb σ st) (fun σ st => Pot st n ∧ ∃ r, σ = some (.obj n, .frz) :: r ∧ r.length = 14) (rangeL 0 4) [some (.obj n, .frz), none, none, none, none, none, none, none, none, none, none, none, none, none, none] S ⟨hP, _, rfl, rfl⟩ (fun x hx σ st ⟨h1, r, h2, h3⟩ => by
    subst h2
    match r, h3 with
    | [s1, s2, s3, s4, s5, s6, s7, s8, s9, s10, s11, s12, s13, s14], _ =>
      obtain ⟨σ', S', e, l, P⟩ := c27_turn k h1 (some (x, .frz)) s2 s3 s4 s5 s6 s7 s8 s9 s10 s11 s12 s13 s14
      exact ⟨_, rfl, _, _, e, P, σ', rfl, l⟩)
  refine ⟨S', ?_⟩
  refine call_rt rfl rfl ?_
  show (execS _ _ _ _).andThen _ = _
  rw [fr_eq (xs := rangeL 0 4) (st' := S) (by simp [execs, execS, evalE, evalEs, evalAs, evalCs, evalO, asgG, asgGs, setS, slotOf, leaks, leak1, X.fin, R.thenX, liftO, X.andThen, pick, handOn, isBl, testR, itOf, setAll, boxed, putS, putV, asgT, asgTs, wipeE, frzAll, isLst, atI, ixN, okRecv, it_range1])]
  refine (congrArg (fun x => X.andThen x _) e).trans ?_
  rfl
theorem main (ns : List Int) (h : ns.length ≤ 63) : ∃ fl S, callF prog 7 28 [(.rol (ns.map .int), .frz)] [] = .ok (.bl true, fl) S := by
  have hj : ∃ j : Int, (if (if (ns.length : Int) < 2 then (ns.length : Int) else 2) > 1 then (if (ns.length : Int) < 2 then (ns.length : Int) else 2) else 1) = j ∧ 0 ≤ j ∧ j ≤ 2 := ⟨_, rfl, by split <;> split <;> omega, by split <;> split <;> omega⟩
  obtain ⟨j, hj, j0, j2⟩ := hj
  obtain ⟨ys, S', e, _, hy, hl⟩ := lcGo_inv (f := lcF (callF prog 6) (.nm 1) [1] [] (.cal 27 [.cal 20 [.bor 0, .bor 1] [0, 1]] [0]) [some (.rol (ns.map .int), .frz), none]) (fun _ => True) (fun y => y = .bl true) (xs := rangeL 0 j) (acc := []) (S := []) trivial (fun _ h => nomatch h) (fun x hx S _ => by
    obtain ⟨i, rfl, i0, i1⟩ := rangeL_mem hx
    obtain ⟨S1, e1, P1⟩ := c20 5 S ns i (by omega)
    obtain ⟨S2, e2⟩ := c27 0 P1
    refine ⟨_, S2, lcF_ok (fl := .frz) rfl ?_ (fun z => nomatch z), rfl, trivial⟩
    simp [execs, execS, evalE, evalEs, evalAs, evalCs, evalO, asgG, asgGs, setS, slotOf, leaks, leak1, X.fin, R.thenX, liftO, X.andThen, pick, handOn, isBl, testR, itOf, setAll, boxed, putS, putV, asgT, asgTs, wipeE, frzAll, isLst, atI, ixN, okRecv, e1]
    exact e2)
  refine ⟨.frz, S', ?_⟩
  refine call_rt rfl rfl (ret_run ?_ (fun z => nomatch z))
  refine ev_bif (evs_one (lc_eq (xs := rangeL 0 j) (S1 := []) ?_ (by rw [rangeL_len]; show _ ≤ 16777216; omega) e)) (all_true hy)
  have e1 : evalEs (callF prog 6) [.bif .max2 [.cst (.int 1), .bif .min2 [.cst (.int 2), .bif .len [.bor 0]]]] [some (.rol (ns.map .int), .frz), none] [] = .ok [(.int j, .frz)] [] := by
    simp [execs, execS, evalE, evalEs, evalAs, evalCs, evalO, asgG, asgGs, setS, slotOf, leaks, leak1, X.fin, R.thenX, liftO, X.andThen, pick, handOn, isBl, testR, itOf, setAll, boxed, putS, putV, asgT, asgTs, wipeE, frzAll, isLst, atI, ixN, okRecv]
    exact hj
  show itOf .range1 (evalEs (callF prog 6) [.bif .max2 [.cst (.int 1), .bif .min2 [.cst (.int 2), .bif .len [.bor 0]]]] [some (.rol (ns.map .int), .frz), none] []) = _
  rw [e1]
  simp [itOf, leaks, it_range1 (show j < 2 ^ 62 by omega) (show -(2 ^ 62) ≤ j by omega)]

end Pk38
open PySem PySem.W PyProof.Rows
set_option maxHeartbeats 0 in
theorem PySem.Challenge.cw_squarefloors_k38_whole_matrices_holds : PySem.Challenge.rw_squarefloors_k38_whole_matrices.Holds := by
  w_on; o_law; k_head; (case hw => w_witness2)
  k_fill
  refine Sq.walk_ofG (l := PySem.Challenge.rw_squarefloors_k38_whole_matrices) (n := 63) (k := 7) (x := "script") (sp := fun w => Sq.spF ⟨_, fun _ => none⟩ Pk38.exs Pk38.prog 28 7) rfl (by decide) rfl ⟨rfl, by decide, by decide⟩ (fun w h Y => PySem.W.kIn_of Y) ?F (fun w H a ns hl hS => let ⟨_, _, h⟩ := Pk38.main ns hl; Sq.sp_law hS h)
  case F =>
    intro w mg fa h KX G hmg
    refine' Pk38.facts KX G hmg ?h11 ?h12 ?h13 ?h14 ?h25 ?h26 ?h27 ?h28 ?h39 ?h40 ?h41 ?h42 ?h53 ?h54 ?h55 ?h56 ?h67 ?h68 ?h69 ?h70 ?h81 ?h82 ?h83 ?h84 ?h95 ?h96 ?h97 ?h98 ?h109 ?h110 ?h111 ?h112 ?h123 ?h124 ?h125 ?h126 ?h137 ?h138 ?h139 ?h140 ?h151 ?h152 ?h153 ?h154 ?h165 ?h166 ?h167 ?h168 ?h179 ?h180 ?h181 ?h182 ?h193 ?h194 ?h195 ?h196 ?h207 ?h208 ?h209 ?h210 ?h221 ?h222 ?h223 ?h224 ?h235 ?h236 ?h237 ?h238 ?h249 ?h250 ?h251 ?h252 ?h263 ?h264 ?h265 ?h266 ?h277 ?h278 ?h279 ?h280 ?h291 ?h292 ?h293 ?h294 ?h305 ?h306 ?h307 ?h308 ?h319 ?h320 ?h321 ?h322 ?h333 ?h334 ?h335 ?h336 ?h347 ?h348 ?h349 ?h350 ?h361 ?h362 ?h363 ?h364 ?h375 ?h376 ?h377 ?h378 ?h389 ?h390 ?h391 ?h392 ?h403 ?h404 ?h405 ?h406 ?h408 ?h417 ?h418 ?h420 ?h422 ?h424 ?h428 ?h429 ?h430 ?h431 ?h440 ?h441 ?h450 ?h451 ?h460 ?h461 ?h470 ?h471 ?h480 ?h481 ?h490 ?h491 ?h495 ?h496 ?h497 ?h498 ?h500 ?h502 ?h504 ?h506 ?h508 ?h510 ?h511 ?h512 ?h513 ?h514 ?h515 ?h516 ?h517 ?h518 ?h519 ?h520 ?h521 ?h522 ?h523 ?h524
    (case h11 => k_is)
    (case h12 => k_is)
    (case h13 => k_is)
    (case h14 => k_is)
    (case h25 => k_is)
    (case h26 => k_is)
    (case h27 => k_is)
    (case h28 => k_is)
    (case h39 => k_is)
    (case h40 => k_is)
    (case h41 => k_is)
    (case h42 => k_is)
    (case h53 => k_is)
    (case h54 => k_is)
    (case h55 => k_is)
    (case h56 => k_is)
    (case h67 => k_is)
    (case h68 => k_is)
    (case h69 => k_is)
    (case h70 => k_is)
    (case h81 => k_is)
    (case h82 => k_is)
    (case h83 => k_is)
    (case h84 => k_is)
    (case h95 => k_is)
    (case h96 => k_is)
    (case h97 => k_is)
    (case h98 => k_is)
    (case h109 => k_is)
    (case h110 => k_is)
    (case h111 => k_is)
    (case h112 => k_is)
    (case h123 => k_is)
    (case h124 => k_is)
    (case h125 => k_is)
    (case h126 => k_is)
    (case h137 => k_is)
    (case h138 => k_is)
    (case h139 => k_is)
    (case h140 => k_is)
    (case h151 => k_is)
    (case h152 => k_is)
    (case h153 => k_is)
    (case h154 => k_is)
    (case h165 => k_is)
    (case h166 => k_is)
    (case h167 => k_is)
    (case h168 => k_is)
    (case h179 => k_is)
    (case h180 => k_is)
    (case h181 => k_is)
    (case h182 => k_is)
    (case h193 => k_is)
    (case h194 => k_is)
    (case h195 => k_is)
    (case h196 => k_is)
    (case h207 => k_is)
    (case h208 => k_is)
    (case h209 => k_is)
    (case h210 => k_is)
    (case h221 => k_is)
    (case h222 => k_is)
    (case h223 => k_is)
    (case h224 => k_is)
    (case h235 => k_is)
    (case h236 => k_is)
    (case h237 => k_is)
    (case h238 => k_is)
    (case h249 => k_is)
    (case h250 => k_is)
    (case h251 => k_is)
    (case h252 => k_is)
    (case h263 => k_is)
    (case h264 => k_is)
    (case h265 => k_is)
    (case h266 => k_is)
    (case h277 => k_is)
    (case h278 => k_is)
    (case h279 => k_is)
    (case h280 => k_is)
    (case h291 => k_is)
    (case h292 => k_is)
    (case h293 => k_is)
    (case h294 => k_is)
    (case h305 => k_is)
    (case h306 => k_is)
    (case h307 => k_is)
    (case h308 => k_is)
    (case h319 => k_is)
    (case h320 => k_is)
    (case h321 => k_is)
    (case h322 => k_is)
    (case h333 => k_is)
    (case h334 => k_is)
    (case h335 => k_is)
    (case h336 => k_is)
    (case h347 => k_is)
    (case h348 => k_is)
    (case h349 => k_is)
    (case h350 => k_is)
    (case h361 => k_is)
    (case h362 => k_is)
    (case h363 => k_is)
    (case h364 => k_is)
    (case h375 => k_is)
    (case h376 => k_is)
    (case h377 => k_is)
    (case h378 => k_is)
    (case h389 => k_is)
    (case h390 => k_is)
    (case h391 => k_is)
    (case h392 => k_is)
    (case h403 => k_is)
    (case h404 => k_is)
    (case h405 => k_is)
    (case h406 => k_is)
    (case h408 => k_is)
    (case h418 => k_is)
    (case h417 => k_is)
    (case h420 => k_is)
    (case h422 => k_is)
    (case h424 => k_is)
    (case h428 => k_is)
    (case h429 => k_is)
    (case h430 => k_keys)
    (case h431 => rfl)
    (case h441 => k_is)
    (case h440 => k_is)
    (case h451 => k_is)
    (case h450 => k_is)
    (case h461 => k_is)
    (case h460 => k_is)
    (case h471 => k_is)
    (case h470 => k_is)
    (case h481 => k_is)
    (case h480 => k_is)
    (case h491 => k_is)
    (case h490 => k_is)
    (case h495 => k_is)
    (case h496 => k_is)
    (case h497 => k_keys)
    (case h498 => rfl)
    (case h500 => k_is)
    (case h502 => k_is)
    (case h504 => k_is)
    (case h506 => k_is)
    (case h508 => k_is)
    (case h510 => k_is)
    (case h511 => k_is)
    (case h512 => k_is)
    (case h513 => k_is)
    (case h514 => k_is)
    (case h515 => k_is)
    (case h516 => k_is)
    (case h517 => k_is)
    (case h518 => k_is)
    (case h519 => k_is)
    (case h520 => k_is)
    (case h521 => k_is)
    (case h522 => k_is)
    (case h523 => k_is)
    (case h524 => k_is)
