import PyProof.Rows.All
import Wide.All
import OpenK.AllK
import Wide.FinOn
import HandS.ForMost
import HandS.ForExc
import HandS.TryMany
import HandS.ExcInit
import HandS.ExcInitHot
import HandS.SuiteRaise
import HandS.Defaults
import HandS.Wide
import HandS.Flow
import HandS.SortKw
import HandS.DeepEq
import HandS.Deep
import HandS.TupAny
import HandS.IsInst
import HandS.ExcIs
import HandS.ExcValue
import HandS.Walk
import HandS.Zip
import HandS.Rev
import HandS.RevRange
import HandS.StrMore
import HandS.More
import HandS.Conv
import HandS.Codes
import HandS.Lambda
import HandS.MakeKw
import KE.KEqNest
import KE.SortKeyHeap
import KE.DataCmp
import PyProof.StrOps2
import PyProof.NeKinds
import KE.KEqDict
import HandS.RaiseMore
import HandS.CallSlots
import HandS.Small
import HandS.WordsExc
import HandS.Head0
import HandS.Head1
import HandS.Head2
import HandS.HeadEnd
import HandS.HeadHook1
import HandS.HeadHook2
import KE.KStateDown
import PySem.Challenge.RW_putback_k01_empty_values
set_option Elab.async false
section
set_option Elab.async false
set_option linter.all false
set_option maxRecDepth 100000
/-! PB1: values as trees, the IR, its interpreter. -/
namespace PB
open PySem L2

/-- a text, by its codes -/
abbrev Tx := List Nat
def tS (t : Tx) : Str := ⟨t.toArray⟩
/-- a dict's key -/
inductive K2 where
  | i (n : Int)
  | s (t : Tx)
  deriving DecidableEq
/-- a value as a tree: lists and dicts by what they hold; ref: a thing of the store -/
inductive PV where
  | non | bl (b : Bool) | int (i : Int) | str (t : Tx)
  | tup (xs : List PV) | lst (xs : List PV) | dic (kvs : List (K2 × PV)) | scr (ns : List Int)
  | obj (c : Nat) (fs : List (Nat × PV)) | exc (c : Nat) (fs : List (Nat × PV))
  | ref (a : Nat) | fn (f : Nat) | clo (f : Nat) (caps : List PV)
instance : Inhabited PV := ⟨.non⟩
def K2.pv : K2 → PV
  | .i n => .int n
  | .s t => .str t
def keyOf : PV → Option K2
  | .int n => some (.i n)
  | .str t => some (.s t)
  | _ => none
def b2i (b : Bool) : Int := if b then 1 else 0

/-! ### dicts as lists of pairs -/
def look (k : K2) : List (K2 × PV) → Option PV
  | [] => none
  | (k', v) :: r => if k' = k then some v else look k r
def upD (k : K2) (v : PV) : List (K2 × PV) → List (K2 × PV)
  | [] => []
  | (k', u) :: r => (k', if k' = k then v else u) :: upD k v r
def put (k : K2) (v : PV) (d : List (K2 × PV)) : List (K2 × PV) := if (look k d).isSome then upD k v d else d ++ [(k, v)]
def drp (k : K2) : List (K2 × PV) → List (K2 × PV)
  | [] => []
  | (k', u) :: r => if k' = k then drp k r else (k', u) :: drp k r
def puts (d : List (K2 × PV)) : List (K2 × PV) → List (K2 × PV)
  | [] => d
  | (k, v) :: r => puts (put k v d) r
def fget (f : Nat) : List (Nat × PV) → Option PV
  | [] => none
  | (g, v) :: r => if g = f then some v else fget f r
def fput (f : Nat) (v : PV) : List (Nat × PV) → List (Nat × PV)
  | [] => [(f, v)]
  | (g, u) :: r => if g = f then (g, v) :: r else (g, u) :: fput f v r

/-! ### == -/
mutual
def eqv : PV → PV → Option Bool
  | .non, .non => some true
  | .non, .bl _ => some false
  | .non, .int _ => some false
  | .non, .str _ => some false
  | .bl a, .bl b => some (a == b)
  | .bl a, .int j => some (b2i a == j)
  | .bl _, .str _ => some false
  | .bl _, .non => some false
  | .int i, .int j => some (i == j)
  | .int i, .bl b => some (i == b2i b)
  | .int _, .str _ => some false
  | .int _, .non => some false
  | .str a, .str b => some (a == b)
  | .str _, .int _ => some false
  | .str _, .bl _ => some false
  | .str _, .non => some false
  | .lst xs, .lst ys => if xs.length = ys.length then eqvs xs ys else some false
  | .lst _, .non => some false
  | .lst _, .bl _ => some false
  | .lst _, .int _ => some false
  | .lst _, .str _ => some false
  | .lst _, .tup _ => some false
  | .tup _, .non => some false
  | .tup _, .bl _ => some false
  | .tup _, .int _ => some false
  | .tup _, .str _ => some false
  | .tup _, .lst _ => some false
  | .non, .lst _ => some false
  | .bl _, .lst _ => some false
  | .int _, .lst _ => some false
  | .str _, .lst _ => some false
  | .non, .tup _ => some false
  | .bl _, .tup _ => some false
  | .int _, .tup _ => some false
  | .str _, .tup _ => some false
  | .tup xs, .tup ys => match eqvs xs ys with
    | some b => some (b && xs.length == ys.length)
    | none => none
  | .dic xs, .dic ys => match eqvd xs ys with
    | some b => some (xs.length == ys.length && b)
    | none => none
  | _, _ => none
def eqvs : List PV → List PV → Option Bool
  | x :: xs, y :: ys => match eqv x y, eqvs xs ys with
    | some a, some b => some (a && b)
    | _, _ => none
  | _, _ => some true
def eqvd : List (K2 × PV) → List (K2 × PV) → Option Bool
  | [], _ => some true
  | (k, v) :: r, ys => match look k ys with
    | none => match eqvd r ys with
      | some _ => some false
      | none => none
    | some y => match eqv v y, eqvd r ys with
      | some a, some b => some (a && b)
      | _, _ => none
end

/-- how deep a thing is nested -/
def dp : PV → Nat
  | .lst xs => dps xs + 1
  | .tup xs => dps xs + 1
  | .dic d => dpd d + 1
  | _ => 0
where
  dps : List PV → Nat
    | [] => 0
    | x :: r => max (dp x) (dps r)
  dpd : List (K2 × PV) → Nat
    | [] => 0
    | (_, x) :: r => max (dp x) (dpd r)
def deepL : Nat := 400
def eqOp (x y : PV) : Option Bool := if dp x ≤ deepL ∨ dp y ≤ deepL then eqv x y else none

/-! ### < -/
def scal : PV → Bool
  | .non | .bl _ | .int _ | .str _ => true
  | _ => false
def lt1 : PV → PV → Option Bool
  | .int i, .int j => some (decide (i < j))
  | .str a, .str b => some (decide (a < b))
  | _, _ => none
def eq1 : PV → PV → Bool
  | .int i, .int j => decide (i = j)
  | .str a, .str b => decide (a = b)
  | _, _ => false
def lts : List PV → List PV → Option Bool
  | [], [] => some false
  | x :: xs, y :: ys => match lt1 x y, lts xs ys with
    | some l, some r => some (if eq1 x y then r else l)
    | _, _ => none
  | _, _ => none
/-- < of numbers, texts, and tuples of them of one length -/
def ltv : PV → PV → Option Bool
  | .tup (x :: xs), .tup (y :: ys) => lts (x :: xs) (y :: ys)
  | x, y => lt1 x y

/-! ### the IR -/
inductive Op where
  | add | sub | mul | fdiv | mod | pow | neg
  | eq | ne | lt | le | gt | ge | isIn | notIn | isNone | isSome
  | idx | slL | slH | slLH | slA
  | len | all | any | dictOf | intOf | listOf | tupleOf | max2 | min2 | sorted | sortedSet | strOf | sum
  | isI (ts : List String) | isC (cs : List Nat)
  | mkT | mkL | mkD | get1 | get2 | find2 | join | lstrip1 | startswith1 | valuesL
  deriving DecidableEq
/-- what changes a thing in its place -/
inductive MOp where
  | append | extend | insert | popL | popAt | popK | clearL | clearD | update | setIx | setdefault
  deriving DecidableEq

mutual
inductive E where
  | const (v : PV)
  | glob (g : Nat)
  | slot (i : Nat)
  | bor (i : Nat)
  | mov (i : Nat)
  | prim (op : Op) (es : Es)
  | fld (e : E) (f : Nat)
  | and (a b : E)
  | or (a b : E)
  | not (a : E)
  | ite (c a b : E)
  | chain (o1 o2 : Op) (a b c : E)
  | comp (own : List Nat) (it : It) (tg : Tg) (cond : Option1) (elt : E)
  | call (f : Nat) (es : Es)
  | callv (i : Nat) (es : Es)
  | meth (e : E) (m : Nat) (es : Es)
  | mk (c : Nat) (es : Es)
  | new (e : E)
  | lam (f : Nat) (caps : Es)
  | sortk (e : E) (f : Nat) (caps : Es)
  | mutS (op : MOp) (i : Nat) (es : Es)
  | mutR (op : MOp) (e : E) (es : Es)
  | efld (i : Nat) (f : Nat)
  | eis (i : Nat) (cs : List Nat)
inductive Es where
  | nil
  | cons (e : E) (es : Es)
inductive Option1 where
  | none
  | some (e : E)
/-- what a for or a comprehension walks -/
inductive It where
  | val (e : E)
  | rng1 (e : E)
  | rng2 (a b : E)
  | rev (e : E)
  | revR (a b : E)
  | enum (e : E)
  | zip (a b : E)
  | items (e : E)
inductive Tg where
  | one (i : Nat)
  | two (i j : Nat)
end
mutual
inductive S where
  | pass
  | expr (e : E)
  | set (i : Nat) (e : E)
  | own (i : Nat) (e : E)
  | unpack (is : List Nat) (e : E)
  | setS (i : Nat) (k v : E)
  | setR (o k v : E)
  | fld (o : E) (f : Nat) (v : E)
  | fldS (i : Nat) (f : Nat) (v : E)
  | aug (i : Nat) (e : E)
  | ret (e : E)
  | retN
  | iff (c : E) (a b : Ss)
  | for (tg : Tg) (it : It) (body : Ss)
  | while (c : E) (body : Ss)
  | cont
  | raise (c : Nat) (es : Es)
  | try_ (body : Ss) (hs : Hs)
inductive Ss where
  | nil
  | cons (s : S) (r : Ss)
inductive Hs where
  | nil
  | cons (c : Nat) (as : Option Nat) (body : Ss) (r : Hs)
  | hold (c : Nat) (as m : Nat) (r : Hs)
end

/-- a name: unset; a value that stays as it is; a thing that is still changed here; the exception that is handled -/
inductive Slot where
  | un
  | fz (v : PV)
  | ow (v : PV)
  | ex (c : Nat) (fs : List (Nat × PV))
abbrev REnv := List Slot
abbrev Sto := List PV
/-- what an evaluation gives: a value, an exception, or it is stuck -/
inductive Res (α : Type) where
  | ok (a : α) (ρ : REnv) (st : Sto)
  | exc (v : PV) (ρ : REnv) (st : Sto)
  | bad
def Res.bind {α β : Type} : Res α → (α → REnv → Sto → Res β) → Res β
  | .ok a ρ st, f => f a ρ st
  | .exc v ρ st, _ => .exc v ρ st
  | .bad, _ => .bad
inductive CR where
  | ok (v : PV) (st : Sto)
  | exc (v : PV) (st : Sto)
  | bad
def CR.res (r : CR) (ρ : REnv) : Res PV := match r with
  | .ok v st => .ok v ρ st
  | .exc v st => .exc v ρ st
  | .bad => .bad
inductive Fn where
  | f (i : Nat)
  | mk (c : Nat)
  | low (i : Nat)
abbrev CF := Fn → List PV → Sto → CR
/-- a statement's end -/
inductive Flow where
  | nx (ρ : REnv) (st : Sto)
  | ct (ρ : REnv) (st : Sto)
  | ret (v : PV) (ρ : REnv) (st : Sto)
  | exc (v : PV) (ρ : REnv) (st : Sto)
  | bad
def Res.flow (r : Res PV) (f : PV → REnv → Sto → Flow) : Flow := match r with
  | .ok a ρ st => f a ρ st
  | .exc v ρ st => .exc v ρ st
  | .bad => .bad
def Flow.then (r : Flow) (f : REnv → Sto → Flow) : Flow := match r with
  | .nx ρ st => f ρ st
  | r => r
structure FD where
  np : Nat
  ns : Nat
  body : Ss
  dfl : List PV := []
  fr : Bool := false
  init : Bool := false
structure CD where
  init : Option Nat := none
  frozen : Bool := true
  exc : Option (Option Nat) := none
  up : List Nat := []
  meths : List (Nat × Nat) := []
structure Prog where
  funs : List FD
  cls : List CD
  glob : List PV := []

/-! ### operations -/
def lim : Nat := 16777216
def big : Nat := 2 ^ 9000
def pIx (n : Nat) (i : Int) : Option Nat := ixN n i
def cutL {α : Type} (xs : List α) (lo hi : Option Int) : List α := (xs.drop (HT.sIx xs.length 0 lo)).take (HT.sIx xs.length xs.length hi - HT.sIx xs.length 0 lo)
def slc (lo hi : Option Int) : PV → Option PV
  | .lst xs => some (.lst (cutL xs lo hi))
  | .scr ns => some (.lst ((cutL ns lo hi).map .int))
  | .tup xs => some (.tup (cutL xs lo hi))
  | .str xs => if xs.length ≤ lim then some (.str (cutL xs lo hi)) else none
  | _ => none
def boolsOf : List PV → Option (List Bool)
  | [] => some []
  | .bl b :: r => (boolsOf r).map (b :: ·)
  | _ => none
def intsOf : List PV → Option (List Int)
  | [] => some []
  | .int b :: r => (intsOf r).map (b :: ·)
  | _ => none
def textsOf : List PV → Option (List Tx)
  | [] => some []
  | .str b :: r => (textsOf r).map (b :: ·)
  | _ => none
def keysOf : List PV → Option (List K2)
  | [] => some []
  | v :: r => match keyOf v, keysOf r with
    | some k, some ks => some (k :: ks)
    | _, _ => none
def inL (x : PV) (ys : List PV) : Option Bool := if scal x && ys.all scal then some (ys.any fun y => eqv y x == some true) else none
def joinTx (sep : Tx) : List Tx → Tx
  | [] => []
  | [t] => t
  | t :: r => t ++ sep ++ joinTx sep r
def lePV (a b : PV) : Bool := match ltv b a with
  | some true => false
  | _ => true
def sortOk (ks : List PV) : Bool := ks.all fun x => ks.all fun y => (ltv x y).isSome
def sortBy (ks : List PV) (xs : List PV) : Option (List PV) :=
  if sortOk ks = true then some (((ks.zip xs).mergeSort fun a b => lePV a.1 b.1).map (·.2)) else none
def isTy (v : PV) (t : String) : Bool := match v with
  | .non => false
  | .bl _ => t == "int" || t == "bool"
  | .int _ => t == "int"
  | .str _ => t == "str"
  | .tup _ => t == "tuple"
  | .lst _ => t == "list"
  | .dic _ => t == "dict"
  | _ => false
def plainV : PV → Bool
  | .non | .bl _ | .int _ | .str _ | .tup _ | .lst _ | .dic _ => true
  | _ => false
def unzipD : List PV → Option (List (K2 × PV))
  | [] => some []
  | k :: v :: r => match keyOf k, unzipD r with
    | some k, some d => some ((k, v) :: d)
    | _, _ => none
  | _ => none
def subCls (P : Prog) (c d : Nat) : Bool := match P.cls[c]? with
  | some cd => cd.up.contains d
  | none => false
def de (st : Sto) : PV → PV
  | .ref a => st.getD a .non
  | v => v
def dedup (xs : List K2) : List K2 := xs.foldl (fun acc k => if acc.contains k then acc else acc ++ [k]) []
def addOp : PV → PV → Option PV
  | .int i, .int j => some (.int (i + j))
  | .str a, .str b => if a.length + b.length ≤ lim then some (.str (a ++ b)) else none
  | .lst a, .lst b => if a.length + b.length ≤ lim then some (.lst (a ++ b)) else none
  | .tup a, .tup b => if a.length + b.length ≤ lim then some (.tup (a ++ b)) else none
  | _, _ => none
def mulOp : PV → PV → Option PV
  | .int i, .int j => if i.natAbs < big ∧ j.natAbs < big then some (.int (i * j)) else none
  | .str a, .int j => if 0 ≤ j ∧ j < 1000 ∧ a.length * j.toNat ≤ lim then some (.str (List.replicate j.toNat a).flatten) else none
  | .lst a, .int j => if 0 ≤ j ∧ j < 1000 ∧ a.length * j.toNat ≤ lim then some (.lst (List.replicate j.toNat a).flatten) else none
  | _, _ => none
def subOp : PV → PV → Option PV
  | .int i, .int j => some (.int (i - j))
  | _, _ => none
def fdivOp : PV → PV → Option PV
  | .int i, .int j => if 0 < j ∧ j.natAbs < big then some (.int (i / j)) else none
  | _, _ => none
def modOp : PV → PV → Option PV
  | .int i, .int j => if 0 < j then some (.int (i % j)) else none
  | _, _ => none
def powOp : PV → PV → Option PV
  | .int i, .int j => if 0 ≤ j ∧ j ≤ 1000 ∧ i.natAbs < 2 ^ 64 then some (.int (i ^ j.toNat)) else none
  | _, _ => none
def negOp : PV → Option PV
  | .int i => some (.int (-i))
  | _ => none
def inOp (x y : PV) : Option PV := match y with
  | .lst ys => (inL x ys).map .bl
  | .tup ys => (inL x ys).map .bl
  | .dic d => (keyOf x).map fun k => .bl (look k d).isSome
  | .str t => match x with
    | .str [c] => some (.bl (decide (c ∈ t)))
    | _ => none
  | _ => none
def notOp : Option PV → Option PV
  | some (.bl b) => some (.bl (!b))
  | _ => none
def ixOp (x y : PV) : Option PV := match x with
  | .lst xs => (match y with
    | .int i => (pIx xs.length i).bind (xs[·]?)
    | _ => none)
  | .scr xs => (match y with
    | .int i => (pIx xs.length i).bind fun k => (xs[k]?).map .int
    | _ => none)
  | .tup xs => (match y with
    | .int i => (pIx xs.length i).bind (xs[·]?)
    | _ => none)
  | .str xs => (match y with
    | .int i => if xs.length ≤ lim then (pIx xs.length i).bind fun k => (xs[k]?).map fun c => .str [c] else none
    | _ => none)
  | .dic d => (keyOf y).bind fun k => look k d
  | _ => none
def lenOp (x : PV) : Option PV := match x with
  | .lst xs => some (.int xs.length)
  | .scr xs => some (.int xs.length)
  | .tup xs => some (.int xs.length)
  | .str xs => if xs.length ≤ lim then some (.int xs.length) else none
  | .dic d => some (.int d.length)
  | _ => none
def sl1 (k : Int → Option PV) : PV → Option PV
  | .int i => k i
  | _ => none
def isNonB : PV → Bool
  | .non => true
  | _ => false
def bAll : PV → Option PV
  | .lst xs => (boolsOf xs).map fun bs => .bl (bs.all id)
  | _ => none
def bAny : PV → Option PV
  | .lst xs => (boolsOf xs).map fun bs => .bl (bs.any id)
  | _ => none
def dictOp : PV → Option PV
  | .dic d => some (.dic d)
  | _ => none
def intOp : PV → Option PV
  | .int i => some (.int i)
  | .bl b => some (.int (b2i b))
  | .str t => if t.length ≤ 640 then (intText? (tS t)).map .int else none
  | _ => none
def listOp : PV → Option PV
  | .lst xs => some (.lst xs)
  | .tup xs => some (.lst xs)
  | .scr ns => some (.lst (ns.map .int))
  | .dic d => some (.lst (d.map fun p => p.1.pv))
  | _ => none
def tupleOp : PV → Option PV
  | .lst xs => some (.tup xs)
  | .tup xs => some (.tup xs)
  | _ => none
def maxOp : PV → PV → Option PV
  | .int i, .int j => some (.int (if j > i then j else i))
  | _, _ => none
def minOp : PV → PV → Option PV
  | .int i, .int j => some (.int (if j < i then j else i))
  | _, _ => none
def sortOp : PV → Option PV
  | .lst xs => (sortBy xs xs).map .lst
  | _ => none
def sortSetOp : PV → Option PV
  | .lst xs => match keysOf xs with
    | some ks => (sortBy ((dedup ks).map K2.pv) ((dedup ks).map K2.pv)).map .lst
    | none => none
  | _ => none
def strOp : PV → Option PV
  | .int i => if i.natAbs.log2 < 1920 then some (.str (toString i : Str).cps.toList) else none
  | .str t => some (.str t)
  | _ => none
def sumOp : PV → Option PV
  | .lst xs => (intsOf xs).map fun ns => .int ns.sum
  | _ => none
def isCOp (P : Prog) (cs : List Nat) : PV → Option PV
  | .obj c _ => some (.bl (cs.any (subCls P c)))
  | .exc c _ => some (.bl (cs.any (subCls P c)))
  | _ => none
def getOp (y : PV) : PV → PV → Option PV
  | .dic d, k => (keyOf k).map fun k => (look k d).getD y
  | _, _ => none
def findOp : PV → PV → PV → Option PV
  | .str x, .str y, .int i => some (.int (Txt.find3 (tS x) (tS y) i))
  | _, _, _ => none
def joinOp : PV → PV → Option PV
  | .str sep, .lst xs => match textsOf xs with
    | some ts => if (joinTx sep ts).length + sep.length ≤ lim then some (.str (joinTx sep ts)) else none
    | none => none
  | _, _ => none
def lstripOp : PV → PV → Option PV
  | .str x, .str ch => if x.length ≤ lim then some (.str (Txt.lstripChars (tS x) (tS ch)).cps.toList) else none
  | _, _ => none
def startsOp : PV → PV → Option PV
  | .str x, .str y => some (.bl (Txt.startswith (tS x) (tS y)))
  | _, _ => none
def valuesOp : PV → Option PV
  | .dic d => some (.lst (d.map (·.2)))
  | _ => none
def prim (P : Prog) (st : Sto) : Op → List PV → Option PV
  | .add, [x, y] => addOp x y
  | .sub, [x, y] => subOp x y
  | .mul, [x, y] => mulOp x y
  | .fdiv, [x, y] => fdivOp x y
  | .mod, [x, y] => modOp x y
  | .pow, [x, y] => powOp x y
  | .neg, [x] => negOp x
  | .eq, [x, y] => (eqOp x y).map .bl
  | .ne, [x, y] => (eqOp x y).map fun b => .bl (!b)
  | .lt, [x, y] => (ltv x y).map .bl
  | .le, [x, y] => (ltv y x).map fun b => .bl (!b)
  | .gt, [x, y] => (ltv y x).map .bl
  | .ge, [x, y] => (ltv x y).map fun b => .bl (!b)
  | .isIn, [x, y] => inOp x (de st y)
  | .notIn, [x, y] => notOp (inOp x (de st y))
  | .isNone, [x] => some (.bl (isNonB x))
  | .isSome, [x] => some (.bl (!isNonB x))
  | .idx, [x, y] => ixOp (de st x) y
  | .slL, [x, y] => sl1 (fun i => slc (some i) none (de st x)) y
  | .slH, [x, y] => sl1 (fun i => slc none (some i) (de st x)) y
  | .slLH, [x, y, z] => sl1 (fun i => sl1 (fun j => slc (some i) (some j) (de st x)) z) y
  | .slA, [x] => slc none none (de st x)
  | .len, [x] => lenOp (de st x)
  | .all, [x] => bAll x
  | .any, [x] => bAny x
  | .dictOf, [x] => dictOp (de st x)
  | .intOf, [x] => intOp x
  | .listOf, [x] => listOp (de st x)
  | .tupleOf, [x] => tupleOp (de st x)
  | .max2, [x, y] => maxOp x y
  | .min2, [x, y] => minOp x y
  | .sorted, [x] => sortOp x
  | .sortedSet, [x] => sortSetOp x
  | .strOf, [x] => strOp x
  | .sum, [x] => sumOp x
  | .isI ts, [x] => if plainV x then some (.bl (ts.any (isTy x))) else none
  | .isC cs, [x] => isCOp P cs (de st x)
  | .mkT, xs => some (.tup xs)
  | .mkL, xs => some (.lst xs)
  | .mkD, xs => (unzipD xs).map fun d => .dic (puts [] d)
  | .get1, [x, k] => getOp .non (de st x) k
  | .get2, [x, k, y] => getOp y (de st x) k
  | .find2, [x, y, z] => findOp x y z
  | .join, [x, y] => joinOp x y
  | .lstrip1, [x, y] => lstripOp x y
  | .startswith1, [x, y] => startsOp x y
  | .valuesL, [x] => valuesOp (de st x)
  | _, _ => none
/-- what changes in its place: the thing behind, and what is told -/
def mutF : MOp → PV → List PV → Option (PV × PV)
  | .append, .lst xs, [v] => if xs.length < lim then some (.lst (xs ++ [v]), .non) else none
  | .extend, .lst xs, [.lst ys] => if xs.length + ys.length ≤ lim then some (.lst (xs ++ ys), .non) else none
  | .insert, .lst xs, [.int i, v] => if 0 ≤ i ∧ i ≤ xs.length ∧ xs.length < lim then some (.lst (xs.take i.toNat ++ v :: xs.drop i.toNat), .non) else none
  | .popL, .lst xs, [] => match xs.getLast? with
    | some v => some (.lst xs.dropLast, v)
    | none => none
  | .popAt, .lst xs, [.int i] => match pIx xs.length i with
    | some k => match xs[k]? with
      | some v => some (.lst (xs.eraseIdx k), v)
      | none => none
    | none => none
  | .popK, .dic d, [k] => match keyOf k with
    | some k => match look k d with
      | some v => some (.dic (drp k d), v)
      | none => none
    | none => none
  | .clearL, .lst _, [] => some (.lst [], .non)
  | .clearD, .dic _, [] => some (.dic [], .non)
  | .update, .dic d, [.dic e] => if d.length + e.length < lim then some (.dic (puts d e), .non) else none
  | .setIx, .lst xs, [.int i, v] => match pIx xs.length i with
    | some k => some (.lst (xs.set k v), .non)
    | none => none
  | .setIx, .dic d, [k, v] => match keyOf k with
    | some k => if d.length < lim then some (.dic (put k v d), .non) else none
    | none => none
  | _, _, _ => none
/-- what may be changed so -/
def mKind : MOp → PV → Bool
  | .append, .lst _ => true
  | .extend, .lst _ => true
  | .insert, .lst _ => true
  | .popL, .lst _ => true
  | .popAt, .lst _ => true
  | .clearL, .lst _ => true
  | .popK, .dic _ => true
  | .clearD, .dic _ => true
  | .update, .dic _ => true
  | _, _ => false
def isCont : PV → Bool
  | .lst _ => true
  | .dic _ => true
  | .obj _ _ => true
  | _ => false
def setSlots (ρ : REnv) : List Nat → List PV → Option REnv
  | [], [] => some ρ
  | i :: is, v :: vs => setSlots (ρ.set i (.fz v)) is vs
  | _, _ => none
def Tg.bind (tg : Tg) (v : PV) (ρ : REnv) : Option REnv := match tg with
  | .one i => some (ρ.set i (.fz v))
  | .two i j => match v with
    | .tup [a, b] => some ((ρ.set i (.fz a)).set j (.fz b))
    | _ => none
def blank (ρ : REnv) : List Nat → REnv
  | [] => ρ
  | i :: is => (blank ρ is).set i .un
/-- the own slots of a block as they were ahead of it -/
def unblank (ρ0 ρ : REnv) : List Nat → REnv
  | [] => ρ
  | i :: is => (unblank ρ0 ρ is).set i (match ρ0[i]? with
    | some (.fz v) => .fz v
    | _ => .un)
def rngL (lo hi : Int) : List PV := (List.range (hi - lo).toNat).map fun (k : Nat) => PV.int (lo + (k : Int))
def small62 (i : Int) : Bool := -(2 ^ 62) ≤ i ∧ i < 2 ^ 62
/-- the slots that are borrowed hold what they hold now -/
def fixB (ρ : REnv) : Es → List PV → Option (List PV)
  | .cons (.bor i) es, _ :: vs => (match ρ[i]? with
    | some (.fz u) => (fixB ρ es vs).map (u :: ·)
    | some (.ow u) => (fixB ρ es vs).map (u :: ·)
    | _ => none)
  | .cons _ es, v :: vs => (fixB ρ es vs).map (v :: ·)
  | .nil, [] => some []
  | _, _ => none
def enumFrom (n : Nat) : List PV → List PV
  | [] => []
  | x :: r => .tup [.int (n : Int), x] :: enumFrom (n + 1) r
def zipP : List PV → List PV → List PV
  | x :: xs, y :: ys => .tup [x, y] :: zipP xs ys
  | _, _ => []
def seqOf : PV → Option (List PV)
  | .lst xs => some xs
  | .scr ns => some (ns.map .int)
  | .tup xs => some xs
  | .str t => some (t.map fun c => .str [c])
  | _ => none
def lstOf : PV → Option (List PV)
  | .lst xs => some xs
  | _ => none
/-- the turns of a comprehension -/
def loopC (tg : Tg) (own : List Nat) (cond : REnv → Sto → Res PV) (elt : REnv → Sto → Res PV) : List PV → List PV → REnv → Sto → Res PV
  | [], acc, ρ, st => .ok (.lst acc) ρ st
  | x :: xs, acc, ρ, st => match tg.bind x (blank ρ own) with
    | none => .bad
    | some ρ1 => (cond ρ1 st).bind fun c ρ2 st2 => match c with
      | .bl true => (elt ρ2 st2).bind fun v ρ3 st3 => if acc.length < lim then loopC tg own cond elt xs (acc ++ [v]) ρ3 st3 else .bad
      | .bl false => loopC tg own cond elt xs acc ρ2 st2
      | _ => .bad
/-- the keys of what is sorted -/
def keysBy (g : PV → CR) (st : Sto) : List PV → Option (List PV)
  | [] => some []
  | x :: xs => match g x with
    | .ok k _ => (keysBy g st xs).map (k :: ·)
    | _ => none

def Prog.withDfl (P : Prog) (f : Nat) (xs : List PV) : List PV := match P.funs[f]? with
  | some fd => xs ++ fd.dfl.drop (fd.dfl.length - (fd.np - xs.length))
  | none => xs
def Prog.methOf (P : Prog) (c m : Nat) : Option Nat := match P.cls[c]? with
  | some cd => cd.meths.lookup m
  | none => none
section
variable (P : Prog) (cf : CF)
mutual
def evE : E → REnv → Sto → Res PV
  | .const v, ρ, st => .ok v ρ st
  | .glob g, ρ, st => match P.glob[g]? with
    | some v => .ok v ρ st
    | none => .bad
  | .slot i, ρ, st => match ρ[i]? with
    | some (.fz v) => .ok v ρ st
    | some (.ow v) => .ok v (ρ.set i (.fz v)) st
    | _ => .bad
  | .bor i, ρ, st => match ρ[i]? with
    | some (.fz v) => .ok v ρ st
    | some (.ow v) => .ok v ρ st
    | _ => .bad
  | .mov i, ρ, st => match ρ[i]? with
    | some (.ow v) => .ok v (ρ.set i .un) st
    | _ => .bad
  | .prim op es, ρ, st => (evEs es ρ st).bind fun xs ρ st => match (fixB ρ es xs).bind (prim P st op) with
    | some v => .ok v ρ st
    | none => .bad
  | .fld e f, ρ, st => (evE e ρ st).bind fun v ρ st => match (match de st v with | .obj _ fs => fget f fs | _ => none) with
    | some v => .ok v ρ st
    | none => .bad
  | .and a b, ρ, st => (evE a ρ st).bind fun v ρ st => match v with
    | .bl true => evE b ρ st
    | .bl false => .ok (.bl false) ρ st
    | _ => .bad
  | .or a b, ρ, st => (evE a ρ st).bind fun v ρ st => match v with
    | .bl true => .ok (.bl true) ρ st
    | .bl false => evE b ρ st
    | _ => .bad
  | .not a, ρ, st => (evE a ρ st).bind fun v ρ st => match v with
    | .bl b => .ok (.bl (!b)) ρ st
    | _ => .bad
  | .ite c a b, ρ, st => (evE c ρ st).bind fun v ρ st => match v with
    | .bl true => evE a ρ st
    | .bl false => evE b ρ st
    | _ => .bad
  | .chain o1 o2 a b c, ρ, st => (evE a ρ st).bind fun x ρ st => (evE b ρ st).bind fun y ρ st => match prim P st o1 [x, y] with
    | some (.bl true) => (evE c ρ st).bind fun z ρ st => match prim P st o2 [y, z] with
      | some v => .ok v ρ st
      | none => .bad
    | some (.bl false) => .ok (.bl false) ρ st
    | _ => .bad
  | .comp own it tg cond elt, ρ, st => (evIt it ρ st).bind fun xs ρ1 st1 => match xs with
    | .lst xs => (match loopC tg own (evO cond) (evE elt) xs [] ρ1 st1 with
      | .ok v ρ2 st2 => .ok v (unblank ρ1 ρ2 own) st2
      | _ => .bad)
    | _ => .bad
  | .call f es, ρ, st => (evEs es ρ st).bind fun xs ρ st => (cf (.f f) (P.withDfl f xs) st).res ρ
  | .callv i es, ρ, st => (evEs es ρ st).bind fun xs ρ st => match ρ[i]? with
    | some (.fz (.fn f)) => (cf (.f f) (P.withDfl f xs) st).res ρ
    | some (.fz (.clo f caps)) => (cf (.f f) (xs ++ caps) st).res ρ
    | _ => .bad
  | .meth e m es, ρ, st => (evE e ρ st).bind fun o ρ st => (evEs es ρ st).bind fun xs ρ st => match (match de st o with | .obj c _ => P.methOf c m | _ => none) with
    | some f => (cf (.f f) (P.withDfl f (o :: xs)) st).res ρ
    | none => .bad
  | .mk c es, ρ, st => (evEs es ρ st).bind fun xs ρ st => (cf (.mk c) xs st).res ρ
  | .new e, ρ, st => (evE e ρ st).bind fun v ρ st => if isCont v = true then .ok (.ref st.length) ρ (st ++ [v]) else .bad
  | .lam f caps, ρ, st => (evEs caps ρ st).bind fun xs ρ st => .ok (.clo f xs) ρ st
  | .sortk e f caps, ρ, st => (evE e ρ st).bind fun v ρ st => (evEs caps ρ st).bind fun cs ρ st => match v with
    | .lst xs => match keysBy (fun x => cf (.low f) (x :: cs) st) st xs with
      | some ks => match sortBy ks xs with
        | some ys => .ok (.lst ys) ρ st
        | none => .bad
      | none => .bad
    | _ => .bad
  | .mutS op i es, ρ, st => match ρ[i]? with
    | some (.ow v0) => if mKind op v0 = true then (evEs es ρ st).bind fun xs ρ st => match ρ[i]? with
        | some (.ow v) => match mutF op v xs with
          | some (v', r) => .ok r (ρ.set i (.ow v')) st
          | none => .bad
        | _ => .bad
      else .bad
    | _ => .bad
  | .mutR op e es, ρ, st => (evE e ρ st).bind fun o ρ st => (evEs es ρ st).bind fun xs ρ st => match o with
    | .ref a => match st[a]? with
      | some v => match mutF op v xs with
        | some (v', r) => .ok r ρ (st.set a v')
        | none => .bad
      | none => .bad
    | _ => .bad
  | .efld i f, ρ, st => match ρ[i]? with
    | some (.ex _ fs) => (match fget f fs with
      | some v => .ok v ρ st
      | none => .bad)
    | _ => .bad
  | .eis i cs, ρ, st => match ρ[i]? with
    | some (.ex c _) => .ok (.bl (cs.any (subCls P c))) ρ st
    | _ => .bad
def evEs : Es → REnv → Sto → Res (List PV)
  | .nil, ρ, st => .ok [] ρ st
  | .cons e es, ρ, st => (evE e ρ st).bind fun v ρ st => (evEs es ρ st).bind fun vs ρ st => .ok (v :: vs) ρ st
def evO : Option1 → REnv → Sto → Res PV
  | .none, ρ, st => .ok (.bl true) ρ st
  | .some e, ρ, st => evE e ρ st
def evIt : It → REnv → Sto → Res PV
  | .val e, ρ, st => (evE e ρ st).bind fun v ρ st => match seqOf v with
    | some xs => .ok (.lst xs) ρ st
    | none => .bad
  | .rng1 e, ρ, st => (evE e ρ st).bind fun v ρ st => match v with
    | .int n => (match small62 n with
      | true => .ok (.lst (rngL 0 n)) ρ st
      | false => .bad)
    | _ => .bad
  | .rng2 a b, ρ, st => (evE a ρ st).bind fun u ρ st => (evE b ρ st).bind fun v ρ st => match u, v with
    | .int m, .int n => (match small62 m && small62 n with
      | true => .ok (.lst (rngL m n)) ρ st
      | false => .bad)
    | _, _ => .bad
  | .rev e, ρ, st => (evE e ρ st).bind fun v ρ st => match v with
    | .lst xs => .ok (.lst xs.reverse) ρ st
    | .tup xs => .ok (.lst xs.reverse) ρ st
    | _ => .bad
  | .revR a b, ρ, st => (evE a ρ st).bind fun u ρ st => (evE b ρ st).bind fun v ρ st => match u, v with
    | .int m, .int n => (match small62 m && small62 n with
      | true => .ok (.lst (rngL m n).reverse) ρ st
      | false => .bad)
    | _, _ => .bad
  | .enum e, ρ, st => (evE e ρ st).bind fun v ρ st => match v with
    | .lst xs => .ok (.lst (enumFrom 0 xs)) ρ st
    | _ => .bad
  | .zip a b, ρ, st => (evE a ρ st).bind fun u ρ st => (evE b ρ st).bind fun v ρ st => match u, v with
    | .lst xs, .lst ys => .ok (.lst (zipP xs ys)) ρ st
    | .tup xs, .tup ys => .ok (.lst (zipP xs ys)) ρ st
    | _, _ => .bad
  | .items e, ρ, st => (evE e ρ st).bind fun v ρ st => match v with
    | .dic d => .ok (.lst (d.map fun p => .tup [p.1.pv, p.2])) ρ st
    | _ => .bad
end
end
/-- the turns of a for -/
def loopF (tg : Tg) (body : REnv → Sto → Flow) : List PV → REnv → Sto → Flow
  | [], ρ, st => .nx ρ st
  | x :: xs, ρ, st => match tg.bind x ρ with
    | none => .bad
    | some ρ1 => match body ρ1 st with
      | .nx ρ2 st2 => loopF tg body xs ρ2 st2
      | .ct ρ2 st2 => loopF tg body xs ρ2 st2
      | r => r
/-- the turns of a while -/
def loopW (c : REnv → Sto → Res PV) (body : REnv → Sto → Flow) : Nat → REnv → Sto → Flow
  | 0, _, _ => .bad
  | n + 1, ρ, st => (c ρ st).flow fun v ρ st => match v with
    | .bl true => (match body ρ st with
      | .nx ρ2 st2 => loopW c body n ρ2 st2
      | .ct ρ2 st2 => loopW c body n ρ2 st2
      | r => r)
    | .bl false => .nx ρ st
    | _ => .bad
def wfuel : Nat := 2 ^ 40
def excOf (P : Prog) (c : Nat) (xs : List PV) : Option PV := match P.cls[c]? with
  | some cd => match cd.exc with
    | some none => some (.exc c [])
    | some (some f) => match xs with
      | [x] => some (.exc c [(f, x)])
      | _ => none
    | none => none
  | none => none
section
variable (P : Prog) (cf : CF)
mutual
def evS : S → REnv → Sto → Flow
  | .pass, ρ, st => .nx ρ st
  | .expr e, ρ, st => (evE P cf e ρ st).flow fun _ ρ st => .nx ρ st
  | .set i e, ρ, st => (evE P cf e ρ st).flow fun v ρ st => .nx (ρ.set i (.fz v)) st
  | .own i e, ρ, st => (evE P cf e ρ st).flow fun v ρ st => .nx (ρ.set i (if isCont v = true then .ow v else .fz v)) st
  | .unpack is e, ρ, st => (evE P cf e ρ st).flow fun v ρ st => match v with
    | .tup vs => (match setSlots ρ is vs with
      | some ρ => .nx ρ st
      | none => .bad)
    | _ => .bad
  | .setS i k v, ρ, st => (evE P cf v ρ st).flow fun x ρ st => match ρ[i]? with
    | some (.ow _) => (evE P cf k ρ st).flow fun y ρ st => (match ρ[i]? with
      | some (.ow o) => (match mutF .setIx o [y, x] with
        | some (o', _) => .nx (ρ.set i (.ow o')) st
        | none => .bad)
      | _ => .bad)
    | _ => .bad
  | .setR o k v, ρ, st => (evE P cf v ρ st).flow fun x ρ st => (evE P cf o ρ st).flow fun o ρ st => (evE P cf k ρ st).flow fun y ρ st => match o with
    | .ref a => (match st[a]? with
      | some w => (match mutF .setIx w [y, x] with
        | some (w', _) => .nx ρ (st.set a w')
        | none => .bad)
      | none => .bad)
    | _ => .bad
  | .fld o f v, ρ, st => (evE P cf v ρ st).flow fun x ρ st => (evE P cf o ρ st).flow fun o ρ st => match o with
    | .ref a => (match st[a]? with
      | some (.obj c fs) => .nx ρ (st.set a (.obj c (fput f x fs)))
      | _ => .bad)
    | _ => .bad
  | .fldS i f v, ρ, st => (evE P cf v ρ st).flow fun x ρ st => match ρ[i]? with
    | some (.ow (.obj c fs)) => .nx (ρ.set i (.ow (.obj c (fput f x fs)))) st
    | _ => .bad
  | .aug i e, ρ, st => match ρ[i]? with
    | some (.fz (.int a)) => (evE P cf e ρ st).flow fun v ρ st => match v with
      | .int b => .nx (ρ.set i (.fz (.int (a + b)))) st
      | _ => .bad
    | _ => .bad
  | .ret e, ρ, st => (evE P cf e ρ st).flow fun v ρ st => .ret v ρ st
  | .retN, ρ, st => .ret .non ρ st
  | .iff c a b, ρ, st => (evE P cf c ρ st).flow fun v ρ st => match v with
    | .bl true => evSs a ρ st
    | .bl false => evSs b ρ st
    | _ => .bad
  | .for tg it body, ρ, st => (evIt P cf it ρ st).flow fun v ρ st => match v with
    | .lst xs => loopF tg (evSs body) xs ρ st
    | _ => .bad
  | .while c body, ρ, st => loopW (evE P cf c) (evSs body) wfuel ρ st
  | .cont, ρ, st => .ct ρ st
  | .raise c es, ρ, st => (match evEs P cf es ρ st with
    | .ok xs ρ st => (match excOf P c xs with
      | some v => .exc v ρ st
      | none => .bad)
    | .exc v ρ st => .exc v ρ st
    | .bad => .bad)
  | .try_ body hs, ρ, st => match evSs body ρ st with
    | .exc v ρ1 st1 => evHs hs v ρ1 st1
    | r => r
def evSs : Ss → REnv → Sto → Flow
  | .nil, ρ, st => .nx ρ st
  | .cons s r, ρ, st => (evS s ρ st).then (evSs r)
def evHs : Hs → PV → REnv → Sto → Flow
  | .nil, v, ρ, st => .exc v ρ st
  | .cons c as body r, v, ρ, st => match v with
    | .exc d fs => if subCls P d c = true then (match as with
      | none => evSs body ρ st
      | some i => (match evSs body (ρ.set i (.ex d fs)) st with
        | .nx ρ2 st2 => .nx (ρ2.set i .un) st2
        | .ct ρ2 st2 => .ct (ρ2.set i .un) st2
        | r => r))
      else evHs r v ρ st
    | _ => .bad
  | .hold c i m r, v, ρ, st => match v with
    | .exc d fs => if subCls P d c = true then .nx ((ρ.set m (.fz (.exc d fs))).set i .un) st else evHs r v ρ st
    | _ => .bad
end
end
def startE (ns : Nat) (args : List Slot) : REnv := args ++ List.replicate (ns - args.length) .un
def Flow.cr : Flow → CR
  | .nx _ st => .ok .non st
  | .ret v _ st => .ok v st
  | .exc v _ st => .exc v st
  | _ => .bad
/-- what a call gives, so many calls deep at most -/
def callF (P : Prog) : Nat → CF
  | 0 => fun _ _ _ => .bad
  | n + 1 => fun fn args st => match fn with
    | .f i => match P.funs[i]? with
      | some fd => if fd.init = false ∧ args.length = fd.np then (evSs P (callF P n) fd.body (startE fd.ns (args.map .fz)) st).cr else .bad
      | none => .bad
    | .low i => callF P n (.f i) args st
    | .mk c => match P.cls[c]? with
      | some cd => match cd.init with
        | some i => initF P (callF P n) c cd i args st
        | none => if args = [] ∧ cd.frozen = true then .ok (.obj c []) st else .bad
      | none => .bad
where
  initF (P : Prog) (cf : CF) (c : Nat) (cd : CD) (i : Nat) (args : List PV) (st : Sto) : CR := match P.funs[i]? with
    | some fd => if fd.init = true ∧ args.length + 1 = fd.np then
        (match evSs P cf fd.body (startE fd.ns (.ow (.obj c []) :: args.map .fz)) st with
        | Flow.nx ρ st => (match (ρ[0]? : Option Slot) with
          | some (.ow v) => if cd.frozen = true then .ok v st else .ok (.ref st.length) (st ++ [v])
          | _ => .bad)
        | .exc v _ st => .exc v st
        | _ => .bad)
      else .bad
    | none => .bad
end PB

end
section
set_option Elab.async false
set_option linter.all false
set_option maxRecDepth 100000
/-! PB2: how trees lie in the abstract heap. -/
namespace PB
open PySem L2

/-- the tables: the program, the written part, where defs and classes stand, the attributes' names -/
structure Tab where
  P : Prog
  K : PySem.W.Frag
  fa : Nat → Addr
  ca : Nat → Addr
  an : List Str

def kK : K2 → Key
  | .i n => .inl n
  | .s t => .inr (tS t)
theorem tS_inj {a b : Tx} (h : tS a = tS b) : a = b := by
  have : a.toArray = b.toArray := congrArg Str.cps h
  simpa using congrArg Array.toList this
theorem kK_inj {a b : K2} (h : kK a = kK b) : a = b := by
  cases a with
  | i n => cases b with
    | i m => cases h; rfl
    | s t => cases h
  | s t => cases b with
    | i m => cases h
    | s u => exact congrArg K2.s (tS_inj (Sum.inr.inj h))

def WrT (K : PySem.W.Frag) (a : Addr) (xs : List V) : Prop :=
  ∃ (o : Obj) (its : Array Value) (n : Nat), K.lookup a = some o ∧ o.cls = .type "tuple" ∧ o.data = .seq its n ∧ its.size ≤ sizeLine ∧ Vals xs its.toList
def WrL (K : PySem.W.Frag) (a : Addr) (xs : List V) : Prop :=
  ∃ (o : Obj) (its : Array Value) (n : Nat), K.lookup a = some o ∧ o.cls = .type "list" ∧ o.dict = none ∧ o.data = .seq its n ∧ its.size ≤ sizeLine ∧ Vals xs its.toList
/-- an exception that is held -/
def ExV (cls : Value) (d : Option Addr) (a : Addr) : HO := .ext fun h => ∃ (oe : Obj) (vs : Array Value), h.get? a = some oe ∧ Zc cls d oe ∧ oe.data = .fields vs

mutual
inductive Rep (T : Tab) (F : Addr → Prop) (θ : List Addr) (H : Hp) : V → PV → Prop
  | non : Rep T F θ H .non .non
  | bl (b : Bool) : Rep T F θ H (.bl b) (.bl b)
  | int (i : Int) : Rep T F θ H (.int i) (.int i)
  | str (t : Tx) : Rep T F θ H (.str (tS t)) (.str t)
  | tup {a : Addr} {vs : List V} {xs : List PV} : (F a ∧ Rd H a (.tup vs)) ∨ WrT T.K a vs → Reps T F θ H vs xs → Rep T F θ H (.ref a) (.tup xs)
  | lst {a : Addr} {vs : List V} {xs : List PV} : F a → H a = some (.lst vs) → Reps T F θ H vs xs → Rep T F θ H (.ref a) (.lst xs)
  | scr {a : Addr} {ns : List Int} : (F a ∧ Rd H a (.lst (ns.map V.int))) ∨ WrL T.K a (ns.map V.int) → Rep T F θ H (.ref a) (.scr ns)
  | dic {a : Addr} {kvs : List (Key × V)} {xs : List (K2 × PV)} : F a → Rd H a (.dK kvs) → RepD T F θ H kvs xs → Rep T F θ H (.ref a) (.dic xs)
  | obj {a dx : Addr} {c : Nat} {vfs : List (Str × V)} {fs : List (Nat × PV)} : F a → H a = some (.ins (T.ca c) dx vfs) → RepF T F θ H vfs fs → Rep T F θ H (.ref a) (.obj c fs)
  | exc0 {a : Addr} {c : Nat} : F a → H a = some (ExV (.ref (T.ca c)) none a) → Rep T F θ H (.ref a) (.exc c [])
  | exc1 {a d : Addr} {c : Nat} {vfs : List (Str × V)} {fs : List (Nat × PV)} : F a → H a = some (ExV (.ref (T.ca c)) (some d) a) → F d → H d = some (.xd vfs) → RepF T F θ H vfs fs → Rep T F θ H (.ref a) (.exc c fs)
  | ref {i : Nat} {a : Addr} : θ[i]? = some a → Rep T F θ H (.ref a) (.ref i)
  | fn {f : Nat} : Rep T F θ H (.ref (T.fa f)) (.fn f)
inductive Reps (T : Tab) (F : Addr → Prop) (θ : List Addr) (H : Hp) : List V → List PV → Prop
  | nil : Reps T F θ H [] []
  | cons {v : V} {vs : List V} {x : PV} {xs : List PV} : Rep T F θ H v x → Reps T F θ H vs xs → Reps T F θ H (v :: vs) (x :: xs)
inductive RepD (T : Tab) (F : Addr → Prop) (θ : List Addr) (H : Hp) : List (Key × V) → List (K2 × PV) → Prop
  | nil : RepD T F θ H [] []
  | cons {k : K2} {v : V} {vs : List (Key × V)} {x : PV} {xs : List (K2 × PV)} : Rep T F θ H v x → RepD T F θ H vs xs → RepD T F θ H ((kK k, v) :: vs) ((k, x) :: xs)
inductive RepF (T : Tab) (F : Addr → Prop) (θ : List Addr) (H : Hp) : List (Str × V) → List (Nat × PV) → Prop
  | nil : RepF T F θ H [] []
  | cons {f : Nat} {nm : Str} {v : V} {vs : List (Str × V)} {x : PV} {xs : List (Nat × PV)} : T.an[f]? = some nm → Rep T F θ H v x → RepF T F θ H vs xs → RepF T F θ H ((nm, v) :: vs) ((f, x) :: xs)
end

/-- a thing stays; a dict may be locked -/
def Lk (x y : Option HO) : Prop := y = x ∨ ∃ ob kvs, x = some (.dK kvs) ∧ y = some (.frz ob (.dK kvs))
theorem Lk.refl {x : Option HO} : Lk x x := .inl rfl
theorem Lk.trans {x y z : Option HO} (a : Lk x y) (b : Lk y z) : Lk x z := by
  rcases a with rfl | ⟨ob, kvs, rfl, rfl⟩
  · exact b
  · rcases b with rfl | ⟨ob', kvs', e, _⟩
    · exact .inr ⟨ob, kvs, rfl, rfl⟩
    · cases e
theorem Lk.rd {H H' : Hp} {a : Addr} {u : HO} (l : Lk (H a) (H' a)) (r : Rd H a u) : Rd H' a u := by
  rcases l with e | ⟨ob, kvs, e1, e2⟩
  · rcases r with r | ⟨o, r⟩
    · exact .inl (e.trans r)
    · exact .inr ⟨o, e.trans r⟩
  · rcases r with r | ⟨o, r⟩
    · rw [e1] at r
      cases r
      exact .inr ⟨ob, e2⟩
    · rw [e1] at r
      cases r
theorem Lk.some {H H' : Hp} {a : Addr} {o : HO} (l : Lk (H a) (H' a)) (r : H a = some o) : ∃ o', H' a = some o' := by
  rcases l with e | ⟨ob, kvs, e1, e2⟩
  · exact ⟨o, e.trans r⟩
  · exact ⟨_, e2⟩
theorem Lk.ins {H H' : Hp} {a : Addr} {C dx : Addr} {fs : List (Str × V)} (l : Lk (H a) (H' a)) (r : H a = .some (.ins C dx fs)) : H' a = .some (.ins C dx fs) := by
  rcases l with e | ⟨ob, kvs, e1, e2⟩
  · exact e.trans r
  · rw [e1] at r; cases r
theorem Lk.lst {H H' : Hp} {a : Addr} {fs : List V} (l : Lk (H a) (H' a)) (r : H a = .some (.lst fs)) : H' a = .some (.lst fs) := by
  rcases l with e | ⟨ob, kvs, e1, e2⟩
  · exact e.trans r
  · rw [e1] at r; cases r
theorem Lk.xd {H H' : Hp} {a : Addr} {fs : List (Str × V)} (l : Lk (H a) (H' a)) (r : H a = .some (.xd fs)) : H' a = .some (.xd fs) := by
  rcases l with e | ⟨ob, kvs, e1, e2⟩
  · exact e.trans r
  · rw [e1] at r; cases r
theorem Lk.ext {H H' : Hp} {a : Addr} {φ : Heap → Prop} (l : Lk (H a) (H' a)) (r : H a = .some (.ext φ)) : H' a = .some (.ext φ) := by
  rcases l with e | ⟨ob, kvs, e1, e2⟩
  · exact e.trans r
  · rw [e1] at r; cases r

/-- what is frozen stays, and what is known of the store's places -/
structure Ext (F : Addr → Prop) (θ : List Addr) (H : Hp) (F' : Addr → Prop) (θ' : List Addr) (H' : Hp) : Prop where
  f : ∀ a, F a → F' a
  h : ∀ a, F a → Lk (H a) (H' a)
  t : ∀ (i : Nat) (a : Addr), θ[i]? = some a → θ'[i]? = some a
theorem Ext.refl {F : Addr → Prop} {θ : List Addr} {H : Hp} : Ext F θ H F θ H := ⟨fun _ h => h, fun _ _ => .refl, fun _ _ h => h⟩
theorem Ext.trans {F F1 F2 : Addr → Prop} {θ θ1 θ2 : List Addr} {H H1 H2 : Hp} (a : Ext F θ H F1 θ1 H1) (b : Ext F1 θ1 H1 F2 θ2 H2) : Ext F θ H F2 θ2 H2 :=
  ⟨fun x h => b.f x (a.f x h), fun x h => (a.h x h).trans (b.h x (a.f x h)), fun i x h => b.t i x (a.t i x h)⟩

section
variable {T : Tab} {F F' : Addr → Prop} {θ θ' : List Addr} {H H' : Hp}
mutual
theorem Rep.ext (e : Ext F θ H F' θ' H') : ∀ {v : V} {x : PV}, Rep T F θ H v x → Rep T F' θ' H' v x
  | _, _, .non => .non
  | _, _, .bl b => .bl b
  | _, _, .int i => .int i
  | _, _, .str t => .str t
  | _, _, .tup h r => .tup (h.elim (fun ⟨f, h⟩ => .inl ⟨e.f _ f, (e.h _ f).rd h⟩) .inr) (r.ext e)
  | _, _, .lst f h r => .lst (e.f _ f) ((e.h _ f).lst h) (r.ext e)
  | _, _, .scr h => .scr (h.elim (fun ⟨f, h⟩ => .inl ⟨e.f _ f, (e.h _ f).rd h⟩) .inr)
  | _, _, .dic f h r => .dic (e.f _ f) ((e.h _ f).rd h) (r.ext e)
  | _, _, .obj f h r => .obj (e.f _ f) ((e.h _ f).ins h) (r.ext e)
  | _, _, .exc0 f h => .exc0 (e.f _ f) ((e.h _ f).ext h)
  | _, _, .exc1 f h g k r => .exc1 (e.f _ f) ((e.h _ f).ext h) (e.f _ g) ((e.h _ g).xd k) (r.ext e)
  | _, _, .ref h => .ref (e.t _ _ h)
  | _, _, .fn => .fn
theorem Reps.ext (e : Ext F θ H F' θ' H') : ∀ {v : List V} {x : List PV}, Reps T F θ H v x → Reps T F' θ' H' v x
  | _, _, .nil => .nil
  | _, _, .cons a b => .cons (a.ext e) (b.ext e)
theorem RepD.ext (e : Ext F θ H F' θ' H') : ∀ {v : List (Key × V)} {x : List (K2 × PV)}, RepD T F θ H v x → RepD T F' θ' H' v x
  | _, _, .nil => .nil
  | _, _, .cons a b => .cons (a.ext e) (b.ext e)
theorem RepF.ext (e : Ext F θ H F' θ' H') : ∀ {v : List (Str × V)} {x : List (Nat × PV)}, RepF T F θ H v x → RepF T F' θ' H' v x
  | _, _, .nil => .nil
  | _, _, .cons n a b => .cons n (a.ext e) (b.ext e)
end
theorem Reps.length : ∀ {vs : List V} {xs : List PV}, Reps T F θ H vs xs → vs.length = xs.length
  | _, _, .nil => rfl
  | _, _, .cons _ r => congrArg (· + 1) r.length
theorem Reps.get : ∀ {vs : List V} {xs : List PV} {i : Nat} {v : V}, Reps T F θ H vs xs → vs[i]? = some v → ∃ x, xs[i]? = some x ∧ Rep T F θ H v x
  | _, _, _, _, .nil, e => by simp at e
  | _, _, 0, _, .cons r _, e => by simp at e; subst e; exact ⟨_, rfl, r⟩
  | _, _, i + 1, v, .cons _ t, e => by
    obtain ⟨u, h1, h2⟩ := Reps.get (i := i) (v := v) t (by simpa using e)
    exact ⟨u, by simpa using h1, h2⟩
theorem Reps.get' : ∀ {vs : List V} {xs : List PV} {i : Nat} {x : PV}, Reps T F θ H vs xs → xs[i]? = some x → ∃ v, vs[i]? = some v ∧ Rep T F θ H v x
  | _, _, _, _, .nil, e => by simp at e
  | _, _, 0, _, .cons r _, e => by simp at e; subst e; exact ⟨_, rfl, r⟩
  | _, _, i + 1, v, .cons _ t, e => by
    obtain ⟨u, h1, h2⟩ := Reps.get' (i := i) (x := v) t (by simpa using e)
    exact ⟨u, by simpa using h1, h2⟩
theorem Reps.append : ∀ {vs ws : List V} {xs ys : List PV}, Reps T F θ H vs xs → Reps T F θ H ws ys → Reps T F θ H (vs ++ ws) (xs ++ ys)
  | _, _, _, _, .nil, s => s
  | _, _, _, _, .cons r t, s => .cons r (Reps.append t s)
theorem Reps.take : ∀ {vs : List V} {xs : List PV} (n : Nat), Reps T F θ H vs xs → Reps T F θ H (vs.take n) (xs.take n)
  | _, _, 0, _ => .nil
  | _, _, _ + 1, .nil => .nil
  | _, _, n + 1, .cons r t => .cons r (Reps.take n t)
theorem Reps.drop : ∀ {vs : List V} {xs : List PV} (n : Nat), Reps T F θ H vs xs → Reps T F θ H (vs.drop n) (xs.drop n)
  | _, _, 0, r => r
  | _, _, _ + 1, .nil => .nil
  | _, _, n + 1, .cons _ t => Reps.drop n t
theorem Reps.set {v : V} {x : PV} (r : Rep T F θ H v x) : ∀ {vs : List V} {xs : List PV} (n : Nat), Reps T F θ H vs xs → Reps T F θ H (vs.set n v) (xs.set n x)
  | _, _, _, .nil => .nil
  | _, _, 0, .cons _ t => .cons r t
  | _, _, n + 1, .cons q t => .cons q (Reps.set r n t)
theorem Reps.eraseIdx : ∀ {vs : List V} {xs : List PV} (n : Nat), Reps T F θ H vs xs → Reps T F θ H (vs.eraseIdx n) (xs.eraseIdx n)
  | _, _, _, .nil => .nil
  | _, _, 0, .cons _ t => t
  | _, _, n + 1, .cons q t => .cons q (Reps.eraseIdx n t)
theorem Reps.reverse {vs : List V} {xs : List PV} (h : Reps T F θ H vs xs) : Reps T F θ H vs.reverse xs.reverse := by
  induction vs generalizing xs with
  | nil => cases h; exact .nil
  | cons v vs ih =>
    cases h with
    | cons r t => rw [List.reverse_cons, List.reverse_cons]; exact (ih t).append (.cons r .nil)
theorem Reps.dropLast {vs : List V} {xs : List PV} (h : Reps T F θ H vs xs) : Reps T F θ H vs.dropLast xs.dropLast := by
  rw [List.dropLast_eq_take, List.dropLast_eq_take, h.length]
  exact h.take _
theorem RepD.length : ∀ {vs : List (Key × V)} {xs : List (K2 × PV)}, RepD T F θ H vs xs → vs.length = xs.length
  | _, _, .nil => rfl
  | _, _, .cons _ r => congrArg (· + 1) r.length
theorem RepF.length : ∀ {vs : List (Str × V)} {xs : List (Nat × PV)}, RepF T F θ H vs xs → vs.length = xs.length
  | _, _, .nil => rfl
  | _, _, .cons _ _ r => congrArg (· + 1) r.length
theorem RepD.look (k : K2) : ∀ {vs : List (Key × V)} {xs : List (K2 × PV)}, RepD T F θ H vs xs →
    (valV vs (kK k) = none ∧ look k xs = none) ∨ ∃ v x, valV vs (kK k) = some v ∧ look k xs = some x ∧ Rep T F θ H v x
  | _, _, .nil => .inl ⟨rfl, rfl⟩
  | _, _, .cons (k := k') (v := v) (vs := vs) (x := x) (xs := xs) r t => by
    by_cases e : k' = k
    · subst e
      exact .inr ⟨v, x, valV_pos rfl, by unfold PB.look; rw [if_pos rfl], r⟩
    · have e' : ¬ (kK k', v).1 = kK k := fun q => e (kK_inj q)
      rw [valV_neg e', show PB.look k ((k', x) :: xs) = PB.look k xs from by conv => lhs; unfold PB.look; rw [if_neg e]]
      exact RepD.look k t
theorem RepD.append : ∀ {vs ws : List (Key × V)} {xs ys : List (K2 × PV)}, RepD T F θ H vs xs → RepD T F θ H ws ys → RepD T F θ H (vs ++ ws) (xs ++ ys)
  | _, _, _, _, .nil, s => s
  | _, _, _, _, .cons r t, s => .cons r (RepD.append t s)
theorem upD_rep (k : K2) {v : V} {x : PV} (r : Rep T F θ H v x) : ∀ {vs : List (Key × V)} {xs : List (K2 × PV)}, RepD T F θ H vs xs →
    RepD T F θ H (vs.map fun kv => if kv.1 = kK k then (kv.1, v) else kv) (upD k x xs)
  | _, _, .nil => .nil
  | _, _, .cons (k := k') (v := w) (x := y) q t => by
    rw [List.map_cons]
    unfold upD
    by_cases e : k' = k
    · subst e
      rw [if_pos rfl, if_pos rfl]
      exact .cons r (upD_rep k' r t)
    · rw [if_neg (fun z => e (kK_inj z)), if_neg e]
      exact .cons q (upD_rep k r t)
theorem any_of {κ : Type} [DecidableEq κ] {k : κ} : ∀ (vs : List (κ × V)), (vs.any fun kv => decide (kv.1 = k)) = (valV vs k).isSome
  | [] => rfl
  | p :: r => by
    by_cases e : p.1 = k
    · rw [List.any_cons, valV_pos e, decide_eq_true e]; rfl
    · rw [List.any_cons, valV_neg e, decide_eq_false e, any_of r]; rfl
theorem RepD.put (k : K2) {v : V} {x : PV} (r : Rep T F θ H v x) {vs : List (Key × V)} {xs : List (K2 × PV)} (h : RepD T F θ H vs xs) : RepD T F θ H (putK vs (kK k) v) (PB.put k x xs) := by
  unfold putK PB.put
  rcases h.look k with ⟨a, b⟩ | ⟨w, y, a, b, _⟩
  · rw [any_of, a, b]
    exact h.append (.cons r .nil)
  · rw [any_of, a, b]
    exact upD_rep k r h
theorem putK_cons_ne {κ : Type} [DecidableEq κ] {p : κ × V} {r : List (κ × V)} {k : κ} {v : V} (e : ¬ p.1 = k) : putK (p :: r) k v = p :: putK r k v := by
  unfold putK
  simp only [List.any_cons, e, decide_false, Bool.false_or, List.map_cons, if_false]
  split <;> simp
theorem map_id_of_none {κ : Type} [DecidableEq κ] {k : κ} {v : V} : ∀ {r : List (κ × V)}, (∀ p ∈ r, ¬ p.1 = k) → r.map (fun kv => if kv.1 = k then (kv.1, v) else kv) = r
  | [], _ => rfl
  | p :: r, h => by
    rw [List.map_cons, if_neg (h p List.mem_cons_self), map_id_of_none fun q hq => h q (List.mem_cons_of_mem _ hq)]
/-- no key twice -/
def NdK : List (K2 × PV) → Prop
  | [] => True
  | (k, _) :: r => look k r = none ∧ NdK r
theorem RepD.noKey {k : K2} {vs : List (Key × V)} {xs : List (K2 × PV)} (h : RepD T F θ H vs xs) (n : PB.look k xs = none) : ∀ p ∈ vs, ¬ p.1 = kK k := by
  intro p hp e
  rcases h.look k with ⟨a, _⟩ | ⟨v, x, _, b, _⟩
  · unfold valV at a
    rw [Option.map_eq_none_iff, List.find?_eq_none] at a
    exact a p hp (decide_eq_true e)
  · rw [n] at b; cases b
theorem RepD.drp (k : K2) : ∀ {vs : List (Key × V)} {xs : List (K2 × PV)}, RepD T F θ H vs xs → RepD T F θ H (dropK vs (kK k)) (PB.drp k xs)
  | _, _, .nil => .nil
  | _, _, .cons (k := k') (v := w) (vs := vs) (x := y) (xs := xs) q t => by
    unfold dropK PB.drp
    rw [List.filter_cons]
    by_cases e : k' = k
    · subst e
      rw [if_pos rfl, if_neg (by simp)]
      exact RepD.drp k' t
    · have e2 : decide ((kK k', w).1 ≠ kK k) = true := decide_eq_true fun z => e (kK_inj z)
      rw [if_neg e, if_pos e2]
      exact .cons q (RepD.drp k t)
theorem nd_at {l : List Str} (nd : l.Nodup) {i j : Nat} {x : Str} (a : l[i]? = some x) (b : l[j]? = some x) : i = j := by
  obtain ⟨h1, e1⟩ := List.getElem?_eq_some_iff.mp a
  obtain ⟨h2, e2⟩ := List.getElem?_eq_some_iff.mp b
  exact (List.getElem_inj nd).mp (e1.trans e2.symm)
theorem RepF.get {f : Nat} {nm : Str} (nd : T.an.Nodup) (hf : T.an[f]? = some nm) : ∀ {vs : List (Str × V)} {xs : List (Nat × PV)} {x : PV}, RepF T F θ H vs xs → fget f xs = some x → ∃ v, vs.lookup nm = some v ∧ Rep T F θ H v x
  | _, _, _, .nil, e => by cases e
  | _, _, x, .cons (f := g) (nm := gm) (v := w) (vs := vs) (x := y) (xs := xs) n q t, e => by
    unfold fget at e
    by_cases h : g = f
    · subst h
      rw [if_pos rfl] at e
      cases e
      rw [hf] at n
      cases n
      exact ⟨w, by simp, q⟩
    · rw [if_neg h] at e
      obtain ⟨v, h1, h2⟩ := RepF.get nd hf t e
      refine ⟨v, ?_, h2⟩
      have hb : (nm == gm) = false := beq_eq_false_iff_ne.mpr fun z => h (nd_at nd n (z ▸ hf))
      rw [List.lookup_cons, hb]
      exact h1
theorem RepF.none {f : Nat} {nm : Str} (nd : T.an.Nodup) (hf : T.an[f]? = some nm) : ∀ {vs : List (Str × V)} {xs : List (Nat × PV)}, RepF T F θ H vs xs → fget f xs = none → vs.lookup nm = none
  | _, _, .nil, e => rfl
  | _, _, .cons (f := g) (nm := gm) (v := w) (vs := vs) (x := y) (xs := xs) n q t, e => by
    unfold fget at e
    by_cases h : g = f
    · subst h
      rw [if_pos rfl] at e
      cases e
    · rw [if_neg h] at e
      have hb : (nm == gm) = false := beq_eq_false_iff_ne.mpr fun z => h (nd_at nd n (z ▸ hf))
      rw [List.lookup_cons, hb]
      exact RepF.none nd hf t e
theorem RepF.noat {nm : Str} : ∀ {vs : List (Str × V)} {xs : List (Nat × PV)}, nm ∉ T.an → RepF T F θ H vs xs → vs.lookup nm = Option.none
  | _, _, _, .nil => rfl
  | _, _, h, .cons (nm := gm) n q t => by
    have hb : (nm == gm) = false := beq_eq_false_iff_ne.mpr fun (z : nm = gm) => h (by rw [z]; exact List.mem_of_getElem? n)
    rw [List.lookup_cons, hb]
    exact RepF.noat h t
theorem RepF.put {f : Nat} {nm : Str} {v : V} {x : PV} (nd : T.an.Nodup) (hf : T.an[f]? = some nm) (r : Rep T F θ H v x) : ∀ {vs : List (Str × V)} {xs : List (Nat × PV)}, RepF T F θ H vs xs → RepF T F θ H (putF nm v vs) (fput f x xs)
  | _, _, .nil => .cons hf r .nil
  | _, _, .cons (f := g) (nm := gm) (v := w) (vs := vs) (x := y) (xs := xs) n q t => by
    unfold putF fput
    by_cases h : g = f
    · subst h
      rw [hf] at n
      cases n
      rw [if_pos rfl, if_pos rfl]
      exact .cons hf r t
    · rw [if_neg (fun (z : gm = nm) => h (nd_at nd n (by rw [z]; exact hf))), if_neg h]
      exact .cons n q (RepF.put nd hf r t)
end
end PB

end
section
set_option Elab.async false
set_option linter.all false
set_option maxRecDepth 100000
/-! PB3: the state of an activation, and how it changes. -/
namespace PB
open PySem L2

/-- an activation: the tables, the abstract heap at its entry, what was frozen then, the store's places then, the exception that is handled -/
structure Act where
  T : Tab
  H0 : Hp
  F0 : Addr → Prop
  θ0 : List Addr
  ex : Option (Addr × Value × Option Addr) := none

section
variable (T : Tab) (F : Addr → Prop) (θ : List Addr) (H : Hp)
/-- what lies at a, to be changed still -/
def ObjAt (a : Addr) : PV → Prop
  | .lst xs => ∃ vs, H a = some (.lst vs) ∧ Reps T F θ H vs xs
  | .dic xs => ∃ kvs, H a = some (.dK kvs) ∧ RepD T F θ H kvs xs
  | .obj c fs => ∃ dx vfs, H a = some (.ins (T.ca c) dx vfs) ∧ RepF T F θ H vfs fs
  | _ => False
end
def isOw (ρ : REnv) (i : Nat) : Prop := ∃ v, ρ[i]? = some (.ow v)

section
variable (A : Act) (F : Addr → Prop) (θ : List Addr) (H : Hp) (σ : L2.St)
def SlotAt (i : Nat) : Slot → Prop
  | .un => True
  | .fz v => ∃ x, σ[i]? = some (some x) ∧ Rep A.T F θ H x v
  | .ow v => ∃ a, σ[i]? = some (some (.ref a)) ∧ ObjAt A.T F θ H a v ∧ ¬ F a ∧ a ∉ θ ∧ A.H0 a = none
  | .ex c fs => ∃ a d vfs, σ[i]? = some (some (.ref a)) ∧ A.ex = some (a, .ref (A.T.ca c), d) ∧ ((fs = [] ∧ d = none) ∨ ∃ dd, d = some dd ∧ F dd ∧ H dd = some (.xd vfs) ∧ RepF A.T F θ H vfs fs)
/-- the store -/
structure StoR (T : Tab) (F : Addr → Prop) (θ : List Addr) (H : Hp) (st : Sto) : Prop where
  nd : θ.Nodup
  tf : ∀ a ∈ θ, ¬ F a
  ts : ∀ a ∈ θ, ∃ o, H a = some o
  sl : st.length = θ.length
  so : ∀ (i : Nat) (a : Addr) (v : PV), θ[i]? = some a → st[i]? = some v → ObjAt T F θ H a v
  fs : ∀ a, F a → ∃ o, H a = some o
structure SR (ρ : REnv) (st : Sto) : Prop where
  so : StoR A.T F θ H st
  f0 : ∀ a, A.F0 a → F a
  fn : ∀ a, F a → A.F0 a ∨ A.H0 a = none
  lk : ∀ a, A.F0 a → Lk (A.H0 a) (H a)
  kp : ∀ a o, A.H0 a = some o → ¬ A.F0 a → a ∉ A.θ0 → H a = some o
  t0 : ∀ (i : Nat) (a : Addr), A.θ0[i]? = some a → θ[i]? = some a
  tn : ∀ a, a ∈ θ → a ∈ A.θ0 ∨ A.H0 a = none
  le : ρ.length = σ.length
  rs : ∀ (i : Nat) (s : Slot), ρ[i]? = some s → SlotAt A F θ H σ i s
  ow : ∀ (i j : Nat) (a : Addr), isOw ρ i → isOw ρ j → σ[i]? = some (some (.ref a)) → σ[j]? = some (some (.ref a)) → i = j
def contP : PV → Bool
  | .lst _ | .dic _ | .obj _ _ => true
  | _ => false
/-- new: a list, a dict, an instance that nobody bears -/
def NRep (ρ : REnv) (v : V) (pv : PV) : Prop :=
  (contP pv = false ∧ Rep A.T F θ H v pv) ∨ ∃ a, v = .ref a ∧ ObjAt A.T F θ H a pv ∧ ¬ F a ∧ a ∉ θ ∧ A.H0 a = none ∧ ∀ j, isOw ρ j → σ[j]? ≠ some (some (.ref a))
/-- borrowed -/
def BRep (v : V) (pv : PV) : Prop := Rep A.T F θ H v pv ∨ ∃ a, v = .ref a ∧ ObjAt A.T F θ H a pv
end

section
variable {T : Tab} {A : Act} {F F' : Addr → Prop} {θ θ' : List Addr} {H H' : Hp} {σ : L2.St} {ρ : REnv} {st : Sto} {a p : Addr} {o : HO} {pv : PV} {v : V}
theorem ObjAt.ext (e : Ext F θ H F' θ' H') (h : ObjAt T F θ H a pv) (k : H' a = H a) : ObjAt T F' θ' H' a pv := by
  cases pv <;> first | exact h | skip
  · obtain ⟨vs, h1, h2⟩ := h
    exact ⟨vs, k.trans h1, h2.ext e⟩
  · obtain ⟨vs, h1, h2⟩ := h
    exact ⟨vs, k.trans h1, h2.ext e⟩
  · obtain ⟨dx, vs, h1, h2⟩ := h
    exact ⟨dx, vs, k.trans h1, h2.ext e⟩
theorem ObjAt.some (h : ObjAt T F θ H a pv) : ∃ o, H a = some o := by
  cases pv <;> first | exact h.elim | skip
  · obtain ⟨vs, h1, h2⟩ := h
    exact ⟨_, h1⟩
  · obtain ⟨vs, h1, h2⟩ := h
    exact ⟨_, h1⟩
  · obtain ⟨dx, vs, h1, h2⟩ := h
    exact ⟨_, h1⟩
/-- what is to be changed still may be frozen -/
theorem ObjAt.rep (h : ObjAt T F θ H a pv) (f : F a) : Rep T F θ H (.ref a) pv := by
  cases pv <;> first | exact h.elim | skip
  · obtain ⟨vs, h1, h2⟩ := h
    exact .lst f h1 h2
  · obtain ⟨vs, h1, h2⟩ := h
    exact .dic f (.inl h1) h2
  · obtain ⟨dx, vs, h1, h2⟩ := h
    exact .obj f h1 h2
/-- an object that is new, or stays -/
theorem Ext.upd (fr : ¬ F p) : Ext F θ H F θ (L2.upd H p o) := ⟨fun _ h => h, fun b hb => .inl (upd_ne fun (z : b = p) => fr (z ▸ hb)), fun _ _ h => h⟩
theorem Ext.freeze : Ext F θ H (fun b => F b ∨ b = p) θ H := ⟨fun _ h => .inl h, fun _ _ => .refl, fun _ _ h => h⟩

theorem SR.new0 (s : SR A F θ H σ ρ st) (n : H p = none) : A.H0 p = none := by
  cases e : A.H0 p with
  | none => rfl
  | some o =>
    by_cases f : A.F0 p
    · obtain ⟨o', h⟩ := s.so.fs p (s.f0 p f)
      rw [n] at h; cases h
    · by_cases t : p ∈ A.θ0
      · obtain ⟨i, hi⟩ := List.getElem?_of_mem t
        obtain ⟨o', h⟩ := s.so.ts p (List.mem_of_getElem? (s.t0 i p hi))
        rw [n] at h; cases h
      · have := s.kp p o e f t
        rw [n] at this; cases this
theorem SR.newF (s : SR A F θ H σ ρ st) (n : H p = none) : ¬ F p := fun f => by
  obtain ⟨o', h⟩ := s.so.fs p f
  rw [n] at h; cases h
theorem SR.newT (s : SR A F θ H σ ρ st) (n : H p = none) : p ∉ θ := fun f => by
  obtain ⟨o', h⟩ := s.so.ts p f
  rw [n] at h; cases h
theorem SR.newO (s : SR A F θ H σ ρ st) (n : H p = none) : ∀ j, isOw ρ j → σ[j]? ≠ some (some (.ref p)) := fun j ⟨v, e⟩ z => by
  obtain ⟨b, hb, ob, _⟩ := s.rs j _ e
  rw [hb] at z
  cases z
  obtain ⟨o, h⟩ := ob.some
  rw [n] at h; cases h
theorem SlotAt.ext {i : Nat} {sl : Slot} (e : Ext F θ H F' θ' H') (h : SlotAt A F θ H σ i sl) (k : ∀ a v, sl = .ow v → σ[i]? = some (some (.ref a)) → H' a = H a ∧ ¬ F' a ∧ a ∉ θ') : SlotAt A F' θ' H' σ i sl := by
  cases sl with
  | un => trivial
  | fz v => obtain ⟨x, h1, h2⟩ := h; exact ⟨x, h1, h2.ext e⟩
  | ow v =>
    obtain ⟨a, h1, h2, h3, h4, h5⟩ := h
    obtain ⟨k1, k2, k3⟩ := k a v rfl h1
    exact ⟨a, h1, h2.ext e k1, k2, k3, h5⟩
  | ex c fs =>
    obtain ⟨a, d, vfs, h1, h2, h3⟩ := h
    refine ⟨a, d, vfs, h1, h2, ?_⟩
    rcases h3 with ⟨h3, h4⟩ | ⟨dd, h3, h4, h5, h6⟩
    · exact .inl ⟨h3, h4⟩
    · exact .inr ⟨dd, h3, e.f _ h4, (e.h _ h4).xd h5, h6.ext e⟩
/-- a new object is laid -/
theorem SR.lay (s : SR A F θ H σ ρ st) (n : H p = none) : SR A F θ (upd H p o) σ ρ st := by
  have nF := s.newF n
  have nT := s.newT n
  have ne : ∀ {b : Addr} {u : HO}, H b = some u → b ≠ p := fun h z => by rw [z, n] at h; cases h
  have e : Ext F θ H F θ (upd H p o) := .upd nF
  refine ⟨⟨s.so.nd, s.so.tf, fun a ha => ?_, s.so.sl, fun i a v h1 h2 => ?_, fun a ha => ?_⟩, s.f0, s.fn, fun a ha => ?_, fun a u h1 h2 h3 => ?_, s.t0, s.tn, s.le, fun i sl h => (s.rs i sl h).ext e fun a v e1 e2 => ?_, s.ow⟩
  · obtain ⟨u, h⟩ := s.so.ts a ha
    exact ⟨u, by rw [upd_ne (ne h)]; exact h⟩
  · have h := s.so.so i a v h1 h2
    obtain ⟨u, hu⟩ := h.some
    exact h.ext e (upd_ne (ne hu))
  · obtain ⟨u, h⟩ := s.so.fs a ha
    exact ⟨u, by rw [upd_ne (ne h)]; exact h⟩
  · rw [upd_ne fun (z : a = p) => nF (z ▸ s.f0 a ha)]
    exact s.lk a ha
  · have h := s.kp a u h1 h2 h3
    rw [upd_ne (ne h)]
    exact h
  · have hs := s.rs i sl h
    rw [e1] at hs
    obtain ⟨b, h1, h2, h3, h4, _⟩ := hs
    rw [e2] at h1
    cases h1
    obtain ⟨u, hu⟩ := h2.some
    exact ⟨upd_ne (ne hu), h3, h4⟩
/-- .. and nobody's yet -/
theorem SR.layN (s : SR A F θ H σ ρ st) (n : H p = none) (ob : ObjAt A.T F θ (upd H p o) p pv) : NRep A F θ (upd H p o) σ ρ (.ref p) pv :=
  .inr ⟨p, rfl, ob, s.newF n, s.newT n, s.new0 n, s.newO n⟩
/-- a thing that nobody bears is frozen -/
theorem SR.freeze (s : SR A F θ H σ ρ st) (hp : ∃ o, H p = some o) (nT : p ∉ θ) (n0 : A.H0 p = none) (no : ∀ j, isOw ρ j → σ[j]? ≠ some (some (.ref p))) : SR A (fun b => F b ∨ b = p) θ H σ ρ st := by
  have e : Ext F θ H (fun b => F b ∨ b = p) θ H := .freeze
  refine ⟨⟨s.so.nd, fun a ha => fun h => h.elim (s.so.tf a ha) fun z => nT (z ▸ ha), s.so.ts, s.so.sl, fun i a v h1 h2 => (s.so.so i a v h1 h2).ext e rfl, fun a ha => ha.elim (s.so.fs a) fun z => by rw [z]; exact hp⟩, fun a h => .inl (s.f0 a h),
    fun a h => h.elim (s.fn a) fun z => .inr (by rw [z]; exact n0), s.lk, s.kp, s.t0, s.tn, s.le, fun i sl h => (s.rs i sl h).ext e fun a v e1 e2 => ?_, s.ow⟩
  have hs := s.rs i sl h
  rw [e1] at hs
  obtain ⟨b, h1, h2, h3, h4, _⟩ := hs
  rw [e2] at h1
  cases h1
  exact ⟨rfl, fun z => z.elim h3 fun z => no i ⟨v, by rw [h, e1]⟩ (by rw [e2, z]), h4⟩
theorem SR.freezeN (s : SR A F θ H σ ρ st) (h : NRep A F θ H σ ρ v pv) : ∃ F', Ext F θ H F' θ H ∧ SR A F' θ H σ ρ st ∧ Rep A.T F' θ H v pv := by
  rcases h with ⟨_, h⟩ | ⟨p, rfl, ob, nF, nT, n0, no⟩
  · exact ⟨F, .refl, s, h⟩
  · exact ⟨_, .freeze, s.freeze ob.some nT n0 no, (ob.ext .freeze rfl).rep (.inr rfl)⟩
/-- a name's own thing is changed -/
theorem SR.write {i : Nat} {w : PV} (s : SR A F θ H σ ρ st) (ho : ρ[i]? = some (.ow w)) (hi : σ[i]? = some (some (.ref p))) (ob : ObjAt A.T F θ (upd H p o) p pv) : SR A F θ (upd H p o) σ (ρ.set i (.ow pv)) st := by
  have hs := s.rs i _ ho
  obtain ⟨b, h1, h2, nF, nT, n0⟩ := hs
  rw [hi] at h1
  cases h1
  have e : Ext F θ H F θ (upd H p o) := .upd nF
  have neT : ∀ {b : Addr}, b ∈ θ → b ≠ p := fun hb z => nT (z ▸ hb)
  have hl : i < ρ.length := (List.getElem?_eq_some_iff.mp ho).1
  have owI : ∀ j, isOw (ρ.set i (.ow pv)) j → isOw ρ j := fun j ⟨x, hx⟩ => by
    by_cases z : i = j
    · subst z; exact ⟨w, ho⟩
    · rw [List.getElem?_set_ne z] at hx; exact ⟨x, hx⟩
  refine ⟨⟨s.so.nd, s.so.tf, fun a ha => ?_, s.so.sl, fun j a v h1 h2 => ?_, fun a ha => ?_⟩, s.f0, s.fn, fun a ha => ?_, fun a u h1 h2 h3 => ?_, s.t0, s.tn, by rw [List.length_set]; exact s.le, fun j sl h => ?_, fun j k a h1 h2 => s.ow j k a (owI j h1) (owI k h2)⟩
  · rw [upd_ne (neT ha)]; exact s.so.ts a ha
  · exact (s.so.so j a v h1 h2).ext e (upd_ne (neT (List.mem_of_getElem? h1)))
  · rw [upd_ne fun (z : a = p) => nF (z ▸ ha)]; exact s.so.fs a ha
  · rw [upd_ne fun (z : a = p) => nF (z ▸ s.f0 a ha)]; exact s.lk a ha
  · rw [upd_ne fun z => by rw [z, n0] at h1; cases h1]; exact s.kp a u h1 h2 h3
  · by_cases z : i = j
    · subst z
      rw [List.getElem?_set_self hl] at h
      cases h
      exact ⟨p, hi, ob, nF, nT, n0⟩
    · rw [List.getElem?_set_ne z] at h
      refine (s.rs j sl h).ext e fun a v e1 e2 => ?_
      have hs := s.rs j sl h
      rw [e1] at hs
      obtain ⟨b, h1, h2, h3, h4, _⟩ := hs
      rw [e2] at h1
      cases h1
      refine ⟨upd_ne fun q => z (s.ow i j p ⟨w, ho⟩ ⟨v, by rw [h, e1]⟩ hi (by rw [e2, q])), h3, h4⟩
/-- a thing of the store is changed -/
theorem SR.writeT {i : Nat} (s : SR A F θ H σ ρ st) (hi : θ[i]? = some p) (ob : ObjAt A.T F θ (upd H p o) p pv) : SR A F θ (upd H p o) σ ρ (st.set i pv) := by
  have hm : p ∈ θ := List.mem_of_getElem? hi
  have nF := s.so.tf p hm
  have e : Ext F θ H F θ (upd H p o) := .upd nF
  have hl : i < st.length := by rw [s.so.sl]; exact (List.getElem?_eq_some_iff.mp hi).1
  refine ⟨⟨s.so.nd, s.so.tf, fun a ha => ?_, by rw [List.length_set]; exact s.so.sl, fun j a v h1 h2 => ?_, fun a ha => ?_⟩, s.f0, s.fn, fun a ha => ?_, fun a u h1 h2 h3 => ?_, s.t0, s.tn, s.le, fun j sl h => (s.rs j sl h).ext e fun a v e1 e2 => ?_, s.ow⟩
  · by_cases z : a = p
    · rw [z]; exact ⟨_, upd_same⟩
    · rw [upd_ne z]; exact s.so.ts a ha
  · by_cases z : i = j
    · subst z
      rw [hi] at h1
      cases h1
      rw [List.getElem?_set_self hl] at h2
      cases h2
      exact ob
    · rw [List.getElem?_set_ne z] at h2
      refine (s.so.so j a v h1 h2).ext e (upd_ne fun q => z ?_)
      rw [q] at h1
      obtain ⟨l1, e1⟩ := List.getElem?_eq_some_iff.mp hi
      obtain ⟨l2, e2⟩ := List.getElem?_eq_some_iff.mp h1
      exact (List.getElem_inj s.so.nd).mp (e1.trans e2.symm)
  · rw [upd_ne fun (z : a = p) => nF (z ▸ ha)]; exact s.so.fs a ha
  · rw [upd_ne fun (z : a = p) => nF (z ▸ s.f0 a ha)]; exact s.lk a ha
  · rw [upd_ne fun z => ?_]
    · exact s.kp a u h1 h2 h3
    · subst z
      rcases s.tn a hm with q | q
      · exact h3 q
      · rw [q] at h1; cases h1
  · have hs := s.rs j sl h
    rw [e1] at hs
    obtain ⟨b, h1, h2, h3, h4, _⟩ := hs
    rw [e2] at h1
    cases h1
    exact ⟨upd_ne fun q => h4 (q ▸ hm), h3, h4⟩
/-- a name is set -/
theorem SR.setF {i : Nat} (s : SR A F θ H σ ρ st) (r : Rep A.T F θ H v pv) : SR A F θ H (σ.set i (some v)) (ρ.set i (.fz pv)) st := by
  have owI : ∀ j, isOw (ρ.set i (.fz pv)) j → j ≠ i ∧ isOw ρ j := fun j ⟨x, hx⟩ => by
    by_cases z : i = j
    · subst z
      by_cases hl : i < ρ.length
      · rw [List.getElem?_set_self hl] at hx; cases hx
      · rw [List.getElem?_eq_none (by simpa using hl)] at hx; cases hx
    · rw [List.getElem?_set_ne z] at hx; exact ⟨Ne.symm z, x, hx⟩
  refine ⟨s.so, s.f0, s.fn, s.lk, s.kp, s.t0, s.tn, by rw [List.length_set, List.length_set]; exact s.le, fun j sl h => ?_, fun j k a h1 h2 h3 h4 => ?_⟩
  · by_cases z : i = j
    · subst z
      by_cases hl : i < ρ.length
      · rw [List.getElem?_set_self hl] at h
        cases h
        exact ⟨v, by rw [List.getElem?_set_self (by rw [← s.le]; exact hl)], r⟩
      · rw [List.getElem?_eq_none (by simpa using hl)] at h; cases h
    · rw [List.getElem?_set_ne z] at h
      have hs := s.rs j sl h
      cases sl with
      | un => trivial
      | fz w => obtain ⟨x, q⟩ := hs; exact ⟨x, by rw [List.getElem?_set_ne z]; exact q.1, q.2⟩
      | ow w => obtain ⟨x, q⟩ := hs; exact ⟨x, by rw [List.getElem?_set_ne z]; exact q.1, q.2⟩
      | ex c fs => obtain ⟨x, d, vfs, q⟩ := hs; exact ⟨x, d, vfs, by rw [List.getElem?_set_ne z]; exact q.1, q.2⟩
  · obtain ⟨n1, o1⟩ := owI j h1
    obtain ⟨n2, o2⟩ := owI k h2
    rw [List.getElem?_set_ne (Ne.symm n1)] at h3
    rw [List.getElem?_set_ne (Ne.symm n2)] at h4
    exact s.ow j k a o1 o2 h3 h4
theorem SR.setO {i : Nat} (s : SR A F θ H σ ρ st) (ob : ObjAt A.T F θ H p pv) (nF : ¬ F p) (nT : p ∉ θ) (n0 : A.H0 p = none) (no : ∀ j, isOw ρ j → σ[j]? ≠ some (some (.ref p))) : SR A F θ H (σ.set i (some (.ref p))) (ρ.set i (.ow pv)) st := by
  have owI : ∀ j, isOw (ρ.set i (.ow pv)) j → j = i ∨ (j ≠ i ∧ isOw ρ j) := fun j ⟨x, hx⟩ => by
    by_cases z : i = j
    · exact .inl z.symm
    · rw [List.getElem?_set_ne z] at hx; exact .inr ⟨Ne.symm z, x, hx⟩
  refine ⟨s.so, s.f0, s.fn, s.lk, s.kp, s.t0, s.tn, by rw [List.length_set, List.length_set]; exact s.le, fun j sl h => ?_, fun j k a h1 h2 h3 h4 => ?_⟩
  · by_cases z : i = j
    · subst z
      by_cases hl : i < ρ.length
      · rw [List.getElem?_set_self hl] at h
        cases h
        exact ⟨p, by rw [List.getElem?_set_self (by rw [← s.le]; exact hl)], ob, nF, nT, n0⟩
      · rw [List.getElem?_eq_none (by simpa using hl)] at h; cases h
    · rw [List.getElem?_set_ne z] at h
      have hs := s.rs j sl h
      cases sl with
      | un => trivial
      | fz w => obtain ⟨x, q⟩ := hs; exact ⟨x, by rw [List.getElem?_set_ne z]; exact q.1, q.2⟩
      | ow w => obtain ⟨x, q⟩ := hs; exact ⟨x, by rw [List.getElem?_set_ne z]; exact q.1, q.2⟩
      | ex c fs => obtain ⟨x, d, vfs, q⟩ := hs; exact ⟨x, d, vfs, by rw [List.getElem?_set_ne z]; exact q.1, q.2⟩
  · rcases owI j h1 with n1 | ⟨n1, o1⟩ <;> rcases owI k h2 with n2 | ⟨n2, o2⟩
    · rw [n1, n2]
    · exfalso
      subst n1
      have hj : j < σ.length := by
        have := (List.getElem?_eq_some_iff.mp h3).1
        rw [List.length_set] at this; exact this
      rw [List.getElem?_set_self hj] at h3
      cases h3
      rw [List.getElem?_set_ne (Ne.symm n2)] at h4
      exact no k o2 h4
    · exfalso
      subst n2
      have hj : k < σ.length := by
        have := (List.getElem?_eq_some_iff.mp h4).1
        rw [List.length_set] at this; exact this
      rw [List.getElem?_set_self hj] at h4
      cases h4
      rw [List.getElem?_set_ne (Ne.symm n1)] at h3
      exact no j o1 h3
    · rw [List.getElem?_set_ne (Ne.symm n1)] at h3
      rw [List.getElem?_set_ne (Ne.symm n2)] at h4
      exact s.ow j k a o1 o2 h3 h4
/-- names forgotten, or frozen -/
theorem SR.slots {ρ' : REnv} (s : SR A F θ H σ ρ st) (hl : ρ'.length = ρ.length) (h : ∀ (i : Nat) (sl : Slot), ρ'[i]? = some sl → sl = .un ∨ ρ[i]? = some sl) : SR A F θ H σ ρ' st := by
  have owI : ∀ j, isOw ρ' j → isOw ρ j := fun j ⟨x, hx⟩ => by
    rcases h j _ hx with z | z
    · cases z
    · exact ⟨x, z⟩
  refine ⟨s.so, s.f0, s.fn, s.lk, s.kp, s.t0, s.tn, hl.trans s.le, fun j sl q => ?_, fun j k a h1 h2 => s.ow j k a (owI j h1) (owI k h2)⟩
  rcases h j sl q with z | z
  · rw [z]; trivial
  · exact s.rs j sl z
/-- a name's own thing is frozen -/
theorem SR.freezeS {i : Nat} (s : SR A F θ H σ ρ st) (h : ρ[i]? = some (.ow pv)) : ∃ F' x, Ext F θ H F' θ H ∧ SR A F' θ H σ (ρ.set i (.fz pv)) st ∧ σ[i]? = some (some x) ∧ Rep A.T F' θ H x pv := by
  have hs := s.rs i _ h
  obtain ⟨p, h1, ob, nF, nT, n0⟩ := hs
  have hl : i < ρ.length := (List.getElem?_eq_some_iff.mp h).1
  have s1 : SR A F θ H σ (ρ.set i .un) st := s.slots (by rw [List.length_set]) fun j sl q => by
    by_cases z : i = j
    · subst z
      rw [List.getElem?_set_self hl] at q
      cases q
      exact .inl rfl
    · rw [List.getElem?_set_ne z] at q; exact .inr q
  have s2 := s1.freeze ob.some nT n0 fun j ⟨x, hx⟩ e => by
    by_cases z : i = j
    · subst z
      rw [List.getElem?_set_self hl] at hx; cases hx
    · rw [List.getElem?_set_ne z] at hx
      exact z (s.ow i j p ⟨_, h⟩ ⟨x, hx⟩ h1 e)
  have r : Rep A.T (fun b => F b ∨ b = p) θ H (.ref p) pv := (ob.ext .freeze rfl).rep (.inr rfl)
  refine ⟨_, _, .freeze, ?_, h1, r⟩
  have e1 : σ.set i (some (.ref p)) = σ := by
    obtain ⟨l, e⟩ := List.getElem?_eq_some_iff.mp h1
    rw [← e]; exact List.set_getElem_self l
  have e2 : (ρ.set i .un).set i (.fz pv) = ρ.set i (.fz pv) := List.set_set _
  have s3 := s2.setF (i := i) r
  rw [e1, e2] at s3
  exact s3
end
end PB

end
section
set_option Elab.async false
set_option linter.all false
set_option maxRecDepth 100000
set_option exponentiation.threshold 10000
/-! PB4: the operations keep to the trees. -/
namespace PB
open PySem L2

section
variable (A : Act)
/-- what is wanted of what is told -/
def Fin (fr : Bool) (F : Addr → Prop) (θ : List Addr) (H : Hp) (σ : L2.St) (ρ : REnv) (st : Sto) (pv : PV) (Q : VK) : Prop :=
  ∀ v F' θ' H', Ext F θ H F' θ' H' → SR A F' θ' H' σ ρ st → (if fr = true then NRep A F' θ' H' σ ρ v pv else Rep A.T F' θ' H' v pv) → Q v H'
end
section
variable {A : Act} {fr : Bool} {F : Addr → Prop} {θ : List Addr} {H : Hp} {σ : L2.St} {ρ : REnv} {st : Sto} {pv : PV} {Q : VK} {x v : V} {p : Addr}
theorem Fin.sc (h : Fin A fr F θ H σ ρ st pv Q) (s : SR A F θ H σ ρ st) (r : Rep A.T F θ H v pv) (hc : contP pv = false := by rfl) : Q v H := by
  refine h v F θ H .refl s ?_
  cases fr with
  | true => exact .inl ⟨hc, r⟩
  | false => exact r
theorem Fin.nr (h : Fin A fr F θ H σ ρ st pv Q) {F1 : Addr → Prop} {θ1 : List Addr} {H1 : Hp} (e : Ext F θ H F1 θ1 H1) (s : SR A F1 θ1 H1 σ ρ st) (r : NRep A F1 θ1 H1 σ ρ v pv) : Q v H1 := by
  cases fr with
  | true => exact h v _ _ _ e s r
  | false =>
    obtain ⟨F2, e2, s2, r2⟩ := s.freezeN r
    exact h v _ _ _ (e.trans e2) s2 r2
theorem Fin.new (h : Fin A fr F θ H σ ρ st pv Q) {o : HO} (s : SR A F θ H σ ρ st) (n : H p = none) (ob : ObjAt A.T F θ (upd H p o) p pv) : Q (.ref p) (upd H p o) :=
  h.nr (.upd (s.newF n)) (s.lay n) (s.layN n ob)
/-- a new tuple -/
theorem Fin.tup {xs : List PV} {vs : List V} (h : Fin A fr F θ H σ ρ st (.tup xs) Q) (s : SR A F θ H σ ρ st) (n : H p = none) (r : Reps A.T F θ H vs xs) : Q (.ref p) (upd H p (.tup vs)) := by
  have nF := s.newF n
  have s1 : SR A F θ (upd H p (.tup vs)) σ ρ st := s.lay n
  have s2 := s1.freeze ⟨_, upd_same⟩ (s.newT n) (s.new0 n) (s.newO n)
  have e : Ext F θ H (fun b => F b ∨ b = p) θ (upd H p (.tup vs)) := (Ext.upd nF).trans .freeze
  have rr : Rep A.T (fun b => F b ∨ b = p) θ (upd H p (.tup vs)) (.ref p) (.tup xs) := .tup (.inl ⟨.inr rfl, .inl upd_same⟩) (r.ext e)
  refine h _ _ _ _ e s2 ?_
  cases fr with
  | true => exact .inl ⟨rfl, rr⟩
  | false => exact rr

/-! ### what lies behind a borrowed value -/
theorem BRep.of (h : Rep A.T F θ H x pv) : BRep A F θ H x pv := .inl h
theorem BRep.int {i : Int} (h : BRep A F θ H x (.int i)) : x = .int i := by
  rcases h with h | ⟨a, _, h⟩
  · cases h; rfl
  · exact h.elim
theorem BRep.bl {i : Bool} (h : BRep A F θ H x (.bl i)) : x = .bl i := by
  rcases h with h | ⟨a, _, h⟩
  · cases h; rfl
  · exact h.elim
theorem BRep.non (h : BRep A F θ H x .non) : x = .non := by
  rcases h with h | ⟨a, _, h⟩
  · cases h; rfl
  · exact h.elim
theorem BRep.str {t : Tx} (h : BRep A F θ H x (.str t)) : x = .str (tS t) := by
  rcases h with h | ⟨a, _, h⟩
  · cases h; rfl
  · exact h.elim
theorem BRep.lst {xs : List PV} (h : BRep A F θ H x (.lst xs)) : ∃ a vs, x = .ref a ∧ H a = some (.lst vs) ∧ Reps A.T F θ H vs xs := by
  rcases h with h | ⟨a, e, vs, h1, h2⟩
  · cases h with
    | lst f h r => exact ⟨_, _, rfl, h, r⟩
  · exact ⟨a, vs, e, h1, h2⟩
theorem BRep.dic {d : List (K2 × PV)} (h : BRep A F θ H x (.dic d)) : ∃ a vs, x = .ref a ∧ Rd H a (.dK vs) ∧ RepD A.T F θ H vs d := by
  rcases h with h | ⟨a, e, vs, h1, h2⟩
  · cases h with
    | dic f h r => exact ⟨_, _, rfl, h, r⟩
  · exact ⟨a, vs, e, .inl h1, h2⟩
theorem BRep.tup {xs : List PV} (h : BRep A F θ H x (.tup xs)) : ∃ a vs, x = .ref a ∧ SqT A.T.K H a vs ∧ Reps A.T F θ H vs xs := by
  rcases h with h | ⟨a, e, h⟩
  · cases h with
    | tup h r => exact ⟨_, _, rfl, h.elim (fun q => .inl q.2) .inr, r⟩
  · exact h.elim
theorem BRep.scr {ns : List Int} (h : BRep A F θ H x (.scr ns)) : ∃ a, x = .ref a ∧ SqL A.T.K H a (ns.map V.int) := by
  rcases h with h | ⟨a, e, h⟩
  · cases h with
    | scr h => exact ⟨_, rfl, h.elim (fun q => .inl q.2) .inr⟩
  · exact h.elim
theorem BRep.obj {c : Nat} {fs : List (Nat × PV)} (h : BRep A F θ H x (.obj c fs)) : ∃ a dx vfs, x = .ref a ∧ H a = some (.ins (A.T.ca c) dx vfs) ∧ RepF A.T F θ H vfs fs := by
  rcases h with h | ⟨a, e, dx, vs, h1, h2⟩
  · cases h with
    | obj f h r => exact ⟨_, _, _, rfl, h, r⟩
  · exact ⟨a, dx, vs, e, h1, h2⟩
/-- a thing of the store, or itself -/
theorem BRep.de (s : SR A F θ H σ ρ st) (h : BRep A F θ H x pv) (hn : de st pv ≠ .non ∨ pv = .non) : BRep A F θ H x (PB.de st pv) := by
  cases pv <;> first | exact h | skip
  rename_i a
  rcases h with h | ⟨a, e, h⟩
  · cases h with
    | ref h =>
      rename_i p
      cases e : st[a]? with
      | none =>
        have : PB.de st (.ref a) = .non := by show st.getD a .non = .non; rw [List.getD_eq_getElem?_getD, e]; rfl
        rw [this] at hn
        rcases hn with hn | hn
        · exact absurd rfl hn
        · cases hn
      | some v =>
        have : PB.de st (.ref a) = v := by show st.getD a .non = v; rw [List.getD_eq_getElem?_getD, e]; rfl
        rw [this]
        exact .inr ⟨p, rfl, s.so.so a p v h e⟩
  · exact h.elim
end

theorem lim_eq : sizeLine = lim := sizeLine_eq
theorem tS_len (t : Tx) : (tS t).length = t.length := by
  show t.toArray.size = t.length
  simp
theorem tS_app (a b : Tx) : tS a ++ tS b = tS (a ++ b) := by
  show Str.mk (a.toArray ++ b.toArray) = Str.mk (a ++ b).toArray
  simp
theorem tS_list (a : Tx) : (tS a).cps.toList = a := rfl

/-! ### operators -/
section
variable (A : Act)
/-- a two-place operation's reading -/
def r2 (fr : Bool) (g : Sto → PV → PV → Option PV) : R2 := fun x y H Q => ∃ F θ σ ρ st px py pv, SR A F θ H σ ρ st ∧ BRep A F θ H x px ∧ BRep A F θ H y py ∧ g st px py = some pv ∧ Fin A fr F θ H σ ρ st pv Q
end
section
variable {A : Act} {X : Cx} {fr : Bool}
theorem op_addP (hK : X.K = A.T.K) : OpR X (binaryOp .Add) (r2 A fr fun _ x y => addOp x y) := by
  rintro pins s σ H x y v u Q I rx ry ⟨F, θ, σ', ρ, st, px, py, pv, sr, bx, by_, hg, fin⟩
  replace hg : addOp px py = some pv := hg
  unfold addOp at hg
  split at hg
  · cases hg
    obtain rfl := bx.int
    obtain rfl := by_.int
    exact op_add pins s σ H _ _ v u Q I rx ry ⟨_, _, rfl, rfl, fin.sc sr (.int _)⟩
  · split at hg
    · rename_i hl
      cases hg
      obtain rfl := bx.str
      obtain rfl := by_.str
      refine op_add_str pins s σ H _ _ v u Q I rx ry ⟨_, _, rfl, rfl, by rw [tS_len, tS_len, lim_eq]; exact hl, ?_⟩
      rw [tS_app]
      exact fin.sc sr (.str _)
    · cases hg
  · split at hg
    · rename_i hl
      cases hg
      obtain ⟨a, vs, rfl, ha, ra⟩ := bx.lst
      obtain ⟨b, ws, rfl, hb, rb⟩ := by_.lst
      refine op_cat pins s σ H _ _ v u Q I rx ry ⟨a, b, vs, ws, rfl, rfl, ha, hb, by rw [ra.length, rb.length, lim_eq]; exact hl, fun p n => ?_⟩
      exact fin.new sr n ⟨_, upd_same, (ra.append rb).ext (.upd (sr.newF n))⟩
    · cases hg
  · split at hg
    · rename_i hl
      cases hg
      obtain ⟨a, vs, rfl, ha, ra⟩ := bx.tup
      obtain ⟨b, ws, rfl, hb, rb⟩ := by_.tup
      rw [← hK] at ha hb
      refine op_catA pins s σ H _ _ v u Q I rx ry ⟨a, b, vs, ws, rfl, rfl, ha, hb, by rw [ra.length, rb.length, lim_eq]; exact hl, fun e => ?_, fun e1 e2 => ?_, fun e1 e2 p n => ?_⟩
      · subst e
        cases ra
        rcases by_ with r | ⟨_, _, r⟩
        · exact fin.sc sr r
        · exact r.elim
      · subst e2
        cases rb
        rcases bx with r | ⟨_, _, r⟩
        · rw [List.append_nil] at fin
          exact fin.sc sr r
        · exact r.elim
      · exact fin.tup sr n (ra.append rb)
    · cases hg
  · cases hg
theorem op_subP : OpR X (binaryOp .Sub) (r2 A fr fun _ x y => subOp x y) := by
  rintro pins s σ H x y v u Q I rx ry ⟨F, θ, σ', ρ, st, px, py, pv, sr, bx, by_, hg, fin⟩
  replace hg : subOp px py = some pv := hg
  unfold subOp at hg
  split at hg
  · cases hg
    obtain rfl := bx.int
    obtain rfl := by_.int
    exact op_sub pins s σ H _ _ v u Q I rx ry ⟨_, _, rfl, rfl, fin.sc sr (.int _)⟩
  · cases hg
theorem foldl_arr (x : Array Nat) : ∀ (n : Nat) (acc : Array Nat), ((List.replicate n x).foldl (· ++ ·) acc).toList = acc.toList ++ (List.replicate n x.toList).flatten
  | 0, acc => by simp
  | n + 1, acc => by rw [List.replicate_succ, List.foldl_cons, foldl_arr x n, List.replicate_succ]; simp
theorem op_mulP : OpR X (binaryOp .Mult) (r2 A fr fun _ x y => mulOp x y) := by
  rintro pins s σ H x y v u Q I rx ry ⟨F, θ, σ', ρ, st, px, py, pv, sr, bx, by_, hg, fin⟩
  replace hg : mulOp px py = some pv := hg
  unfold mulOp at hg
  split at hg
  · split at hg
    · rename_i hb
      cases hg
      obtain rfl := bx.int
      obtain rfl := by_.int
      exact op_mulW pins s σ H _ _ v u Q I rx ry ⟨_, _, rfl, rfl, wide_mul (a := 9000) (b := 9000) hb.1 hb.2 (by decide) (by decide) (by decide), fin.sc sr (.int _)⟩
    · cases hg
  · split at hg
    · rename_i t j hb
      cases hg
      obtain rfl := bx.str
      obtain rfl := by_.int
      obtain ⟨tk, rfl⟩ := rx
      obtain ⟨tk2, rfl⟩ := ry
      obtain ⟨h0, h1, h2⟩ := hb
      have fs : Q (.str (tS (List.replicate j.toNat t).flatten)) H := fin.sc sr (.str _)
      have hl : Builtin.Bytes.tooLong ((tS t).length * j.toNat) = false := by
        rw [tS_len]
        unfold Builtin.Bytes.tooLong
        rw [lim_eq]
        exact decide_eq_false (by omega)
      refine PySem.P.mul_str ?_ (fun h3 h4 h5 => ?_) (fun h3 h4 => hl) ?_
      · rw [decide_eq_false (by omega), decide_eq_false (by omega)]; rfl
      · rw [tS_len] at h5
        have h6 : (t.length : Int) ≤ (2 ^ 63 - 1) / j := by
          refine Int.le_ediv_of_mul_le (by omega) ?_
          have e : (t.length : Int) * j = ((t.length * j.toNat : Nat) : Int) := by
            rw [Int.natCast_mul, Int.toNat_of_nonneg h0]
          rw [e]
          unfold lim at h2
          omega
        omega
      · by_cases e1 : j < 1
        · rw [if_pos e1]
          have : j = 0 := by omega
          subst this
          exact ⟨by decide, .str Str.empty, H, I.tok _, ⟨_, rfl⟩, fs⟩
        · rw [if_neg e1]
          by_cases e2 : (j == 1 || (tS t).length == 0) = true
          · rw [if_pos e2]
            have : (List.replicate j.toNat t).flatten = t := by
              rw [Bool.or_eq_true, beq_iff_eq, beq_iff_eq, tS_len, List.length_eq_zero_iff] at e2
              rcases e2 with e2 | e2
              · subst e2; simp
              · subst e2; simp
            rw [this] at fs
            exact ⟨.str (tS t), H, I, ⟨_, rfl⟩, fs⟩
          · rw [if_neg e2]
            have : (⟨(List.replicate j.toNat (tS t).cps).foldl (· ++ ·) #[]⟩ : Str) = tS (List.replicate j.toNat t).flatten := by
              have := foldl_arr (tS t).cps j.toNat #[]
              rw [tS_list] at this
              show Str.mk _ = Str.mk _
              congr 1
              rw [← Array.toList_inj, this]
              simp
            rw [this]
            refine ⟨?_, .str (tS (List.replicate j.toNat t).flatten), H, I.tok _, ⟨_, rfl⟩, fs⟩
            rw [tS_len, lim_eq, List.length_flatten, List.map_replicate, List.sum_replicate_nat]
            rw [Nat.mul_comm]
            exact h2
    · cases hg
  · split at hg
    · rename_i xs j hb
      cases hg
      obtain ⟨a, vs, rfl, ha, ra⟩ := bx.lst
      obtain rfl := by_.int
      obtain ⟨h0, h1, h2⟩ := hb
      refine op_rep pins s σ H _ _ v u Q I rx ry ⟨a, j, vs, rfl, rfl, ha, by omega, by omega, by rw [ra.length, lim_eq]; exact h2, fun p n => ?_⟩
      refine fin.new sr n ⟨_, upd_same, ?_⟩
      have : ∀ k : Nat, Reps A.T F θ H (List.replicate k vs).flatten (List.replicate k xs).flatten := fun k => by
        induction k with
        | zero => exact .nil
        | succ k ih => rw [List.replicate_succ, List.replicate_succ, List.flatten_cons, List.flatten_cons]; exact ra.append ih
      exact (this _).ext (.upd (sr.newF n))
    · cases hg
  · cases hg
end
end PB

end
section
set_option Elab.async false
set_option linter.all false
set_option maxRecDepth 100000
/-! PB5: ==, <, in. -/
namespace PB
open PySem L2 PySem.SeqAt

section
variable {A : Act} {X : Cx} {pins : List (Addr × Obj)} {σ : L2.St} {s : Shared} {F : Addr → Prop} {θ : List Addr} {H : Hp}

theorem apart_lt (I : L2.Inv X pins σ H s) {a : Addr} {xs ys : List V} (h1 : SqL X.K H a xs) (h2 : SqT X.K H a ys) : False := by
  obtain ⟨its, _, ⟨o, n, e, c, _⟩, _⟩ := I.list h1
  obtain ⟨its', _, ⟨o', e', c', _⟩, _⟩ := I.tuple h2
  rw [e] at e'
  cases e'
  rw [c] at c'
  exact absurd c' (by decide)
theorem rd_inj {a : Addr} {u w : HO} (h1 : Rd H a u) (h2 : Rd H a w) (n1 : ∀ o v, u ≠ .frz o v) (n2 : ∀ o v, w ≠ .frz o v) : u = w := by
  rcases h1 with h1 | ⟨o, h1⟩ <;> rcases h2 with h2 | ⟨o', h2⟩ <;> rw [h1] at h2 <;> cases h2
  · rfl
  · exact absurd rfl (n1 _ _)
  · exact absurd rfl (n2 _ _)
  · rfl
theorem nodup_at (I : L2.Inv X pins σ H s) {a : Addr} {kvs : List (Key × V)} (h : Rd H a (.dK kvs)) : (kvs.map (·.1)).Nodup := by
  obtain ⟨_, _, vs, r, _, _, _, _, _, _, _, _, nd⟩ := h.ok I.hok
  have e : ∀ {l : List (Key × V)} {m : List (Key × Value)}, KV l m → l.map (·.1) = m.map (·.1) := by
    intro l m q
    unfold KV at q
    induction q with
    | nil => rfl
    | cons h _ ih => rw [List.map_cons, List.map_cons, ih, h.1]
  rw [e r]
  exact nd
theorem RepD.mem {T : Tab} : ∀ {kvs : List (Key × V)} {d : List (K2 × PV)} {k : K2} {v : PV}, RepD T F θ H kvs d → (k, v) ∈ d → ∃ x, (kK k, x) ∈ kvs ∧ Rep T F θ H x v
  | _, _, _, _, .nil, h => nomatch h
  | _, _, k, v, .cons r t, h => by
    rcases List.mem_cons.mp h with e | h
    · cases e
      exact ⟨_, List.mem_cons_self, r⟩
    · obtain ⟨x, h1, h2⟩ := RepD.mem t h
      exact ⟨x, List.mem_cons_of_mem _ h1, h2⟩
theorem valV_mem {κ : Type} [DecidableEq κ] {k : κ} {x : V} : ∀ {l : List (κ × V)}, (l.map (·.1)).Nodup → (k, x) ∈ l → valV l k = some x
  | [], _, h => nomatch h
  | p :: r, nd, h => by
    rw [List.map_cons, List.nodup_cons] at nd
    rcases List.mem_cons.mp h with e | h
    · subst e
      exact valV_pos rfl
    · rw [valV_neg fun e => nd.1 (by rw [e]; exact List.mem_map_of_mem (f := (·.1)) h)]
      exact valV_mem nd.2 h

theorem of_str' {v : V} {z : Str} {pv : PV} (e : v = .str z) (h : Rep A.T F θ H v pv) : ∃ t, pv = .str t ∧ z = tS t := by
  cases h <;> cases e
  exact ⟨_, rfl, rfl⟩
theorem of_str {z : Str} {pv : PV} (h : BRep A F θ H (.str z) pv) : ∃ t, pv = .str t ∧ z = tS t := by
  rcases h with h | ⟨_, e, _⟩
  · exact of_str' rfl h
  · cases e
mutual
/-- one thing that stands for both: they are equal -/
theorem same_eq (I : L2.Inv X pins σ H s) (hK : X.K = A.T.K) : ∀ (px py : PV) (x : V) (b : Bool), BRep A F θ H x px → BRep A F θ H x py → eqv px py = some b → b = true
  | .non, py, x, b, hx, hy, e => by
    obtain rfl := hx.non
    rcases hy with hy | ⟨_, z, _⟩
    · cases hy; simpa [eqv] using e.symm
    · cases z
  | .bl c, py, x, b, hx, hy, e => by
    obtain rfl := hx.bl
    rcases hy with hy | ⟨_, z, _⟩
    · cases hy; simpa [eqv] using e.symm
    · cases z
  | .int i, py, x, b, hx, hy, e => by
    obtain rfl := hx.int
    rcases hy with hy | ⟨_, z, _⟩
    · cases hy; simpa [eqv] using e.symm
    · cases z
  | .str t, py, x, b, hx, hy, e => by
    obtain rfl := hx.str
    obtain ⟨u, rfl, h⟩ := of_str hy
    obtain rfl := tS_inj h
    simpa [eqv] using e.symm
  | .lst xs, py, x, b, hx, hy, e => by
    obtain ⟨a, vs, rfl, ha, ra⟩ := hx.lst
    cases py <;> first | (simp [eqv] at e; done) | skip
    · cases hy.non
    · cases hy.bl
    · cases hy.int
    · cases hy.str
    · obtain ⟨a', ws, e', hb, _⟩ := hy.tup
      cases e'
      exact (apart_lt I (.inl (.inl ha)) (by rw [hK]; exact hb)).elim
    · rename_i ys
      obtain ⟨a', ws, e', hb, rb⟩ := hy.lst
      cases e'
      rw [ha] at hb
      cases hb
      have hl : xs.length = ys.length := ra.length.symm.trans rb.length
      rw [eqv, if_pos hl] at e
      exact same_eqs I hK xs ys vs b ra rb e
  | .tup xs, py, x, b, hx, hy, e => by
    obtain ⟨a, vs, rfl, ha, ra⟩ := hx.tup
    cases py <;> first | (simp [eqv] at e; done) | skip
    · cases hy.non
    · cases hy.bl
    · cases hy.int
    · cases hy.str
    · rename_i ys
      obtain ⟨a', ws, e', hb, rb⟩ := hy.tup
      cases e'
      obtain rfl := I.tuple_inj (by rw [hK]; exact ha) (by rw [hK]; exact hb)
      have hl : xs.length = ys.length := ra.length.symm.trans rb.length
      rw [eqv] at e
      cases q : eqvs xs ys with
      | none => rw [q] at e; cases e
      | some c =>
        rw [q] at e
        cases e
        rw [same_eqs I hK xs ys vs c ra rb q, hl]
        simp
    · obtain ⟨a', ws, e', hb, _⟩ := hy.lst
      cases e'
      exact (apart_lt I (.inl (.inl hb)) (by rw [hK]; exact ha)).elim
  | .dic d, py, x, b, hx, hy, e => by
    obtain ⟨a, vs, rfl, ha, ra⟩ := hx.dic
    cases py <;> first | (simp [eqv] at e; done) | skip
    rename_i d'
    obtain ⟨a', ws, e', hb, rb⟩ := hy.dic
    cases e'
    cases rd_inj ha hb (fun _ _ z => nomatch z) (fun _ _ z => nomatch z)
    rw [eqv] at e
    cases q : eqvd d d' with
    | none => rw [q] at e; cases e
    | some c =>
      rw [q] at e
      cases e
      have hl : d.length = d'.length := ra.length.symm.trans rb.length
      rw [same_eqd I hK d d' vs vs c (nodup_at I ha) (fun p h => h) ra rb q, hl]
      simp
  | .scr _, py, x, b, hx, hy, e => by simp [eqv] at e
  | .obj _ _, py, x, b, hx, hy, e => by simp [eqv] at e
  | .exc _ _, py, x, b, hx, hy, e => by simp [eqv] at e
  | .ref _, py, x, b, hx, hy, e => by simp [eqv] at e
  | .fn _, py, x, b, hx, hy, e => by simp [eqv] at e
  | .clo _ _, py, x, b, hx, hy, e => by simp [eqv] at e
theorem same_eqs (I : L2.Inv X pins σ H s) (hK : X.K = A.T.K) : ∀ (xs ys : List PV) (vs : List V) (b : Bool), Reps A.T F θ H vs xs → Reps A.T F θ H vs ys → eqvs xs ys = some b → b = true
  | [], ys, vs, b, hx, hy, e => by simpa [eqvs] using e.symm
  | x :: xs, ys, vs, b, hx, hy, e => by
    cases hx with
    | cons r t =>
      cases hy with
      | cons r' t' =>
        rename_i y ys
        rw [eqvs] at e
        cases q : eqv x y with
        | none => rw [q] at e; cases e
        | some c =>
          rw [q] at e
          cases q' : eqvs xs ys with
          | none => rw [q'] at e; cases e
          | some c' =>
            rw [q'] at e
            cases e
            rw [same_eq I hK x y _ c (.inl r) (.inl r') q, same_eqs I hK xs ys _ c' t t' q']
            rfl
theorem same_eqd (I : L2.Inv X pins σ H s) (hK : X.K = A.T.K) : ∀ (d d' : List (K2 × PV)) (vs ws : List (Key × V)) (b : Bool), (ws.map (·.1)).Nodup → (∀ p ∈ vs, p ∈ ws) → RepD A.T F θ H vs d → RepD A.T F θ H ws d' → eqvd d d' = some b → b = true
  | [], d', vs, ws, b, nd, hs, hx, hy, e => by simpa [eqvd] using e.symm
  | (k, v) :: d, d', vs, ws, b, nd, hs, hx, hy, e => by
    cases hx with
    | cons r t =>
      rw [eqvd] at e
      have hv := valV_mem nd (hs _ List.mem_cons_self)
      rcases hy.look k with ⟨h1, _⟩ | ⟨w, y, h1, h2, h3⟩
      · rw [hv] at h1; cases h1
      · rw [hv] at h1
        cases h1
        rw [h2] at e
        dsimp only at e
        cases q : eqv v y with
        | none => rw [q] at e; cases e
        | some c =>
          rw [q] at e
          cases q' : eqvd d d' with
          | none => rw [q'] at e; cases e
          | some c' =>
            rw [q'] at e
            cases e
            rw [same_eq I hK v y _ c (.inl r) (.inl h3) q, same_eqd I hK d d' _ ws c' nd (fun p h => hs p (List.mem_cons_of_mem _ h)) t hy q']
            rfl
end

def eqj (xs ys : List PV) (j : Nat) : Bool := (eqv (xs.getD j .non) (ys.getD j .non)).getD false
theorem eqvs_all : ∀ (xs ys : List PV) (b : Bool), eqvs xs ys = some b → b = (List.range (min xs.length ys.length)).all (eqj xs ys)
  | [], ys, b, e => by
    have : b = true := by simpa [eqvs] using e.symm
    simp [this]
  | x :: xs, [], b, e => by
    have : b = true := by simpa [eqvs] using e.symm
    simp [this]
  | x :: xs, y :: ys, b, e => by
    rw [eqvs] at e
    cases q : eqv x y with
    | none => rw [q] at e; cases e
    | some c =>
      rw [q] at e
      cases q' : eqvs xs ys with
      | none => rw [q'] at e; cases e
      | some c' =>
        rw [q'] at e
        cases e
        have ih := eqvs_all xs ys c' q'
        rw [List.length_cons, List.length_cons, Nat.succ_min_succ, List.range_succ_eq_map, List.all_cons, List.all_map, ih]
        have e0 : eqj (x :: xs) (y :: ys) 0 = c := by show (eqv x y).getD false = c; rw [q]; rfl
        rw [e0]
        rfl
/-- the value at a key of the heap -/
def lookK (k : Key) : List (K2 × PV) → Option PV
  | [] => none
  | (k', v) :: r => if kK k' = k then some v else lookK k r
theorem lookK_look (k : K2) : ∀ d : List (K2 × PV), lookK (kK k) d = look k d
  | [] => rfl
  | (k', v) :: r => by
    unfold lookK look
    by_cases e : k' = k
    · subst e; rw [if_pos rfl, if_pos rfl]
    · rw [if_neg (fun z => e (kK_inj z)), if_neg e, lookK_look k r]
def eqk (d d' : List (K2 × PV)) (k : Key) : Bool := match lookK k d, lookK k d' with
  | some a, some b => (eqv a b).getD false
  | _, _ => false
theorem eqvd_all (D : List (K2 × PV)) : ∀ (d d' : List (K2 × PV)) (b : Bool), (∀ k v, (k, v) ∈ d → look k D = some v) → eqvd d d' = some b → b = d.all fun p => (look p.1 d').isSome && eqk D d' (kK p.1)
  | [], d', b, _, e => by
    have : b = true := by simpa [eqvd] using e.symm
    simp [this]
  | (k, v) :: d, d', b, hm, e => by
    have hd := hm k v List.mem_cons_self
    rw [eqvd] at e
    rw [List.all_cons]
    cases q0 : look k d' with
    | none =>
      rw [q0] at e
      dsimp only at e
      cases q' : eqvd d d' with
      | none => rw [q'] at e; cases e
      | some c' => rw [q'] at e; cases e; rfl
    | some y =>
      rw [q0] at e
      dsimp only at e
      cases q : eqv v y with
      | none => rw [q] at e; cases e
      | some c =>
        rw [q] at e
        cases q' : eqvd d d' with
        | none => rw [q'] at e; cases e
        | some c' =>
          rw [q'] at e
          cases e
          have ih := eqvd_all D d d' c' (fun k v h => hm k v (List.mem_cons_of_mem _ h)) q'
          rw [← ih]
          have : eqk D d' (kK k) = c := by
            unfold eqk
            rw [lookK_look, lookK_look, hd, q0]
            show (eqv v y).getD false = c
            rw [q]
            rfl
          rw [this]
          rfl
theorem dps_get : ∀ {xs : List PV} {j : Nat} {x : PV}, xs[j]? = some x → dp x ≤ dp.dps xs
  | [], _, _, h => by simp at h
  | y :: r, 0, x, h => by
    simp at h; subst h
    unfold dp.dps
    exact Nat.le_max_left _ _
  | y :: r, j + 1, x, h => by
    unfold dp.dps
    exact Nat.le_trans (dps_get (by simpa using h)) (Nat.le_max_right _ _)
theorem dpd_look {k : K2} : ∀ {d : List (K2 × PV)} {x : PV}, look k d = some x → dp x ≤ dp.dpd d
  | [], _, h => by cases h
  | (k', v) :: r, x, h => by
    unfold look at h
    unfold dp.dpd
    split at h
    · cases h
      exact Nat.le_max_left _ _
    · exact Nat.le_trans (dpd_look h) (Nat.le_max_right _ _)
theorem RepD.keyed {T : Tab} : ∀ {kvs : List (Key × V)} {d : List (K2 × PV)}, RepD T F θ H kvs d → kvs.map (·.1) = d.map fun p => kK p.1
  | _, _, .nil => rfl
  | _, _, .cons r t => by rw [List.map_cons, List.map_cons, RepD.keyed t]
theorem look_mem {k : K2} {v : PV} : ∀ {d : List (K2 × PV)}, (d.map fun p => kK p.1).Nodup → (k, v) ∈ d → look k d = some v
  | [], _, h => nomatch h
  | p :: r, nd, h => by
    rw [List.map_cons, List.nodup_cons] at nd
    obtain ⟨k', v'⟩ := p
    unfold look
    rcases List.mem_cons.mp h with e | h
    · cases e
      rw [if_pos rfl]
    · rw [if_neg fun e => nd.1 (by
        subst e
        have := List.mem_map_of_mem (f := fun p : K2 × PV => kK p.1) h
        exact this)]
      exact look_mem nd.2 h
theorem KV.keys {l : List (Key × V)} {m : List (Key × Value)} (q : KV l m) : l.map (·.1) = m.map (·.1) := by
  unfold KV at q
  induction q with
  | nil => rfl
  | cons h _ ih => rw [List.map_cons, List.map_cons, ih, h.1]
theorem KV.memR : ∀ {l : List (Key × V)} {m : List (Key × Value)} {k : Key} {u : Value}, KV l m → (k, u) ∈ m → ∃ x, (k, x) ∈ l ∧ RelV x u := by
  intro l m k u q
  unfold KV at q
  induction q with
  | nil => intro h; cases h
  | cons h _ ih =>
    rename_i p q _ _ _
    intro hm
    rcases List.mem_cons.mp hm with e | hm
    · obtain ⟨k', x⟩ := p
      subst e
      obtain ⟨h1, h2⟩ := h
      cases h1
      exact ⟨x, List.mem_cons_self, h2⟩
    · obtain ⟨x, h1, h2⟩ := ih hm
      exact ⟨x, List.mem_cons_of_mem _ h1, h2⟩
theorem RepD.memV {T : Tab} : ∀ {kvs : List (Key × V)} {d : List (K2 × PV)} {k : Key} {x : V}, RepD T F θ H kvs d → (k, x) ∈ kvs → ∃ k' v, k = kK k' ∧ (k', v) ∈ d ∧ Rep T F θ H x v
  | _, _, _, _, .nil, h => nomatch h
  | _, _, k, x, .cons r t, h => by
    rcases List.mem_cons.mp h with e | h
    · cases e
      exact ⟨_, _, rfl, List.mem_cons_self, r⟩
    · obtain ⟨k', v, h1, h2, h3⟩ := RepD.memV t h
      exact ⟨k', v, h1, List.mem_cons_of_mem _ h2, h3⟩

def both : PV → PV → Bool
  | .lst _, .lst _ => true
  | .tup _, .tup _ => true
  | .dic _, .dic _ => true
  | _, _ => false
def leafy : PV → PV → Bool
  | .lst _, .lst _ => false
  | .tup _, .tup _ => false
  | .lst _, p => scal p || (match p with | .tup _ => true | _ => false)
  | .tup _, p => scal p || (match p with | .lst _ => true | _ => false)
  | p, .lst _ => scal p
  | p, .tup _ => scal p
  | p, q => scal p && scal q
inductive HK (s : Shared) : Value → PV → Prop
  | non : HK s .none .non
  | bl (b : Bool) : HK s (.bool b) (.bl b)
  | int (i : Int) (t : Tok) : HK s (.int i t) (.int i)
  | str (z : Tx) (t : Tok) : HK s (.str (tS z) t) (.str z)
  | lst {l : Addr} {items : Array Value} {xs : List PV} : s.heap.IsList l items → HK s (.ref l) (.lst xs)
  | tup {l : Addr} {items : Array Value} {xs : List PV} : s.heap.IsTuple l items → HK s (.ref l) (.tup xs)
theorem tup_is (I : L2.Inv X pins σ H s) {a : Addr} {vs : List V} (h : SqT X.K H a vs) : ∃ its : List Value, Vals vs its ∧ s.heap.IsTuple a its.toArray := by
  obtain ⟨its, r, ⟨o, e, c, n, d⟩, _⟩ := I.tuple h
  exact ⟨its, r, ⟨o, e, c, n, d⟩⟩
theorem lst_is (I : L2.Inv X pins σ H s) {a : Addr} {vs : List V} (h : H a = some (.lst vs)) : ∃ its : List Value, Vals vs its ∧ s.heap.IsList a its.toArray := by
  obtain ⟨its, r, pl, _⟩ := I.list (.inl (.inl h))
  exact ⟨its, r, pl.isList⟩
def hkOk : PV → Bool
  | .non | .bl _ | .int _ | .str _ | .lst _ | .tup _ => true
  | _ => false
theorem HK.of (I : L2.Inv X pins σ H s) (hK : X.K = A.T.K) {px : PV} {x : V} {v : Value} (h : BRep A F θ H x px) (r : RelV x v) (hk : hkOk px = true) : HK s v px := by
  cases px <;> first | (cases hk; done) | skip
  · obtain rfl := h.non
    cases (show v = Value.none from r)
    exact .non
  · obtain rfl := h.bl
    cases (show v = Value.bool _ from r)
    exact .bl _
  · obtain rfl := h.int
    obtain ⟨t, rfl⟩ := r
    exact .int _ _
  · obtain rfl := h.str
    obtain ⟨t, rfl⟩ := r
    exact .str _ _
  · obtain ⟨a, vs, rfl, ha, _⟩ := h.tup
    cases (show v = Value.ref a from r)
    obtain ⟨its, _, t⟩ := tup_is I (by rw [hK]; exact ha)
    exact .tup t
  · obtain ⟨a, vs, rfl, ha, _⟩ := h.lst
    cases (show v = Value.ref a from r)
    obtain ⟨its, _, t⟩ := lst_is I ha
    exact .lst t
theorem tS_beq (a b : Tx) : (tS a == tS b) = (a == b) := by
  by_cases q : a = b
  · subst q; simp
  · rw [beq_false_of_ne q, beq_false_of_ne fun z => q (tS_inj z)]
theorem leafOf {P : Program} {w : World} {n : Nat} {v u : Value} {b : Bool} (c : Bool) (e : c = b) (h : ∀ A : Around, A.units + n < cLine → PySem.SeqAt.EqAt A s v u c) : PySem.W.EqTree P w s n v u b := by
  subst e
  exact .leaf h
theorem eqLeaf {P : Program} {w : World} {n : Nat} {px py : PV} {v u : Value} {b : Bool} : HK s v px → HK s u py → both px py = false → eqv px py = some b → PySem.W.EqTree P w s n v u b
  | .non, .non, _, e => leafOf (true) (by simpa [eqv] using e) fun A hu => PySem.SeqAt.EqAt.same _
  | .non, .bl c2, _, e => leafOf (false) (by simpa [eqv] using e) fun A hu => PySem.SeqAt.EqAt.none_bool _
  | .non, .int i2 t2, _, e => leafOf (false) (by simpa [eqv] using e) fun A hu => PySem.SeqAt.EqAt.none_int _ _
  | .non, .str z2 t2, _, e => leafOf (false) (by simpa [eqv] using e) fun A hu => PySem.SeqAt.EqAt.none_str _ _
  | .non, .lst h2, _, e => leafOf (false) (by simpa [eqv] using e) fun A hu => PySem.SeqAt.EqAt.none_list h2 (by omega)
  | .non, .tup h2, _, e => leafOf (false) (by simpa [eqv] using e) fun A hu => PySem.SeqAt.EqAt.none_tuple h2 (by omega)
  | .bl c, .non, _, e => leafOf (false) (by simpa [eqv] using e) fun A hu => PySem.SeqAt.EqAt.bool_none _
  | .bl c, .bl c2, _, e => leafOf ((c == c2)) (by simpa [eqv] using e) fun A hu => PySem.SeqAt.EqAt.bool_bool _ _
  | .bl c, .int i2 t2, _, e => leafOf ((b2i c == i2)) (by simpa [eqv] using e) fun A hu => PySem.SeqAt.EqAt.bool_int _ _ _
  | .bl c, .str z2 t2, _, e => leafOf (false) (by simpa [eqv] using e) fun A hu => PySem.SeqAt.EqAt.bool_str _ _ _
  | .bl c, .lst h2, _, e => leafOf (false) (by simpa [eqv] using e) fun A hu => PySem.SeqAt.EqAt.bool_list _ h2 (by omega)
  | .bl c, .tup h2, _, e => leafOf (false) (by simpa [eqv] using e) fun A hu => PySem.SeqAt.EqAt.bool_tuple _ h2 (by omega)
  | .int i t, .non, _, e => leafOf (false) (by simpa [eqv] using e) fun A hu => PySem.SeqAt.EqAt.int_none _ _
  | .int i t, .bl c2, _, e => leafOf ((i == b2i c2)) (by simpa [eqv] using e) fun A hu => PySem.SeqAt.EqAt.int_bool _ _ _
  | .int i t, .int i2 t2, _, e => leafOf ((i == i2)) (by simpa [eqv] using e) fun A hu => PySem.SeqAt.EqAt.int_int _ _ _ _
  | .int i t, .str z2 t2, _, e => leafOf (false) (by simpa [eqv] using e) fun A hu => PySem.SeqAt.EqAt.int_str _ _ _ _
  | .int i t, .lst h2, _, e => leafOf (false) (by simpa [eqv] using e) fun A hu => PySem.SeqAt.EqAt.int_list _ _ h2 (by omega)
  | .int i t, .tup h2, _, e => leafOf (false) (by simpa [eqv] using e) fun A hu => PySem.SeqAt.EqAt.int_tuple _ _ h2 (by omega)
  | .str z t, .non, _, e => leafOf (false) (by simpa [eqv] using e) fun A hu => PySem.SeqAt.EqAt.str_none _ _
  | .str z t, .bl c2, _, e => leafOf (false) (by simpa [eqv] using e) fun A hu => PySem.SeqAt.EqAt.str_bool _ _ _
  | .str z t, .int i2 t2, _, e => leafOf (false) (by simpa [eqv] using e) fun A hu => PySem.SeqAt.EqAt.str_int _ _ _ _
  | .str z t, .str z2 t2, _, e => leafOf ((tS z == tS z2)) (by rw [tS_beq]; simpa [eqv] using e) fun A hu => PySem.SeqAt.EqAt.str_str _ _ _ _
  | .str z t, .lst h2, _, e => leafOf (false) (by simpa [eqv] using e) fun A hu => PySem.SeqAt.EqAt.str_list _ _ h2 (by omega)
  | .str z t, .tup h2, _, e => leafOf (false) (by simpa [eqv] using e) fun A hu => PySem.SeqAt.EqAt.str_tuple _ _ h2 (by omega)
  | .lst h, .non, _, e => leafOf (false) (by simpa [eqv] using e) fun A hu => PySem.SeqAt.EqAt.list_none h (by omega)
  | .lst h, .bl c2, _, e => leafOf (false) (by simpa [eqv] using e) fun A hu => PySem.SeqAt.EqAt.list_bool _ h (by omega)
  | .lst h, .int i2 t2, _, e => leafOf (false) (by simpa [eqv] using e) fun A hu => PySem.SeqAt.EqAt.list_int _ _ h (by omega)
  | .lst h, .str z2 t2, _, e => leafOf (false) (by simpa [eqv] using e) fun A hu => PySem.SeqAt.EqAt.list_str _ _ h (by omega)
  | .lst h, .lst h2, hb, e => by simp [both] at hb
  | .lst h, .tup h2, _, e => leafOf (false) (by simpa [eqv] using e) fun A hu => PySem.SeqAt.EqAt.list_tuple h h2 (by omega)
  | .tup h, .non, _, e => leafOf (false) (by simpa [eqv] using e) fun A hu => PySem.SeqAt.EqAt.tuple_none h (by omega)
  | .tup h, .bl c2, _, e => leafOf (false) (by simpa [eqv] using e) fun A hu => PySem.SeqAt.EqAt.tuple_bool _ h (by omega)
  | .tup h, .int i2 t2, _, e => leafOf (false) (by simpa [eqv] using e) fun A hu => PySem.SeqAt.EqAt.tuple_int _ _ h (by omega)
  | .tup h, .str z2 t2, _, e => leafOf (false) (by simpa [eqv] using e) fun A hu => PySem.SeqAt.EqAt.tuple_str _ _ h (by omega)
  | .tup h, .lst h2, _, e => leafOf (false) (by simpa [eqv] using e) fun A hu => PySem.SeqAt.EqAt.tuple_list h h2 (by omega)
  | .tup h, .tup h2, hb, e => by simp [both] at hb
theorem Reps.getD {T : Tab} {vs : List V} {xs : List PV} {us : List Value} (r : Reps T F θ H vs xs) (q : Vals vs us) {j : Nat} (h : j < us.length) : ∃ x, vs[j]? = some x ∧ Rep T F θ H x (xs.getD j .non) ∧ RelV x us[j] ∧ j < xs.length := by
  have h1 : j < vs.length := by rw [q.length]; exact h
  obtain ⟨u, e, ru⟩ := q.get (List.getElem?_eq_getElem h1)
  obtain ⟨p, e2, rp⟩ := r.get (List.getElem?_eq_getElem h1)
  refine ⟨_, List.getElem?_eq_getElem h1, ?_, ?_, (List.getElem?_eq_some_iff.mp e2).1⟩
  · rw [List.getD_eq_getElem?_getD, e2]; exact rp
  · have : us[j] = u := by
      have := List.getElem?_eq_getElem h
      rw [e] at this
      exact (Option.some.inj this).symm
    rw [this]; exact ru
theorem eqvs_some : ∀ (xs ys : List PV) (b : Bool), eqvs xs ys = some b → ∀ j, j < xs.length → j < ys.length → ∃ c, eqv (xs.getD j .non) (ys.getD j .non) = some c
  | [], _, _, _, j, h, _ => absurd h (Nat.not_lt_zero _)
  | _ :: _, [], _, _, j, _, h => absurd h (Nat.not_lt_zero _)
  | x :: xs, y :: ys, b, e, j, h1, h2 => by
    rw [eqvs] at e
    cases q : eqv x y with
    | none => rw [q] at e; cases e
    | some c =>
      rw [q] at e
      cases q' : eqvs xs ys with
      | none => rw [q'] at e; cases e
      | some c' =>
        cases j with
        | zero => exact ⟨c, q⟩
        | succ j => exact eqvs_some xs ys c' q' j (Nat.lt_of_succ_lt_succ h1) (Nat.lt_of_succ_lt_succ h2)
theorem eqvd_some : ∀ (d d' : List (K2 × PV)) (b : Bool), eqvd d d' = some b → ∀ k v y, (k, v) ∈ d → look k d' = some y → ∃ c, eqv v y = some c
  | [], _, _, _, _, _, _, h, _ => nomatch h
  | (k', v') :: d, d', b, e, k, v, y, h, hy => by
    rw [eqvd] at e
    cases q0 : look k' d' with
    | none =>
      rw [q0] at e
      dsimp only at e
      cases q' : eqvd d d' with
      | none => rw [q'] at e; cases e
      | some c' =>
        rcases List.mem_cons.mp h with z | h
        · cases z; rw [q0] at hy; cases hy
        · exact eqvd_some d d' c' q' k v y h hy
    | some y' =>
      rw [q0] at e
      dsimp only at e
      cases q : eqv v' y' with
      | none => rw [q] at e; cases e
      | some c =>
        rw [q] at e
        cases q' : eqvd d d' with
        | none => rw [q'] at e; cases e
        | some c' =>
          rcases List.mem_cons.mp h with z | h
          · cases z; rw [q0] at hy; cases hy; exact ⟨c, q⟩
          · exact eqvd_some d d' c' q' k v y h hy
theorem dps_getD {xs : List PV} {j : Nat} : dp (xs.getD j .non) ≤ dp.dps xs := by
  rw [List.getD_eq_getElem?_getD]
  cases e : xs[j]? with
  | none => exact Nat.zero_le _
  | some x => exact dps_get e
theorem all_congr {f g : Nat → Bool} : ∀ {l : List Nat}, (∀ j ∈ l, f j = g j) → l.all f = l.all g
  | [], _ => rfl
  | j :: l, h => by rw [List.all_cons, List.all_cons, h j List.mem_cons_self, all_congr fun i hi => h i (List.mem_cons_of_mem _ hi)]
theorem all_at {T : Tab} {vs ws : List (Key × V)} {va vb : List (Key × Value)} {d d' : List (K2 × PV)} (r1 : KV vs va) (r2 : KV ws vb) (ra : RepD T F θ H vs d) (rb : RepD T F θ H ws d') :
    (va.all fun p => (valueAt vb p.1).isSome && eqk d d' p.1) = d.all fun p => (look p.1 d').isSome && eqk d d' (kK p.1) := by
  have h1 : va.all (fun p => (valueAt vb p.1).isSome && eqk d d' p.1) = (va.map (·.1)).all fun k => (valueAt vb k).isSome && eqk d d' k := by rw [List.all_map]; rfl
  have h2 : (d.all fun p => (look p.1 d').isSome && eqk d d' (kK p.1)) = (d.map fun p => kK p.1).all fun k => (valueAt vb k).isSome && eqk d d' k := by
    rw [List.all_map]
    congr 1
    funext p
    show _ = ((valueAt vb (kK p.1)).isSome && _)
    congr 1
    have rr : RelO (valV ws (kK p.1)) (valueAt vb (kK p.1)) := r2.val (kK p.1)
    rcases rb.look p.1 with ⟨g1, g2⟩ | ⟨x2, p2, g1, g2, _⟩
    · rw [g1] at rr
      rw [g2]
      cases z : valueAt vb (kK p.1) with
      | none => rfl
      | some w => rw [z] at rr; exact rr.elim
    · rw [g1] at rr
      rw [g2]
      cases z : valueAt vb (kK p.1) with
      | none => rw [z] at rr; exact rr.elim
      | some w => rfl
  rw [h1, h2, ← PB.KV.keys r1, ra.keyed]
theorem eqT (I : L2.Inv X pins σ H s) (hK : X.K = A.T.K) : ∀ (n : Nat) (px py : PV) (x y : V) (v u : Value) (b : Bool), BRep A F θ H x px → BRep A F θ H y py → (dp px ≤ n ∨ dp py ≤ n) → eqv px py = some b → RelV x v → RelV y u →
    PySem.W.EqTree X.prog X.w s n v u b := by
  intro n
  induction n with
  | zero =>
    intro px py x y v u b hx hy hd e rx ry
    have hb : both px py = false := by
      cases px <;> cases py <;> first | rfl | (simp [dp] at hd)
    have h1 : hkOk px = true ∧ hkOk py = true := by
      cases px <;> cases py <;> first | exact ⟨rfl, rfl⟩ | (simp [eqv] at e; done) | (simp [both] at hb; done)
    exact eqLeaf (.of I hK hx rx h1.1) (.of I hK hy ry h1.2) hb e
  | succ n ih =>
    intro px py x y v u b hx hy hd e rx ry
    cases hb : both px py with
    | false =>
      have h1 : hkOk px = true ∧ hkOk py = true := by
        cases px <;> cases py <;> first | exact ⟨rfl, rfl⟩ | (simp [eqv] at e; done) | (simp [both] at hb; done)
      exact eqLeaf (.of I hK hx rx h1.1) (.of I hK hy ry h1.2) hb e
    | true =>
      cases px <;> cases py <;> first | (simp [both] at hb; done) | skip
      · rename_i xs ys
        obtain ⟨a, vs, rfl, ha, ra⟩ := hx.tup
        obtain ⟨a', ws, rfl, hb', rb⟩ := hy.tup
        cases (show v = Value.ref a from rx)
        cases (show u = Value.ref a' from ry)
        by_cases q : a = a'
        · subst q
          rw [same_eq I hK _ _ _ b hx hy e]
          exact .same
        · obtain ⟨its, r1, t1⟩ := tup_is I (by rw [hK]; exact ha)
          obtain ⟨its', r2, t2⟩ := tup_is I (by rw [hK]; exact hb')
          rw [eqv] at e
          cases q1 : eqvs xs ys with
          | none => rw [q1] at e; cases e
          | some c =>
            rw [q1] at e
            have key := PySem.W.EqTree.tuples (prog := X.prog) (w := X.w) (n := n) (e := eqj xs ys) q t1 t2 fun j h1 h2 => by
              have h1 : j < its.length := by simpa using h1
              have h2 : j < its'.length := by simpa using h2
              obtain ⟨x1, _, p1, v1, l1⟩ := ra.getD r1 h1
              obtain ⟨x2, _, p2, v2, l2⟩ := rb.getD r2 h2
              obtain ⟨c', hc⟩ := eqvs_some xs ys c q1 j l1 l2
              have : eqj xs ys j = c' := by unfold eqj; rw [hc]; rfl
              rw [this]
              refine ih _ _ x1 x2 _ _ c' (.inl p1) (.inl p2) (hd.imp (fun h => Nat.le_trans dps_getD (Nat.le_of_succ_le_succ h)) (fun h => Nat.le_trans dps_getD (Nat.le_of_succ_le_succ h))) hc (by simpa using v1) (by simpa using v2)
            have e2 : ((List.range (min its.toArray.size its'.toArray.size)).all (eqj xs ys) && its.toArray.size == its'.toArray.size) = b := by
              cases e
              rw [eqvs_all xs ys c q1]
              simp only [List.size_toArray]
              rw [← r1.length, ← r2.length, ra.length, rb.length]
            rw [e2] at key
            exact key
      · rename_i xs ys
        obtain ⟨a, vs, rfl, ha, ra⟩ := hx.lst
        obtain ⟨a', ws, rfl, hb', rb⟩ := hy.lst
        cases (show v = Value.ref a from rx)
        cases (show u = Value.ref a' from ry)
        by_cases q : a = a'
        · subst q
          rw [same_eq I hK _ _ _ b hx hy e]
          exact .same
        · obtain ⟨its, r1, t1⟩ := lst_is I ha
          obtain ⟨its', r2, t2⟩ := lst_is I hb'
          rw [eqv] at e
          by_cases hl : xs.length = ys.length
          · rw [if_pos hl] at e
            have hsz : its.toArray.size = its'.toArray.size := by
              simp only [List.size_toArray]
              rw [← r1.length, ← r2.length, ra.length, rb.length, hl]
            have key := PySem.W.EqTree.lists (prog := X.prog) (w := X.w) (n := n) (e := eqj xs ys) q t1 t2 hsz fun j h1 h2 => by
              have h1 : j < its.length := by simpa using h1
              have h2 : j < its'.length := by simpa using h2
              obtain ⟨x1, _, p1, v1, l1⟩ := ra.getD r1 h1
              obtain ⟨x2, _, p2, v2, l2⟩ := rb.getD r2 h2
              obtain ⟨c', hc⟩ := eqvs_some xs ys b e j l1 l2
              have : eqj xs ys j = c' := by unfold eqj; rw [hc]; rfl
              rw [this]
              refine ih _ _ x1 x2 _ _ c' (.inl p1) (.inl p2) (hd.imp (fun h => Nat.le_trans dps_getD (Nat.le_of_succ_le_succ h)) (fun h => Nat.le_trans dps_getD (Nat.le_of_succ_le_succ h))) hc (by simpa using v1) (by simpa using v2)
            have e2 : (List.range its.toArray.size).all (eqj xs ys) = b := by
              rw [eqvs_all xs ys b e]
              simp only [List.size_toArray]
              rw [← r1.length, ra.length, hl, Nat.min_self]
            rw [e2] at key
            exact key
          · rw [if_neg hl] at e
            cases e
            refine .listsLen q t1 t2 ?_
            simp only [List.size_toArray]
            rw [← r1.length, ← r2.length, ra.length, rb.length]
            simpa using hl
      · rename_i d d'
        obtain ⟨a, vs, rfl, ha, ra⟩ := hx.dic
        obtain ⟨a', ws, rfl, hb', rb⟩ := hy.dic
        cases (show v = Value.ref a from rx)
        cases (show u = Value.ref a' from ry)
        by_cases q : a = a'
        · subst q
          rw [same_eq I hK _ _ _ b hx hy e]
          exact .same
        · rw [eqv] at e
          cases q1 : eqvd d d' with
          | none => rw [q1] at e; cases e
          | some c =>
            rw [q1] at e
            obtain ⟨_, ya, va, r1, da⟩ := ha.ok I.hok
            obtain ⟨_, yb, vb, r2, db⟩ := hb'.ok I.hok
            have nd := nodup_at I ha
            have nd' : (d.map fun p => kK p.1).Nodup := by rw [← ra.keyed]; exact nd
            have key := PySem.W.EqTree.dicts (prog := X.prog) (w := X.w) (n := n) (e := eqk d d') q ya yb da db fun k u1 u2 hm hv => by
              obtain ⟨x1, m1, rv1⟩ := PB.KV.memR r1 hm
              obtain ⟨k', p1, rfl, m2, rp1⟩ := ra.memV m1
              have hd1 := look_mem nd' m2
              have rr : RelO (valV ws (kK k')) (valueAt vb (kK k')) := r2.val (kK k')
              rcases rb.look k' with ⟨g1, _⟩ | ⟨x2, p2, g1, g2, rp2⟩
              · rw [g1, hv] at rr; exact rr.elim
              · rw [g1, hv] at rr
                obtain ⟨c', hc⟩ := eqvd_some d d' c q1 k' p1 p2 m2 g2
                have : eqk d d' (kK k') = c' := by
                  unfold eqk
                  rw [lookK_look, lookK_look, hd1, g2]
                  show (eqv p1 p2).getD false = c'
                  rw [hc]; rfl
                rw [this]
                exact ih _ _ x1 x2 _ _ c' (.inl rp1) (.inl rp2) (hd.imp (fun h => Nat.le_trans (dpd_look hd1) (Nat.le_of_succ_le_succ h)) (fun h => Nat.le_trans (dpd_look g2) (Nat.le_of_succ_le_succ h))) hc rv1 rr
            have e2 : (va.length == vb.length && va.all fun p => (valueAt vb p.1).isSome && eqk d d' p.1) = b := by
              cases e
              rw [eqvd_all d d d' c (fun k v h => look_mem nd' h) q1, ← r1.length, ← r2.length, ra.length, rb.length]
              congr 1
              exact all_at r1 r2 ra rb
            rw [e2] at key
            exact key
end
end PB

end
section
set_option Elab.async false
set_option linter.all false
set_option maxRecDepth 100000
/-! PB6: != of nested things; the comparisons as rules. -/
namespace PB
open PySem L2 PySem.SeqAt
open AutoSeq1 (wpAny_loadPart')
open MeetsSeq MeetsSeq2 MeetsSeq3

section
variable {P : Program} {w : World}
theorem neLoop (p q : Addr) (us ws : Array Value) (m1 m2 : Nat) (d1 d2 : Option Addr) (sl1 sl2 : Array (Option Value)) (sz : us.size = ws.size) (e : Nat → Bool) (k : Nat) :
    ∀ i : Nat, us.size - i = k → MeetsIn P w (Builtin.«list.__eq__.loop» ⟨[.ref p, .ref q, rawInt i, rawInt 3], []⟩)
      (fun A R s => s.heap.get? p = some { cls := .type "list", dict := d1, data := .seq us m1, slots := sl1 } ∧ s.heap.get? q = some { cls := .type "list", dict := d2, data := .seq ws m2, slots := sl2 } ∧
        (∀ j (h1 : j < us.size) (h2 : j < ws.size), EqIn P w A.in1 s us[j] ws[j] (e j)) ∧
        R (.ok (.ret (.bool (!((List.range us.size).drop i).all e)))) s) := by
  induction k with
  | zero =>
    intro i hi A R s hh
    obtain ⟨hp, g, d, tk, os⟩ := s
    obtain ⟨la, lb, he, hh⟩ := hh
    wp_walk using wpAny_loadPart' la, wpAny_loadPart' lb
    have z1 : us[((i : Nat) : Int).toNat]? = none := by simp; omega
    have z2 : ws[((i : Nat) : Int).toNat]? = none := by simp; omega
    have hd : (List.range us.size).drop i = [] := by simp; omega
    rw [hd] at hh
    rw [z1, z2]
    wp_walk using wpAny_loadPart' la, wpAny_loadPart' lb
    show R (.ok (.ret (.bool (us.size != ws.size)))) _
    rw [sz]
    simpa using hh
  | succ k ih =>
    intro i hi A R s hh
    obtain ⟨hp, g, d, tk, os⟩ := s
    obtain ⟨la, lb, he, hh⟩ := hh
    wp_walk using wpAny_loadPart' la, wpAny_loadPart' lb
    have l1 : i < us.size := by omega
    have l2 : i < ws.size := by omega
    have z1 : us[((i : Nat) : Int).toNat]? = some us[i] := by simp [l1]
    have z2 : ws[((i : Nat) : Int).toNat]? = some ws[i] := by simp [l2]
    have hd : (List.range us.size).drop i = i :: (List.range us.size).drop (i + 1) := by simp [List.drop_eq_getElem_cons, l1]
    have cast : ((i : Int) + 1) = ((i + 1 : Nat) : Int) := by push_cast; rfl
    rw [hd, List.all_cons] at hh
    rw [z1, z2]
    refine wpAny_bind (he i l1 l2 _ _ ?_)
    cases ei : e i with
    | true =>
      rw [ei] at hh
      wp_walk
      rw [cast]
      exact ⟨plainId_quiet plain_eq_loop _, codeAny_builtin entry_eq_loop (by
        rw [Around.under_plainId plain_eq_loop _]
        exact ih (i + 1) (by omega) A R _ ⟨la, lb, he, by simpa using hh⟩)⟩
    | false =>
      rw [ei] at hh
      wp_walk using wpAny_loadPart' la, wpAny_loadPart' lb
      rw [z1, z2]
      wp_walk
      simpa using hh
theorem listNe (p q : Addr) (us ws : Array Value) (m1 m2 : Nat) (d1 d2 : Option Addr) (sl1 sl2 : Array (Option Value)) (sz : us.size = ws.size) (e : Nat → Bool) :
    MeetsIn P w (Builtin.«list.__ne__» ⟨[.ref p, .ref q], []⟩)
      (fun A R s => s.heap.get? p = some { cls := .type "list", dict := d1, data := .seq us m1, slots := sl1 } ∧ s.heap.get? q = some { cls := .type "list", dict := d2, data := .seq ws m2, slots := sl2 } ∧
        (∀ j (h1 : j < us.size) (h2 : j < ws.size), EqIn P w A.in1 s us[j] ws[j] (e j)) ∧
        R (.ok (.ret (.bool (!(List.range us.size).all e)))) s) := by
  intro A R s hh
  obtain ⟨hp, g, d, tk, os⟩ := s
  obtain ⟨la, lb, he, hh⟩ := hh
  have f := AutoSeq1.sub_list_list
  have hn : ¬ (us.size != ws.size) = true := by simp [sz]
  wp_walk using wpAny_loadPart' la, wpAny_loadPart' lb
  exact ⟨plainId_quiet plain_eq_loop _, codeAny_builtin entry_eq_loop (by
    rw [Around.under_plainId plain_eq_loop _]
    exact neLoop p q us ws m1 m2 d1 d2 sl1 sl2 sz e _ 0 rfl A R _ ⟨la, lb, he, by simpa using hh⟩)⟩
theorem tupleNe (p q : Addr) (us ws : Array Value) (m1 m2 : Nat) (d1 d2 : Option Addr) (sl1 sl2 : Array (Option Value)) (e : Nat → Bool) :
    MeetsIn P w (Builtin.«tuple.__ne__» ⟨[.ref p, .ref q], []⟩)
      (fun A R s => s.heap.get? p = some { cls := .type "tuple", dict := d1, data := .seq us m1, slots := sl1 } ∧ s.heap.get? q = some { cls := .type "tuple", dict := d2, data := .seq ws m2, slots := sl2 } ∧
        (∀ j (h1 : j < us.size) (h2 : j < ws.size), EqIn P w A.in1 s us[j] ws[j] (e j)) ∧
        R (.ok (.ret (.bool (!((List.range (min us.size ws.size)).all e && us.size == ws.size))))) s) :=
  .of_wp fun A R s hh => by
    obtain ⟨hp, g, d, tk, os⟩ := s
    obtain ⟨la, lb, he, hh⟩ := hh
    have f := AutoSeq1.sub_tuple_tuple
    have lz : (us.toList.zip ws.toList).length = min us.size ws.size := by simp
    wp_walk using wpAny_loadPart' la, wpAny_loadPart' lb, wpAny_forIn_list _ (fun rest b s' => b.1 = none ∧ s' = ⟨hp, g, d, tk, os⟩ ∧ ∃ i, rest = (us.toList.zip ws.toList).drop i ∧
      R (.ok (.ret (.bool (!(((List.range (min us.size ws.size)).drop i).all e && us.size == ws.size))))) ⟨hp, g, d, tk, os⟩) _
    case turn =>
      rintro ⟨y, x⟩ rest b s' ⟨hb', rfl, i, hz, hR⟩
      have hlt : i < (us.toList.zip ws.toList).length := by
        rcases Nat.lt_or_ge i (us.toList.zip ws.toList).length with hq | hq
        · exact hq
        · rw [List.drop_of_length_le hq] at hz; cases hz
      have hm : i < min us.size ws.size := lz ▸ hlt
      have h1 : i < us.size := Nat.lt_of_lt_of_le hm (Nat.min_le_left _ _)
      have h2 : i < ws.size := Nat.lt_of_lt_of_le hm (Nat.min_le_right _ _)
      rw [List.drop_eq_getElem_cons hlt] at hz
      injection hz with hyx hrest
      have hy : y = us[i] := by have := congrArg Prod.fst hyx; simpa using this
      have hx : x = ws[i] := by have := congrArg Prod.snd hyx; simpa using this
      subst hy hx
      have hd : (List.range (min us.size ws.size)).drop i = i :: (List.range (min us.size ws.size)).drop (i + 1) := by simp [List.drop_eq_getElem_cons, hm]
      rw [hd, List.all_cons] at hR
      refine wpAny_bind (he i h1 h2 _ _ ?_)
      cases hy : e i with
      | true =>
        rw [hy] at hR
        wp_walk
        exact ⟨rfl, rfl, i + 1, hrest, by simpa using hR⟩
      | false =>
        rw [hy] at hR
        wp_walk
        exact ⟨_, rfl, by simpa using hR⟩
    case fin =>
      rintro ⟨b1, b2⟩ s' ⟨hb', rfl, i, hz, hR⟩
      simp only at hb'
      subst hb'
      have hge : min us.size ws.size ≤ i := by
        rcases Nat.lt_or_ge i (us.toList.zip ws.toList).length with hq | hq
        · rw [List.drop_eq_getElem_cons hq] at hz; cases hz
        · exact lz ▸ hq
      rw [List.drop_of_length_le (by simpa using hge)] at hR
      wp_walk
      exact ⟨_, rfl, by simpa [Builtin.Tuple.tupleCompareSizes, bne] using hR⟩
    case h =>
      exact ⟨rfl, rfl, 0, rfl, by simpa using hh⟩
end
section
variable {P : Program} {w : World} {A : Around} {s : Shared} {E Q : Value → Shared → Prop} {p q : Addr} {us ws : Array Value} {e : Nat → Bool} {n : Nat}
theorem ne_lists (hl : s.heap.IsList p us) (hb : s.heap.IsList q ws) (sz : us.size = ws.size) (t : ∀ j (h1 : j < us.size) (h2 : j < ws.size), PySem.W.EqTree P w s n us[j] ws[j] (e j)) (hu : A.units + (n + 1) < cLine)
    (hq : Q (.bool (!(List.range us.size).all e)) s) : wpAny (model P w) A (compareOp .NotEq (.ref p) (.ref q)) Q E s := by
  obtain ⟨⟨c1, d1, t1, sl1⟩, o1, e1, n1, z1⟩ := id hl
  obtain ⟨⟨c2, d2, t2, sl2⟩, o2, e2, n2, z2⟩ := id hb
  simp only at e1 z1 e2 z2
  subst e1 z1 e2 z2
  exact wpAny_richCompare_same_room (T := "list") (op := .NotEq) ⟨_, o1, rfl⟩ ⟨_, o2, rfl⟩ F.slot_list_ne (call_meetsIn F.slot_list_ne ⟨_, o1, rfl⟩ F.entry_list_ne (F.args_list_ne_2 _ _) (listNe p q us ws n1 n2 d1 d2 sl1 sl2 sz e)
    ⟨o1, o2, fun j h1 h2 => (t j h1 h2).at A.in1 (by show A.units + 1 + _ < cLine; omega), show Value.bool (!(List.range us.size).all e) ≠ Value.notImplemented ∧ Q (.bool (!(List.range us.size).all e)) s from ⟨(fun x => nomatch x), hq⟩⟩) (by omega)
theorem ne_tuples (hl : s.heap.IsTuple p us) (hb : s.heap.IsTuple q ws) (t : ∀ j (h1 : j < us.size) (h2 : j < ws.size), PySem.W.EqTree P w s n us[j] ws[j] (e j)) (hu : A.units + (n + 1) < cLine)
    (hq : Q (.bool (!((List.range (min us.size ws.size)).all e && us.size == ws.size))) s) : wpAny (model P w) A (compareOp .NotEq (.ref p) (.ref q)) Q E s := by
  obtain ⟨⟨c1, d1, t1, sl1⟩, o1, e1, n1, z1⟩ := id hl
  obtain ⟨⟨c2, d2, t2, sl2⟩, o2, e2, n2, z2⟩ := id hb
  simp only at e1 z1 e2 z2
  subst e1 z1 e2 z2
  exact wpAny_richCompare_same_room (T := "tuple") (op := .NotEq) ⟨_, o1, rfl⟩ ⟨_, o2, rfl⟩ F.slot_tuple_ne (call_meetsIn F.slot_tuple_ne ⟨_, o1, rfl⟩ F.entry_tuple_ne (F.args_tuple_ne_2 _ _) (tupleNe p q us ws n1 n2 d1 d2 sl1 sl2 e)
    ⟨o1, o2, fun j h1 h2 => (t j h1 h2).at A.in1 (by show A.units + 1 + _ < cLine; omega), show Value.bool (!((List.range (min us.size ws.size)).all e && us.size == ws.size)) ≠ Value.notImplemented ∧ Q (.bool (!((List.range (min us.size ws.size)).all e && us.size == ws.size))) s from ⟨(fun x => nomatch x), hq⟩⟩) (by omega)
theorem ne_dicts {K : Type} [DecidableEq K] {knd : KeyKind P w K} {ka kb : List (K × Value)} {e : K → Bool} (ha : (p == sysModules) = false) (hb : (q == sysModules) = false) (da : s.heap.DictOf knd p ka) (db : s.heap.DictOf knd q kb)
    (t : ∀ k v y, (k, v) ∈ ka → valueAt kb k = some y → PySem.W.EqTree P w s n v y (e k)) (hu : A.units + (n + 1) < cLine)
    (hq : Q (.bool (!(ka.length == kb.length && ka.all fun z => (valueAt kb z.1).isSome && e z.1))) s) : wpAny (model P w) A (compareOp .NotEq (.ref p) (.ref q)) Q E s := by
  refine wpAny_richCompare_same_room (op := .NotEq) da.typeIs db.typeIs PySem.F.slot_dict_ne (wpAny_call_entry PySem.F.slot_dict_ne da.typeIs PySem.F.entry_dict_ne ?_ (PySem.F.args_dict_ne_2 _ _)) (by omega)
  show wpAny _ _ (Builtin.Dict.dictSlotArgs "__ne__" ⟨[.ref p, .ref q], []⟩ >>= _) _ _ s
  refine wpAny_bind ?_
  unfold Builtin.Dict.dictSlotArgs
  refine wpAny_bind (wpAny_notOrdered_dict da.typeIs ?_)
  show wpAny _ _ (pure (Value.ref p, Value.ref q)) _ _ s
  refine wpAny_pure ?_
  refine wpAny_bind (wpAny_isInstance (T := "dict") db.typeIs PySem.F.sub_dict_dict ?_)
  simp only [Bool.not_true, Bool.false_eq_true, if_false]
  refine wpAny_bind (wpAny_pure (wpAny_bind (wpAny_pure ?_)))
  refine wpAny_bind (PySem.W.keq_samePairsIn ha hb da db (fun _ => PySem.W.KeqHitsIn.of _ fun k v y hm hv => (t k v y hm hv).at A.in1 (by show A.units + 1 + _ < cLine; omega)) ?_)
  refine wpAny_pure ⟨_, rfl, ?_, ?_⟩
  · exact fun x => nomatch x
  · simpa using hq
end

theorem rcOf {A : Around} {s : Shared} {v u : Value} {b : Bool} (c : Bool) (e : c = b) (h : RcAt A s v u c) : RcAt A s v u b := e ▸ h
theorem rcNeOf {A : Around} {s : Shared} {v u : Value} {b : Bool} (c : Bool) (e : c = b) (h : RcNeAt A s v u (!c)) : RcNeAt A s v u (!b) := e ▸ h
theorem rcLeaf {A : Around} {s : Shared} {px py : PV} {v u : Value} {b : Bool} (hu : A.units < cLine) : HK s v px → HK s u py → both px py = false → eqv px py = some b → RcAt A s v u b
  | .non, .non, _, e => rcOf (true) (by simpa [eqv] using e) (PySem.SeqAt.RcAt.none_none)
  | .non, .bl c2, _, e => rcOf (false) (by simpa [eqv] using e) (PySem.SeqAt.RcAt.none_bool _)
  | .non, .int i2 t2, _, e => rcOf (false) (by simpa [eqv] using e) (PySem.SeqAt.RcAt.none_int _ _)
  | .non, .str z2 t2, _, e => rcOf (false) (by simpa [eqv] using e) (PySem.SeqAt.RcAt.none_str _ _)
  | .non, .lst h2, _, e => rcOf (false) (by simpa [eqv] using e) (PySem.SeqAt.RcAt.none_list h2 hu)
  | .non, .tup h2, _, e => rcOf (false) (by simpa [eqv] using e) (PySem.SeqAt.RcAt.none_tuple h2 hu)
  | .bl c, .non, _, e => rcOf (false) (by simpa [eqv] using e) (PySem.SeqAt.RcAt.bool_none _)
  | .bl c, .bl c2, _, e => rcOf ((c == c2)) (by simpa [eqv] using e) (PySem.SeqAt.RcAt.bool_bool _ _)
  | .bl c, .int i2 t2, _, e => rcOf ((b2i c == i2)) (by simpa [eqv] using e) (PySem.SeqAt.RcAt.bool_int _ _ _)
  | .bl c, .str z2 t2, _, e => rcOf (false) (by simpa [eqv] using e) (PySem.SeqAt.RcAt.bool_str _ _ _)
  | .bl c, .lst h2, _, e => rcOf (false) (by simpa [eqv] using e) (PySem.SeqAt.RcAt.bool_list _ h2 hu)
  | .bl c, .tup h2, _, e => rcOf (false) (by simpa [eqv] using e) (PySem.SeqAt.RcAt.bool_tuple _ h2 hu)
  | .int i t, .non, _, e => rcOf (false) (by simpa [eqv] using e) (PySem.SeqAt.RcAt.int_none _ _)
  | .int i t, .bl c2, _, e => rcOf ((i == b2i c2)) (by simpa [eqv] using e) (PySem.SeqAt.RcAt.int_bool _ _ _)
  | .int i t, .int i2 t2, _, e => rcOf ((i == i2)) (by simpa [eqv] using e) (PySem.SeqAt.RcAt.int_int _ _ _ _)
  | .int i t, .str z2 t2, _, e => rcOf (false) (by simpa [eqv] using e) (PySem.SeqAt.RcAt.int_str _ _ _ _)
  | .int i t, .lst h2, _, e => rcOf (false) (by simpa [eqv] using e) (PySem.SeqAt.RcAt.int_list _ _ h2 hu)
  | .int i t, .tup h2, _, e => rcOf (false) (by simpa [eqv] using e) (PySem.SeqAt.RcAt.int_tuple _ _ h2 hu)
  | .str z t, .non, _, e => rcOf (false) (by simpa [eqv] using e) (PySem.SeqAt.RcAt.str_none _ _)
  | .str z t, .bl c2, _, e => rcOf (false) (by simpa [eqv] using e) (PySem.SeqAt.RcAt.str_bool _ _ _)
  | .str z t, .int i2 t2, _, e => rcOf (false) (by simpa [eqv] using e) (PySem.SeqAt.RcAt.str_int _ _ _ _)
  | .str z t, .str z2 t2, _, e => rcOf ((tS z == tS z2)) (by rw [tS_beq]; simpa [eqv] using e) (PySem.SeqAt.RcAt.str_str _ _ _ _)
  | .str z t, .lst h2, _, e => rcOf (false) (by simpa [eqv] using e) (PySem.SeqAt.RcAt.str_list _ _ h2 hu)
  | .str z t, .tup h2, _, e => rcOf (false) (by simpa [eqv] using e) (PySem.SeqAt.RcAt.str_tuple _ _ h2 hu)
  | .lst h, .non, _, e => rcOf (false) (by simpa [eqv] using e) (PySem.SeqAt.RcAt.list_none h hu)
  | .lst h, .bl c2, _, e => rcOf (false) (by simpa [eqv] using e) (PySem.SeqAt.RcAt.list_bool _ h hu)
  | .lst h, .int i2 t2, _, e => rcOf (false) (by simpa [eqv] using e) (PySem.SeqAt.RcAt.list_int _ _ h hu)
  | .lst h, .str z2 t2, _, e => rcOf (false) (by simpa [eqv] using e) (PySem.SeqAt.RcAt.list_str _ _ h hu)
  | .lst h, .lst h2, hb, e => by simp [both] at hb
  | .lst h, .tup h2, _, e => rcOf (false) (by simpa [eqv] using e) (PySem.SeqAt.RcAt.list_tuple h h2 hu)
  | .tup h, .non, _, e => rcOf (false) (by simpa [eqv] using e) (PySem.SeqAt.RcAt.tuple_none h hu)
  | .tup h, .bl c2, _, e => rcOf (false) (by simpa [eqv] using e) (PySem.SeqAt.RcAt.tuple_bool _ h hu)
  | .tup h, .int i2 t2, _, e => rcOf (false) (by simpa [eqv] using e) (PySem.SeqAt.RcAt.tuple_int _ _ h hu)
  | .tup h, .str z2 t2, _, e => rcOf (false) (by simpa [eqv] using e) (PySem.SeqAt.RcAt.tuple_str _ _ h hu)
  | .tup h, .lst h2, _, e => rcOf (false) (by simpa [eqv] using e) (PySem.SeqAt.RcAt.tuple_list h h2 hu)
  | .tup h, .tup h2, hb, e => by simp [both] at hb
theorem rcNeLeaf {A : Around} {s : Shared} {px py : PV} {v u : Value} {b : Bool} (hu : A.units < cLine) : HK s v px → HK s u py → both px py = false → eqv px py = some b → RcNeAt A s v u (!b)
  | .non, .non, _, e => rcNeOf (true) (by simpa [eqv] using e) (PySem.SeqAt.RcNeAt.none_none)
  | .non, .bl c2, _, e => rcNeOf (false) (by simpa [eqv] using e) (PySem.SeqAt.RcNeAt.none_bool _)
  | .non, .int i2 t2, _, e => rcNeOf (false) (by simpa [eqv] using e) (PySem.SeqAt.RcNeAt.none_int _ _)
  | .non, .str z2 t2, _, e => rcNeOf (false) (by simpa [eqv] using e) (PySem.SeqAt.RcNeAt.none_str _ _)
  | .non, .lst h2, _, e => rcNeOf (false) (by simpa [eqv] using e) (PySem.SeqAt.RcNeAt.none_list h2 hu)
  | .non, .tup h2, _, e => rcNeOf (false) (by simpa [eqv] using e) (PySem.SeqAt.RcNeAt.none_tuple h2 hu)
  | .bl c, .non, _, e => rcNeOf (false) (by simpa [eqv] using e) (PySem.SeqAt.RcNeAt.bool_none _)
  | .bl c, .bl c2, _, e => rcNeOf ((c == c2)) (by simpa [eqv] using e) (PySem.SeqAt.RcNeAt.bool_bool _ _)
  | .bl c, .int i2 t2, _, e => rcNeOf ((b2i c == i2)) (by simpa [eqv] using e) (PySem.SeqAt.RcNeAt.bool_int _ _ _)
  | .bl c, .str z2 t2, _, e => rcNeOf (false) (by simpa [eqv] using e) (PySem.SeqAt.RcNeAt.bool_str _ _ _)
  | .bl c, .lst h2, _, e => rcNeOf (false) (by simpa [eqv] using e) (PySem.SeqAt.RcNeAt.bool_list _ h2 hu)
  | .bl c, .tup h2, _, e => rcNeOf (false) (by simpa [eqv] using e) (PySem.SeqAt.RcNeAt.bool_tuple _ h2 hu)
  | .int i t, .non, _, e => rcNeOf (false) (by simpa [eqv] using e) (PySem.SeqAt.RcNeAt.int_none _ _)
  | .int i t, .bl c2, _, e => rcNeOf ((i == b2i c2)) (by simpa [eqv] using e) (PySem.SeqAt.RcNeAt.int_bool _ _ _)
  | .int i t, .int i2 t2, _, e => rcNeOf ((i == i2)) (by simpa [eqv] using e) (PySem.SeqAt.RcNeAt.int_int _ _ _ _)
  | .int i t, .str z2 t2, _, e => rcNeOf (false) (by simpa [eqv] using e) (PySem.SeqAt.RcNeAt.int_str _ _ _ _)
  | .int i t, .lst h2, _, e => rcNeOf (false) (by simpa [eqv] using e) (PySem.SeqAt.RcNeAt.int_list _ _ h2 hu)
  | .int i t, .tup h2, _, e => rcNeOf (false) (by simpa [eqv] using e) (PySem.SeqAt.RcNeAt.int_tuple _ _ h2 hu)
  | .str z t, .non, _, e => rcNeOf (false) (by simpa [eqv] using e) (PySem.SeqAt.RcNeAt.str_none _ _)
  | .str z t, .bl c2, _, e => rcNeOf (false) (by simpa [eqv] using e) (PySem.SeqAt.RcNeAt.str_bool _ _ _)
  | .str z t, .int i2 t2, _, e => rcNeOf (false) (by simpa [eqv] using e) (PySem.SeqAt.RcNeAt.str_int _ _ _ _)
  | .str z t, .str z2 t2, _, e => rcNeOf ((tS z == tS z2)) (by rw [tS_beq]; simpa [eqv] using e) (PySem.SeqAt.RcNeAt.str_str _ _ _ _)
  | .str z t, .lst h2, _, e => rcNeOf (false) (by simpa [eqv] using e) (PySem.SeqAt.RcNeAt.str_list _ _ h2 hu)
  | .str z t, .tup h2, _, e => rcNeOf (false) (by simpa [eqv] using e) (PySem.SeqAt.RcNeAt.str_tuple _ _ h2 hu)
  | .lst h, .non, _, e => rcNeOf (false) (by simpa [eqv] using e) (PySem.SeqAt.RcNeAt.list_none h hu)
  | .lst h, .bl c2, _, e => rcNeOf (false) (by simpa [eqv] using e) (PySem.SeqAt.RcNeAt.list_bool _ h hu)
  | .lst h, .int i2 t2, _, e => rcNeOf (false) (by simpa [eqv] using e) (PySem.SeqAt.RcNeAt.list_int _ _ h hu)
  | .lst h, .str z2 t2, _, e => rcNeOf (false) (by simpa [eqv] using e) (PySem.SeqAt.RcNeAt.list_str _ _ h hu)
  | .lst h, .lst h2, hb, e => by simp [both] at hb
  | .lst h, .tup h2, _, e => rcNeOf (false) (by simpa [eqv] using e) (PySem.SeqAt.RcNeAt.list_tuple h h2 hu)
  | .tup h, .non, _, e => rcNeOf (false) (by simpa [eqv] using e) (PySem.SeqAt.RcNeAt.tuple_none h hu)
  | .tup h, .bl c2, _, e => rcNeOf (false) (by simpa [eqv] using e) (PySem.SeqAt.RcNeAt.tuple_bool _ h hu)
  | .tup h, .int i2 t2, _, e => rcNeOf (false) (by simpa [eqv] using e) (PySem.SeqAt.RcNeAt.tuple_int _ _ h hu)
  | .tup h, .str z2 t2, _, e => rcNeOf (false) (by simpa [eqv] using e) (PySem.SeqAt.RcNeAt.tuple_str _ _ h hu)
  | .tup h, .lst h2, _, e => rcNeOf (false) (by simpa [eqv] using e) (PySem.SeqAt.RcNeAt.tuple_list h h2 hu)
  | .tup h, .tup h2, hb, e => by simp [both] at hb
section
variable {A : Act} {X : Cx} {fr : Bool}
theorem both_kinds {px py : PV} {b : Bool} (e : eqv px py = some b) (hb : both px py = false) : hkOk px = true ∧ hkOk py = true := by
  cases px <;> cases py <;> first | exact ⟨rfl, rfl⟩ | (simp [eqv] at e; done) | (simp [both] at hb; done)
theorem dp_sub {xs : List PV} {n : Nat} {py : PV} {ys : List PV} (hd : dp.dps xs + 1 ≤ n + 1 ∨ dp.dps ys + 1 ≤ n + 1) (j : Nat) : dp (xs.getD j .non) ≤ n ∨ dp (ys.getD j .non) ≤ n :=
  hd.imp (fun h => Nat.le_trans dps_getD (Nat.le_of_succ_le_succ h)) (fun h => Nat.le_trans dps_getD (Nat.le_of_succ_le_succ h))
/-- the two ways of asking, at once -/
theorem eqne_run {pins : List (Addr × Obj)} {s : Shared} {σ : L2.St} {H : Hp} {F : Addr → Prop} {θ : List Addr} (I : L2.Inv X pins σ H s) (hK : X.K = A.T.K) (hu : X.A.units + 500 < cLine) {px py : PV} {x y : V} {v u : Value} {b : Bool} (hx : BRep A F θ H x px) (hy : BRep A F θ H y py)
    (e : eqOp px py = some b) (rx : RelV x v) (ry : RelV y u) {E Q : Value → Shared → Prop} :
    (Q (.bool b) s → wpAny (model X.prog X.w) X.A (compareOp .Eq v u) Q E s) ∧ (Q (.bool (!b)) s → wpAny (model X.prog X.w) X.A (compareOp .NotEq v u) Q E s) := by
  have hd : dp px ≤ 400 ∨ dp py ≤ 400 := by
    unfold eqOp at e
    split at e
    · assumption
    · cases e
  replace e : eqv px py = some b := by
    unfold eqOp at e
    split at e
    · exact e
    · cases e
  cases hb : both px py with
  | false =>
    obtain ⟨k1, k2⟩ := both_kinds e hb
    have h1 := HK.of I hK hx rx k1
    have h2 := HK.of I hK hy ry k2
    exact ⟨fun q => rcLeaf (by omega) h1 h2 hb e X.prog X.w E Q q, fun q => rcNeLeaf (by omega) h1 h2 hb e X.prog X.w E Q q⟩
  | true =>
    cases px <;> cases py <;> first | (simp [both] at hb; done) | skip
    · rename_i xs ys
      obtain ⟨a, vs, rfl, ha, ra⟩ := hx.tup
      obtain ⟨a', ws, rfl, hb', rb⟩ := hy.tup
      cases (show v = Value.ref a from rx)
      cases (show u = Value.ref a' from ry)
      obtain ⟨its, r1, t1⟩ := tup_is I (by rw [hK]; exact ha)
      obtain ⟨its', r2, t2⟩ := tup_is I (by rw [hK]; exact hb')
      rw [eqv] at e
      cases q1 : eqvs xs ys with
      | none => rw [q1] at e; cases e
      | some c =>
        rw [q1] at e
        have key : ∀ j (h1 : j < its.toArray.size) (h2 : j < its'.toArray.size), PySem.W.EqTree X.prog X.w s 400 its.toArray[j] its'.toArray[j] (eqj xs ys j) := fun j h1 h2 => by
          have h1 : j < its.length := by simpa using h1
          have h2 : j < its'.length := by simpa using h2
          obtain ⟨x1, _, p1, v1, l1⟩ := ra.getD r1 h1
          obtain ⟨x2, _, p2, v2, l2⟩ := rb.getD r2 h2
          obtain ⟨c', hc⟩ := eqvs_some xs ys c q1 j l1 l2
          have : eqj xs ys j = c' := by unfold eqj; rw [hc]; rfl
          rw [this]
          exact eqT I hK 400 _ _ x1 x2 _ _ c' (.inl p1) (.inl p2) (hd.imp (fun h => Nat.le_trans dps_getD (Nat.le_of_succ_le h)) (fun h => Nat.le_trans dps_getD (Nat.le_of_succ_le h))) hc (by simpa using v1) (by simpa using v2)
        have e2 : ((List.range (min its.toArray.size its'.toArray.size)).all (eqj xs ys) && its.toArray.size == its'.toArray.size) = b := by
          cases e
          rw [eqvs_all xs ys c q1]
          simp only [List.size_toArray]
          rw [← r1.length, ← r2.length, ra.length, rb.length]
        exact ⟨fun q => PySem.W.eq_tuplesT t1 t2 key (by omega) (by rw [e2]; exact q), fun q => ne_tuples t1 t2 key (by omega) (by rw [e2]; exact q)⟩
    · rename_i xs ys
      obtain ⟨a, vs, rfl, ha, ra⟩ := hx.lst
      obtain ⟨a', ws, rfl, hb', rb⟩ := hy.lst
      cases (show v = Value.ref a from rx)
      cases (show u = Value.ref a' from ry)
      obtain ⟨its, r1, t1⟩ := lst_is I ha
      obtain ⟨its', r2, t2⟩ := lst_is I hb'
      rw [eqv] at e
      by_cases hl : xs.length = ys.length
      · rw [if_pos hl] at e
        have hsz : its.toArray.size = its'.toArray.size := by
          simp only [List.size_toArray]
          rw [← r1.length, ← r2.length, ra.length, rb.length, hl]
        have key : ∀ j (h1 : j < its.toArray.size) (h2 : j < its'.toArray.size), PySem.W.EqTree X.prog X.w s 400 its.toArray[j] its'.toArray[j] (eqj xs ys j) := fun j h1 h2 => by
          have h1 : j < its.length := by simpa using h1
          have h2 : j < its'.length := by simpa using h2
          obtain ⟨x1, _, p1, v1, l1⟩ := ra.getD r1 h1
          obtain ⟨x2, _, p2, v2, l2⟩ := rb.getD r2 h2
          obtain ⟨c', hc⟩ := eqvs_some xs ys b e j l1 l2
          have : eqj xs ys j = c' := by unfold eqj; rw [hc]; rfl
          rw [this]
          exact eqT I hK 400 _ _ x1 x2 _ _ c' (.inl p1) (.inl p2) (hd.imp (fun h => Nat.le_trans dps_getD (Nat.le_of_succ_le h)) (fun h => Nat.le_trans dps_getD (Nat.le_of_succ_le h))) hc (by simpa using v1) (by simpa using v2)
        have e2 : (List.range its.toArray.size).all (eqj xs ys) = b := by
          rw [eqvs_all xs ys b e]
          simp only [List.size_toArray]
          rw [← r1.length, ra.length, hl, Nat.min_self]
        exact ⟨fun q => PySem.W.eq_listsT t1 t2 hsz key (by omega) (by rw [e2]; exact q), fun q => ne_lists t1 t2 hsz key (by omega) (by rw [e2]; exact q)⟩
      · rw [if_neg hl] at e
        cases e
        have hsz : (its.toArray.size != its'.toArray.size) = true := by
          simp only [List.size_toArray]
          rw [← r1.length, ← r2.length, ra.length, rb.length]
          simpa using hl
        exact ⟨fun q => RcAt.lists_lengths t1 t2 hsz (by omega) X.prog X.w E Q q, fun q => RcNeAt.lists_lengths t1 t2 hsz (by omega) X.prog X.w E Q q⟩
    · rename_i d d'
      obtain ⟨a, vs, rfl, ha, ra⟩ := hx.dic
      obtain ⟨a', ws, rfl, hb', rb⟩ := hy.dic
      cases (show v = Value.ref a from rx)
      cases (show u = Value.ref a' from ry)
      rw [eqv] at e
      cases q1 : eqvd d d' with
      | none => rw [q1] at e; cases e
      | some c =>
        rw [q1] at e
        obtain ⟨_, ya, va, r1, da⟩ := ha.ok I.hok
        obtain ⟨_, yb, vb, r2, db⟩ := hb'.ok I.hok
        have nd := nodup_at I ha
        have nd' : (d.map fun p => kK p.1).Nodup := by rw [← ra.keyed]; exact nd
        have key : ∀ k v y, (k, v) ∈ va → valueAt vb k = some y → PySem.W.EqTree X.prog X.w s 400 v y (eqk d d' k) := fun k u1 u2 hm hv => by
          obtain ⟨x1, m1, rv1⟩ := PB.KV.memR r1 hm
          obtain ⟨k', p1, rfl, m2, rp1⟩ := ra.memV m1
          have hd1 := look_mem nd' m2
          have rr : RelO (valV ws (kK k')) (valueAt vb (kK k')) := r2.val (kK k')
          rcases rb.look k' with ⟨g1, _⟩ | ⟨x2, p2, g1, g2, rp2⟩
          · rw [g1, hv] at rr; exact rr.elim
          · rw [g1, hv] at rr
            obtain ⟨c', hc⟩ := eqvd_some d d' c q1 k' p1 p2 m2 g2
            have : eqk d d' (kK k') = c' := by
              unfold eqk
              rw [lookK_look, lookK_look, hd1, g2]
              show (eqv p1 p2).getD false = c'
              rw [hc]; rfl
            rw [this]
            exact eqT I hK 400 _ _ x1 x2 _ _ c' (.inl rp1) (.inl rp2) (hd.imp (fun h => Nat.le_trans (dpd_look hd1) (Nat.le_of_succ_le h)) (fun h => Nat.le_trans (dpd_look g2) (Nat.le_of_succ_le h))) hc rv1 rr
        have e2 : (va.length == vb.length && va.all fun p => (valueAt vb p.1).isSome && eqk d d' p.1) = b := by
          cases e
          rw [eqvd_all d d d' c (fun k v h => look_mem nd' h) q1, ← r1.length, ← r2.length, ra.length, rb.length]
          congr 1
          exact all_at r1 r2 ra rb
        exact ⟨fun q => PySem.W.eq_dictsT ya yb da db key (by omega) (by rw [e2]; exact q), fun q => ne_dicts ya yb da db key (by omega) (by rw [e2]; exact q)⟩
theorem op_eqP (hK : X.K = A.T.K) (hu : X.A.units + 500 < cLine) : OpR X (compareOp .Eq) (r2 A fr fun _ x y => (eqOp x y).map .bl) := by
  rintro pins s σ H x y v u Q I rx ry ⟨F, θ, σ', ρ, st, px, py, pv, sr, bx, by_, hg, fin⟩
  obtain ⟨b, e, rfl⟩ := Option.map_eq_some_iff.mp hg
  exact (eqne_run I hK hu bx by_ e rx ry).1 ⟨.bl b, H, I, rfl, fin.sc sr (.bl b)⟩
theorem op_neP (hK : X.K = A.T.K) (hu : X.A.units + 500 < cLine) : OpR X (compareOp .NotEq) (r2 A fr fun _ x y => (eqOp x y).map fun b => .bl (!b)) := by
  rintro pins s σ H x y v u Q I rx ry ⟨F, θ, σ', ρ, st, px, py, pv, sr, bx, by_, hg, fin⟩
  obtain ⟨b, e, rfl⟩ := Option.map_eq_some_iff.mp hg
  exact (eqne_run I hK hu bx by_ e rx ry).2 ⟨.bl (!b), H, I, rfl, fin.sc sr (.bl (!b))⟩
end
end PB

end
section
set_option Elab.async false
set_option linter.all false
set_option maxRecDepth 100000
/-! PB7: <, in, is None, a[i], slices. -/
namespace PB
open PySem L2

/-! ### < -/
def toD : PV → PyData
  | .int i => .int i
  | .str t => .str (tS t)
  | .tup xs => .tuple (xs.map toD1)
  | _ => .none
where
  toD1 : PV → PyData
    | .int i => .int i
    | .str t => .str (tS t)
    | _ => .none
theorem toD1_eq {x y : PV} {b : Bool} (h : lt1 x y = some b) : toD.toD1 x = toD x ∧ toD.toD1 y = toD y := by
  cases x <;> cases y <;> first | (simp [lt1] at h; done) | exact ⟨rfl, rfl⟩
theorem lt1_facts {x y : PV} {b : Bool} (h : lt1 x y = some b) : PySem.W.alike (toD x) (toD y) = true ∧ toD x ≠ .none ∧ PySem.W.dataLt (toD x) (toD y) = b ∧ PyData.eqv (toD x) (toD y) = eq1 x y := by
  cases x <;> cases y <;> first | (simp [lt1] at h; done) | skip
  · rename_i i j
    simp only [lt1, Option.some.injEq] at h
    subst h
    refine ⟨by simp [toD, PySem.W.alike], by simp [toD], ?_, ?_⟩
    · show PySem.W.dataLt (.int i) (.int j) = _
      rw [PySem.W.dataLt_int]
    · simp [toD, PyData.eqv, eq1]
      rw [Bool.eq_iff_iff]; simp
  · rename_i a c
    simp only [lt1, Option.some.injEq] at h
    subst h
    refine ⟨by simp [toD, PySem.W.alike], by simp [toD], ?_, ?_⟩
    · show PySem.W.dataLt (.str (tS a)) (.str (tS c)) = _
      rw [PySem.W.dataLt_str]
      rfl
    · have e : PyData.eqv (.str (tS a)) (.str (tS c)) = (tS a == tS c) := by simp [PyData.eqv]
      show PyData.eqv (.str (tS a)) (.str (tS c)) = _
      rw [e, tS_beq]
      simp only [eq1]
      rw [Bool.eq_iff_iff]; simp
theorem lts_facts : ∀ {xs ys : List PV} {b : Bool}, lts xs ys = some b → PySem.W.alikeAll (xs.map toD.toD1) (ys.map toD.toD1) = true ∧ PyProof.Rows.lexLt PyProof.Rows.itemOrd (PySem.W.keyToksAll (xs.map toD.toD1)) (PySem.W.keyToksAll (ys.map toD.toD1)) = b
  | [], [], b, h => by
    simp only [lts, Option.some.injEq] at h
    subst h
    exact ⟨rfl, by simp [PySem.W.keyToksAll, PyProof.Rows.lexLt, PyProof.Rows.itemLt]⟩
  | [], _ :: _, b, h => by simp [lts] at h
  | _ :: _, [], b, h => by simp [lts] at h
  | x :: xs, y :: ys, b, h => by
    rw [lts] at h
    cases q : lt1 x y with
    | none => rw [q] at h; cases h
    | some l =>
      rw [q] at h
      cases q' : lts xs ys with
      | none => rw [q'] at h; cases h
      | some r =>
        rw [q'] at h
        cases h
        obtain ⟨e1, e2⟩ := toD1_eq q
        obtain ⟨a1, a2, a3, a4⟩ := lt1_facts q
        obtain ⟨b1, b2⟩ := lts_facts q'
        rw [List.map_cons, List.map_cons, e1, e2]
        refine ⟨by rw [PySem.W.alikeAll, a1, b1]; rfl, ?_⟩
        cases z : eq1 x y with
        | true =>
          rw [PySem.W.dataLt_all_yes a1 (a4.trans z), b2]
          rfl
        | false =>
          rw [PySem.W.dataLt_all_no a1 (a4.trans z), a3]
          rfl
theorem ltv_facts {x y : PV} {b : Bool} (h : ltv x y = some b) : PySem.W.alike (toD x) (toD y) = true ∧ toD x ≠ .none ∧ PySem.W.dataLt (toD x) (toD y) = b := by
  unfold ltv at h
  split at h
  · rename_i x xs y ys
    obtain ⟨h1, h2⟩ := lts_facts h
    refine ⟨?_, by simp [toD], ?_⟩
    · show PySem.W.alike (.tuple _) (.tuple _) = true
      rw [PySem.W.alike]
      exact h1
    · show PySem.W.dataLt (.tuple _) (.tuple _) = b
      rw [PySem.W.dataLt_tuple]
      exact h2
  · obtain ⟨h1, h2, h3, _⟩ := lt1_facts h
    exact ⟨h1, h2, h3⟩
theorem depth1 (x : PV) : (toD.toD1 x).depth = 0 := by
  cases x <;> simp [toD.toD1, PyData.depth]
theorem depthT (x : PV) : (toD x).depth ≤ 1 := by
  cases x <;> simp [toD, PyData.depth]
  rename_i xs
  induction xs with
  | nil => simp [PyData.depthAll]
  | cons x xs ih => simp [PyData.depthAll, depth1]; exact ih
def plk : PV → Bool
  | .int _ | .str _ => true
  | _ => false
/-- may be laid out as data: numbers, texts, tuples of them -/
def dOk : PV → Bool
  | .int _ | .str _ => true
  | .tup xs => xs.all plk
  | _ => false
theorem lts_dOk : ∀ {xs ys : List PV} {b : Bool}, lts xs ys = some b → xs.all plk = true ∧ ys.all plk = true
  | [], [], b, h => ⟨rfl, rfl⟩
  | [], _ :: _, b, h => by simp [lts] at h
  | _ :: _, [], b, h => by simp [lts] at h
  | x :: xs, y :: ys, b, h => by
    rw [lts] at h
    cases q : lt1 x y with
    | none => rw [q] at h; cases h
    | some l =>
      rw [q] at h
      cases q' : lts xs ys with
      | none => rw [q'] at h; cases h
      | some r =>
        obtain ⟨h1, h2⟩ := lts_dOk q'
        rw [List.all_cons, List.all_cons, h1, h2]
        cases x <;> cases y <;> first | (simp [lt1] at q; done) | exact ⟨rfl, rfl⟩
theorem ltv_dOk {x y : PV} {b : Bool} (h : ltv x y = some b) : dOk x = true ∧ dOk y = true := by
  unfold ltv at h
  split at h
  · exact lts_dOk h
  · cases x <;> cases y <;> first | (simp [lt1] at h; done) | exact ⟨rfl, rfl⟩
section
variable {A : Act} {F : Addr → Prop} {θ : List Addr} {H : Hp}
theorem dp_of {x : V} {px : PV} (h : BRep A F θ H x px) (hd : dOk px = true) : Dp A.T.K H x (toD px) := by
  cases px <;> first | (cases hd; done) | skip
  · obtain rfl := h.int; exact .int _
  · obtain rfl := h.str; exact .str _
  · rename_i xs
    obtain ⟨a, vs, rfl, ha, ra⟩ := h.tup
    refine .tup ha ?_
    have hx : xs.all plk = true := hd
    clear h ha hd
    induction xs generalizing vs with
    | nil => cases ra; exact .nil
    | cons y ys ih =>
      cases ra with
      | cons r t =>
        rw [List.all_cons, Bool.and_eq_true] at hx
        refine .cons ?_ (ih _ t hx.2)
        cases y <;> first | (cases r; exact .int _) | (cases r; exact .str _) | (exact absurd hx.1 (by simp [plk]))
end
section
variable {A : Act} {X : Cx} {fr : Bool}
theorem cmp_run {pins : List (Addr × Obj)} {s : Shared} {σ : L2.St} {H : Hp} {F : Addr → Prop} {θ : List Addr} (I : L2.Inv X pins σ H s) (hK : X.K = A.T.K) (hu : X.A.units + 500 < cLine) {px py : PV} {x y : V} {v u : Value} {b : Bool} (hx : BRep A F θ H x px) (hy : BRep A F θ H y py)
    (e : ltv px py = some b) (rx : RelV x v) (ry : RelV y u) {E Q : Value → Shared → Prop} :
    (Q (.bool b) s → wpAny (model X.prog X.w) X.A (compareOp .Lt v u) Q E s) ∧ (Q (.bool b) s → wpAny (model X.prog X.w) X.A (compareOp .Gt u v) Q E s) ∧
    (Q (.bool (!b)) s → wpAny (model X.prog X.w) X.A (compareOp .LtE u v) Q E s) ∧ (Q (.bool (!b)) s → wpAny (model X.prog X.w) X.A (compareOp .GtE v u) Q E s) := by
  obtain ⟨k1, k2⟩ := ltv_dOk e
  obtain ⟨al, nn, eb⟩ := ltv_facts e
  have d1 := dp_of hx k1
  have d2 := dp_of hy k2
  rw [← hK] at d1 d2
  obtain ⟨as, r1⟩ := Dp.reads I _ _ _ d1 rx
  obtain ⟨bs, r2⟩ := Dp.reads I _ _ _ d2 ry
  have l1 := depthT px
  have l2 := depthT py
  have al' : PySem.W.alike (toD py) (toD px) = true := by
    first | exact (PySem.W.alike_comm _ _).symm.trans al | exact PySem.W.alike_symm al | exact PySem.W.alike_symm _ _ al
  have nn' : toD py ≠ .none := by
    intro z
    rw [z] at al
    revert al nn
    cases toD px <;> simp [PySem.W.alike]
  subst eb
  exact ⟨fun q => PySem.W.lt_data r1 r2 al nn (by omega) q, fun q => PySem.W.gt_data r2 r1 al' nn' (by omega) q, fun q => PySem.W.le_data r2 r1 al' nn' (by omega) q, fun q => PySem.W.ge_data r1 r2 al nn (by omega) q⟩
theorem op_ltP (hK : X.K = A.T.K) (hu : X.A.units + 500 < cLine) : OpR X (compareOp .Lt) (r2 A fr fun _ x y => (ltv x y).map .bl) := by
  rintro pins s σ H x y v u Q I rx ry ⟨F, θ, σ', ρ, st, px, py, pv, sr, bx, by_, hg, fin⟩
  obtain ⟨b, e, rfl⟩ := Option.map_eq_some_iff.mp hg
  exact (cmp_run I hK hu bx by_ e rx ry).1 ⟨.bl b, H, I, rfl, fin.sc sr (.bl b)⟩
theorem op_gtP (hK : X.K = A.T.K) (hu : X.A.units + 500 < cLine) : OpR X (compareOp .Gt) (r2 A fr fun _ x y => (ltv y x).map .bl) := by
  rintro pins s σ H x y v u Q I rx ry ⟨F, θ, σ', ρ, st, px, py, pv, sr, bx, by_, hg, fin⟩
  obtain ⟨b, e, rfl⟩ := Option.map_eq_some_iff.mp hg
  exact (cmp_run I hK hu by_ bx e ry rx).2.1 ⟨.bl b, H, I, rfl, fin.sc sr (.bl b)⟩
theorem op_leP (hK : X.K = A.T.K) (hu : X.A.units + 500 < cLine) : OpR X (compareOp .LtE) (r2 A fr fun _ x y => (ltv y x).map fun b => .bl (!b)) := by
  rintro pins s σ H x y v u Q I rx ry ⟨F, θ, σ', ρ, st, px, py, pv, sr, bx, by_, hg, fin⟩
  obtain ⟨b, e, rfl⟩ := Option.map_eq_some_iff.mp hg
  exact (cmp_run I hK hu by_ bx e ry rx).2.2.1 ⟨.bl (!b), H, I, rfl, fin.sc sr (.bl (!b))⟩
theorem op_geP (hK : X.K = A.T.K) (hu : X.A.units + 500 < cLine) : OpR X (compareOp .GtE) (r2 A fr fun _ x y => (ltv x y).map fun b => .bl (!b)) := by
  rintro pins s σ H x y v u Q I rx ry ⟨F, θ, σ', ρ, st, px, py, pv, sr, bx, by_, hg, fin⟩
  obtain ⟨b, e, rfl⟩ := Option.map_eq_some_iff.mp hg
  exact (cmp_run I hK hu bx by_ e rx ry).2.2.2 ⟨.bl (!b), H, I, rfl, fin.sc sr (.bl (!b))⟩
end
end PB

end
section
set_option Elab.async false
set_option linter.all false
set_option maxRecDepth 100000
set_option exponentiation.threshold 10000
/-! PB8: in, is None, a[i], slices. -/
namespace PB
open PySem L2 PySem.Calls PyProof.Rows

section
variable {A : Act} {F : Addr → Prop} {θ : List Addr} {H : Hp}
theorem scal_rep {x : V} {px : PV} (h : Rep A.T F θ H x px) (hs : scal px = true) : flatV x = true := by
  cases px <;> first | (cases hs; done) | (cases h; rfl)
theorem eqV_rep {x y : V} {px py : PV} (h : Rep A.T F θ H x px) (g : Rep A.T F θ H y py) (hs : scal px = true) (gs : scal py = true) : eqV x y = (eqv px py == some true) := by
  cases px <;> first | (cases hs; done) | skip
  all_goals
    cases h
    cases py <;> first | (cases gs; done) | skip
    all_goals
      cases g
      first
      | rfl
      | (simp only [eqV, eqv, b2i]; rw [Bool.eq_iff_iff]; simp; done)
      | (simp only [eqV, eqv]; rw [tS_beq, Bool.eq_iff_iff]; simp; done)
      | (simp only [eqV, eqv]; rw [Bool.eq_iff_iff]; simp; exact ⟨tS_inj, fun z => by rw [z]⟩)
theorem inV_rep {x : V} {px : PV} (h : Rep A.T F θ H x px) (hs : scal px = true) : ∀ {vs : List V} {ys : List PV}, Reps A.T F θ H vs ys → ys.all scal = true → vs.all flatV = true ∧ inV x vs = ys.any fun y => eqv y px == some true
  | _, _, .nil, _ => ⟨rfl, rfl⟩
  | _, _, .cons (v := v) (x := y) (vs := vs) (xs := ys) r t, hy => by
    rw [List.all_cons, Bool.and_eq_true] at hy
    obtain ⟨h1, h2⟩ := inV_rep h hs t hy.2
    refine ⟨by rw [List.all_cons, scal_rep r hy.1, h1]; rfl, ?_⟩
    show (eqV v x || inV x vs) = _
    rw [List.any_cons, h2, eqV_rep r h hy.1 hs]
theorem keyOf_rep {y : V} {py : PV} {k : K2} (h : BRep A F θ H y py) (e : keyOf py = some k) : y = kV (kK k) := by
  unfold keyOf at e
  split at e
  · cases e; exact h.int
  · cases e; exact h.str
  · cases e
theorem dget_of {a : Addr} {vs : List (Key × V)} {d : List (K2 × PV)} {k : K2} (h : Rd H a (.dK vs)) (r : RepD A.T F θ H vs d) :
    (DGet H a (kV (kK k)) none ∧ look k d = none) ∨ ∃ v x, DGet H a (kV (kK k)) (some v) ∧ look k d = some x ∧ Rep A.T F θ H v x := by
  rcases r.look k with ⟨e1, e2⟩ | ⟨v, x, e1, e2, e3⟩
  · exact .inl ⟨.inl ⟨vs, kK k, h, rfl, e1.symm⟩, e2⟩
  · exact .inr ⟨v, x, .inl ⟨vs, kK k, h, rfl, e1.symm⟩, e2, e3⟩
end
section
variable {A : Act} {X : Cx} {fr : Bool}
theorem in_run {pins : List (Addr × Obj)} {s : Shared} {σ σ' : L2.St} {H : Hp} {F : Addr → Prop} {θ : List Addr} {ρ : REnv} {st : Sto} (I : L2.Inv X pins σ H s) (hK : X.K = A.T.K) (hu : X.A.units + 500 < cLine) {px py pv : PV} {x y : V} {v u : Value}
    (sr : SR A F θ H σ' ρ st) (hx : BRep A F θ H x px) (hy : BRep A F θ H y py) (e : inOp px (de st py) = some pv) (rx : RelV x v) (ry : RelV y u) : ∃ b, pv = .bl b ∧ ∀ Q : VK,
    (Q (.bl b) H → wpAny (model X.prog X.w) X.A (compareOp .In v u) (EP X pins σ Q) X.xe s) ∧ (Q (.bl (!b)) H → wpAny (model X.prog X.w) X.A (compareOp .NotIn v u) (EP X pins σ Q) X.xe s) := by
  have hy' : BRep A F θ H y (de st py) := hy.de sr (by
    by_cases z : de st py = .non
    · rw [z] at e; cases e
    · exact .inl z)
  revert hy' e
  generalize de st py = w
  intro e hy'
  have seq : ∀ ys : List PV, (inL px ys).map PV.bl = some pv → ∀ p (vs : List V), y = .ref p → (SqL X.K H p vs ∨ SqT X.K H p vs) → Reps A.T F θ H vs ys → ∃ b, pv = .bl b ∧ ∀ Q : VK,
    (Q (.bl b) H → wpAny (model X.prog X.w) X.A (compareOp .In v u) (EP X pins σ Q) X.xe s) ∧ (Q (.bl (!b)) H → wpAny (model X.prog X.w) X.A (compareOp .NotIn v u) (EP X pins σ Q) X.xe s) := by
    intro ys e p vs ey hq r
    obtain ⟨b, eb, rfl⟩ := Option.map_eq_some_iff.mp e
    unfold inL at eb
    split at eb
    · rename_i hc
      cases eb
      rw [Bool.and_eq_true] at hc
      rcases hx with hx | ⟨_, _, hx⟩
      · obtain ⟨h1, h2⟩ := inV_rep hx hc.1 r hc.2
        refine ⟨_, rfl, fun Q => ⟨fun q => ?_, fun q => ?_⟩⟩
        · exact op_in_seq pins s σ H x y v u Q I rx ry ⟨p, vs, ey, hq, scal_rep hx hc.1, h1, by rw [if_neg (by simp), h2]; exact q⟩
        · exact op_notIn_seq pins s σ H x y v u Q I rx ry ⟨p, vs, ey, hq, scal_rep hx hc.1, h1, by rw [if_pos rfl, h2]; exact q⟩
      · cases px <;> first | exact hx.elim | (cases hc.1; done)
    · cases eb
  unfold inOp at e
  split at e
  · rename_i ys
    obtain ⟨p, vs, ey, hp, r⟩ := hy'.lst
    exact seq ys e p vs ey (.inl (.inl (.inl hp))) r
  · rename_i ys
    obtain ⟨p, vs, ey, hp, r⟩ := hy'.tup
    exact seq ys e p vs ey (.inr (by rw [hK]; exact hp)) r
  · rename_i d
    obtain ⟨k, ek, rfl⟩ := Option.map_eq_some_iff.mp e
    obtain ⟨p, vs, rfl, hp, r⟩ := hy'.dic
    obtain rfl : u = Value.ref p := ry
    have hxe := keyOf_rep hx ek
    subst hxe
    rcases dget_of (A := A) (k := k) hp r with ⟨g, e2⟩ | ⟨w', x', g, e2, _⟩
    · rw [e2]
      exact ⟨_, rfl, fun Q => ⟨fun q => d_in (by omega) I g rx fun s3 I3 => ⟨.bl _, H, I3, rfl, q⟩, fun q => d_notIn (by omega) I g rx fun s3 I3 => ⟨.bl _, H, I3, rfl, q⟩⟩⟩
    · rw [e2]
      exact ⟨_, rfl, fun Q => ⟨fun q => d_in (by omega) I g rx fun s3 I3 => ⟨.bl _, H, I3, rfl, q⟩, fun q => d_notIn (by omega) I g rx fun s3 I3 => ⟨.bl _, H, I3, rfl, q⟩⟩⟩
  · split at e
    · rename_i t _ c
      cases e
      obtain rfl := hy'.str
      obtain rfl := hx.str
      exact ⟨_, rfl, fun Q => ⟨fun q => op_in_sign pins s σ H _ _ v u Q I rx ry ⟨c, tS t, rfl, rfl, q⟩, fun q => op_notIn_sign pins s σ H _ _ v u Q I rx ry ⟨c, tS t, rfl, rfl, q⟩⟩⟩
    · cases e
  · cases e
theorem op_inP (hK : X.K = A.T.K) (hu : X.A.units + 500 < cLine) : OpR X (compareOp .In) (r2 A fr fun st x y => inOp x (de st y)) := by
  rintro pins s σ H x y v u Q I rx ry ⟨F, θ, σ', ρ, st, px, py, pv, sr, bx, by_, hg, fin⟩
  obtain ⟨b, rfl, h⟩ := in_run I hK hu sr bx by_ hg rx ry
  exact (h Q).1 (fin.sc sr (.bl b))
theorem op_notInP (hK : X.K = A.T.K) (hu : X.A.units + 500 < cLine) : OpR X (compareOp .NotIn) (r2 A fr fun st x y => notOp (inOp x (de st y))) := by
  rintro pins s σ H x y v u Q I rx ry ⟨F, θ, σ', ρ, st, px, py, pv, sr, bx, by_, hg, fin⟩
  have hg : notOp (inOp px (de st py)) = some pv := hg
  cases q : inOp px (de st py) with
  | none => rw [q] at hg; cases hg
  | some w =>
    obtain ⟨b, rfl, h⟩ := in_run I hK hu sr bx by_ q rx ry
    rw [q] at hg
    cases hg
    exact (h Q).2 (fin.sc sr (.bl (!b)))
/-- is None -/
theorem non_iff {F : Addr → Prop} {θ : List Addr} {H : Hp} {x : V} {px : PV} (h : BRep A F θ H x px) : decide (x = .non) = isNonB px := by
  cases px <;> first | (obtain rfl := h.non; rfl) | skip
  all_goals
    refine decide_eq_false fun e => ?_
    subst e
    rcases h with h | ⟨_, e, _⟩
    · cases h
    · cases e
/-- a one-place reading -/
def r1 (A : Act) (fr : Bool) (g : Sto → PV → Option PV) : V → Hp → VK → Prop := fun x H Q => ∃ F θ σ ρ st px pv, SR A F θ H σ ρ st ∧ BRep A F θ H x px ∧ g st px = some pv ∧ Fin A fr F θ H σ ρ st pv Q
theorem un_negP : UnR X (unaryOp .USub) (r1 A fr fun _ x => negOp x) := by
  rintro pins s σ H x v Q I rx ⟨F, θ, σ', ρ, st, px, pv, sr, bx, hg, fin⟩
  replace hg : negOp px = some pv := hg
  unfold negOp at hg
  split at hg
  · cases hg
    obtain rfl := bx.int
    exact un_neg pins s σ H _ v Q I rx ⟨_, rfl, fin.sc sr (.int _)⟩
  · cases hg
theorem op_fdivP : OpR X (binaryOp .FloorDiv) (r2 A fr fun _ x y => fdivOp x y) := by
  rintro pins s σ H x y v u Q I rx ry ⟨F, θ, σ', ρ, st, px, py, pv, sr, bx, by_, hg, fin⟩
  replace hg : fdivOp px py = some pv := hg
  unfold fdivOp at hg
  split at hg
  · split at hg
    · rename_i hb
      cases hg
      obtain rfl := bx.int
      obtain rfl := by_.int
      exact op_fdivW pins s σ H _ _ v u Q I rx ry ⟨_, _, rfl, rfl, wide_div (b := 9000) hb.1 hb.2 (by decide) (by decide), fin.sc sr (.int _)⟩
    · cases hg
  · cases hg
theorem op_modP : OpR X (binaryOp .Mod) (r2 A fr fun _ x y => modOp x y) := by
  rintro pins s σ H x y v u Q I rx ry ⟨F, θ, σ', ρ, st, px, py, pv, sr, bx, by_, hg, fin⟩
  replace hg : modOp px py = some pv := hg
  unfold modOp at hg
  split at hg
  · split at hg
    · rename_i hb
      cases hg
      obtain rfl := bx.int
      obtain rfl := by_.int
      exact op_mod pins s σ H _ _ v u Q I rx ry ⟨_, _, rfl, rfl, hb, fin.sc sr (.int _)⟩
    · cases hg
  · cases hg
theorem op_powP : OpR X (binaryOp .Pow) (r2 A fr fun _ x y => powOp x y) := by
  rintro pins s σ H x y v u Q I rx ry ⟨F, θ, σ', ρ, st, px, py, pv, sr, bx, by_, hg, fin⟩
  replace hg : powOp px py = some pv := hg
  unfold powOp at hg
  split at hg
  · split at hg
    · rename_i hb
      cases hg
      obtain rfl := bx.int
      obtain rfl := by_.int
      exact op_pow pins s σ H _ _ v u Q I rx ry ⟨_, _, rfl, rfl, ⟨hb.1, by omega, hb.2.2⟩, fin.sc sr (.int _)⟩
    · cases hg
  · cases hg

/-! ### a[i] -/
/-- what is told is frozen -/
def FinR (A : Act) (F : Addr → Prop) (θ : List Addr) (H : Hp) (σ : L2.St) (ρ : REnv) (st : Sto) (pv : PV) (Q : VK) : Prop :=
  ∀ v, Rep A.T F θ H v pv → Q v H
def rIx (A : Act) : R2 := fun x y H Q => ∃ F θ σ ρ st px py pv, SR A F θ H σ ρ st ∧ BRep A F θ H x px ∧ BRep A F θ H y py ∧ ixOp (de st px) py = some pv ∧ FinR A F θ H σ ρ st pv Q
theorem reps_at {T : Tab} {F : Addr → Prop} {θ : List Addr} {H : Hp} {vs : List V} {xs : List PV} {i : Int} {pv : PV} (r : Reps T F θ H vs xs) (e : (pIx xs.length i).bind (xs[·]?) = some pv) : ∃ v, atI vs i = some v ∧ Rep T F θ H v pv := by
  obtain ⟨k, e1, e2⟩ := Option.bind_eq_some_iff.mp e
  obtain ⟨v, h1, h2⟩ := r.get' e2
  refine ⟨v, ?_, h2⟩
  unfold atI
  rw [r.length]
  exact Option.bind_eq_some_iff.mpr ⟨k, e1, h1⟩
theorem ix_dic (hu : X.A.units + 500 < cLine) {value slice : Expr} {pins : List (Addr × Obj)} {s : Shared} {σ : L2.St} {H : Hp} {a : Addr} {y w : V} {u : Value} {Q : VK} (I : L2.Inv X pins σ H s) (ry : RelV y u) (g : DGet H a y (some w)) (q : Q w H)
    (hs : subscripted slice false (.ref a) u = operate [.ref a, u] (getItem (.ref a) u)) : wpAny (model X.prog X.w) X.A (subscriptTail value slice (.ref a) u) (EP X pins σ Q) X.xe s := by
  have tI := dict_typeIs I g
  have it : wpAny (model X.prog X.w) X.A (getItem (.ref a) u) (EP X pins σ Q) X.xe s := d_getItem (by omega) I g ry fun w' s3 I3 rw' => ⟨w, H, I3, rw', q⟩
  have fin : wpAny (model X.prog X.w) X.A (subscripted slice false (.ref a) u) (fun r s₃ => wpAny (model X.prog X.w) X.A (letTemporaryGo value (.ref a) r >>= fun _ => pure r) (EP X pins σ Q) X.xe s₃) X.xe s := by
    rw [hs]
    refine wpAny_operating (thn it fun r s3 h3 => ?_)
    exact wpAny_bind (wpAny_letTemporaryGo (wpAny_pure h3))
  unfold subscriptTail
  refine wpAny_bind ?_
  rw [getitemInPython_of_ne tI.not_modules]
  refine wpAny_bind (wpAny_specialOf tI PySem.F.slot_dict_getitem.lookup ?_)
  first
    | exact wpAny_pure (wpAny_bind fin)
    | exact wpAny_bind (wpAny_pure (wpAny_bind fin))
    | exact wpAny_bind fin
theorem ix_P (hK : X.K = A.T.K) (hu : X.A.units + 500 < cLine) : IxR X (rIx A) := by
  rintro value slice pins s σ H x y v u Q I rx ry ⟨F, θ, σ', ρ, st, px, py, pv, sr, bx, by_, hg, fin⟩ hs
  have bx' : BRep A F θ H x (de st px) := bx.de sr (by
    by_cases z : de st px = .non
    · rw [z] at hg; cases hg
    · exact .inl z)
  revert hg bx'
  generalize de st px = w
  intro hg bx'
  unfold ixOp at hg
  split at hg
  · split at hg
    · obtain rfl := by_.int
      obtain ⟨a, vs, rfl, ha, ra⟩ := bx'.lst
      obtain ⟨z, h1, h2⟩ := reps_at ra hg
      exact ix_list value slice pins s σ H _ _ v u Q I rx ry ⟨a, vs, _, z, rfl, rfl, .inl (.inl ha), h1, fin z h2⟩ hs
    · cases hg
  · split at hg
    · obtain rfl := by_.int
      obtain ⟨a, rfl, ha⟩ := bx'.scr
      obtain ⟨k, e1, e2⟩ := Option.bind_eq_some_iff.mp hg
      obtain ⟨n, e2', rfl⟩ := Option.map_eq_some_iff.mp e2
      refine ix_list value slice pins s σ H _ _ v u Q I rx ry ⟨a, _, _, .int n, rfl, rfl, by rw [hK]; exact ha, ?_, fin _ (.int n)⟩ hs
      unfold atI
      rw [List.length_map]
      exact Option.bind_eq_some_iff.mpr ⟨k, e1, by rw [List.getElem?_map, e2']; rfl⟩
    · cases hg
  · split at hg
    · obtain rfl := by_.int
      obtain ⟨a, vs, rfl, ha, ra⟩ := bx'.tup
      obtain ⟨z, h1, h2⟩ := reps_at ra hg
      exact ix_tup value slice pins s σ H _ _ v u Q I rx ry ⟨a, vs, _, z, rfl, rfl, by rw [hK]; exact ha, h1, fin z h2⟩ hs
    · cases hg
  · split at hg
    · split at hg
      · rename_i t _ i hl
        obtain rfl := by_.int
        obtain rfl := bx'.str
        obtain ⟨k, e1, e2⟩ := Option.bind_eq_some_iff.mp hg
        obtain ⟨c, e3, rfl⟩ := Option.map_eq_some_iff.mp e2
        refine ix_str value slice pins s σ H _ _ v u Q I rx ry ⟨tS t, i, c, rfl, rfl, by rw [tS_len, lim_eq]; exact hl, ?_, fin _ (.str [c])⟩ hs
        unfold atI
        exact Option.bind_eq_some_iff.mpr ⟨k, e1, e3⟩
      · cases hg
    · cases hg
  · obtain ⟨k, e1, e2⟩ := Option.bind_eq_some_iff.mp hg
    obtain ⟨a, vs, rfl, ha, ra⟩ := bx'.dic
    obtain rfl : v = Value.ref a := rx
    obtain rfl := keyOf_rep by_ e1
    rcases dget_of (A := A) (k := k) ha ra with ⟨_, e3⟩ | ⟨w', x', g, e3, r⟩
    · rw [e3] at e2; cases e2
    · rw [e3] at e2
      cases e2
      exact ix_dic hu I ry g (fin w' r) hs
  · cases hg

/-! ### slices -/
def rSl (A : Act) (fr : Bool) : V → Option Int → Option Int → Hp → VK → Prop := fun x lo hi H Q => ∃ F θ σ ρ st px pv, SR A F θ H σ ρ st ∧ BRep A F θ H x px ∧ slc lo hi (de st px) = some pv ∧ Fin A fr F θ H σ ρ st pv Q
theorem cutV_rep {T : Tab} {F : Addr → Prop} {θ : List Addr} {H : Hp} {vs : List V} {xs : List PV} (r : Reps T F θ H vs xs) (lo hi : Option Int) : Reps T F θ H (cutV vs lo hi) (cutL xs lo hi) := by
  unfold cutV cutL
  rw [r.length]
  exact (r.drop _).take _
theorem sl_P (hK : X.K = A.T.K) : SlR X (rSl A fr) := by
  rintro pins s σ H x v vl vu lo hi sl Q I rx hs pl pu ⟨F, θ, σ', ρ, st, px, pv, sr, bx, hg, fin⟩
  have bx' : BRep A F θ H x (de st px) := bx.de sr (by
    by_cases z : de st px = .non
    · rw [z] at hg; cases hg
    · exact .inl z)
  revert hg bx'
  generalize de st px = w
  intro hg bx'
  unfold slc at hg
  split at hg
  · cases hg
    obtain ⟨a, vs, rfl, ha, ra⟩ := bx'.lst
    exact sl_list pins s σ H _ v vl vu lo hi sl Q I rx hs pl pu ⟨a, vs, rfl, .inl (.inl ha), fun p n => fin.new sr n ⟨_, upd_same, (cutV_rep ra lo hi).ext (.upd (sr.newF n))⟩⟩
  · cases hg
    rename_i ns
    obtain ⟨a, rfl, ha⟩ := bx'.scr
    refine sl_list pins s σ H _ v vl vu lo hi sl Q I rx hs pl pu ⟨a, _, rfl, by rw [hK]; exact ha, fun p n => fin.new sr n ⟨_, upd_same, ?_⟩⟩
    have : ∀ l : List Int, Reps A.T F θ (upd H p (.lst (cutV (ns.map V.int) lo hi))) (l.map V.int) (l.map PV.int) := fun l => by
      induction l with
      | nil => exact .nil
      | cons i l ih => exact .cons (.int i) ih
    have e : cutV (ns.map V.int) lo hi = (cutL ns lo hi).map V.int := by
      unfold cutV cutL
      rw [List.map_take, List.map_drop, List.length_map]
    rw [e] at this ⊢
    exact this _
  · cases hg
    obtain ⟨a, vs, rfl, ha, ra⟩ := bx'.tup
    refine sl_tupA pins s σ H _ v vl vu lo hi sl Q I rx hs pl pu ⟨a, vs, rfl, by rw [hK]; exact ha, fun hw => ?_, fun hw p n => fin.tup sr n (cutV_rep ra lo hi)⟩
    rename_i xs
    have e : cutL xs lo hi = xs := by
      unfold cutL
      rw [← ra.length, hw.1, hw.2, ra.length]
      simp
    rw [e] at fin
    rcases bx' with r | ⟨_, _, r⟩
    · exact fin.sc sr r
    · exact r.elim
  · split at hg
    · cases hg
      rename_i t hl
      obtain rfl := bx'.str
      refine sl_str pins s σ H _ v vl vu lo hi sl Q I rx hs pl pu ⟨tS t, rfl, by rw [tS_len, lim_eq]; exact hl, ?_⟩
      have e : cutS (tS t) lo hi = tS (cutL t lo hi) := by
        unfold cutS cutL
        rw [tS_len]
        rfl
      rw [e]
      exact fin.sc sr (.str _)
    · cases hg
  · cases hg
end
end PB

end
section
set_option Elab.async false
set_option linter.all false
set_option maxRecDepth 100000
set_option exponentiation.threshold 10000
/-! PB9: built-in calls. -/
namespace PB
open PySem L2 PySem.Calls PyProof.Rows

section
variable (A : Act) (F : Addr → Prop) (θ : List Addr) (H : Hp)
def BReps : List V → List PV → Prop
  | [], [] => True
  | v :: vs, p :: ps => BRep A F θ H v p ∧ BReps vs ps
  | _, _ => False
end
section
variable {A : Act} {F F' : Addr → Prop} {θ θ' : List Addr} {H H' : Hp}
theorem BReps.b1 {xs : List V} {p : PV} (h : BReps A F θ H xs [p]) : ∃ x, xs = [x] ∧ BRep A F θ H x p := by
  cases xs with
  | nil => exact h.elim
  | cons x xs =>
    cases xs with
    | nil => exact ⟨x, rfl, h.1⟩
    | cons y ys => exact h.2.elim
theorem BReps.b2 {xs : List V} {p q : PV} (h : BReps A F θ H xs [p, q]) : ∃ x y, xs = [x, y] ∧ BRep A F θ H x p ∧ BRep A F θ H y q := by
  cases xs with
  | nil => exact h.elim
  | cons x xs =>
    obtain ⟨y, rfl, hy⟩ := BReps.b1 (xs := xs) h.2
    exact ⟨x, y, rfl, h.1, hy⟩
theorem BReps.b3 {xs : List V} {p q r : PV} (h : BReps A F θ H xs [p, q, r]) : ∃ x y z, xs = [x, y, z] ∧ BRep A F θ H x p ∧ BRep A F θ H y q ∧ BRep A F θ H z r := by
  cases xs with
  | nil => exact h.elim
  | cons x xs =>
    obtain ⟨y, z, rfl, hy, hz⟩ := BReps.b2 (xs := xs) h.2
    exact ⟨x, y, z, rfl, h.1, hy, hz⟩
theorem BReps.b0 {xs : List V} (h : BReps A F θ H xs []) : xs = [] := by
  cases xs with
  | nil => rfl
  | cons x xs => exact h.elim
end

/-- a reading of a call whose answer is g's -/
def rN (A : Act) (fr : Bool) (g : Sto → List PV → Option PV) : List V → Hp → VK → Prop := fun xs H Q => ∃ F θ σ ρ st ps pv, SR A F θ H σ ρ st ∧ BReps A F θ H xs ps ∧ g st ps = some pv ∧ Fin A fr F θ H σ ρ st pv Q
def g1 (g : Sto → PV → Option PV) : Sto → List PV → Option PV
  | st, [x] => g st x
  | _, _ => none
def g2 (g : Sto → PV → PV → Option PV) : Sto → List PV → Option PV
  | st, [x, y] => g st x y
  | _, _ => none
def g3 (g : Sto → PV → PV → PV → Option PV) : Sto → List PV → Option PV
  | st, [x, y, z] => g st x y z
  | _, _ => none
section
variable {A : Act} {X : Cx} {fr : Bool}
theorem call1 {f : Value} {g : Sto → PV → Option PV} (h : CallR X f (fun xs H Q => ∃ x F θ σ ρ st px pv, xs = [x] ∧ SR A F θ H σ ρ st ∧ BRep A F θ H x px ∧ g st px = some pv ∧ Fin A fr F θ H σ ρ st pv Q)) : CallR X f (rN A fr (g1 g)) := by
  rintro pins s σ H xs us Q I r ⟨F, θ, σ', ρ, st, ps, pv, sr, bs, hg, fin⟩
  match ps, bs, hg with
  | [p], bs, hg =>
    obtain ⟨x, rfl, b⟩ := bs.b1
    exact h pins s σ H _ us Q I r ⟨x, F, θ, σ', ρ, st, p, pv, rfl, sr, b, hg, fin⟩
theorem call2 {f : Value} {g : Sto → PV → PV → Option PV} (h : CallR X f (fun xs H Q => ∃ x y F θ σ ρ st px py pv, xs = [x, y] ∧ SR A F θ H σ ρ st ∧ BRep A F θ H x px ∧ BRep A F θ H y py ∧ g st px py = some pv ∧ Fin A fr F θ H σ ρ st pv Q)) : CallR X f (rN A fr (g2 g)) := by
  rintro pins s σ H xs us Q I r ⟨F, θ, σ', ρ, st, ps, pv, sr, bs, hg, fin⟩
  match ps, bs, hg with
  | [p, q], bs, hg =>
    obtain ⟨x, y, rfl, b, c⟩ := bs.b2
    exact h pins s σ H _ us Q I r ⟨x, y, F, θ, σ', ρ, st, p, q, pv, rfl, sr, b, c, hg, fin⟩
theorem BRep.deN {F : Addr → Prop} {θ : List Addr} {H : Hp} {σ : L2.St} {ρ : REnv} {st : Sto} {x : V} {px : PV} {α : Type} {g : PV → Option α} {r : α} (s : SR A F θ H σ ρ st) (h : BRep A F θ H x px) (e : g (PB.de st px) = some r) (g0 : g .non = none) : BRep A F θ H x (PB.de st px) :=
  h.de s (by
    by_cases z : PB.de st px = PV.non
    · rw [z, g0] at e; cases e
    · exact .inl z)
theorem cr_lenP (hK : X.K = A.T.K) : CallR X (.builtin "len") (rN A fr (g1 fun st x => lenOp (de st x))) := call1 <| by
  rintro pins s σ H xs us Q I r ⟨x, F, θ, σ', ρ, st, px, pv, rfl, sr, bx, hg, fin⟩
  have bx' := bx.deN (g := lenOp) sr hg rfl
  clear bx
  revert hg bx'
  generalize de st px = w
  intro hg bx'
  unfold lenOp at hg
  split at hg
  · cases hg
    obtain ⟨a, vs, rfl, ha, ra⟩ := bx'.lst
    exact call_len pins s σ H _ us Q I r ⟨_, vs.length, rfl, .inl ⟨vs, .inl (.inl ha), rfl⟩, by rw [ra.length]; exact fin.sc sr (.int _)⟩
  · cases hg
    obtain ⟨a, rfl, ha⟩ := bx'.scr
    exact call_len pins s σ H _ us Q I r ⟨_, _, rfl, .inl ⟨_, by rw [hK]; exact ha, rfl⟩, by rw [List.length_map]; exact fin.sc sr (.int _)⟩
  · cases hg
    obtain ⟨a, vs, rfl, ha, ra⟩ := bx'.tup
    exact call_len pins s σ H _ us Q I r ⟨_, vs.length, rfl, .inr ⟨vs, by rw [hK]; exact ha, rfl⟩, by rw [ra.length]; exact fin.sc sr (.int _)⟩
  · split at hg
    · rename_i t hl
      cases hg
      obtain rfl := bx'.str
      exact call_len pins s σ H _ us Q I r ⟨_, t.length, rfl, ⟨by rw [tS_len, lim_eq]; exact hl, (tS_len t).symm⟩, fin.sc sr (.int _)⟩
    · cases hg
  · cases hg
    obtain ⟨a, vs, rfl, ha, ra⟩ := bx'.dic
    obtain ⟨u, rfl, rx⟩ := vals1 r
    cases (show u = Value.ref a from rx)
    exact d_len I ha fun t s' I' => ⟨.int _, H, I', ⟨t, rfl⟩, by rw [ra.length]; exact fin.sc sr (.int _)⟩
  · cases hg
theorem reps_bools {T : Tab} {F : Addr → Prop} {θ : List Addr} {H : Hp} : ∀ {vs : List V} {xs : List PV} {bs : List Bool}, Reps T F θ H vs xs → boolsOf xs = some bs → vs = bs.map V.bl
  | _, _, bs, .nil, e => by cases e; rfl
  | _, _, bs, .cons (x := x) (xs := xs) r t, e => by
    cases x <;> first | (simp [boolsOf] at e; done) | skip
    rename_i b
    rw [boolsOf] at e
    obtain ⟨bs', e1, rfl⟩ := Option.map_eq_some_iff.mp e
    cases r
    rw [reps_bools t e1, List.map_cons]
theorem reps_ints {T : Tab} {F : Addr → Prop} {θ : List Addr} {H : Hp} : ∀ {vs : List V} {xs : List PV} {bs : List Int}, Reps T F θ H vs xs → intsOf xs = some bs → vs = bs.map V.int
  | _, _, bs, .nil, e => by cases e; rfl
  | _, _, bs, .cons (x := x) (xs := xs) r t, e => by
    cases x <;> first | (simp [intsOf] at e; done) | skip
    rename_i b
    rw [intsOf] at e
    obtain ⟨bs', e1, rfl⟩ := Option.map_eq_some_iff.mp e
    cases r
    rw [reps_ints t e1, List.map_cons]
theorem reps_texts {T : Tab} {F : Addr → Prop} {θ : List Addr} {H : Hp} : ∀ {vs : List V} {xs : List PV} {bs : List Tx}, Reps T F θ H vs xs → textsOf xs = some bs → vs = (bs.map tS).map V.str
  | _, _, bs, .nil, e => by cases e; rfl
  | _, _, bs, .cons (x := x) (xs := xs) r t, e => by
    cases x <;> first | (simp [textsOf] at e; done) | skip
    rename_i b
    rw [textsOf] at e
    obtain ⟨bs', e1, rfl⟩ := Option.map_eq_some_iff.mp e
    cases r
    rw [reps_texts t e1, List.map_cons, List.map_cons]
theorem cr_allP (hc : X.calm = true) : CallR X (.builtin "all") (rN A fr (g1 fun _ x => bAll x)) := call1 <| by
  rintro pins s σ H xs us Q I r ⟨x, F, θ, σ', ρ, st, px, pv, rfl, sr, bx, hg, fin⟩
  unfold bAll at hg
  split at hg
  · obtain ⟨bs, e, rfl⟩ := Option.map_eq_some_iff.mp hg
    obtain ⟨a, vs, rfl, ha, ra⟩ := bx.lst
    rw [reps_bools ra e] at ha
    exact cr_all hc pins s σ H _ us Q I r ⟨a, bs, rfl, .inl (.inl ha), fin.sc sr (.bl _)⟩
  · cases hg
theorem cr_anyP (hc : X.calm = true) : CallR X (.builtin "any") (rN A fr (g1 fun _ x => bAny x)) := call1 <| by
  rintro pins s σ H xs us Q I r ⟨x, F, θ, σ', ρ, st, px, pv, rfl, sr, bx, hg, fin⟩
  unfold bAny at hg
  split at hg
  · obtain ⟨bs, e, rfl⟩ := Option.map_eq_some_iff.mp hg
    obtain ⟨a, vs, rfl, ha, ra⟩ := bx.lst
    rw [reps_bools ra e] at ha
    exact cr_any hc pins s σ H _ us Q I r ⟨a, bs, rfl, .inl (.inl ha), fin.sc sr (.bl _)⟩
  · cases hg
theorem cr_sumP (hc : X.calm = true) : CallR X (.builtin "sum") (rN A fr (g1 fun _ x => sumOp x)) := call1 <| by
  rintro pins s σ H xs us Q I r ⟨x, F, θ, σ', ρ, st, px, pv, rfl, sr, bx, hg, fin⟩
  unfold sumOp at hg
  split at hg
  · obtain ⟨bs, e, rfl⟩ := Option.map_eq_some_iff.mp hg
    obtain ⟨a, vs, rfl, ha, ra⟩ := bx.lst
    rw [reps_ints ra e] at ha
    exact cr_sum hc pins s σ H _ us Q I r ⟨a, bs, rfl, .inl (.inl ha), fin.sc sr (.int _)⟩
  · cases hg
theorem cr_dictP : CallR X (.type "dict") (rN A fr (g1 fun st x => dictOp (de st x))) := call1 <| by
  rintro pins s σ H xs us Q I r ⟨x, F, θ, σ', ρ, st, px, pv, rfl, sr, bx, hg, fin⟩
  have bx' := bx.deN (g := dictOp) sr hg rfl
  clear bx
  revert hg bx'
  generalize de st px = w
  intro hg bx'
  unfold dictOp at hg
  split at hg
  · cases hg
    obtain ⟨a, vs, rfl, ha, ra⟩ := bx'.dic
    exact call_dictD pins s σ H _ us Q I r ⟨a, vs, rfl, ha, fun p n => fin.new sr n ⟨_, upd_same, ra.ext (.upd (sr.newF n))⟩⟩
  · cases hg
theorem repsC_ints {T : Tab} {F : Addr → Prop} {θ : List Addr} {H : Hp} : ∀ (l : List Int), Reps T F θ H (l.map V.int) (l.map PV.int)
  | [] => .nil
  | i :: l => .cons (.int i) (repsC_ints l)
theorem kV_rep {T : Tab} {F : Addr → Prop} {θ : List Addr} {H : Hp} (k : K2) : Rep T F θ H (kV (kK k)) k.pv := by
  cases k with
  | i n => exact .int n
  | s t => exact .str t
theorem repsKeys {T : Tab} {F F' : Addr → Prop} {θ θ' : List Addr} {H H' : Hp} : ∀ {vs : List (Key × V)} {d : List (K2 × PV)}, RepD T F θ H vs d → Reps T F' θ' H' (vs.map fun kv => kV kv.1) (d.map fun p => p.1.pv)
  | _, _, .nil => .nil
  | _, _, .cons _ t => .cons (kV_rep _) (repsKeys t)
theorem repsVals {T : Tab} {F : Addr → Prop} {θ : List Addr} {H : Hp} : ∀ {vs : List (Key × V)} {d : List (K2 × PV)}, RepD T F θ H vs d → Reps T F θ H (vs.map fun kv => kv.2) (d.map fun p => p.2)
  | _, _, .nil => .nil
  | _, _, .cons r t => .cons r (repsVals t)
theorem cr_listP (hK : X.K = A.T.K) (hc : X.calm = true) : CallR X (.type "list") (rN A fr (g1 fun st x => listOp (de st x))) := call1 <| by
  rintro pins s σ H xs us Q I r ⟨x, F, θ, σ', ρ, st, px, pv, rfl, sr, bx, hg, fin⟩
  have bx' := bx.deN (g := listOp) sr hg rfl
  clear bx
  revert hg bx'
  generalize de st px = w
  intro hg bx'
  unfold listOp at hg
  split at hg
  · cases hg
    obtain ⟨a, vs, rfl, ha, ra⟩ := bx'.lst
    exact call_list_of pins s σ H _ us Q I r ⟨a, vs, rfl, .inl (.inl (.inl ha)), fun p n => fin.new sr n ⟨_, upd_same, ra.ext (.upd (sr.newF n))⟩⟩
  · cases hg
    obtain ⟨a, vs, rfl, ha, ra⟩ := bx'.tup
    exact call_list_of pins s σ H _ us Q I r ⟨a, vs, rfl, .inr (by rw [hK]; exact ha), fun p n => fin.new sr n ⟨_, upd_same, ra.ext (.upd (sr.newF n))⟩⟩
  · cases hg
    obtain ⟨a, rfl, ha⟩ := bx'.scr
    exact call_list_of pins s σ H _ us Q I r ⟨a, _, rfl, .inl (by rw [hK]; exact ha), fun p n => fin.new sr n ⟨_, upd_same, repsC_ints _⟩⟩
  · cases hg
    obtain ⟨a, vs, rfl, ha, ra⟩ := bx'.dic
    exact call_listD hc pins s σ H _ us Q I r ⟨a, vs, rfl, ha, fun p n => fin.new sr n ⟨_, upd_same, repsKeys ra⟩⟩
  · cases hg
theorem cr_tupleP (hK : X.K = A.T.K) : CallR X (.type "tuple") (rN A fr (g1 fun st x => tupleOp (de st x))) := call1 <| by
  rintro pins s σ H xs us Q I r ⟨x, F, θ, σ', ρ, st, px, pv, rfl, sr, bx, hg, fin⟩
  have bx' := bx.deN (g := tupleOp) sr hg rfl
  clear bx
  revert hg bx'
  generalize de st px = w
  intro hg bx'
  unfold tupleOp at hg
  split at hg
  · cases hg
    obtain ⟨a, vs, rfl, ha, ra⟩ := bx'.lst
    exact call_tuple_of pins s σ H _ us Q I r ⟨a, vs, rfl, .inl ⟨.inl (.inl ha), fun p n => fin.tup sr n ra⟩⟩
  · cases hg
    obtain ⟨a, vs, rfl, ha, ra⟩ := bx'.tup
    refine call_tuple_of pins s σ H _ us Q I r ⟨a, vs, rfl, .inr ⟨by rw [hK]; exact ha, ?_⟩⟩
    rcases bx' with r | ⟨_, _, r⟩
    · exact fin.sc sr r
    · exact r.elim
  · cases hg
theorem cr_intP : CallR X (.type "int") (rN A fr (g1 fun _ x => intOp x)) := call1 <| by
  rintro pins s σ H xs us Q I r ⟨x, F, θ, σ', ρ, st, px, pv, rfl, sr, bx, hg, fin⟩
  unfold intOp at hg
  split at hg
  · cases hg
    obtain rfl := bx.int
    exact call_int1 pins s σ H _ us Q I r (.inl ⟨_, rfl, fin.sc sr (.int _)⟩)
  · cases hg
    rename_i b
    obtain rfl := bx.bl
    exact call_int1 pins s σ H _ us Q I r (.inr ⟨b, rfl, fin.sc sr (.int _)⟩)
  · split at hg
    · rename_i t hl
      obtain ⟨n, e, rfl⟩ := Option.map_eq_some_iff.mp hg
      obtain rfl := bx.str
      exact call_int_str pins s σ H _ us Q I r ⟨tS t, n, rfl, e, by rw [tS_len]; exact hl, fin.sc sr (.int _)⟩
    · cases hg
  · cases hg
theorem cr_maxP (hc : X.calm = true) : CallR X (.builtin "max") (rN A fr (g2 fun _ x y => maxOp x y)) := call2 <| by
  rintro pins s σ H xs us Q I r ⟨x, y, F, θ, σ', ρ, st, px, py, pv, rfl, sr, bx, by_, hg, fin⟩
  unfold maxOp at hg
  split at hg
  · cases hg
    obtain rfl := bx.int
    obtain rfl := by_.int
    exact call_max2 hc pins s σ H _ us Q I r ⟨_, _, rfl, fin.sc sr (.int _)⟩
  · cases hg
theorem cr_minP (hc : X.calm = true) : CallR X (.builtin "min") (rN A fr (g2 fun _ x y => minOp x y)) := call2 <| by
  rintro pins s σ H xs us Q I r ⟨x, y, F, θ, σ', ρ, st, px, py, pv, rfl, sr, bx, by_, hg, fin⟩
  unfold minOp at hg
  split at hg
  · cases hg
    obtain rfl := bx.int
    obtain rfl := by_.int
    exact call_min2 hc pins s σ H _ us Q I r ⟨_, _, rfl, fin.sc sr (.int _)⟩
  · cases hg
theorem cr_strP : CallR X (.type "str") (rN A fr (g1 fun _ x => strOp x)) := call1 <| by
  rintro pins s σ H xs us Q I r ⟨x, F, θ, σ', ρ, st, px, pv, rfl, sr, bx, hg, fin⟩
  unfold strOp at hg
  split at hg
  · split at hg
    · rename_i i hl
      cases hg
      obtain rfl := bx.int
      have : (toString i : Str) = tS (toString i : Str).cps.toList := by
        show _ = Str.mk (toString i : Str).cps.toList.toArray
        rw [Array.toArray_toList]
      exact call_str_int pins s σ H _ us Q I r ⟨i, rfl, hl, by rw [this]; exact fin.sc sr (.str _)⟩
    · cases hg
  · cases hg
    obtain rfl := bx.str
    exact SkE.call_str_str pins s σ H _ us Q I r ⟨_, rfl, fin.sc sr (.str _)⟩
  · cases hg
end
end PB

end
section
set_option Elab.async false
set_option linter.all false
set_option maxRecDepth 100000
set_option exponentiation.threshold 10000
/-! PB9b: isinstance, sorted, methods of texts. -/
namespace PB
open PySem L2 PySem.Calls PyProof.Rows

section
variable {A : Act} {X : Cx} {fr : Bool}
/-! ### isinstance -/
def tyN : PV → String
  | .non => "NoneType"
  | .bl _ => "bool"
  | .int _ => "int"
  | .str _ => "str"
  | .tup _ => "tuple"
  | .lst _ => "list"
  | .dic _ => "dict"
  | _ => ""
def tyAll : List String := ["int", "bool", "str", "tuple", "list", "dict"]
theorem kitB_all : ["NoneType", "bool", "int", "str", "tuple", "list", "dict"].all (fun a => tyAll.all fun b => kitB a b == some (match a with | "NoneType" => false | "bool" => b == "int" || b == "bool" | _ => a == b)) = true := by decide +kernel
theorem kitB_of {px : PV} {t : String} (hp : plainV px = true) (ht : t ∈ tyAll) : kitB (tyN px) t = some (isTy px t) := by
  have h := List.all_eq_true.mp kitB_all
  have g : ∀ a ∈ ["NoneType", "bool", "int", "str", "tuple", "list", "dict"], kitB a t = some (match a with | "NoneType" => false | "bool" => t == "int" || t == "bool" | _ => a == t) := fun a ha =>
    beq_iff_eq.mp (List.all_eq_true.mp (h a ha) t ht)
  have sw : ∀ a : String, (a == t) = (t == a) := fun a => by rw [Bool.eq_iff_iff, beq_iff_eq, beq_iff_eq]; exact eq_comm
  cases px <;> first | (cases hp; done) | skip
  · exact g "NoneType" (by simp)
  · exact g "bool" (by simp)
  · exact (g "int" (by simp)).trans (congrArg some (sw _))
  · exact (g "str" (by simp)).trans (congrArg some (sw _))
  · exact (g "tuple" (by simp)).trans (congrArg some (sw _))
  · exact (g "list" (by simp)).trans (congrArg some (sw _))
  · exact (g "dict" (by simp)).trans (congrArg some (sw _))
theorem tyX_of {F : Addr → Prop} {θ : List Addr} {H : Hp} {x : V} {px : PV} (h : BRep A F θ H x px) (hp : plainV px = true) : TyX A.T.K H x (.type (tyN px)) := by
  cases px <;> first | (cases hp; done) | skip
  · obtain rfl := h.non; exact .base .non
  · obtain rfl := h.bl; exact .base (.bl _)
  · obtain rfl := h.int; exact .base (.int _)
  · obtain rfl := h.str; exact .base (.str _)
  · obtain ⟨a, vs, rfl, ha, _⟩ := h.tup
    rcases ha with (ha | ⟨o, ha⟩) | ⟨o, its, n, h1, h2, _⟩
    · exact .base (.tup ha)
    · exact .fTuple ha
    · exact .kTuple h1 h2
  · obtain ⟨a, vs, rfl, ha, _⟩ := h.lst
    exact .base (.lst ha)
  · obtain ⟨a, vs, rfl, ha, _⟩ := h.dic
    rcases ha with ha | ⟨o, ha⟩
    · exact .base (.dK ha)
    · exact .fDict ha
/-- isinstance(x, t), t a type of the language -/
theorem cr_isI1 (hK : X.K = A.T.K) {t : String} (ht : t ∈ tyAll) : CallR X (.builtin "isinstance") (fun xs H Q => ∃ x, xs = [x, .ty t] ∧ rN A fr (g1 fun _ x => if plainV x = true then some (.bl ([t].any (isTy x))) else none) [x] H Q) := by
  rintro pins s σ H xs us Q I r ⟨x, rfl, F, θ, σ', ρ, st, ps, pv, sr, bs, hg, fin⟩
  match ps, bs, hg with
  | [px], bs, hg =>
    obtain ⟨x', e, bx⟩ := bs.b1
    obtain rfl : x = x' := by cases e; rfl
    replace hg : (if plainV px = true then some (PV.bl ([t].any (isTy px))) else none) = some pv := hg
    split at hg
    · rename_i hp
      cases hg
      refine call_isi pins s σ H _ us Q I r ⟨x, .ty t, .type (tyN px), .type t, isTy px t, rfl, .ty t, by rw [hK]; exact tyX_of bx hp, kit_ty (kitB_of hp ht), ?_⟩
      have : [t].any (isTy px) = isTy px t := by simp
      rw [this] at fin
      exact fin.sc sr (.bl _)
    · cases hg
/-! ### sorted -/
theorem ltv_refl_some {x : PV} {b : Bool} (h : ltv x x = some b) : True := trivial
theorem le_dataLe {x y : PV} {b : Bool} (h : ltv y x = some b) : lePV x y = PySem.W.dataLe false toD x y := by
  obtain ⟨_, _, e⟩ := ltv_facts h
  unfold lePV
  rw [h]
  have : PySem.W.dataLe false toD x y = !PySem.W.dataLt (toD y) (toD x) := by
    first | exact PySem.W.dataLe_eq _ _ _ | rfl
  rw [this, e]
  cases b <;> rfl
theorem mergeSort_congr {α : Type} {f g : α → α → Bool} {l : List α} (h : ∀ x ∈ l, ∀ y ∈ l, f x y = g x y) : l.mergeSort f = l.mergeSort g := by
  have key := List.map_mergeSort (r := fun (a b : {x // x ∈ l}) => f a.1 b.1) (s := f) (f := Subtype.val) (l := l.attach) (fun a _ b _ => rfl)
  have key2 := List.map_mergeSort (r := fun (a b : {x // x ∈ l}) => f a.1 b.1) (s := g) (f := Subtype.val) (l := l.attach) (fun a _ b _ => h a.1 a.2 b.1 b.2)
  rw [List.attach_map_subtype_val] at key key2
  rw [← key, key2]
theorem sortBy_self {xs ys : List PV} (h : sortBy xs xs = some ys) : sortOk xs = true ∧ ys = xs.mergeSort (PySem.W.dataLe false toD) := by
  unfold sortBy at h
  split at h
  · rename_i hk
    refine ⟨hk, ?_⟩
    cases h
    have e : xs.zip xs = xs.map fun x => (x, x) := by
      induction xs with
      | nil => rfl
      | cons x xs ih => rw [List.zip_cons_cons, List.map_cons, List.zip_eq_zipWith, ← List.zip_eq_zipWith]; congr 1; clear ih hk; induction xs with
        | nil => rfl
        | cons y ys ih => rw [List.zip_cons_cons, ih, List.map_cons]
    rw [e, ← List.map_mergeSort (r := lePV) (f := fun x : PV => (x, x)) (fun a _ b _ => rfl), List.map_map]
    have : (Prod.snd ∘ fun x : PV => (x, x)) = id := rfl
    rw [this, List.map_id]
    refine mergeSort_congr fun x hx y hy => ?_
    unfold sortOk at hk
    have := List.all_eq_true.mp (List.all_eq_true.mp hk y hy) x hx
    obtain ⟨b, hb⟩ := Option.isSome_iff_exists.mp this
    exact le_dataLe hb
  · cases h
/-- the items stand for the trees -/
def RV (A : Act) (F : Addr → Prop) (θ : List Addr) (H : Hp) : Value → PV → Prop := fun u p => ∃ v, RelV v u ∧ Rep A.T F θ H v p
theorem each_of {F : Addr → Prop} {θ : List Addr} {H : Hp} : ∀ {vs : List V} {us : List Value} {ps : List PV}, Vals vs us → Reps A.T F θ H vs ps → PySem.W.EachIs (RV A F θ H) us ps
  | _, _, _, .nil, .nil => .nil
  | _, _, _, .cons r t, .cons q w => .cons ⟨_, r, q⟩ (each_of t w)
theorem each_back {F : Addr → Prop} {θ : List Addr} {H : Hp} : ∀ {us : List Value} {ps : List PV}, PySem.W.EachIs (RV A F θ H) us ps → ∃ vs, Vals vs us ∧ Reps A.T F θ H vs ps
  | _, _, .nil => ⟨[], .nil, .nil⟩
  | _, _, .cons ⟨v, r, q⟩ t => by
    obtain ⟨vs, h1, h2⟩ := each_back t
    exact ⟨v :: vs, .cons r h1, .cons q h2⟩
theorem sort_facts {ks : List PV} (hk : sortOk ks = true) : PySem.W.AllAlike (ks.map toD) ∧ PySem.W.Sortable (ks.map toD) ∧ ∀ k ∈ ks, dOk k = true := by
  have h : ∀ x ∈ ks, ∀ y ∈ ks, ∃ b, ltv x y = some b := fun x hx y hy => by
    unfold sortOk at hk
    exact Option.isSome_iff_exists.mp (List.all_eq_true.mp (List.all_eq_true.mp hk x hx) y hy)
  refine ⟨?_, ?_, fun k hk' => ?_⟩
  · intro d hd d' hd'
    obtain ⟨x, hx, rfl⟩ := List.mem_map.mp hd
    obtain ⟨y, hy, rfl⟩ := List.mem_map.mp hd'
    obtain ⟨b, e⟩ := h x hx y hy
    exact (ltv_facts e).1
  · cases ks with
    | nil => exact .inl fun d hd => by cases hd
    | cons k ks =>
      by_cases z : ∃ y r, k = .tup (y :: r)
      · refine .inl fun d hd => ?_
        obtain ⟨x, hx, rfl⟩ := List.mem_map.mp hd
        obtain ⟨b, e⟩ := h x hx k List.mem_cons_self
        obtain ⟨y, r, rfl⟩ := z
        cases x <;> first | (simp [ltv, lt1] at e; done) | skip
        rename_i xs
        cases xs with
        | nil => simp [ltv, lt1] at e
        | cons x xs => exact ⟨toD.toD1 x, xs.map toD.toD1, rfl⟩
      · refine .inr fun d hd => ?_
        obtain ⟨x, hx, rfl⟩ := List.mem_map.mp hd
        obtain ⟨b, e⟩ := h x hx k List.mem_cons_self
        cases x with
        | int i => exact ⟨fun z => by simp [toD] at z, fun xs z => by simp [toD] at z⟩
        | str i => exact ⟨fun z => by simp [toD] at z, fun xs z => by simp [toD] at z⟩
        | tup xs =>
          exfalso
          cases k <;> first | (simp [ltv, lt1] at e; done) | skip
          rename_i ys
          cases ys with
          | nil => cases xs <;> simp [ltv, lt1] at e
          | cons y ys => exact z ⟨_, _, rfl⟩
        | _ => cases k <;> simp [ltv, lt1] at e
  · obtain ⟨b, e⟩ := h k hk' k hk'
    exact (ltv_dOk e).1
theorem cr_sortedP (hK : X.K = A.T.K) (hu : X.A.units + 500 < cLine) : CallR X (.builtin "sorted") (rN A fr (g1 fun _ x => sortOp x)) := call1 <| by
  rintro pins s σ H xs us Q I r ⟨x, F, θ, σ', ρ, st, px, pv, rfl, sr, bx, hg, fin⟩
  unfold sortOp at hg
  split at hg
  · rename_i xs
    obtain ⟨ys, e, rfl⟩ := Option.map_eq_some_iff.mp hg
    obtain ⟨hk, rfl⟩ := sortBy_self e
    obtain ⟨a, vs, rfl, ha, ra⟩ := bx.lst
    obtain ⟨f1, f2, f3⟩ := sort_facts hk
    obtain ⟨its, rv, hl, hz⟩ := I.list (.inl (.inl ha))
    obtain rfl : us = [Value.ref a] := Vals.ref1 r
    have ea := each_of rv ra
    have hlen : xs.length ≤ sizeLine := by rw [← ra.length]; exact hz
    refine PySem.W.sorted_data (bs := xs) (enc := toD) hl.isList ea ?_ f1 f2 hlen (fun b hb => ?_) fun out ho eo => ?_
    · refine (PySem.W.each_mem ea).mono fun u p ⟨⟨v, q1, q2⟩, hp⟩ => ?_
      have d := dp_of (A := A) (.inl q2) (f3 p hp)
      rw [← hK] at d
      exact Dp.reads I _ _ _ d q1
    · have := depthT b
      omega
    · obtain ⟨ep, he'⟩ := PyProof.Rows.sortedAll_at s.heap its (List.toArray out)
      obtain ⟨ws, w1, w2⟩ := each_back eo
      have hl' : ws.length ≤ sizeLine := by rw [w2.length, List.length_mergeSort]; exact hlen
      have nw : H (s.heap.objs.size + 1) = none := I.hok.fresh (Nat.le_succ _)
      have I2 := I.laid (t' := s.toks) (o := .lst ws) (fun _ _ => PyProof.Rows.sortedAll_old) (Nat.le_succ _) ⟨hl', out, ep, w1, he'⟩
      exact ⟨.ref _, _, I2, rfl, fin.new sr nw ⟨_, upd_same, w2.ext (.upd (sr.newF nw))⟩⟩
  · cases hg
/-! ### methods of texts -/
def rM (A : Act) (fr : Bool) (g : Sto → List PV → Option PV) : V → List V → Hp → VK → Prop := fun x xs H Q => rN A fr g (x :: xs) H Q
theorem foldl_join (sep : Array Nat) : ∀ (r : List Tx) (acc : Array Nat), ((r.map tS).foldl (fun acc p => acc ++ sep ++ p.cps) acc).toList = acc.toList ++ (r.map fun t => sep.toList ++ t).flatten
  | [], acc => by simp
  | t :: r, acc => by
    rw [List.map_cons, List.foldl_cons, foldl_join sep r, List.map_cons, List.flatten_cons]
    simp [tS]
theorem joinTx_flat (sep t : Tx) : ∀ r : List Tx, joinTx sep (t :: r) = t ++ (r.map fun u => sep ++ u).flatten := fun r => by
  induction r generalizing t with
  | nil => simp [joinTx]
  | cons u r ih => rw [joinTx, ih u] <;> simp
theorem join_txt (sep : Tx) (ts : List Tx) : Txt.join (tS sep) (ts.map tS) = tS (joinTx sep ts) := by
  cases ts with
  | nil => rfl
  | cons t r =>
    show Str.mk _ = Str.mk _
    congr 1
    rw [← Array.toList_inj]
    show ((r.map tS).foldl (fun acc p => acc ++ (tS sep).cps ++ p.cps) (tS t).cps).toList = _
    rw [foldl_join, joinTx_flat]
    simp [tS]
theorem join_len (sep : Tx) : ∀ ts : List Tx, (ts.map fun t => (tS t).length).sum + ts.length * sep.length ≤ (joinTx sep ts).length + sep.length
  | [] => by simp [joinTx]
  | [t] => by simp [joinTx, tS_len]
  | t :: u :: r => by
    have ih := join_len sep (u :: r)
    rw [List.map_cons, List.sum_cons, tS_len, List.length_cons]
    have : (joinTx sep (t :: u :: r)).length = t.length + sep.length + (joinTx sep (u :: r)).length := by
      rw [joinTx]
      · simp [List.length_append]; omega
      · simp
    rw [this, Nat.succ_mul]
    omega
theorem call1M {id : String} {g : Sto → PV → PV → Option PV} (h : MtR X id (fun x xs H Q => ∃ y F θ σ ρ st px py pv, xs = [y] ∧ SR A F θ H σ ρ st ∧ BRep A F θ H x px ∧ BRep A F θ H y py ∧ g st px py = some pv ∧ Fin A fr F θ H σ ρ st pv Q)) : MtR X id (rM A fr (g2 g)) := by
  rintro pins s σ H x xs v us Q I rx r ⟨F, θ, σ', ρ, st, ps, pv, sr, bs, hg, fin⟩
  match ps, bs, hg with
  | [p, q], bs, hg =>
    obtain ⟨x', y, e, b, c⟩ := bs.b2
    cases e
    exact h pins s σ H x _ v us Q I rx r ⟨y, F, θ, σ', ρ, st, p, q, pv, rfl, sr, b, c, hg, fin⟩
theorem mt_joinP : MtR X "str.join" (rM A fr (g2 fun _ x y => joinOp x y)) := call1M <| by
  rintro pins s σ H x xs v us Q I rx r ⟨y, F, θ, σ', ρ, st, px, py, pv, rfl, sr, bx, by_, hg, fin⟩
  unfold joinOp at hg
  split at hg
  · rename_i sep ys
    split at hg
    · rename_i ts e
      split at hg
      · rename_i hl
        cases hg
        obtain rfl := bx.str
        obtain ⟨a, vs, rfl, ha, ra⟩ := by_.lst
        rw [reps_texts ra e] at ha
        refine mt_join pins s σ H _ _ v us Q I rx r ⟨tS sep, a, ts.map tS, rfl, rfl, .inl (.inl (.inl ha)), ?_, ?_⟩
        · have := join_len sep ts
          rw [List.map_map, List.length_map, tS_len]
          unfold lim at hl
          refine Nat.le_trans ?_ hl
          exact this
        · rw [join_txt]
          exact fin.sc sr (.str _)
      · cases hg
    · cases hg
  · cases hg
theorem mt_lstripP : MtR X "str.lstrip" (rM A fr (g2 fun _ x y => lstripOp x y)) := call1M <| by
  rintro pins s σ H x xs v us Q I rx r ⟨y, F, θ, σ', ρ, st, px, py, pv, rfl, sr, bx, by_, hg, fin⟩
  unfold lstripOp at hg
  split at hg
  · split at hg
    · rename_i hl
      cases hg
      obtain rfl := bx.str
      obtain rfl := by_.str
      refine mt_lstripChars pins s σ H _ _ v us Q I rx r ⟨_, _, rfl, rfl, by rw [tS_len, lim_eq]; exact hl, ?_⟩
      have : ∀ z : Str, z = tS z.cps.toList := fun z => by show z = Str.mk _; rw [Array.toArray_toList]
      rw [this (Txt.lstripChars _ _)]
      exact fin.sc sr (.str _)
    · cases hg
  · cases hg
theorem mt_startsP : MtR X "str.startswith" (rM A fr (g2 fun _ x y => startsOp x y)) := call1M <| by
  rintro pins s σ H x xs v us Q I rx r ⟨y, F, θ, σ', ρ, st, px, py, pv, rfl, sr, bx, by_, hg, fin⟩
  unfold startsOp at hg
  split at hg
  · cases hg
    obtain rfl := bx.str
    obtain rfl := by_.str
    exact mt_startswith pins s σ H _ _ v us Q I rx r ⟨_, _, rfl, rfl, fin.sc sr (.bl _)⟩
  · cases hg
theorem mt_findP : MtR X "str.find" (rM A fr (g3 fun _ x y z => findOp x y z)) := by
  rintro pins s σ H x xs v us Q I rx r ⟨F, θ, σ', ρ, st, ps, pv, sr, bs, hg, fin⟩
  match ps, bs, hg with
  | [p, q, w], bs, hg =>
    obtain ⟨x', y, z, e, bx, by_, bz⟩ := bs.b3
    cases e
    replace hg : findOp p q w = some pv := hg
    unfold findOp at hg
    split at hg
    · cases hg
      obtain rfl := bx.str
      obtain rfl := by_.str
      obtain rfl := bz.int
      exact mt_find3 pins s σ H _ _ v us Q I rx r ⟨_, _, _, rfl, rfl, fin.sc sr (.int _)⟩
    · cases hg
end
end PB

end
section
set_option Elab.async false
set_option linter.all false
set_option maxRecDepth 100000
set_option exponentiation.threshold 10000
/-! PB10: readings of the IR's expressions. -/
namespace PB
open PySem L2 PySem.Calls PyProof.Rows

/-! ### what may be read off the syntax -/
def plainArg : Expr → Bool
  | .Starred .. => false
  | _ => true
theorem star_cons {e : Expr} {es : List Expr} {env : Env} (h : plainArg e = true) : starEach (e :: es) env = (false, eval e env) :: starEach es env := by
  cases e <;> first | rfl | cases h
theorem star_plain {pos : Pos} {env : Env} : ∀ {es : List Expr}, es.all plainArg = true → (backTo pos (starEach es env)).any (·.1) = false
  | [], _ => rfl
  | e :: es, h => by
    rw [List.all_cons, Bool.and_eq_true] at h
    rw [star_cons h.1]
    show (false || (backTo pos (starEach es env)).any (·.1)) = false
    rw [star_plain h.2]
    rfl
theorem star_len {env : Env} : ∀ (es : List Expr), (starEach es env).length = es.length
  | [] => rfl
  | e :: es => by
    have := star_len (env := env) es
    cases e <;> (show (_ :: starEach es env).length = _; rw [List.length_cons, this, List.length_cons])
theorem star_few {cpos : Pos} {env : Env} {es : List Expr} (h : es.all plainArg = true) (hl : es.length < 30) :
    ((backTo cpos (starEach es env)).all (fun x => !x.1) && (backToKw cpos (keywordEach [] env)).all (fun x => x.1.isSome)
      && decide (es.length + ([] : List Keyword).length + (if ([] : List Keyword).isEmpty then 0 else 1) < 30)) = true := by
  have h1 : (backTo cpos (starEach es env)).all (fun x => !x.1) = true := by
    clear hl
    induction es with
    | nil => rfl
    | cons e es ih =>
      rw [List.all_cons, Bool.and_eq_true] at h
      rw [star_cons h.1]
      exact ih h.2
  rw [h1]
  show (true && true && decide (es.length + 0 + 0 < 30)) = true
  simpa using hl
def plainBase : Expr → Bool
  | .Call (.Name id _) [] [] _ => id != "super"
  | _ => true
theorem base_ok {o : Expr} {m : Str} {env : Env} {whole : Sem Value} (h : plainBase o = true) : attributeBase o m env whole = whole := by
  unfold attributeBase
  split
  · rename_i id p pos
    have h' : (id != ("super" : Str)) = true := h
    rw [h']
    rfl
  · rfl
def plainIx : Expr → Bool
  | .Slice .. => false
  | _ => true
theorem ix_ok {b : Expr} (h : plainIx b = true) : PlainIx b := fun o i => by
  cases b <;> first | rfl | cases h
def plainTest : Expr → Bool
  | .UnaryOp .Not _ _ => false
  | .BoolOp .. => false
  | .IfExp .. => false
  | .Compare .. => false
  | _ => true
theorem test_ok {e : Expr} {env : Env} (h : plainTest e = true) : ∀ whole, isTrue e env whole = (do let v ← whole; standAt e.pos; holding [v] (truthy v)) := fun whole => by
  cases e <;> first | rfl | (cases h; done) | skip
  rename_i op e p
  cases op <;> first | rfl | cases h

/-! ### readings -/
abbrev WX := Value → Option Addr → L2.St → Hp → Prop
section
variable (A : Act)
def ERep (F : Addr → Prop) (θ : List Addr) (H : Hp) (cls : Value) (d : Option Addr) : PV → Prop
  | .exc c fs => cls = .ref (A.T.ca c) ∧ ((fs = [] ∧ d = none) ∨ ∃ dd vfs, d = some dd ∧ F dd ∧ H dd = some (.xd vfs) ∧ RepF A.T F θ H vfs fs)
  | _ => False
variable (W : WX)
abbrev Cnd (α β : Type) := (Addr → Prop) → List Addr → Hp → REnv → β → α → Prop
def Post {α β : Type} (C : Cnd α β) (F : Addr → Prop) (θ : List Addr) (H : Hp) (σ : L2.St) (r : Res α) (Q : β → Hp → Prop) : Prop := match r with
  | .ok a ρ' st' => ∀ b F' θ' H', Ext F θ H F' θ' H' → SR A F' θ' H' σ ρ' st' → C F' θ' H' ρ' b a → Q b H'
  | .exc pv ρ' st' => ∀ cls d F' θ' H', Ext F θ H F' θ' H' → SR A F' θ' H' σ ρ' st' → ERep A F' θ' H' cls d pv → W cls d σ H'
  | .bad => False
def tG {α β : Type} (C : L2.St → Cnd α β) (ev : REnv → Sto → Res α) (σ : L2.St) (H : Hp) (Q : β → Hp → Prop) : Prop :=
  ∃ F θ ρ st, SR A F θ H σ ρ st ∧ Post A W (C σ) F θ H σ (ev ρ st) Q
def cFz : L2.St → Cnd PV V := fun _ F θ H _ v pv => Rep A.T F θ H v pv
def cFr : L2.St → Cnd PV V := fun σ F θ H ρ v pv => NRep A F θ H σ ρ v pv
def cM (fr : Bool) : L2.St → Cnd PV V := fun σ F θ H ρ v pv => if fr = true then NRep A F θ H σ ρ v pv else Rep A.T F θ H v pv
def cA (e : E) : L2.St → Cnd PV V := fun σ F θ H _ v pv => match e with
  | .bor i => σ[i]? = some (some v)
  | _ => Rep A.T F θ H v pv
def cAs : Es → L2.St → Cnd (List PV) (List V)
  | .nil, _, _, _, _, _, [], [] => True
  | .cons e es, σ, F, θ, H, ρ, v :: vs, a :: as => cA A e σ F θ H ρ v a ∧ cAs es σ F θ H ρ vs as
  | _, _, _, _, _, _, _, _ => False
variable (cf : CF)
def tE (fr : Bool) (e : E) : TE := tG A W (cM A fr) (evE A.T.P cf e)
def tA (e : E) : TE := tG A W (cA A e) (evE A.T.P cf e)
def tAs (es : Es) : TA := tG A W (cAs A es) (evEs A.T.P cf es)
end
section
variable {A : Act} {W : WX} {α β γ δ : Type} {C : Cnd α β} {F F1 : Addr → Prop} {θ θ1 : List Addr} {H H1 : Hp} {σ : L2.St} {ρ : REnv} {st : Sto}
theorem Post.ext {r : Res α} {Q : β → Hp → Prop} (p : Post A W C F θ H σ r Q) (e : Ext F θ H F1 θ1 H1) : Post A W C F1 θ1 H1 σ r Q := by
  cases r with
  | ok a ρ st => exact fun b F' θ' H' e' => p b F' θ' H' (e.trans e')
  | exc v ρ st => exact fun cls d F' θ' H' e' => p cls d F' θ' H' (e.trans e')
  | bad => exact p
theorem Post.mono {r : Res α} {Q Q' : β → Hp → Prop} (p : Post A W C F θ H σ r Q) (h : ∀ b H, Q b H → Q' b H) : Post A W C F θ H σ r Q' := by
  cases r with
  | ok a ρ st => exact fun b F' θ' H' e' s c => h _ _ (p b F' θ' H' e' s c)
  | exc v ρ st => exact p
  | bad => exact p
theorem tG.mono {C : L2.St → Cnd α β} {ev : REnv → Sto → Res α} {Q Q' : β → Hp → Prop} (p : tG A W C ev σ H Q) (h : ∀ b H, Q b H → Q' b H) : tG A W C ev σ H Q' := by
  obtain ⟨F, θ, ρ, st, s, q⟩ := p
  exact ⟨F, θ, ρ, st, s, q.mono h⟩
theorem Post.bind {C1 : L2.St → Cnd γ δ} {ev : REnv → Sto → Res γ} {f : γ → REnv → Sto → Res α} {Q : β → Hp → Prop} (s : SR A F θ H σ ρ st) (p : Post A W C F θ H σ ((ev ρ st).bind f) Q) :
    tG A W C1 ev σ H fun b H1 => ∃ F1 θ1 ρ1 st1 a, Ext F θ H F1 θ1 H1 ∧ SR A F1 θ1 H1 σ ρ1 st1 ∧ C1 σ F1 θ1 H1 ρ1 b a ∧ Post A W C F1 θ1 H1 σ (f a ρ1 st1) Q := by
  refine ⟨F, θ, ρ, st, s, ?_⟩
  cases r : ev ρ st with
  | ok a ρ1 st1 =>
    rw [r] at p
    exact fun b F1 θ1 H1 e s1 c => ⟨F1, θ1, ρ1, st1, a, e, s1, c, Post.ext p e⟩
  | exc v ρ1 st1 =>
    rw [r] at p
    exact p
  | bad =>
    rw [r] at p
    exact p
theorem _root_.L2.PE.imp {X : Cx} {e : Expr} {t t' : TE} (h : PE X e t) (i : ∀ σ H Q, t' σ H Q → t σ H Q) : PE X e t' := ⟨fun pins s σ H Q I q => h.run pins s σ H Q I (i _ _ _ q)⟩
theorem _root_.L2.PT.imp {X : Cx} {e : Expr} {t t' : TT} (h : PT X e t) (i : ∀ σ H Q, t' σ H Q → t σ H Q) : PT X e t' := ⟨fun pins s σ H Q I q => h.run pins s σ H Q I (i _ _ _ q)⟩
theorem _root_.L2.PA.imp {X : Cx} {e : List Expr} {t t' : TA} (h : PA X e t) (i : ∀ σ H Q, t' σ H Q → t σ H Q) : PA X e t' := ⟨fun pos pins s σ H Q I q => h.run pos pins s σ H Q I (i _ _ _ q)⟩
end
section
variable {A : Act} {W : WX} {cf : CF} {σ : L2.St} {H : Hp}
theorem cA_ext {e : E} {F F1 : Addr → Prop} {θ θ1 : List Addr} {H H1 : Hp} {ρ ρ1 : REnv} {v : V} {a : PV} (h : cA A e σ F θ H ρ v a) (x : Ext F θ H F1 θ1 H1) : cA A e σ F1 θ1 H1 ρ1 v a := by
  unfold cA at h ⊢
  split at h
  · exact h
  · exact h.ext x
theorem tAs_nil {Q : List V → Hp → Prop} (h : tAs A W cf .nil σ H Q) : Q [] H := by
  obtain ⟨F, θ, ρ, st, s, p⟩ := h
  exact p [] F θ H .refl s trivial
theorem tAs_cons {e : E} {es : Es} {Q : List V → Hp → Prop} (h : tAs A W cf (.cons e es) σ H Q) : tA A W cf e σ H fun v H1 => tAs A W cf es σ H1 fun vs H2 => Q (v :: vs) H2 := by
  obtain ⟨F, θ, ρ, st, s, p⟩ := h
  unfold evEs at p
  refine (Post.bind (C1 := cA A e) s p).mono fun v H1 ⟨F1, θ1, ρ1, st1, a, x, s1, c, p1⟩ => ?_
  refine ⟨F1, θ1, ρ1, st1, s1, ?_⟩
  cases r : evEs A.T.P cf es ρ1 st1 with
  | ok as ρ2 st2 =>
    rw [r] at p1
    refine fun vs F2 θ2 H2 x2 s2 c2 => ?_
    exact p1 (v :: vs) F2 θ2 H2 x2 s2 ⟨cA_ext c x2, c2⟩
  | exc v ρ2 st2 =>
    rw [r] at p1
    exact p1
  | bad =>
    rw [r] at p1
    exact p1
theorem tAs1 {e : E} {Q : List V → Hp → Prop} (h : tAs A W cf (.cons e .nil) σ H Q) : tA A W cf e σ H fun v H1 => Q [v] H1 :=
  (tAs_cons h).mono fun _ _ h => tAs_nil h
theorem tAs2 {e1 e2 : E} {Q : List V → Hp → Prop} (h : tAs A W cf (.cons e1 (.cons e2 .nil)) σ H Q) : tA A W cf e1 σ H fun v H1 => tA A W cf e2 σ H1 fun u H2 => Q [v, u] H2 :=
  (tAs_cons h).mono fun _ _ h => tAs1 h
theorem tAs3 {e1 e2 e3 : E} {Q : List V → Hp → Prop} (h : tAs A W cf (.cons e1 (.cons e2 (.cons e3 .nil))) σ H Q) : tA A W cf e1 σ H fun v H1 => tA A W cf e2 σ H1 fun u H2 => tA A W cf e3 σ H2 fun w H3 => Q [v, u, w] H3 :=
  (tAs_cons h).mono fun _ _ h => tAs2 h
/-- what the slots that are borrowed hold -/
theorem slot_brep {F : Addr → Prop} {θ : List Addr} {ρ : REnv} {st : Sto} {i : Nat} {v : V} {u : PV} (s : SR A F θ H σ ρ st) (e : σ[i]? = some (some v)) (r : ρ[i]? = some (.fz u) ∨ ρ[i]? = some (.ow u)) : BRep A F θ H v u := by
  rcases r with r | r
  · obtain ⟨x, h1, h2⟩ := s.rs i _ r
    rw [e] at h1
    cases h1
    exact .inl h2
  · obtain ⟨a, h1, h2, _⟩ := s.rs i _ r
    rw [e] at h1
    cases h1
    exact .inr ⟨a, rfl, h2⟩
theorem fix_breps {F : Addr → Prop} {θ : List Addr} {ρ : REnv} {st : Sto} (s : SR A F θ H σ ρ st) : ∀ {es : Es} {as qs : List PV} {vs : List V}, cAs A es σ F θ H ρ vs as → fixB ρ es as = some qs → BReps A F θ H vs qs
  | .nil, [], qs, [], _, h => by
    unfold fixB at h
    cases h
    trivial
  | .nil, [], qs, _ :: _, c, h => c.elim
  | .nil, _ :: _, qs, [], c, h => c.elim
  | .nil, _ :: _, qs, _ :: _, c, h => c.elim
  | .cons e es, [], qs, [], c, h => c.elim
  | .cons e es, [], qs, _ :: _, c, h => c.elim
  | .cons e es, _ :: _, qs, [], c, h => c.elim
  | .cons e es, a :: as, qs, v :: vs, c, h => by
    obtain ⟨c1, c2⟩ := c
    unfold fixB at h
    split at h
    · rename_i i es' a' as' e1 e2
      cases e1
      cases e2
      split at h
      · rename_i u hr
        obtain ⟨qs', h1, rfl⟩ := Option.map_eq_some_iff.mp h
        exact ⟨slot_brep s c1 (.inl hr), fix_breps s c2 h1⟩
      · rename_i u hr
        obtain ⟨qs', h1, rfl⟩ := Option.map_eq_some_iff.mp h
        exact ⟨slot_brep s c1 (.inr hr), fix_breps s c2 h1⟩
      · cases h
    · rename_i e' es' a' as' hb e1 e2
      cases e1
      cases e2
      obtain ⟨qs', h1, rfl⟩ := Option.map_eq_some_iff.mp h
      refine ⟨.inl ?_, fix_breps s c2 h1⟩
      unfold cA at c1
      split at c1
      · exact absurd rfl (hb _)
      · exact c1
    · rename_i e1 _
      cases e1
    · cases h
theorem tE_prim {fr : Bool} {op : Op} {es : Es} {Q : VK} (h : tE A W cf fr (.prim op es) σ H Q) : tAs A W cf es σ H fun vs H1 => rN A fr (fun st => prim A.T.P st op) vs H1 Q := by
  obtain ⟨F, θ, ρ, st, s, p⟩ := h
  unfold evE at p
  refine (Post.bind (C1 := cAs A es) s p).mono fun vs H1 ⟨F1, θ1, ρ1, st1, as, x, s1, c, p1⟩ => ?_
  cases h1 : fixB ρ1 es as with
  | none => rw [h1] at p1; exact p1.elim
  | some qs =>
    cases h2 : prim A.T.P st1 op qs with
    | none => rw [h1, Option.bind_some, h2] at p1; exact p1.elim
    | some pv =>
      rw [h1, Option.bind_some, h2] at p1
      exact ⟨F1, θ1, σ, ρ1, st1, qs, pv, s1, fix_breps s1 c h1, h2, p1⟩
theorem rN.r2 {fr : Bool} {op : Op} {g : Sto → PV → PV → Option PV} {x y : V} {H : Hp} {Q : VK} (h : rN A fr (fun st => prim A.T.P st op) [x, y] H Q) (hg : ∀ st px py pv, prim A.T.P st op [px, py] = some pv → g st px py = some pv) : r2 A fr g x y H Q := by
  obtain ⟨F, θ, σ, ρ, st, ps, pv, s, b, e, fin⟩ := h
  match ps, b, e with
  | [px, py], b, e => exact ⟨F, θ, σ, ρ, st, px, py, pv, s, b.1, b.2.1, hg _ _ _ _ e, fin⟩
theorem rN.r1 {fr : Bool} {op : Op} {g : Sto → PV → Option PV} {x : V} {H : Hp} {Q : VK} (h : rN A fr (fun st => prim A.T.P st op) [x] H Q) (hg : ∀ st px pv, prim A.T.P st op [px] = some pv → g st px = some pv) : r1 A fr g x H Q := by
  obtain ⟨F, θ, σ, ρ, st, ps, pv, s, b, e, fin⟩ := h
  match ps, b, e with
  | [px], b, e => exact ⟨F, θ, σ, ρ, st, px, pv, s, b.1, hg _ _ _ e, fin⟩
/-- an argument that is no borrowed slot -/
theorem tA_tE {e : E} (h : ∀ i, e ≠ .bor i) {Q : VK} (q : tA A W cf e σ H Q) : tE A W cf false e σ H Q := by
  obtain ⟨F, θ, ρ, st, s, p⟩ := q
  refine ⟨F, θ, ρ, st, s, ?_⟩
  have : cA A e σ = cM A false σ := by
    funext F θ H ρ v pv
    unfold cA cM
    split
    · exact absurd rfl (h _)
    · simp
  rw [← this]
  exact p
theorem tE_tA {e : E} (h : ∀ i, e ≠ .bor i) {Q : VK} (q : tE A W cf false e σ H Q) : tA A W cf e σ H Q := by
  obtain ⟨F, θ, ρ, st, s, p⟩ := q
  refine ⟨F, θ, ρ, st, s, ?_⟩
  have : cA A e σ = cM A false σ := by
    funext F θ H ρ v pv
    unfold cA cM
    split
    · exact absurd rfl (h _)
    · simp
  rw [this]
  exact p
end
end PB

end
section
set_option Elab.async false
set_option linter.all false
set_option maxRecDepth 100000
set_option exponentiation.threshold 10000
/-! PB11: the operations' rules. -/
namespace PB
open PySem L2 PySem.Calls PyProof.Rows

/-- what a global name stands for -/
inductive GK where
  | fn (f : Nat)
  | cls (c : Nat)
  | val (g : Nat)
  deriving DecidableEq
/-- what the checker sees -/
structure CE where
  N : List Str
  nm : List (Str × NameKind)
  gl : List (Str × GK)
  an : List Str
  calm : Bool
  cells : List Str
def CE.isS (c : CE) (x : Str) : Bool := match c.nm.lookup x with
  | some .local => true
  | some .cell => c.cells.contains x
  | _ => false
def CE.isG (c : CE) (x : Str) : Bool := c.nm.lookup x == some .globalImplicit
def CE.isV (c : CE) (x : Str) : Bool := match c.nm.lookup x with
  | some .local => true
  | some .cell => true
  | some .free => true
  | _ => false
def txtEq (x : Str) (t : Tx) : Bool := x.cps.toList == t
theorem txtEq_ok {x : Str} {t : Tx} (h : txtEq x t = true) : x = tS t := by
  have := beq_iff_eq.mp h
  show x = Str.mk t.toArray
  rw [← this, Array.toArray_toList]
/-- the built-in names that are used -/
def bltN : List Str := ["len", "all", "any", "dict", "int", "list", "tuple", "max", "min", "sorted", "str", "sum", "isinstance", "set", "range", "enumerate", "zip", "reversed", "bool"]
def CE.isB (c : CE) (n x : Str) : Bool := x == n && c.isG x

structure Ok (T : Tab) (W : WX) (X : Cx) (c : CE) : Prop where
  K : X.K = T.K
  N : X.N = c.N
  nd : c.N.Nodup
  an : T.an = c.an
  and_ : c.an.Nodup
  nm : X.env.scope.names = c.nm
  calm : c.calm = true → X.calm = true
  kind : X.env.scope.kind = .function
  fn : ∀ x ∈ c.cells, X.fn x = true
  units : X.A.units + 500 < cLine
  tk : Takes X W
  bl : ∀ x ∈ bltN, X.mg x = none
  gv : ∀ x g, c.gl.lookup x = some (.val g) → ∃ v u, X.mg x = some u ∧ RelV v u ∧ ∀ pv, T.P.glob[g]? = some pv → contP pv = false ∧ ∀ F θ H, Rep T F θ H v pv
  fl : ∀ (f : Nat) (nm : Str), c.an[f]? = some nm → ∀ k, Cls X.K (T.ca k) ∧ NoAttr X.K (T.ca k) nm

section
variable {T : Tab} {W : WX} {X : Cx} {c : CE}
theorem Ok.gl (o : Ok T W X c) {x : Str} (h : c.isG x = true) : Gl X x := by
  show X.env.scope.names.lookup x = _
  rw [o.nm]
  exact beq_iff_eq.mp h
theorem Ok.vis (o : Ok T W X c) {x : Str} (h : c.isV x = true) : Vis X.env.scope x := by
  unfold CE.isV at h
  rw [← o.nm] at h
  unfold Vis
  split at h
  · rename_i e; exact .inl e
  · rename_i e; exact .inr (.inl e)
  · rename_i e; exact .inr (.inr e)
  · cases h
theorem Ok.sto (o : Ok T W X c) {x : Str} (h : c.isS x = true) : L2.Loc X.env.scope x ∧ (X.fn x = true ∨ X.env.scope.names.lookup x = some .local) := by
  unfold CE.isS at h
  rw [← o.nm] at h
  unfold L2.Loc
  split at h
  · rename_i e; exact ⟨.inl e, .inr e⟩
  · rename_i e; exact ⟨.inr e, .inl (o.fn x (by simpa using h))⟩
  · cases h
theorem isB_ok (o : Ok T W X c) {n x : Str} (h : c.isB n x = true) (hb : n ∈ bltN) : x = n ∧ Gl X n ∧ X.mg n = none := by
  unfold CE.isB at h
  rw [Bool.and_eq_true] at h
  have e := beq_iff_eq.mp h.1
  subst e
  exact ⟨rfl, o.gl h.2, o.bl _ hb⟩
end

/-! ### what cannot raise -/
mutual
def quietE : E → Bool
  | .const _ => true
  | .glob _ => true
  | .slot _ => true
  | .bor _ => true
  | .prim _ es => quietEs es
  | .fld e _ => quietE e
  | .and a b => quietE a && quietE b
  | .or a b => quietE a && quietE b
  | .not a => quietE a
  | .ite c a b => quietE c && quietE a && quietE b
  | .chain _ _ a b c => quietE a && quietE b && quietE c
  | .comp _ it _ cond elt => quietIt it && quietO cond && quietE elt
  | .efld _ _ => true
  | .eis _ _ => true
  | _ => false
def quietEs : Es → Bool
  | .nil => true
  | .cons e es => quietE e && quietEs es
def quietO : Option1 → Bool
  | .none => true
  | .some e => quietE e
def quietIt : It → Bool
  | .val e => quietE e
  | .rng1 e => quietE e
  | .rng2 a b => quietE a && quietE b
  | .rev e => quietE e
  | .revR a b => quietE a && quietE b
  | .enum e => quietE e
  | .zip a b => quietE a && quietE b
  | .items e => quietE e
end
def Res.noexc {α : Type} : Res α → Prop
  | .exc _ _ _ => False
  | _ => True
theorem Res.noexc.bind {α β : Type} {r : Res α} {f : α → REnv → Sto → Res β} (h : r.noexc) (g : ∀ a ρ st, (f a ρ st).noexc) : (r.bind f).noexc := by
  cases r with
  | ok a ρ st => exact g a ρ st
  | exc v ρ st => exact h.elim
  | bad => trivial
theorem loopC_noexc {tg : Tg} {own : List Nat} {cond elt : REnv → Sto → Res PV} (hc : ∀ ρ st, (cond ρ st).noexc) (he : ∀ ρ st, (elt ρ st).noexc) : ∀ (xs acc : List PV) (ρ : REnv) (st : Sto), (loopC tg own cond elt xs acc ρ st).noexc
  | [], acc, ρ, st => trivial
  | x :: xs, acc, ρ, st => by
    unfold loopC
    split
    · trivial
    · refine (hc _ _).bind fun a ρ2 st2 => ?_
      split
      · refine (he _ _).bind fun v ρ3 st3 => ?_
        split
        · exact loopC_noexc hc he xs _ _ _
        · trivial
      · exact loopC_noexc hc he xs _ _ _
      · trivial
section
variable {P : Prog} {cf : CF}
mutual
theorem quietE_ok : ∀ (e : E) (ρ : REnv) (st : Sto), quietE e = true → (evE P cf e ρ st).noexc
  | .const v, ρ, st, _ => by unfold evE; trivial
  | .glob g, ρ, st, _ => by unfold evE; split <;> trivial
  | .slot i, ρ, st, _ => by unfold evE; split <;> trivial
  | .bor i, ρ, st, _ => by unfold evE; split <;> trivial
  | .prim op es, ρ, st, h => by
    unfold quietE at h
    unfold evE
    refine (quietEs_ok es ρ st h).bind fun a ρ st => ?_
    split <;> trivial
  | .fld e f, ρ, st, h => by
    unfold quietE at h
    unfold evE
    refine (quietE_ok e ρ st h).bind fun a ρ st => ?_
    split <;> trivial
  | .and a b, ρ, st, h => by
    unfold quietE at h
    rw [Bool.and_eq_true] at h
    unfold evE
    refine (quietE_ok a ρ st h.1).bind fun v ρ st => ?_
    split
    · exact quietE_ok b ρ st h.2
    · trivial
    · trivial
  | .or a b, ρ, st, h => by
    unfold quietE at h
    rw [Bool.and_eq_true] at h
    unfold evE
    refine (quietE_ok a ρ st h.1).bind fun v ρ st => ?_
    split
    · trivial
    · exact quietE_ok b ρ st h.2
    · trivial
  | .not a, ρ, st, h => by
    unfold quietE at h
    unfold evE
    refine (quietE_ok a ρ st h).bind fun v ρ st => ?_
    split <;> trivial
  | .ite c a b, ρ, st, h => by
    unfold quietE at h
    rw [Bool.and_eq_true, Bool.and_eq_true] at h
    unfold evE
    refine (quietE_ok c ρ st h.1.1).bind fun v ρ st => ?_
    split
    · exact quietE_ok a ρ st h.1.2
    · exact quietE_ok b ρ st h.2
    · trivial
  | .chain o1 o2 a b c, ρ, st, h => by
    unfold quietE at h
    rw [Bool.and_eq_true, Bool.and_eq_true] at h
    unfold evE
    refine (quietE_ok a ρ st h.1.1).bind fun v ρ st => (quietE_ok b ρ st h.1.2).bind fun u ρ st => ?_
    split
    · refine (quietE_ok c ρ st h.2).bind fun u ρ st => ?_
      split <;> trivial
    · trivial
    · trivial
  | .comp own it tg cond elt, ρ, st, h => by
    unfold quietE at h
    rw [Bool.and_eq_true, Bool.and_eq_true] at h
    unfold evE
    refine (quietIt_ok it ρ st h.1.1).bind fun v ρ st => ?_
    split
    · split <;> trivial
    · trivial
  | .efld i f, ρ, st, _ => by
    unfold evE
    split
    · split <;> trivial
    · trivial
  | .eis i cs, ρ, st, _ => by unfold evE; split <;> trivial
  | .call .., _, _, h => by unfold quietE at h; cases h
  | .callv .., _, _, h => by unfold quietE at h; cases h
  | .meth .., _, _, h => by unfold quietE at h; cases h
  | .mk .., _, _, h => by unfold quietE at h; cases h
  | .new .., _, _, h => by unfold quietE at h; cases h
  | .lam .., _, _, h => by unfold quietE at h; cases h
  | .sortk .., _, _, h => by unfold quietE at h; cases h
  | .mutS .., _, _, h => by unfold quietE at h; cases h
  | .mutR .., _, _, h => by unfold quietE at h; cases h
theorem quietEs_ok : ∀ (es : Es) (ρ : REnv) (st : Sto), quietEs es = true → (evEs P cf es ρ st).noexc
  | .nil, ρ, st, _ => by unfold evEs; trivial
  | .cons e es, ρ, st, h => by
    unfold quietEs at h
    rw [Bool.and_eq_true] at h
    unfold evEs
    exact (quietE_ok e ρ st h.1).bind fun v ρ st => (quietEs_ok es ρ st h.2).bind fun vs ρ st => trivial
theorem quietO_ok : ∀ (e : Option1) (ρ : REnv) (st : Sto), quietO e = true → (evO P cf e ρ st).noexc
  | .none, ρ, st, _ => by unfold evO; trivial
  | .some e, ρ, st, h => by
    unfold quietO at h
    unfold evO
    exact quietE_ok e ρ st h
theorem quietIt_ok : ∀ (e : It) (ρ : REnv) (st : Sto), quietIt e = true → (evIt P cf e ρ st).noexc
  | .val e, ρ, st, h => by
    unfold quietIt at h
    unfold evIt
    refine (quietE_ok e ρ st h).bind fun v ρ st => ?_
    split <;> trivial
  | .rng1 e, ρ, st, h => by
    unfold quietIt at h
    unfold evIt
    refine (quietE_ok e ρ st h).bind fun v ρ st => ?_
    split
    · split <;> trivial
    · trivial
  | .rng2 a b, ρ, st, h => by
    unfold quietIt at h
    rw [Bool.and_eq_true] at h
    unfold evIt
    refine (quietE_ok a ρ st h.1).bind fun v ρ st => (quietE_ok b ρ st h.2).bind fun u ρ st => ?_
    split
    · split <;> trivial
    · trivial
  | .rev e, ρ, st, h => by
    unfold quietIt at h
    unfold evIt
    refine (quietE_ok e ρ st h).bind fun v ρ st => ?_
    split <;> trivial
  | .revR a b, ρ, st, h => by
    unfold quietIt at h
    rw [Bool.and_eq_true] at h
    unfold evIt
    refine (quietE_ok a ρ st h.1).bind fun v ρ st => (quietE_ok b ρ st h.2).bind fun u ρ st => ?_
    split
    · split <;> trivial
    · trivial
  | .enum e, ρ, st, h => by
    unfold quietIt at h
    unfold evIt
    refine (quietE_ok e ρ st h).bind fun v ρ st => ?_
    split <;> trivial
  | .zip a b, ρ, st, h => by
    unfold quietIt at h
    rw [Bool.and_eq_true] at h
    unfold evIt
    refine (quietE_ok a ρ st h.1).bind fun v ρ st => (quietE_ok b ρ st h.2).bind fun u ρ st => ?_
    split <;> trivial
  | .items e, ρ, st, h => by
    unfold quietIt at h
    unfold evIt
    refine (quietE_ok e ρ st h).bind fun v ρ st => ?_
    split <;> trivial
end
end

/-! ### how an operation is written -/
def cop (op : Op) (p : CmpOp) : Bool := match op, p with
  | .eq, .Eq => true
  | .ne, .NotEq => true
  | .lt, .Lt => true
  | .le, .LtE => true
  | .gt, .Gt => true
  | .ge, .GtE => true
  | .isIn, .In => true
  | .notIn, .NotIn => true
  | _, _ => false
def bop (op : Op) (p : Operator) : Bool := match op, p with
  | .add, .Add => true
  | .sub, .Sub => true
  | .mul, .Mult => true
  | .fdiv, .FloorDiv => true
  | .mod, .Mod => true
  | .pow, .Pow => true
  | _, _ => false
def b1 (c : CE) (op : Op) (x : Str) : Bool := match op with
  | .len => c.isB "len" x
  | .all => c.calm && c.isB "all" x
  | .any => c.calm && c.isB "any" x
  | .dictOf => c.isB "dict" x
  | .intOf => c.isB "int" x
  | .listOf => c.calm && c.isB "list" x
  | .tupleOf => c.isB "tuple" x
  | .sorted => c.isB "sorted" x
  | .strOf => c.isB "str" x
  | .sum => c.calm && c.isB "sum" x
  | _ => false
def b2 (c : CE) (op : Op) (x : Str) : Bool := match op with
  | .max2 => c.calm && c.isB "max" x
  | .min2 => c.calm && c.isB "min" x
  | _ => false
/-- isinstance(.., y) -/
def isShape (c : CE) (op : Op) (x y : Str) : Bool := match op with
  | .isI [t] => c.isB "isinstance" x && c.isB t y && tyAll.contains t
  | _ => false
/-- the operands, where the operation is written so -/
def shape (c : CE) (op : Op) : Expr → Option (List Expr)
  | .BinOp a p b _ => if bop op p then some [a, b] else none
  | .UnaryOp .USub a _ => if op = .neg then some [a] else none
  | .Compare a [p] [b] _ => if op = .isNone ∧ p = .Is then (match b with
      | .Constant .none _ _ => some [a]
      | _ => none)
    else if op = .isSome ∧ p = .IsNot then (match b with
      | .Constant .none _ _ => some [a]
      | _ => none)
    else if cop op p && !behindInMarks p b then some [a, b] else none
  | .Subscript a b _ => (match b with
    | .Slice (some l) none none _ => if op = .slL then some [a, l] else none
    | .Slice none (some u) none _ => if op = .slH then some [a, u] else none
    | .Slice (some l) (some u) none _ => if op = .slLH then some [a, l, u] else none
    | .Slice none none none _ => if op = .slA then some [a] else none
    | _ => if op = .idx && plainIx b then some [a, b] else none)
  | .Call (.Name x _) [a] [] _ => if b1 c op x then some [a] else none
  | .Call (.Name x _) [a, b] [] _ => if b2 c op x then some [a, b] else (match b with
    | .Name y _ => if isShape c op x y then some [a] else none
    | _ => none)
  | _ => none
def freshOp : Op → Bool
  | .idx => false
  | .get1 => false
  | .get2 => false
  | _ => true

section
variable {T : Tab} {ex : Option (Addr × Value × Option Addr)} {W : WX} {X : Cx} {c : CE} {cf : CF}
/-- operands that are read so -/
inductive AllA (T : Tab) (ex : Option (Addr × Value × Option Addr)) (W : WX) (X : Cx) (cf : CF) : Es → List Expr → Prop
  | nil : AllA T ex W X cf .nil []
  | cons {e : E} {es : Es} {x : Expr} {xs : List Expr} : (∀ A : Act, A.T = T → A.ex = ex → PE X x (tA A W cf e)) → plainArg x = true → AllA T ex W X cf es xs → AllA T ex W X cf (.cons e es) (x :: xs)
theorem AllA.i0 {es : Es} (h : AllA T ex W X cf es []) : es = .nil := by cases h; rfl
theorem AllA.i1 {es : Es} {x : Expr} (h : AllA T ex W X cf es [x]) : ∃ e, es = .cons e .nil ∧ (∀ A : Act, A.T = T → A.ex = ex → PE X x (tA A W cf e)) ∧ plainArg x = true := by
  cases h with
  | cons h1 h2 h3 => cases h3; exact ⟨_, rfl, h1, h2⟩
theorem AllA.i2 {es : Es} {x y : Expr} (h : AllA T ex W X cf es [x, y]) : ∃ e f, es = .cons e (.cons f .nil) ∧ (∀ A : Act, A.T = T → A.ex = ex → PE X x (tA A W cf e)) ∧ plainArg x = true ∧ (∀ A : Act, A.T = T → A.ex = ex → PE X y (tA A W cf f)) ∧ plainArg y = true := by
  cases h with
  | cons h1 h2 h3 =>
    obtain ⟨f, rfl, h4, h5⟩ := h3.i1
    exact ⟨_, _, rfl, h1, h2, h4, h5⟩
theorem AllA.i3 {es : Es} {x y z : Expr} (h : AllA T ex W X cf es [x, y, z]) : ∃ e f g, es = .cons e (.cons f (.cons g .nil)) ∧ (∀ A : Act, A.T = T → A.ex = ex → PE X x (tA A W cf e)) ∧ plainArg x = true ∧ (∀ A : Act, A.T = T → A.ex = ex → PE X y (tA A W cf f)) ∧ plainArg y = true ∧ (∀ A : Act, A.T = T → A.ex = ex → PE X z (tA A W cf g)) ∧ plainArg z = true := by
  cases h with
  | cons h1 h2 h3 =>
    obtain ⟨f, g, rfl, h4, h5, h6, h7⟩ := h3.i2
    exact ⟨_, _, _, rfl, h1, h2, h4, h5, h6, h7⟩
theorem AllA.pa {A : Act} (hA : A.T = T) (hx : A.ex = ex) : ∀ {es : Es} {xs : List Expr}, AllA T ex W X cf es xs → PA X xs (tAs A W cf es)
  | _, _, .nil => pa_nil.imp fun _ _ _ h => tAs_nil h
  | _, _, .cons h1 h2 h3 => (pa_cons (h1 A hA hx) (AllA.pa hA hx h3) (star_cons h2)).imp fun _ _ _ h => tAs_cons h
theorem AllA.plain : ∀ {es : Es} {xs : List Expr}, AllA T ex W X cf es xs → xs.all plainArg = true
  | _, _, .nil => rfl
  | _, _, .cons _ h2 h3 => by rw [List.all_cons, h2, AllA.plain h3]; rfl

theorem op2 {A : Act} (hA : A.T = T) {fr : Bool} {op : Op} {e1 e2 : E} {g : Sto → PV → PV → Option PV} (hg : ∀ st px py pv, prim A.T.P st op [px, py] = some pv → g st px py = some pv) :
    ∀ σ H Q, tE A W cf fr (.prim op (.cons e1 (.cons e2 .nil))) σ H Q → tOp (r2 A fr g) (tA A W cf e1) (tA A W cf e2) σ H Q := fun σ H Q q =>
  (tAs2 (tE_prim q)).mono fun _ _ h => tG.mono h fun _ _ h => h.r2 hg
theorem bop_ok {A : Act} (o : Ok T W X c) (hA : A.T = T) {fr : Bool} {op : Op} {p : Operator} (h : bop op p = true) : ∃ g, OpR X (binaryOp p) (r2 A fr g) ∧ ∀ st px py pv, prim A.T.P st op [px, py] = some pv → g st px py = some pv := by
  subst hA
  cases op <;> cases p <;> first | (cases h; done) | skip
  · exact ⟨_, op_addP o.K, fun _ _ _ _ e => e⟩
  · exact ⟨_, op_subP, fun _ _ _ _ e => e⟩
  · exact ⟨_, op_mulP, fun _ _ _ _ e => e⟩
  · exact ⟨_, op_fdivP, fun _ _ _ _ e => e⟩
  · exact ⟨_, op_modP, fun _ _ _ _ e => e⟩
  · exact ⟨_, op_powP, fun _ _ _ _ e => e⟩
theorem cop_ok {A : Act} (o : Ok T W X c) (hA : A.T = T) {fr : Bool} {op : Op} {p : CmpOp} (h : cop op p = true) : ∃ g, OpR X (compareOp p) (r2 A fr g) ∧ ∀ st px py pv, prim A.T.P st op [px, py] = some pv → g st px py = some pv := by
  subst hA
  cases op <;> cases p <;> first | (cases h; done) | skip
  · exact ⟨_, op_eqP o.K o.units, fun _ _ _ _ e => e⟩
  · exact ⟨_, op_neP o.K o.units, fun _ _ _ _ e => e⟩
  · exact ⟨_, op_ltP o.K o.units, fun _ _ _ _ e => e⟩
  · exact ⟨_, op_leP o.K o.units, fun _ _ _ _ e => e⟩
  · exact ⟨_, op_gtP o.K o.units, fun _ _ _ _ e => e⟩
  · exact ⟨_, op_geP o.K o.units, fun _ _ _ _ e => e⟩
  · exact ⟨_, op_inP o.K o.units, fun _ _ _ _ e => e⟩
  · exact ⟨_, op_notInP o.K o.units, fun _ _ _ _ e => e⟩
end
end PB

end
section
set_option Elab.async false
set_option linter.all false
set_option maxRecDepth 100000
set_option exponentiation.threshold 10000
/-! PB12: an operation, read off its text. -/
namespace PB
open PySem L2 PySem.Calls PyProof.Rows

section
variable {T : Tab} {ex : Option (Addr × Value × Option Addr)} {W : WX} {X : Cx} {c : CE} {cf : CF}
theorem brep_non {A : Act} {F : Addr → Prop} {θ : List Addr} {H : Hp} {v : V} {px : PV} (b : BRep A F θ H v px) : isNonB px = decide (v = V.non) := by
  rcases b with b | ⟨a, rfl, b⟩
  · cases b <;> first | rfl | simp [isNonB]
  · cases px <;> first | exact b.elim | simp [isNonB]
theorem isnone_i {A : Act} (hA : A.T = T) {fr : Bool} {e : E} : ∀ σ H Q, tE A W cf fr (.prim .isNone (.cons e .nil)) σ H Q → tOp (fun x y H Q => y = .non ∧ Q (.bl (decide (x = .non))) H) (tA A W cf e) (tC .non) σ H Q := fun σ H Q q =>
  (tAs1 (tE_prim q)).mono fun v H1 h => by
    obtain ⟨F, θ, σ, ρ, st, ps, pv, s, b, e, fin⟩ := h
    match ps, b, e with
    | [px], b, e =>
      cases e
      have := fin.sc s (.bl (isNonB px))
      rw [brep_non b.1] at this
      exact ⟨rfl, this⟩
theorem issome_i {A : Act} (hA : A.T = T) {fr : Bool} {e : E} : ∀ σ H Q, tE A W cf fr (.prim .isSome (.cons e .nil)) σ H Q → tOp (fun x y H Q => y = .non ∧ Q (.bl (!decide (x = .non))) H) (tA A W cf e) (tC .non) σ H Q := fun σ H Q q =>
  (tAs1 (tE_prim q)).mono fun v H1 h => by
    obtain ⟨F, θ, σ, ρ, st, ps, pv, s, b, e, fin⟩ := h
    match ps, b, e with
    | [px], b, e =>
      cases e
      have := fin.sc s (.bl (!isNonB px))
      rw [brep_non b.1] at this
      exact ⟨rfl, this⟩
theorem nomark_const (op : CmpOp) (k : Const) (i : Nat) (p : Pos) : behindInMarks op (.Constant k i p) = false := rfl
/-- a comparison, as a value and as a test -/
theorem cmpPE {A : Act} (o : Ok T W X c) (hA : A.T = T) (hx : A.ex = ex) {fr : Bool} {op : Op} {es : Es} {xs : List Expr} {a b : Expr} {p : CmpOp} {pos : Pos} (hs : shape c op (.Compare a [p] [b] pos) = some xs) (ha : AllA T ex W X cf es xs) :
    PE X (.Compare a [p] [b] pos) (tE A W cf fr (.prim op es)) ∧ PT X (.Compare a [p] [b] pos) (tTest (tE A W cf fr (.prim op es))) := by
  unfold shape at hs
  simp only at hs
  split at hs
  · rename_i hh
    obtain ⟨rfl, rfl⟩ := hh
    split at hs
    · cases hs
      obtain ⟨e, rfl, h1, _⟩ := ha.i1
      exact ⟨(pe_cmpR op_isN (h1 A hA hx) pe_non (nomark_const ..)).imp (isnone_i hA), (pt_cmpR op_isN (h1 A hA hx) pe_non (nomark_const ..)).imp fun σ H Q q => isnone_i hA σ H _ q⟩
    · cases hs
  · split at hs
    · rename_i hh
      obtain ⟨rfl, rfl⟩ := hh
      split at hs
      · cases hs
        obtain ⟨e, rfl, h1, _⟩ := ha.i1
        exact ⟨(pe_cmpR op_notN (h1 A hA hx) pe_non (nomark_const ..)).imp (issome_i hA), (pt_cmpR op_notN (h1 A hA hx) pe_non (nomark_const ..)).imp fun σ H Q q => issome_i hA σ H _ q⟩
      · cases hs
    · split at hs
      · rename_i hh
        cases hs
        rw [Bool.and_eq_true] at hh
        obtain ⟨hc, hb⟩ := hh
        obtain ⟨e, f, rfl, h1, _, h2, _⟩ := ha.i2
        obtain ⟨g, r, hg⟩ := cop_ok (fr := fr) o hA hc
        have hb' : behindInMarks p b = false := by
          cases z : behindInMarks p b with
          | false => rfl
          | true => rw [z] at hb; cases hb
        exact ⟨(pe_cmpR r (h1 A hA hx) (h2 A hA hx) hb').imp (op2 hA hg), (pt_cmpR r (h1 A hA hx) (h2 A hA hx) hb').imp fun σ H Q q => op2 hA hg σ H _ q⟩
      · cases hs
theorem sl_i1 {A : Act} {fr : Bool} {e f : E} {op : Op} {lo : Bool} (hop : op = if lo = true then .slL else .slH) : ∀ σ H Q, tE A W cf fr (.prim op (.cons e (.cons f .nil))) σ H Q →
    (if lo = true then tSl (rSl A fr) (tA A W cf e) (tPart (tA A W cf f)) tNoPart σ H Q else tSl (rSl A fr) (tA A W cf e) tNoPart (tPart (tA A W cf f)) σ H Q) := fun σ H Q q => by
  subst hop
  cases lo with
  | true =>
    rw [if_pos rfl]
    refine (tAs2 (tE_prim q)).mono fun v H1 h => tG.mono h fun u H2 h => ?_
    obtain ⟨F, θ, σ, ρ, st, ps, pv, s, b, e, fin⟩ := h
    match ps, b, e with
    | [px, py], b, e =>
      replace e : sl1 (fun i => slc (some i) none (de st px)) py = some pv := e
      unfold sl1 at e
      split at e
      · obtain rfl := b.2.1.int
        exact ⟨_, rfl, F, θ, σ, ρ, st, px, pv, s, b.1, e, fin⟩
      · cases e
  | false =>
    rw [if_neg (by simp)]
    refine (tAs2 (tE_prim q)).mono fun v H1 h => ?_
    show tA A W cf f σ H1 _
    refine tG.mono h fun u H2 h => ?_
    obtain ⟨F, θ, σ, ρ, st, ps, pv, s, b, e, fin⟩ := h
    match ps, b, e with
    | [px, py], b, e =>
      replace e : sl1 (fun i => slc none (some i) (de st px)) py = some pv := e
      unfold sl1 at e
      split at e
      · obtain rfl := b.2.1.int
        exact ⟨_, rfl, F, θ, σ, ρ, st, px, pv, s, b.1, e, fin⟩
      · cases e
theorem sl1_some {k : Int → Option PV} {v pv : PV} (h : sl1 k v = some pv) : ∃ i, v = .int i ∧ k i = some pv := by
  cases v <;> first | (cases h; done) | exact ⟨_, rfl, h⟩
theorem Res.bind_assoc {α β γ : Type} (r : Res α) (f : α → REnv → Sto → Res β) (g : β → REnv → Sto → Res γ) : (r.bind f).bind g = r.bind fun a ρ st => (f a ρ st).bind g := by
  cases r <;> rfl
def isBor : E → Bool
  | .bor _ => true
  | _ => false
theorem isBor_ne {e : E} (h : isBor e = false) : ∀ i, e ≠ .bor i := fun i z => by subst z; cases h
theorem cA_rep {A : Act} {e : E} {σ : L2.St} {F : Addr → Prop} {θ : List Addr} {H : Hp} {ρ : REnv} {v : V} {a : PV} (h : isBor e = false) (c : cA A e σ F θ H ρ v a) : Rep A.T F θ H v a := by
  unfold cA at c
  split at c
  · cases h
  · exact c
theorem fixB_nb {e : E} {es : Es} {ρ : REnv} {a : PV} {as : List PV} (h : isBor e = false) : fixB ρ (.cons e es) (a :: as) = (fixB ρ es as).map (a :: ·) := by
  cases e <;> first | (cases h; done) | (conv => lhs; unfold fixB)
theorem sl_i2 {A : Act} {fr : Bool} {e f g : E} (hf : isBor f = false) (hq : quietE g = true) : ∀ σ H Q, tE A W cf fr (.prim .slLH (.cons e (.cons f (.cons g .nil)))) σ H Q → tSl (rSl A fr) (tA A W cf e) (tPart (tA A W cf f)) (tPart (tA A W cf g)) σ H Q := fun σ H Q q => by
  obtain ⟨F, θ, ρ, st, s, p⟩ := q
  unfold evE evEs at p
  rw [Res.bind_assoc] at p
  refine (Post.bind (C1 := cA A e) s p).mono fun v1 H1 ⟨F1, θ1, ρ1, st1, a1, x1, s1, c1, p1⟩ => ?_
  unfold evEs at p1
  rw [Res.bind_assoc, Res.bind_assoc] at p1
  refine (Post.bind (C1 := cA A f) s1 p1).mono fun v2 H2 ⟨F2, θ2, ρ2, st2, a2, x2, s2, c2, p2⟩ => ?_
  unfold evEs evEs at p2
  rw [Res.bind_assoc, Res.bind_assoc] at p2
  have r2 := cA_rep hf c2
  cases hr : evE A.T.P cf g ρ2 st2 with
  | exc w ρ3 st3 => exact (by have := quietE_ok (P := A.T.P) (cf := cf) g ρ2 st2 hq; rw [hr] at this; exact this.elim)
  | bad => rw [hr] at p2; exact p2.elim
  | ok a3 ρ3 st3 =>
    have two : ∃ i, a2 = .int i := by
      rw [hr] at p2
      replace p2 : Post A W (cM A fr σ) F2 θ2 H2 σ (match (fixB ρ3 (.cons e (.cons f (.cons g .nil))) [a1, a2, a3]).bind (prim A.T.P st3 .slLH) with | some v => Res.ok v ρ3 st3 | none => .bad) Q := p2
      cases h1 : fixB ρ3 (.cons e (.cons f (.cons g .nil))) [a1, a2, a3] with
      | none => rw [h1] at p2; exact p2.elim
      | some qs =>
        have : ∃ q1 q3, qs = [q1, a2, q3] := by
          have h2 : ∀ z, fixB ρ3 (.cons f (.cons g .nil)) [a2, a3] = some z → ∃ q3, z = [a2, q3] := fun z hz => by
            rw [fixB_nb hf] at hz
            obtain ⟨z', e1, rfl⟩ := Option.map_eq_some_iff.mp hz
            have : ∃ q3, z' = [q3] := by
              unfold fixB at e1
              split at e1
              · rename_i _ es' _ _ e1' e2'
                cases e1'; cases e2'
                split at e1 <;> first | (cases e1; done) | skip
                all_goals
                  obtain ⟨z'', e3, rfl⟩ := Option.map_eq_some_iff.mp e1
                  unfold fixB at e3
                  cases e3
                  exact ⟨_, rfl⟩
              · rename_i _ es' _ _ _ e1' e2'
                cases e1'; cases e2'
                obtain ⟨z'', e3, rfl⟩ := Option.map_eq_some_iff.mp e1
                unfold fixB at e3
                cases e3
                exact ⟨_, rfl⟩
              · rename_i e1' _; cases e1'
              · cases e1
            obtain ⟨q3, rfl⟩ := this
            exact ⟨q3, rfl⟩
          unfold fixB at h1
          split at h1
          · rename_i _ es' _ _ e1' e2'
            cases e1'; cases e2'
            split at h1 <;> first | (cases h1; done) | skip
            all_goals
              obtain ⟨z'', e3, rfl⟩ := Option.map_eq_some_iff.mp h1
              obtain ⟨q3, rfl⟩ := h2 _ e3
              exact ⟨_, _, rfl⟩
          · rename_i _ es' _ _ _ e1' e2'
            cases e1'; cases e2'
            obtain ⟨z'', e3, rfl⟩ := Option.map_eq_some_iff.mp h1
            obtain ⟨q3, rfl⟩ := h2 _ e3
            exact ⟨_, _, rfl⟩
          · rename_i e1' _; cases e1'
          · cases h1
        obtain ⟨q1, q3, rfl⟩ := this
        rw [h1] at p2
        cases h2 : prim A.T.P st3 .slLH [q1, a2, q3] with
        | none => rw [Option.bind_some, h2] at p2; exact p2.elim
        | some pv =>
          replace h2 : sl1 (fun i => sl1 (fun j => slc (some i) (some j) (de st3 q1)) q3) a2 = some pv := h2
          unfold sl1 at h2
          split at h2
          · exact ⟨_, rfl⟩
          · cases h2
    obtain ⟨i, rfl⟩ := two
    cases r2
    refine ⟨i, rfl, ?_⟩
    refine (Post.bind (C1 := cA A g) s2 p2).mono fun v3 H3 ⟨F3, θ3, ρ3', st3', a3', x3, s3, c3, p3⟩ => ?_
    replace p3 : Post A W (cM A fr σ) F3 θ3 H3 σ (match (fixB ρ3' (.cons e (.cons f (.cons g .nil))) [a1, .int i, a3']).bind (prim A.T.P st3' .slLH) with | some v => Res.ok v ρ3' st3' | none => .bad) Q := p3
    cases h1 : fixB ρ3' (.cons e (.cons f (.cons g .nil))) [a1, .int i, a3'] with
    | none => rw [h1] at p3; exact p3.elim
    | some qs =>
      have b := fix_breps (as := [a1, .int i, a3']) (vs := [v1, .int i, v3]) s3 (es := .cons e (.cons f (.cons g .nil))) ⟨cA_ext (ρ := ρ2) (cA_ext (ρ := ρ1) c1 x2) x3, cA_ext (ρ := ρ2) c2 x3, c3, trivial⟩ h1
      cases h2 : prim A.T.P st3' .slLH qs with
      | none => rw [h1, Option.bind_some, h2] at p3; exact p3.elim
      | some pv =>
        rw [h1, Option.bind_some, h2] at p3
        match qs, b, h2 with
        | [q1, q2, q3], b, h2 =>
          replace h2 : sl1 (fun i => sl1 (fun j => slc (some i) (some j) (de st3' q1)) q3) q2 = some pv := h2
          obtain ⟨j, rfl, h3⟩ := sl1_some h2
          obtain ⟨j', rfl, h4⟩ := sl1_some h3
          have e2 := b.2.1.int
          cases e2
          have e3 := b.2.2.1.int
          subst e3
          exact ⟨_, rfl, F3, θ3, σ, ρ3', st3', q1, pv, s3, b.1, h4, p3⟩
theorem sl_i3 {A : Act} {fr : Bool} {e : E} : ∀ σ H Q, tE A W cf fr (.prim .slA (.cons e .nil)) σ H Q → tSl (rSl A fr) (tA A W cf e) tNoPart tNoPart σ H Q := fun σ H Q q =>
  (tAs1 (tE_prim q)).mono fun v1 H1 h => by
    obtain ⟨F, θ, σ, ρ, st, ps, pv, s, b, e, fin⟩ := h
    match ps, b, e with
    | [px], b, e => exact ⟨F, θ, σ, ρ, st, px, pv, s, b.1, e, fin⟩
theorem call1PE {A : Act} (o : Ok T W X c) (hA : A.T = T) (hx : A.ex = ex) {fr : Bool} {op : Op} {es : Es} {xs : List Expr} {x : Str} {a : Expr} {p pos : Pos} (hs : shape c op (.Call (.Name x p) [a] [] pos) = some xs) (ha : AllA T ex W X cf es xs) :
    PE X (.Call (.Name x p) [a] [] pos) (tE A W cf fr (.prim op es)) := by
  subst hA
  unfold shape at hs
  simp only at hs
  split at hs
  · rename_i hh
    cases hs
    have pa := ha.pa rfl hx
    have st := star_cons (env := X.env) (es := []) (show plainArg a = true from ha.i1.choose_spec.2.2)
    have go : ∀ {f : Value} {g : Sto → List PV → Option PV} {n : Str} {id : String}, CallR X (.builtin id) (rN A fr g) → c.isB n x = true → n ∈ bltN → bootBuiltins n = some (.builtin id) → n ≠ "__name__" → (n == ("__debug__" : Str)) = false →
        (∀ st ps pv, prim A.T.P st op ps = some pv → g st ps = some pv) → PE X (.Call (.Name x p) [a] [] pos) (tE A W cf fr (.prim op es)) := by
      intro _ g n id hc hb hn hv h1 h2 hg
      obtain ⟨rfl, g1, g2⟩ := isB_ok o hb hn
      refine (pe_callB hc g1 g2 hv pa h1 h2 st rfl).imp fun σ H Q q => ?_
      refine (tE_prim q).mono fun vs H1 h => ?_
      obtain ⟨F, θ, σ, ρ, st, ps, pv, s, b, e, fin⟩ := h
      exact ⟨F, θ, σ, ρ, st, ps, pv, s, b, hg _ _ _ e, fin⟩
    have goT : ∀ {g : Sto → List PV → Option PV} {n : Str} {id : String}, CallR X (.type id) (rN A fr g) → c.isB n x = true → n ∈ bltN → bootBuiltins n = some (.type id) → n ≠ "__name__" → (n == ("__debug__" : Str)) = false →
        (∀ st ps pv, prim A.T.P st op ps = some pv → g st ps = some pv) → PE X (.Call (.Name x p) [a] [] pos) (tE A W cf fr (.prim op es)) := by
      intro g n id hc hb hn hv h1 h2 hg
      obtain ⟨rfl, g1, g2⟩ := isB_ok o hb hn
      refine (pe_callTy hc g1 g2 hv pa h1 h2 st rfl).imp fun σ H Q q => ?_
      refine (tE_prim q).mono fun vs H1 h => ?_
      obtain ⟨F, θ, σ, ρ, st, ps, pv, s, b, e, fin⟩ := h
      exact ⟨F, θ, σ, ρ, st, ps, pv, s, b, hg _ _ _ e, fin⟩
    have i1 : ∀ {g : Sto → PV → Option PV} {st : Sto} {ps : List PV} {pv : PV}, prim A.T.P st op ps = some pv → ps.length = 1 → (∀ x, prim A.T.P st op [x] = some pv → g st x = some pv) → g1 g st ps = some pv := by
      intro g st ps pv h hl hg
      match ps, hl with
      | [x], _ => exact hg x h
    unfold b1 at hh
    split at hh <;> first | (cases hh; done) | skip
    · exact go (f := .none) (cr_lenP o.K) hh (by decide) (by decide +kernel) (by decide) (by decide) fun st ps pv h => by
        match ps, h with
        | [x], h => exact h
    · rw [Bool.and_eq_true] at hh
      exact go (f := .none) (cr_allP (o.calm hh.1)) hh.2 (by decide) (by decide +kernel) (by decide) (by decide) fun st ps pv h => by
        match ps, h with
        | [x], h => exact h
    · rw [Bool.and_eq_true] at hh
      exact go (f := .none) (cr_anyP (o.calm hh.1)) hh.2 (by decide) (by decide +kernel) (by decide) (by decide) fun st ps pv h => by
        match ps, h with
        | [x], h => exact h
    · exact goT cr_dictP hh (by decide) (by decide +kernel) (by decide) (by decide) fun st ps pv h => by
        match ps, h with
        | [x], h => exact h
    · exact goT cr_intP hh (by decide) (by decide +kernel) (by decide) (by decide) fun st ps pv h => by
        match ps, h with
        | [x], h => exact h
    · rw [Bool.and_eq_true] at hh
      exact goT (cr_listP o.K (o.calm hh.1)) hh.2 (by decide) (by decide +kernel) (by decide) (by decide) fun st ps pv h => by
        match ps, h with
        | [x], h => exact h
    · exact goT (cr_tupleP o.K) hh (by decide) (by decide +kernel) (by decide) (by decide) fun st ps pv h => by
        match ps, h with
        | [x], h => exact h
    · exact go (f := .none) (cr_sortedP o.K o.units) hh (by decide) (by decide +kernel) (by decide) (by decide) fun st ps pv h => by
        match ps, h with
        | [x], h => exact h
    · exact goT cr_strP hh (by decide) (by decide +kernel) (by decide) (by decide) fun st ps pv h => by
        match ps, h with
        | [x], h => exact h
    · rw [Bool.and_eq_true] at hh
      exact go (f := .none) (cr_sumP (o.calm hh.1)) hh.2 (by decide) (by decide +kernel) (by decide) (by decide) fun st ps pv h => by
        match ps, h with
        | [x], h => exact h
  · cases hs
end
end PB

end
section
set_option Elab.async false
set_option linter.all false
set_option maxRecDepth 100000
set_option exponentiation.threshold 10000
/-! PB13: an operation, read off its text (all of them); displays. -/
namespace PB
open PySem L2 PySem.Calls PyProof.Rows

section
variable {T : Tab} {ex : Option (Addr × Value × Option Addr)} {W : WX} {X : Cx} {c : CE} {cf : CF}
/-- what an operation asks of its operands, besides -/
def primQ : Op → Es → Bool
  | .slLH, .cons _ (.cons f (.cons g .nil)) => !isBor f && quietE g
  | .slLH, _ => false
  | _, _ => true
theorem FinR_fin {A : Act} {F : Addr → Prop} {θ : List Addr} {H : Hp} {σ : L2.St} {ρ : REnv} {st : Sto} {pv : PV} {Q : VK} (s : SR A F θ H σ ρ st) (h : Fin A false F θ H σ ρ st pv Q) : FinR A F θ H σ ρ st pv Q := fun v r => h v F θ H .refl s (by simpa using r)
theorem call2PE {A : Act} (o : Ok T W X c) (hA : A.T = T) (hx : A.ex = ex) {fr : Bool} {op : Op} {es : Es} {x : Str} {a b : Expr} {p pos : Pos} (hb : b2 c op x = true) (ha : AllA T ex W X cf es [a, b]) :
    PE X (.Call (.Name x p) [a, b] [] pos) (tE A W cf fr (.prim op es)) := by
  subst hA
  have pa := ha.pa rfl hx
  obtain ⟨e, f, rfl, h1, pl1, h2, pl2⟩ := ha.i2
  have st := star_cons (env := X.env) (es := [b]) pl1
  have sp : (backTo pos (starEach [b] X.env)).any (·.1) = false := star_plain (by rw [List.all_cons, pl2]; rfl)
  have go : ∀ {g : Sto → List PV → Option PV} {n : Str} {id : String}, CallR X (.builtin id) (rN A fr g) → c.isB n x = true → n ∈ bltN → bootBuiltins n = some (.builtin id) → n ≠ "__name__" → (n == ("__debug__" : Str)) = false →
      (∀ st ps pv, prim A.T.P st op ps = some pv → g st ps = some pv) → PE X (.Call (.Name x p) [a, b] [] pos) (tE A W cf fr (.prim op (.cons e (.cons f .nil)))) := by
    intro g n id hc hb hn hv h1 h2 hg
    obtain ⟨rfl, g1, g2⟩ := isB_ok o hb hn
    refine (pe_callB hc g1 g2 hv pa h1 h2 st sp).imp fun σ H Q q => ?_
    refine (tE_prim q).mono fun vs H1 h => ?_
    obtain ⟨F, θ, σ, ρ, st, ps, pv, s, b, e, fin⟩ := h
    exact ⟨F, θ, σ, ρ, st, ps, pv, s, b, hg _ _ _ e, fin⟩
  unfold b2 at hb
  split at hb <;> first | (cases hb; done) | skip
  · rw [Bool.and_eq_true] at hb
    exact go (cr_maxP (o.calm hb.1)) hb.2 (by decide) (by decide +kernel) (by decide) (by decide) fun st ps pv h => by
      match ps, h with
      | [x, y], h => exact h
  · rw [Bool.and_eq_true] at hb
    exact go (cr_minP (o.calm hb.1)) hb.2 (by decide) (by decide +kernel) (by decide) (by decide) fun st ps pv h => by
      match ps, h with
      | [x, y], h => exact h
theorem boot_ty : ∀ t ∈ tyAll, (t : Str) ∈ bltN ∧ bootBuiltins (t : Str) = some (.type t) ∧ ((t : Str) != "__name__") = true ∧ ((t : Str) == ("__debug__" : Str)) = false := by decide +kernel
theorem isiPE {A : Act} (o : Ok T W X c) (hA : A.T = T) (hx : A.ex = ex) {fr : Bool} {op : Op} {es : Es} {x y : Str} {a : Expr} {p p2 pos : Pos} (hb : isShape c op x y = true) (ha : AllA T ex W X cf es [a]) :
    PE X (.Call (.Name x p) [a, .Name y p2] [] pos) (tE A W cf fr (.prim op es)) := by
  subst hA
  obtain ⟨e, rfl, h1, pl1⟩ := ha.i1
  unfold isShape at hb
  split at hb
  · rename_i t
    rw [Bool.and_eq_true, Bool.and_eq_true] at hb
    obtain ⟨⟨hb1, hb2⟩, hb3⟩ := hb
    have ht : t ∈ tyAll := by simpa using hb3
    obtain ⟨rfl, g1, g2⟩ := isB_ok o hb1 (by decide)
    obtain ⟨b1, b2, b3, b4⟩ := boot_ty t ht
    obtain ⟨rfl, g3, g4⟩ := isB_ok o hb2 b1
    have pt : PE X (.Name (t : Str) p2) (tC (.ty t)) := pe_bltn g3 g4 b2 rfl (by simpa using b3) b4
    have pa := pa_cons (h1 A rfl hx) (pa_cons pt pa_nil (star_cons (by rfl))) (star_cons pl1)
    refine (pe_callB (cr_isI1 (A := A) (fr := fr) o.K ht) g1 g2 (by decide +kernel) pa (by decide) (by decide) (star_cons pl1) rfl).imp fun σ H Q q => ?_
    refine (tAs1 (tE_prim q)).mono fun v H1 h => ?_
    refine ⟨v, rfl, ?_⟩
    obtain ⟨F, θ, σ, ρ, st, ps, pv, s, b, e, fin⟩ := h
    match ps, b, e with
    | [px], b, e => exact ⟨F, θ, σ, ρ, st, [px], pv, s, b, e, fin⟩
  · cases hb
theorem primPE {A : Act} (o : Ok T W X c) (hA : A.T = T) (hx : A.ex = ex) {fr : Bool} {op : Op} {es : Es} {ast : Expr} {xs : List Expr} (hs : shape c op ast = some xs) (ha : AllA T ex W X cf es xs) (hf : fr = true → freshOp op = true) (hq : primQ op es = true) :
    PE X ast (tE A W cf fr (.prim op es)) := by
  have hs0 := hs
  unfold shape at hs
  split at hs
  · split at hs
    · rename_i hb
      cases hs
      obtain ⟨e, f, rfl, h1, _, h2, _⟩ := ha.i2
      obtain ⟨g, r, hg⟩ := bop_ok (fr := fr) o hA hb
      exact (pe_op r (h1 A hA hx) (h2 A hA hx)).imp (op2 hA hg)
    · cases hs
  · split at hs
    · rename_i hb
      cases hb
      cases hs
      obtain ⟨e, rfl, h1, _⟩ := ha.i1
      exact (pe_un (un_negP (fr := fr)) (h1 A hA hx)).imp fun σ H Q q => (tAs1 (tE_prim q)).mono fun v H1 h => h.r1 fun st px pv e => e
    · cases hs
  · exact (cmpPE o hA hx hs0 ha).1
  · split at hs
    · split at hs
      · rename_i hb
        cases hb
        cases hs
        obtain ⟨e, f, rfl, h1, _, h2, _⟩ := ha.i2
        refine (pe_slice (sl_P (fr := fr) (by rw [hA]; exact o.K)) (h1 A hA hx) (po_some (h2 A hA hx)) po_none).imp fun σ H Q q => ?_
        have := sl_i1 (lo := true) rfl σ H Q q
        simpa using this
      · cases hs
    · split at hs
      · rename_i hb
        cases hb
        cases hs
        obtain ⟨e, f, rfl, h1, _, h2, _⟩ := ha.i2
        refine (pe_slice (sl_P (fr := fr) (by rw [hA]; exact o.K)) (h1 A hA hx) po_none (po_some (h2 A hA hx))).imp fun σ H Q q => ?_
        have := sl_i1 (lo := false) rfl σ H Q q
        simpa using this
      · cases hs
    · split at hs
      · rename_i hb
        cases hb
        cases hs
        obtain ⟨e, f, g, rfl, h1, _, h2, _, h3, _⟩ := ha.i3
        have hq' : (!isBor f && quietE g) = true := hq
        rw [Bool.and_eq_true] at hq'
        refine (pe_slice (sl_P (fr := fr) (by rw [hA]; exact o.K)) (h1 A hA hx) (po_some (h2 A hA hx)) (po_some (h3 A hA hx))).imp fun σ H Q q => ?_
        exact sl_i2 (by simpa using hq'.1) hq'.2 σ H Q q
      · cases hs
    · split at hs
      · rename_i hb
        cases hb
        cases hs
        obtain ⟨e, rfl, h1, _⟩ := ha.i1
        exact (pe_slice (sl_P (fr := fr) (by rw [hA]; exact o.K)) (h1 A hA hx) po_none po_none).imp sl_i3
      · cases hs
    · split at hs
      · rename_i hb
        rw [Bool.and_eq_true] at hb
        obtain ⟨hb1, hb2⟩ := hb
        have hb1 : op = .idx := by simpa using hb1
        subst hb1
        cases hs
        have hfr : fr = false := by
          cases fr with
          | false => rfl
          | true => exact absurd (hf rfl) (by simp [freshOp])
        subst hfr
        obtain ⟨e, f, rfl, h1, _, h2, _⟩ := ha.i2
        refine (pe_ix (ix_P (A := A) (by rw [hA]; exact o.K) o.units) (h1 A hA hx) (h2 A hA hx) (ix_ok hb2)).imp fun σ H Q q => ?_
        refine (tAs2 (tE_prim q)).mono fun v H1 h => tG.mono h fun u H2 h => ?_
        obtain ⟨F, θ, σ, ρ, st, ps, pv, s, b, e, fin⟩ := h
        match ps, b, e with
        | [px, py], b, e => exact ⟨F, θ, σ, ρ, st, px, py, pv, s, b.1, b.2.1, e, FinR_fin s fin⟩
      · cases hs
  · exact call1PE o hA hx hs0 ha
  · split at hs
    · rename_i hb
      cases hs
      exact call2PE o hA hx hb ha
    · split at hs
      · split at hs
        · rename_i hb
          cases hs
          exact isiPE o hA hx hb ha
        · cases hs
      · cases hs
  · cases hs
/-- a test of an operation -/
theorem primPT {A : Act} (o : Ok T W X c) (hA : A.T = T) (hx : A.ex = ex) {fr : Bool} {op : Op} {es : Es} {ast : Expr} {xs : List Expr} (hs : shape c op ast = some xs) (ha : AllA T ex W X cf es xs) (hf : fr = true → freshOp op = true) (hq : primQ op es = true) :
    PT X ast (tTest (tE A W cf fr (.prim op es))) := by
  have pe := primPE o hA hx hs ha hf hq
  by_cases h : plainTest ast = true
  · exact pt_val pe (test_ok h)
  · cases ast <;> first | exact absurd rfl h | skip
    · unfold shape at hs; cases hs
    · rename_i u e p
      cases u <;> first | exact absurd rfl h | skip
      unfold shape at hs; cases hs
    · unfold shape at hs; cases hs
    · rename_i a ps bs p
      match ps, bs, hs with
      | [q], [b], hs => exact (cmpPE o hA hx hs ha).2
end
end PB

end
section
set_option Elab.async false
set_option linter.all false
set_option maxRecDepth 100000
set_option exponentiation.threshold 10000
/-! PB14: names, constants, fields, tests, displays. -/
namespace PB
open PySem L2 PySem.Calls PyProof.Rows

section
variable {T : Tab} {ex : Option (Addr × Value × Option Addr)} {W : WX} {X : Cx} {c : CE} {cf : CF} {A : Act} {fr : Bool}
def constOk : PV → Expr → Bool
  | .non, .Constant .none _ _ => true
  | .bl b, .Constant (.bool b') _ _ => b == b'
  | .int i, .Constant (.int j) _ _ => i == j
  | .str t, .Constant (.str s) _ _ => txtEq s t
  | _, _ => false
theorem constPE {v : PV} {ast : Expr} (h : constOk v ast = true) : PE X ast (tE A W cf fr (.const v)) := by
  have go : ∀ {w : V}, PE X ast (tC w) → contP v = false → (∀ F θ H, Rep A.T F θ H w v) → PE X ast (tE A W cf fr (.const v)) := fun {w} pe hc r => pe.imp fun σ H Q q => by
    obtain ⟨F, θ, ρ, st, s, p⟩ := q
    unfold evE at p
    exact Fin.sc (fr := fr) p s (r F θ H) hc
  unfold constOk at h
  split at h
  · exact go pe_non rfl fun _ _ _ => .non
  · have := beq_iff_eq.mp h
    subst this
    exact go pe_bl rfl fun _ _ _ => .bl _
  · have := beq_iff_eq.mp h
    subst this
    exact go pe_int rfl fun _ _ _ => .int _
  · obtain rfl := txtEq_ok h
    exact go pe_str rfl fun _ _ _ => .str _
  · cases h
def nameOk (c : CE) (i : Nat) (x : Str) : Bool := (match c.N[i]? with
  | some y => y == x
  | none => false) && c.isV x && !(x == "__debug__") && !(x == "__classdict__")
theorem nameOk_ok (o : Ok T W X c) {i : Nat} {x : Str} {p : Pos} (h : nameOk c i x = true) : PE X (.Name x p) (tVar i) ∧ X.N[i]? = some x ∧ c.isV x = true := by
  unfold nameOk at h
  simp only [Bool.and_eq_true] at h
  obtain ⟨⟨⟨h1, h2⟩, h3⟩, h4⟩ := h
  have e : X.N[i]? = some x := by
    rw [o.N]
    split at h1
    · rename_i y e
      rw [e, beq_iff_eq.mp h1]
    · cases h1
  exact ⟨pe_var e (o.vis h2) (by simpa using h3) (by simpa using h4), e, h2⟩
theorem slotPE (o : Ok T W X c) {i : Nat} {x : Str} {p : Pos} (h : nameOk c i x = true) : PE X (.Name x p) (tE A W cf false (.slot i)) :=
  (nameOk_ok o h).1.imp fun σ H Q q => by
    obtain ⟨F, θ, ρ, st, s, p⟩ := q
    unfold evE at p
    split at p
    · rename_i v hv
      obtain ⟨x, h1, h2⟩ := s.rs i _ hv
      exact ⟨x, h1, p x F θ H .refl s (by simpa [cM] using h2)⟩
    · rename_i v hv
      obtain ⟨F', x, e, s', h1, h2⟩ := s.freezeS hv
      exact ⟨x, h1, p x F' θ H e s' (by simpa [cM] using h2)⟩
    · exact p.elim
theorem borPE (o : Ok T W X c) {i : Nat} {x : Str} {p : Pos} (h : nameOk c i x = true) : PE X (.Name x p) (tA A W cf (.bor i)) :=
  (nameOk_ok o h).1.imp fun σ H Q q => by
    obtain ⟨F, θ, ρ, st, s, p⟩ := q
    unfold evE at p
    split at p
    · rename_i v hv
      obtain ⟨x, h1, h2⟩ := s.rs i _ hv
      exact ⟨x, h1, p x F θ H .refl s h1⟩
    · rename_i v hv
      obtain ⟨x, h1, h2⟩ := s.rs i _ hv
      exact ⟨_, h1, p _ F θ H .refl s h1⟩
    · exact p.elim
/-- a name's own thing is given away -/
theorem movPE (o : Ok T W X c) {i : Nat} {x : Str} {p : Pos} (h : nameOk c i x = true) : PE X (.Name x p) (tE A W cf true (.mov i)) :=
  (nameOk_ok o h).1.imp fun σ H Q q => by
    obtain ⟨F, θ, ρ, st, s, p⟩ := q
    unfold evE at p
    split at p
    · rename_i v hv
      obtain ⟨a, h1, h2, h3, h4, h5⟩ := s.rs i _ hv
      have hl : i < ρ.length := (List.getElem?_eq_some_iff.mp hv).1
      have s1 : SR A F θ H σ (ρ.set i .un) st := s.slots (by rw [List.length_set]) fun j sl q => by
        by_cases z : i = j
        · subst z
          rw [List.getElem?_set_self hl] at q
          cases q
          exact .inl rfl
        · rw [List.getElem?_set_ne z] at q; exact .inr q
      refine ⟨_, h1, p _ F θ H .refl s1 ?_⟩
      show NRep A F θ H σ (ρ.set i .un) (.ref a) v
      refine .inr ⟨a, rfl, h2, h3, h4, h5, fun j ⟨w, hw⟩ e => ?_⟩
      by_cases z : i = j
      · subst z
        rw [List.getElem?_set_self hl] at hw
        cases hw
      · rw [List.getElem?_set_ne z] at hw
        exact z (s.ow i j a ⟨v, hv⟩ ⟨w, hw⟩ h1 e)
    · exact p.elim
def globOk (c : CE) (g : Nat) (x : Str) : Bool := c.isG x && (c.gl.lookup x == some (.val g)) && !(x == "__debug__")
theorem globPE (o : Ok T W X c) (hA : A.T = T) {g : Nat} {x : Str} {p : Pos} (h : globOk c g x = true) : PE X (.Name x p) (tE A W cf fr (.glob g)) := by
  subst hA
  unfold globOk at h
  simp only [Bool.and_eq_true] at h
  obtain ⟨⟨h1, h2⟩, h3⟩ := h
  obtain ⟨v, u, e1, e2, e3⟩ := o.gv x g (beq_iff_eq.mp h2)
  refine (pe_glob (o.gl h1) e1 e2 (by simpa using h3)).imp fun σ H Q q => ?_
  obtain ⟨F, θ, ρ, st, s, p⟩ := q
  unfold evE at p
  split at p
  · rename_i pv hp
    obtain ⟨k1, k2⟩ := e3 pv hp
    exact Fin.sc (fr := fr) p s (k2 F θ H) k1
  · exact p.elim
/-- a value that is handed on as it is -/
theorem Post.same {F : Addr → Prop} {θ : List Addr} {H : Hp} {σ : L2.St} {ρ : REnv} {st : Sto} {v : PV} {Q : VK} {x : V} (p : Post A W (cM A false σ) F θ H σ (.ok v ρ st) Q) (s : SR A F θ H σ ρ st) (r : Rep A.T F θ H x v) : Q x H :=
  p x F θ H .refl s (by simpa [cM] using r)
theorem bool_rep {F : Addr → Prop} {θ : List Addr} {H : Hp} {x : V} {b : Bool} (h : Rep A.T F θ H x (.bl b)) : x = .bl b := by cases h; rfl
/-- one operand that may be borrowed: what it stands for, right behind it -/
theorem tA_bind {e : E} {F : Addr → Prop} {θ : List Addr} {H : Hp} {σ : L2.St} {ρ : REnv} {st : Sto} {α β : Type} {C : Cnd α β} {f : PV → REnv → Sto → Res α} {Q : β → Hp → Prop} (s : SR A F θ H σ ρ st) (p : Post A W C F θ H σ ((evE A.T.P cf e ρ st).bind f) Q) :
    tA A W cf e σ H fun v H1 => ∃ F1 θ1 ρ1 st1 a, Ext F θ H F1 θ1 H1 ∧ SR A F1 θ1 H1 σ ρ1 st1 ∧ BRep A F1 θ1 H1 v a ∧ Post A W C F1 θ1 H1 σ (f a ρ1 st1) Q := by
  cases hb : isBor e with
  | false =>
    refine (Post.bind (C1 := cA A e) s p).mono fun v H1 ⟨F1, θ1, ρ1, st1, a, x1, s1, c1, p1⟩ => ?_
    exact ⟨F1, θ1, ρ1, st1, a, x1, s1, .inl (cA_rep hb c1), p1⟩
  | true =>
    cases e <;> first | (cases hb; done) | skip
    rename_i i
    refine ⟨F, θ, ρ, st, s, ?_⟩
    unfold evE at p ⊢
    split at p
    · rename_i v hv
      exact fun b F1 θ1 H1 x1 s1 c1 => ⟨F1, θ1, ρ, st, v, x1, s1, slot_brep s1 c1 (.inl hv), Post.ext p x1⟩
    · rename_i v hv
      exact fun b F1 θ1 H1 x1 s1 c1 => ⟨F1, θ1, ρ, st, v, x1, s1, slot_brep s1 c1 (.inr hv), Post.ext p x1⟩
    · exact p.elim
theorem fldPE (o : Ok T W X c) (hA : A.T = T) {e : E} {f : Nat} {ast : Expr} {nm : Str} {p : Pos} (he : PE X ast (tA A W cf e)) (hf : c.an[f]? = some nm) (hb : plainBase ast = true) : PE X (.Attribute ast nm p) (tE A W cf false (.fld e f)) := by
  subst hA
  refine (pe_fld he (base_ok hb)).imp fun σ H Q q => ?_
  obtain ⟨F, θ, ρ, st, s, p⟩ := q
  unfold evE at p
  refine (tA_bind s p).mono fun v H1 ⟨F1, θ1, ρ1, st1, a, x1, s1, c1, p1⟩ => ?_
  have nd : A.T.an.Nodup := by rw [o.an]; exact o.and_
  have hf' : A.T.an[f]? = some nm := by rw [o.an]; exact hf
  split at p1
  · rename_i w hw
    have key : ∃ k fs, de st1 a = .obj k fs ∧ fget f fs = some w := by
      revert hw
      cases de st1 a <;> intro hw <;> first | (cases hw; done) | exact ⟨_, _, rfl, hw⟩
    obtain ⟨k, fs, e1, e2⟩ := key
    have br := c1.de s1 (.inl (by rw [e1]; simp))
    rw [e1] at br
    obtain ⟨ad, dx, vfs, rfl, h1, h2⟩ := br.obj
    obtain ⟨u, h3, h4⟩ := h2.get nd hf' e2
    obtain ⟨k1, k2⟩ := o.fl f nm hf k
    exact ⟨ad, _, dx, vfs, u, rfl, h1, k1, k2, h3, p1.same s1 h4⟩
  · exact p1.elim
/-! ### and, or, not, if -/
theorem andT {a b : E} {σ : L2.St} {H : Hp} {Q : VK} (q : tE A W cf false (.and a b) σ H Q) : tAndV (tE A W cf false a) (tE A W cf false b) σ H Q := by
  obtain ⟨F, θ, ρ, st, s, p⟩ := q
  unfold evE at p
  refine (Post.bind (C1 := cM A false) s p).mono fun v H1 ⟨F1, θ1, ρ1, st1, w, x1, s1, c1, p1⟩ => ?_
  replace c1 : Rep A.T F1 θ1 H1 v w := by simpa [cM] using c1
  split at p1
  · obtain rfl := bool_rep c1
    exact ⟨true, rfl, F1, θ1, ρ1, st1, s1, p1⟩
  · obtain rfl := bool_rep c1
    exact ⟨false, rfl, p1.same s1 (.bl _)⟩
  · exact p1.elim
theorem orT {a b : E} {σ : L2.St} {H : Hp} {Q : VK} (q : tE A W cf false (.or a b) σ H Q) : tOrV (tE A W cf false a) (tE A W cf false b) σ H Q := by
  obtain ⟨F, θ, ρ, st, s, p⟩ := q
  unfold evE at p
  refine (Post.bind (C1 := cM A false) s p).mono fun v H1 ⟨F1, θ1, ρ1, st1, w, x1, s1, c1, p1⟩ => ?_
  replace c1 : Rep A.T F1 θ1 H1 v w := by simpa [cM] using c1
  split at p1
  · obtain rfl := bool_rep c1
    exact ⟨true, rfl, p1.same s1 (.bl _)⟩
  · obtain rfl := bool_rep c1
    exact ⟨false, rfl, F1, θ1, ρ1, st1, s1, p1⟩
  · exact p1.elim
theorem notT {a : E} {σ : L2.St} {H : Hp} {Q : VK} (q : tE A W cf false (.not a) σ H Q) : tNotV (tE A W cf false a) σ H Q := by
  obtain ⟨F, θ, ρ, st, s, p⟩ := q
  unfold evE at p
  refine (Post.bind (C1 := cM A false) s p).mono fun v H1 ⟨F1, θ1, ρ1, st1, w, x1, s1, c1, p1⟩ => ?_
  replace c1 : Rep A.T F1 θ1 H1 v w := by simpa [cM] using c1
  split at p1
  · obtain rfl := bool_rep c1
    exact ⟨_, rfl, p1.same s1 (.bl _)⟩
  · exact p1.elim
theorem iteT {e a b : E} {σ : L2.St} {H : Hp} {Q : VK} (q : tE A W cf fr (.ite e a b) σ H Q) : tIf (tTest (tE A W cf false e)) (tE A W cf fr a) (tE A W cf fr b) σ H Q := by
  obtain ⟨F, θ, ρ, st, s, p⟩ := q
  unfold evE at p
  refine (Post.bind (C1 := cM A false) s p).mono fun v H1 ⟨F1, θ1, ρ1, st1, w, x1, s1, c1, p1⟩ => ?_
  replace c1 : Rep A.T F1 θ1 H1 v w := by simpa [cM] using c1
  split at p1
  · obtain rfl := bool_rep c1
    exact ⟨true, rfl, F1, θ1, ρ1, st1, s1, p1⟩
  · obtain rfl := bool_rep c1
    exact ⟨false, rfl, F1, θ1, ρ1, st1, s1, p1⟩
  · exact p1.elim
/-- .. as tests -/
theorem andP {a b : E} {σ : L2.St} {H : Hp} {Q : Bool → Hp → Prop} (q : tTest (tE A W cf false (.and a b)) σ H Q) : tAnd (tTest (tE A W cf false a)) (tTest (tE A W cf false b)) σ H Q := by
  refine tG.mono (andT q) fun v H1 ⟨k, e, h⟩ => ⟨k, e, ?_⟩
  cases k with
  | true => exact h
  | false =>
    obtain ⟨k', e', h'⟩ := h
    cases e'
    exact h'
theorem orP {a b : E} {σ : L2.St} {H : Hp} {Q : Bool → Hp → Prop} (q : tTest (tE A W cf false (.or a b)) σ H Q) : tOr (tTest (tE A W cf false a)) (tTest (tE A W cf false b)) σ H Q := by
  refine tG.mono (orT q) fun v H1 ⟨k, e, h⟩ => ⟨k, e, ?_⟩
  cases k with
  | true =>
    obtain ⟨k', e', h'⟩ := h
    cases e'
    exact h'
  | false => exact h
theorem notP {a : E} {σ : L2.St} {H : Hp} {Q : Bool → Hp → Prop} (q : tTest (tE A W cf false (.not a)) σ H Q) : tNot (tTest (tE A W cf false a)) σ H Q := by
  refine tG.mono (notT q) fun v H1 ⟨k, e, h⟩ => ⟨k, e, ?_⟩
  obtain ⟨k', e', h'⟩ := h
  cases e'
  exact h'
/-- a if t else b, as a test -/
theorem pt_ifExp {t a b : Expr} {pos : Pos} {tt ta tb : TT} (h1 : PT X t tt) (h2 : PT X a ta) (h3 : PT X b tb) : PT X (.IfExp t a b pos) (fun σ H Q => tt σ H fun k H1 => if k = true then ta σ H1 Q else tb σ H1 Q) := by
  refine ⟨fun pins s σ H Q I h => ?_⟩
  have : isTrue (.IfExp t a b pos) X.env (eval (.IfExp t a b pos) X.env) = (do if ← isTrue t X.env (eval t X.env) then isTrue a X.env (eval a X.env) else isTrue b X.env (eval b X.env)) := rfl
  rw [this]
  refine wpAny_bind (thn (h1.run pins s σ H _ I h) fun k s1 ⟨H1, I1, q1⟩ => ?_)
  cases k with
  | true => exact h2.run pins s1 σ H1 Q I1 q1
  | false => exact h3.run pins s1 σ H1 Q I1 q1
theorem iteP {e a b : E} {σ : L2.St} {H : Hp} {Q : Bool → Hp → Prop} (q : tTest (tE A W cf false (.ite e a b)) σ H Q) : tTest (tE A W cf false e) σ H fun k H1 => if k = true then tTest (tE A W cf false a) σ H1 Q else tTest (tE A W cf false b) σ H1 Q := by
  refine tG.mono (iteT q) fun v H1 ⟨k, e, h⟩ => ⟨k, e, ?_⟩
  cases k with
  | true => exact h
  | false => exact h
/-! ### a chain of two comparisons -/
theorem chainT (hA : A.T = T) {o1 o2 : Op} {a b e : E} {g1 g2 : Sto → PV → PV → Option PV} (h1 : ∀ st px py pv, prim A.T.P st o1 [px, py] = some pv → g1 st px py = some pv) (h2 : ∀ st px py pv, prim A.T.P st o2 [px, py] = some pv → g2 st px py = some pv) {σ : L2.St} {H : Hp} {Q : VK}
    (q : tE A W cf false (.chain o1 o2 a b e) σ H Q) : tChain (r2 A false g1) (r2 A false g2) (tE A W cf false a) (tE A W cf false b) (tE A W cf false e) σ H Q := by
  obtain ⟨F, θ, ρ, st, s, p⟩ := q
  unfold evE at p
  refine (Post.bind (C1 := cM A false) s p).mono fun v H1 ⟨F1, θ1, ρ1, st1, w, x1, s1, c1, p1⟩ => ?_
  replace c1 : Rep A.T F1 θ1 H1 v w := by simpa [cM] using c1
  refine (Post.bind (C1 := cM A false) s1 p1).mono fun u H2 ⟨F2, θ2, ρ2, st2, y, x2, s2, c2, p2⟩ => ?_
  replace c2 : Rep A.T F2 θ2 H2 u y := by simpa [cM] using c2
  split at p2
  · rename_i hp
    refine ⟨F2, θ2, σ, ρ2, st2, w, y, _, s2, .inl (c1.ext x2), .inl c2, h1 _ _ _ _ hp, ?_⟩
    intro z F3 θ3 H3 x3 s3 c3
    replace c3 : Rep A.T F3 θ3 H3 z (.bl true) := by simpa using c3
    obtain rfl := bool_rep c3
    refine ⟨true, rfl, ?_⟩
    show tE A W cf false e σ H3 _
    refine (Post.bind (C1 := cM A false) s3 (Post.ext p2 x3)).mono fun z H4 ⟨F4, θ4, ρ4, st4, q, x4, s4, c4, p4⟩ => ?_
    replace c4 : Rep A.T F4 θ4 H4 z q := by simpa [cM] using c4
    split at p4
    · rename_i pv hp2
      exact ⟨F4, θ4, σ, ρ4, st4, y, q, pv, s4, .inl ((c2.ext x3).ext x4), .inl c4, h2 _ _ _ _ hp2, p4⟩
    · exact p4.elim
  · rename_i hp
    refine ⟨F2, θ2, σ, ρ2, st2, w, y, _, s2, .inl (c1.ext x2), .inl c2, h1 _ _ _ _ hp, ?_⟩
    intro z F3 θ3 H3 x3 s3 c3
    replace c3 : Rep A.T F3 θ3 H3 z (.bl false) := by simpa using c3
    obtain rfl := bool_rep c3
    exact ⟨false, rfl, p2.ext x3 |>.same s3 (.bl _)⟩
  · exact p2.elim
end
end PB

end
section
set_option Elab.async false
set_option linter.all false
set_option maxRecDepth 100000
set_option exponentiation.threshold 10000
/-! PB15: displays; a thing that is made while others are evaluated. -/
namespace PB
open PySem L2 PySem.Calls PyProof.Rows

/-- the activation, a thing at p seen as one of the outer ones -/
def Act.pend (A : Act) (p : Addr) (o : HO) : Act := { A with H0 := upd A.H0 p o }
/-- nobody's thing at p -/
structure Free (A : Act) (F : Addr → Prop) (θ : List Addr) (σ : L2.St) (ρ : REnv) (p : Addr) : Prop where
  f : ¬ F p
  t : p ∉ θ
  n : A.H0 p = none
  o : ∀ j, isOw ρ j → σ[j]? ≠ some (some (.ref p))
section
variable {A : Act} {F F' : Addr → Prop} {θ θ' : List Addr} {H H' : Hp} {σ : L2.St} {ρ : REnv} {st : Sto} {p : Addr} {o o' : HO}
theorem SR.pend (s : SR A F θ H σ ρ st) (fr : Free A F θ σ ρ p) (h : H p = some o) : SR (A.pend p o) F θ H σ ρ st := by
  have ne : ∀ {a : Addr}, a ≠ p → (A.pend p o).H0 a = A.H0 a := fun h => upd_ne h
  have nf0 : ¬ A.F0 p := fun z => fr.f (s.f0 p z)
  have nt0 : p ∉ A.θ0 := fun z => by
    obtain ⟨i, hi⟩ := List.getElem?_of_mem z
    exact fr.t (List.mem_of_getElem? (s.t0 i p hi))
  refine ⟨⟨s.so.nd, s.so.tf, s.so.ts, s.so.sl, s.so.so, s.so.fs⟩, s.f0, fun a ha => ?_, fun a ha => ?_, fun a u h1 h2 h3 => ?_, s.t0, fun a ha => ?_, s.le, fun i sl h => ?_, s.ow⟩
  · rcases s.fn a ha with q | q
    · exact .inl q
    · exact .inr ((ne fun z => fr.f (z ▸ ha)).trans q)
  · rw [ne fun (z : a = p) => nf0 (z ▸ ha)]
    exact s.lk a ha
  · by_cases z : a = p
    · subst z
      rw [show (A.pend a o).H0 a = some o from upd_same] at h1
      cases h1
      exact h
    · rw [ne z] at h1
      exact s.kp a u h1 h2 h3
  · rcases s.tn a ha with q | q
    · exact .inl q
    · exact .inr ((ne fun z => fr.t (z ▸ ha)).trans q)
  · have hs := s.rs i sl h
    cases sl with
    | un => trivial
    | fz v => exact hs
    | ow v =>
      obtain ⟨a, h1, h2, h3, h4, h5⟩ := hs
      exact ⟨a, h1, h2, h3, h4, (ne fun z => fr.o i ⟨v, h⟩ (by rw [h1, z])).trans h5⟩
    | ex c fs => exact hs
theorem SR.unpend (s : SR (A.pend p o) F θ H σ ρ st) (n0 : A.H0 p = none) (nF : ¬ A.F0 p) (nT : p ∉ A.θ0) : SR A F θ H σ ρ st ∧ H p = some o ∧ Free A F θ σ ρ p := by
  have ne : ∀ {a : Addr}, a ≠ p → (A.pend p o).H0 a = A.H0 a := fun h => upd_ne h
  have at_ : (A.pend p o).H0 p = some o := upd_same
  have nf : ¬ F p := fun z => by
    rcases s.fn p z with q | q
    · exact nF q
    · rw [at_] at q; cases q
  have nt : p ∉ θ := fun z => by
    rcases s.tn p z with q | q
    · exact nT q
    · rw [at_] at q; cases q
  refine ⟨⟨⟨s.so.nd, s.so.tf, s.so.ts, s.so.sl, s.so.so, s.so.fs⟩, s.f0, fun a ha => ?_, fun a ha => ?_, fun a u h1 h2 h3 => ?_, s.t0, fun a ha => ?_, s.le, fun i sl h => ?_, s.ow⟩, s.kp p o at_ nF nT, nf, nt, n0, fun j ⟨v, hv⟩ z => ?_⟩
  · rcases s.fn a ha with q | q
    · exact .inl q
    · exact .inr ((ne fun z => nf (z ▸ ha)).symm.trans q)
  · have := s.lk a ha
    rw [ne fun (z : a = p) => nF (z ▸ ha)] at this
    exact this
  · exact s.kp a u ((ne fun z => by rw [z, n0] at h1; cases h1).trans h1) h2 h3
  · rcases s.tn a ha with q | q
    · exact .inl q
    · exact .inr ((ne fun z => nt (z ▸ ha)).symm.trans q)
  · have hs := s.rs i sl h
    cases sl with
    | un => trivial
    | fz v => exact hs
    | ow v =>
      obtain ⟨a, h1, h2, h3, h4, h5⟩ := hs
      refine ⟨a, h1, h2, h3, h4, (ne fun z => ?_).symm.trans h5⟩
      rw [z, at_] at h5; cases h5
    | ex c fs => exact hs
  · obtain ⟨a, h1, _, _, _, h5⟩ := s.rs j _ hv
    rw [z] at h1
    cases h1
    rw [at_] at h5; cases h5
/-- nobody's thing is changed -/
theorem SR.poke (s : SR A F θ H σ ρ st) (fr : Free A F θ σ ρ p) : SR A F θ (upd H p o) σ ρ st := by
  have e : Ext F θ H F θ (upd H p o) := .upd fr.f
  refine ⟨⟨s.so.nd, s.so.tf, fun a ha => ?_, s.so.sl, fun i a v h1 h2 => ?_, fun a ha => ?_⟩, s.f0, s.fn, fun a ha => ?_, fun a u h1 h2 h3 => ?_, s.t0, s.tn, s.le, fun i sl h => (s.rs i sl h).ext e fun a v e1 e2 => ?_, s.ow⟩
  · rw [upd_ne fun (z : a = p) => fr.t (z ▸ ha)]
    exact s.so.ts a ha
  · exact (s.so.so i a v h1 h2).ext e (upd_ne fun z => fr.t (z ▸ List.mem_of_getElem? h1))
  · rw [upd_ne fun (z : a = p) => fr.f (z ▸ ha)]
    exact s.so.fs a ha
  · rw [upd_ne fun (z : a = p) => fr.f (z ▸ s.f0 a ha)]
    exact s.lk a ha
  · rw [upd_ne fun z => by rw [z, fr.n] at h1; cases h1]
    exact s.kp a u h1 h2 h3
  · have hs := s.rs i sl h
    rw [e1] at hs
    obtain ⟨b, h1, h2, h3, h4, _⟩ := hs
    rw [e2] at h1
    cases h1
    exact ⟨upd_ne fun z => fr.o i ⟨v, by rw [h, e1]⟩ (by rw [e2, z]), h3, h4⟩
theorem SR.freeN (s : SR A F θ H σ ρ st) (n : H p = none) : Free A F θ σ ρ p := ⟨s.newF n, s.newT n, s.new0 n, s.newO n⟩
theorem Free.f0 (fr : Free A F θ σ ρ p) (s : SR A F θ H σ ρ st) : ¬ A.F0 p := fun z => fr.f (s.f0 p z)
theorem Free.t0 (fr : Free A F θ σ ρ p) (s : SR A F θ H σ ρ st) : p ∉ A.θ0 := fun z => by
  obtain ⟨i, hi⟩ := List.getElem?_of_mem z
  exact fr.t (List.mem_of_getElem? (s.t0 i p hi))
theorem NRep.of (fr : Free A F θ σ ρ p) {pv : PV} (ob : ObjAt A.T F θ H p pv) : NRep A F θ H σ ρ (.ref p) pv := .inr ⟨p, rfl, ob, fr.f, fr.t, fr.n, fr.o⟩
end

/-- a new thing goes to the store -/
theorem SR.store {A : Act} {F : Addr → Prop} {θ : List Addr} {H : Hp} {σ : L2.St} {ρ : REnv} {st : Sto} {p : Addr} {pv : PV} (s : SR A F θ H σ ρ st) (fr : Free A F θ σ ρ p) (ob : ObjAt A.T F θ H p pv) : SR A F (θ ++ [p]) H σ ρ (st ++ [pv]) ∧ Ext F θ H F (θ ++ [p]) H ∧ Rep A.T F (θ ++ [p]) H (.ref p) (.ref st.length) := by
  have e : Ext F θ H F (θ ++ [p]) H := ⟨fun _ h => h, fun _ _ => .refl, fun i a h => by rw [List.getElem?_append_left (List.getElem?_eq_some_iff.mp h).1]; exact h⟩
  refine ⟨⟨⟨?_, fun a ha => ?_, fun a ha => ?_, ?_, fun i a v h1 h2 => ?_, s.so.fs⟩, s.f0, s.fn, s.lk, s.kp, fun i a h => e.t i a (s.t0 i a h), fun a ha => ?_, s.le, fun i sl h => (s.rs i sl h).ext e fun a v e1 e2 => ?_, s.ow⟩, e, ?_⟩
  · rw [List.nodup_append]
    exact ⟨s.so.nd, by simp, fun a ha b hb => by
      rw [List.mem_singleton] at hb
      subst hb
      exact fun z => fr.t (z ▸ ha)⟩
  · rcases List.mem_append.mp ha with q | q
    · exact s.so.tf a q
    · rw [List.mem_singleton.mp q]; exact fr.f
  · rcases List.mem_append.mp ha with q | q
    · exact s.so.ts a q
    · rw [List.mem_singleton.mp q]; exact ob.some
  · rw [List.length_append, List.length_append, s.so.sl]; rfl
  · by_cases hi : i < θ.length
    · rw [List.getElem?_append_left hi] at h1
      rw [List.getElem?_append_left (by rw [s.so.sl]; exact hi)] at h2
      exact (s.so.so i a v h1 h2).ext e rfl
    · have hi' : i = θ.length := by
        obtain ⟨q, _⟩ := List.getElem?_eq_some_iff.mp h1
        rw [List.length_append, List.length_singleton] at q
        omega
      subst hi'
      rw [List.getElem?_append_right (Nat.le_refl _)] at h1
      rw [List.getElem?_append_right (by rw [s.so.sl]; exact Nat.le_refl _)] at h2
      rw [s.so.sl] at h2
      simp only [Nat.sub_self, List.getElem?_cons_zero, Option.some.injEq] at h1 h2
      subst h1 h2
      exact ob.ext e rfl
  · rcases List.mem_append.mp ha with q | q
    · exact s.tn a q
    · rw [List.mem_singleton.mp q]; exact .inr fr.n
  · have hs := s.rs i sl h
    rw [e1] at hs
    obtain ⟨b, h1, h2, h3, h4, _⟩ := hs
    rw [e2] at h1
    cases h1
    refine ⟨rfl, h3, fun z => ?_⟩
    rcases List.mem_append.mp z with q | q
    · exact h4 q
    · exact fr.o i ⟨v, by rw [h, e1]⟩ (by rw [e2, List.mem_singleton.mp q])
  · refine .ref ?_
    rw [s.so.sl, List.getElem?_append_right (Nat.le_refl _)]
    simp
theorem cont_nr {A : Act} {F : Addr → Prop} {θ : List Addr} {H : Hp} {σ : L2.St} {ρ : REnv} {v : V} {pv : PV} (h : NRep A F θ H σ ρ v pv) (hc : contP pv = true) : ∃ p, v = .ref p ∧ ObjAt A.T F θ H p pv ∧ Free A F θ σ ρ p := by
  rcases h with ⟨h, _⟩ | ⟨p, h1, h2, h3, h4, h5, h6⟩
  · rw [hc] at h; cases h
  · exact ⟨p, h1, h2, h3, h4, h5, h6⟩

/-! ### displays -/
def esLen : Es → Nat
  | .nil => 0
  | .cons _ es => esLen es + 1
def noBor : Es → Bool
  | .nil => true
  | .cons e es => !isBor e && noBor es
section
variable {T : Tab} {ex : Option (Addr × Value × Option Addr)} {W : WX} {X : Cx} {c : CE} {cf : CF} {A : Act} {fr : Bool}
theorem cAs_len {σ : L2.St} {F : Addr → Prop} {θ : List Addr} {H : Hp} {ρ : REnv} : ∀ {es : Es} {vs : List V} {as : List PV}, cAs A es σ F θ H ρ vs as → vs.length = esLen es ∧ as.length = esLen es
  | .nil, [], [], _ => ⟨rfl, rfl⟩
  | .nil, [], _ :: _, h => h.elim
  | .nil, _ :: _, [], h => h.elim
  | .nil, _ :: _, _ :: _, h => h.elim
  | .cons _ _, [], [], h => h.elim
  | .cons _ _, [], _ :: _, h => h.elim
  | .cons _ _, _ :: _, [], h => h.elim
  | .cons e es, v :: vs, a :: as, h => by
    obtain ⟨h1, h2⟩ := cAs_len (es := es) h.2
    exact ⟨congrArg (· + 1) h1, congrArg (· + 1) h2⟩
theorem AllA.len : ∀ {es : Es} {xs : List Expr}, AllA T ex W X cf es xs → xs.length = esLen es
  | _, _, .nil => rfl
  | _, _, .cons _ _ h => congrArg (· + 1) h.len
theorem cAs_reps {σ : L2.St} {F : Addr → Prop} {θ : List Addr} {H : Hp} {ρ ρ' : REnv} : ∀ {es : Es} {vs : List V} {as : List PV}, noBor es = true → cAs A es σ F θ H ρ vs as → Reps A.T F θ H vs as ∧ fixB ρ' es as = some as
  | .nil, [], [], _, _ => ⟨.nil, by unfold fixB; rfl⟩
  | .nil, [], _ :: _, _, h => h.elim
  | .nil, _ :: _, [], _, h => h.elim
  | .nil, _ :: _, _ :: _, _, h => h.elim
  | .cons _ _, [], [], _, h => h.elim
  | .cons _ _, [], _ :: _, _, h => h.elim
  | .cons _ _, _ :: _, [], _, h => h.elim
  | .cons e es, v :: vs, a :: as, hb, h => by
    unfold noBor at hb
    rw [Bool.and_eq_true] at hb
    have hb1 : isBor e = false := by simpa using hb.1
    obtain ⟨h1, h2⟩ := cAs_reps (es := es) hb.2 h.2
    exact ⟨.cons (cA_rep hb1 h.1) h1, by rw [fixB_nb hb1, h2]; rfl⟩
theorem tE_primN {op : Op} {es : Es} {σ : L2.St} {H : Hp} {Q : VK} (hb : noBor es = true) (h : tE A W cf fr (.prim op es) σ H Q) : tAs A W cf es σ H fun vs H1 => vs.length = esLen es ∧ ∃ F θ ρ st ps pv, SR A F θ H1 σ ρ st ∧ Reps A.T F θ H1 vs ps ∧ prim A.T.P st op ps = some pv ∧ Fin A fr F θ H1 σ ρ st pv Q := by
  obtain ⟨F, θ, ρ, st, s, p⟩ := h
  unfold evE at p
  refine (Post.bind (C1 := cAs A es) s p).mono fun vs H1 ⟨F1, θ1, ρ1, st1, as, x, s1, c, p1⟩ => ?_
  obtain ⟨h1, h2⟩ := cAs_reps (ρ' := ρ1) hb c
  refine ⟨(cAs_len c).1, F1, θ1, ρ1, st1, as, ?_⟩
  rw [h2, Option.bind_some] at p1
  split at p1
  · rename_i pv hp
    exact ⟨pv, s1, h1, hp, p1⟩
  · exact p1.elim
theorem tupPE (hA : A.T = T) (hx : A.ex = ex) {es : Es} {xs : List Expr} {k : Nat} {p : Pos} (ha : AllA T ex W X cf es xs) (hb : noBor es = true) (hl : xs.length ≤ 1000) : PE X (.Tuple xs k p) (tE A W cf fr (.prim .mkT es)) :=
  (pe_tup (ha.pa hA hx)).imp fun σ H Q q => (tE_primN hb q).mono fun vs H1 ⟨h1, F, θ, ρ, st, ps, pv, s, r, e, fin⟩ => by
    cases e
    refine ⟨by rw [h1, ← ha.len, sizeLine_eq]; omega, fun p n => fin.tup s n r⟩
theorem lstPE (hA : A.T = T) (hx : A.ex = ex) {es : Es} {xs : List Expr} {p : Pos} (ha : AllA T ex W X cf es xs) (hb : noBor es = true) (hl : xs.length ≤ 1000) : PE X (.List xs p) (tE A W cf fr (.prim .mkL es)) :=
  (pe_lst (ha.pa hA hx)).imp fun σ H Q q => (tE_primN hb q).mono fun vs H1 ⟨h1, F, θ, ρ, st, ps, pv, s, r, e, fin⟩ => by
    cases e
    refine ⟨by rw [h1, ← ha.len, sizeLine_eq]; omega, fun p n => fin.new s n ⟨_, upd_same, r.ext (.upd (s.newF n))⟩⟩
theorem isCont_eq (v : PV) : isCont v = contP v := by cases v <;> rfl
theorem newPE {e : E} {ast : Expr} (h : PE X ast (tE A W cf true e)) : PE X ast (tE A W cf false (.new e)) := h.imp fun σ H Q q => by
  obtain ⟨F, θ, ρ, st, s, p⟩ := q
  unfold evE at p
  refine (Post.bind (C1 := cM A true) s p).mono fun v H1 ⟨F1, θ1, ρ1, st1, a, x1, s1, c1, p1⟩ => ?_
  split at p1
  · rename_i hc
    rw [isCont_eq] at hc
    obtain ⟨ad, rfl, ob, fr⟩ := cont_nr (show NRep A F1 θ1 H1 σ ρ1 v a from c1) hc
    obtain ⟨s2, e2, r2⟩ := s1.store fr ob
    exact p1 _ F1 _ H1 e2 s2 (by simpa [cM] using r2)
  · exact p1.elim
theorem dic0PE {p : Pos} : PE X (.Dict [] [] p) (tE A W cf fr (.prim .mkD .nil)) :=
  pe_dnewK.imp fun σ H Q q p n => by
    obtain ⟨F, θ, ρ, st, s, q⟩ := q
    unfold evE evEs at q
    exact Fin.new (fr := fr) (pv := .dic []) q s n ⟨_, upd_same, .nil⟩
end
end PB

end
section
set_option Elab.async false
set_option linter.all false
set_option maxRecDepth 100000
set_option exponentiation.threshold 10000
/-! PB16: what is walked. -/
namespace PB
open PySem L2 PySem.Calls PyProof.Rows RZ RT

def IterOk (T : Tab) (J : L2.It) (xs : List PV) (F : Addr → Prop) (θ : List Addr) (H : Hp) : Prop := ∃ G Y, Walk J xs.length G Y ∧ (∀ F' θ' H', Ext F θ H F' θ' H' → G H') ∧
  ∀ (A : Act) F' θ' H' σ ρ st i x H'', A.T = T → Ext F θ H F' θ' H' → SR A F' θ' H' σ ρ st → i < xs.length → Y i H' x H'' → ∃ F'' pv, xs[i]? = some pv ∧ Ext F' θ' H' F'' θ' H'' ∧ SR A F'' θ' H'' σ ρ st ∧ Rep T F'' θ' H'' x pv
section
variable {T : Tab} {F : Addr → Prop} {θ : List Addr} {H : Hp} {a b : Addr}
theorem pair_new {A : Act} (hA : A.T = T) {F : Addr → Prop} {θ : List Addr} {H : Hp} {σ : L2.St} {ρ : REnv} {st : Sto} {p : Addr} {vs : List V} {ps : List PV} (s : SR A F θ H σ ρ st) (n : H p = none) (r : Reps T F θ H vs ps) :
    ∃ F'', Ext F θ H F'' θ (upd H p (.tup vs)) ∧ SR A F'' θ (upd H p (.tup vs)) σ ρ st ∧ Rep T F'' θ (upd H p (.tup vs)) (.ref p) (.tup ps) := by
  have nF := s.newF n
  have s1 : SR A F θ (upd H p (.tup vs)) σ ρ st := s.lay n
  have s2 := s1.freeze ⟨_, upd_same⟩ (s.newT n) (s.new0 n) (s.newO n)
  have e : Ext F θ H (fun b => F b ∨ b = p) θ (upd H p (.tup vs)) := (Ext.upd nF).trans .freeze
  exact ⟨_, e, s2, .tup (.inl ⟨.inr rfl, .inl upd_same⟩) (r.ext e)⟩
theorem it_at {G : Hp → Prop} {J : L2.It} {vs : List V} {xs : List PV} (w : Walk J vs.length G (YAt vs)) (hg : ∀ F' θ' H', Ext F θ H F' θ' H' → G H') (r : Reps T F θ H vs xs) : IterOk T J xs F θ H := by
  refine ⟨G, YAt vs, by rw [← r.length]; exact w, hg, fun A F' θ' H' σ ρ st i x H'' hA e s hi y => ?_⟩
  obtain ⟨rfl, hx⟩ := y
  obtain ⟨pv, h1, h2⟩ := r.get hx
  exact ⟨F', pv, h1, .refl, s, h2.ext e⟩
theorem it_list {vs : List V} {xs : List PV} (h : H a = some (.lst vs)) (f : F a) (r : Reps T F θ H vs xs) : IterOk T (Itl T.K a) xs F θ H :=
  it_at walk_list (fun F' θ' H' e => .inl (.inl ((e.h a f).lst h))) r
theorem it_scr {ns : List Int} (h : (F a ∧ Rd H a (.lst (ns.map V.int))) ∨ WrL T.K a (ns.map V.int)) : IterOk T (Itl T.K a) (ns.map PV.int) F θ H :=
  it_at walk_list (fun F' θ' H' e => h.elim (fun q => .inl ((e.h a q.1).rd q.2)) .inr) (repsC_ints ns)
theorem it_tup {vs : List V} {xs : List PV} (h : (F a ∧ Rd H a (.tup vs)) ∨ WrT T.K a vs) (r : Reps T F θ H vs xs) : IterOk T (Itt T.K a) xs F θ H :=
  it_at walk_tup (fun F' θ' H' e => h.elim (fun q => .inl ((e.h a q.1).rd q.2)) .inr) r
theorem it_str {t : Tx} : IterOk T (Its (tS t)) (t.map fun c => PV.str [c]) F θ H := by
  have hsz : (tS t).cps.size = (t.map fun c => PV.str [c]).length := by simp [tS]
  refine ⟨fun _ => True, _, by rw [← hsz]; exact walk_str, fun _ _ _ _ => trivial, fun A F' θ' H' σ ρ st i x H'' hA e s hi y => ?_⟩
  obtain ⟨rfl, c, h1, rfl⟩ := y
  have : t[i]? = some c := by simpa [tS] using h1
  exact ⟨F', .str [c], by simp [this], .refl, s, .str [c]⟩
theorem rngL_get {lo hi : Int} {i : Nat} (h : i < (hi - lo).toNat) : (rngL lo hi)[i]? = some (.int (lo + (i : Nat))) := by
  unfold rngL
  simp [h]
theorem rngL_len {lo hi : Int} : (rngL lo hi).length = (hi - lo).toNat := by simp [rngL]
theorem it_rng {lo hi : Int} : IterOk T (Itr lo (hi - lo).toNat) (rngL lo hi) F θ H := by
  refine ⟨fun _ => True, _, by rw [rngL_len]; exact walk_range, fun _ _ _ _ => trivial, fun A F' θ' H' σ ρ st i x H'' hA e s hi' y => ?_⟩
  obtain ⟨rfl, rfl⟩ := y
  rw [rngL_len] at hi'
  exact ⟨F', _, rngL_get hi', .refl, s, .int _⟩
theorem it_rngR {lo hi : Int} : IterOk T (Itc (lo + (((hi - lo).toNat : Nat) : Int) - 1) (-1) (hi - lo).toNat) (rngL lo hi).reverse F θ H := by
  refine ⟨fun _ => True, _, by rw [List.length_reverse, rngL_len]; exact walk_rangeC, fun _ _ _ _ => trivial, fun A F' θ' H' σ ρ st i x H'' hA e s hi' y => ?_⟩
  obtain ⟨rfl, rfl⟩ := y
  rw [List.length_reverse, rngL_len] at hi'
  refine ⟨F', .int (lo + (((hi - lo).toNat : Nat) : Int) - 1 + (i : Nat) * (-1)), ?_, .refl, s, .int _⟩
  rw [List.getElem?_reverse (by rw [rngL_len]; exact hi'), rngL_len, rngL_get (by omega)]
  congr 2
  omega
theorem it_revAt {G : Hp → Prop} {J : L2.It} {vs : List V} {xs : List PV} (w : Walk J vs.length G (fun i H x H' => H' = H ∧ vs[vs.length - 1 - i]? = some x)) (hg : ∀ F' θ' H', Ext F θ H F' θ' H' → G H') (r : Reps T F θ H vs xs) : IterOk T J xs.reverse F θ H := by
  refine ⟨G, _, by rw [List.length_reverse, ← r.length]; exact w, hg, fun A F' θ' H' σ ρ st i x H'' hA e s hi y => ?_⟩
  obtain ⟨rfl, hx⟩ := y
  rw [List.length_reverse] at hi
  obtain ⟨pv, h1, h2⟩ := r.get hx
  rw [r.length] at h1
  exact ⟨F', pv, by rw [List.getElem?_reverse hi]; exact h1, .refl, s, h2.ext e⟩
theorem walk_revT {K : PySem.W.Frag} {a : Addr} {xs : List V} : Walk (ItvT K a xs.length) xs.length (fun H => SqT K H a xs) (fun i H x H' => H' = H ∧ xs[xs.length - 1 - i]? = some x) :=
  ⟨fun i _ hi q => ⟨hi, xs, xs[xs.length - 1 - i]'(by omega), q, by simp [show xs.length - 1 - i < xs.length by omega]⟩, fun _ _ => Nat.le_refl _, fun _ _ _ _ _ q y => ⟨y.1, y.2 xs q⟩⟩
theorem enum_get : ∀ {xs : List PV} {n i : Nat} {x : PV}, xs[i]? = some x → (enumFrom n xs)[i]? = some (.tup [.int ((n + i : Nat) : Int), x])
  | [], _, _, _, h => by simp at h
  | y :: xs, n, 0, x, h => by simp at h; subst h; simp [enumFrom]
  | y :: xs, n, i + 1, x, h => by
    have := enum_get (xs := xs) (n := n + 1) (i := i) (x := x) (by simpa using h)
    rw [enumFrom, List.getElem?_cons_succ, this]
    congr 5
    omega
theorem enum_len : ∀ {xs : List PV} {n : Nat}, (enumFrom n xs).length = xs.length
  | [], _ => rfl
  | _ :: xs, n => by rw [enumFrom, List.length_cons, enum_len, List.length_cons]
theorem it_enum {vs : List V} {xs : List PV} (h : H a = some (.lst vs)) (f : F a) (r : Reps T F θ H vs xs) : IterOk T (Ite T.K a) (enumFrom 0 xs) F θ H := by
  refine ⟨fun H => SqL T.K H a vs, _, by rw [enum_len, ← r.length]; exact walk_enum, fun F' θ' H' e => .inl (.inl ((e.h a f).lst h)), fun A F' θ' H' σ ρ st i x H'' hA e s hi y => ?_⟩
  obtain ⟨p, u, v, rfl, n, rfl, h1, h2⟩ := y
  cases h1
  obtain ⟨pv, h3, h4⟩ := r.get h2
  obtain ⟨F'', e2, s2, r2⟩ := pair_new (T := T) hA s n (.cons (.int ((i : Nat) : Int)) (.cons (h4.ext e) .nil))
  refine ⟨F'', _, ?_, e2, s2, r2⟩
  rw [enum_get h3]
  simp
theorem zip_get : ∀ {xs ys : List PV} {i : Nat} {x y : PV}, xs[i]? = some x → ys[i]? = some y → (zipP xs ys)[i]? = some (.tup [x, y])
  | [], _, _, _, _, h, _ => by simp at h
  | _ :: _, [], _, _, _, _, h => by simp at h
  | x :: xs, y :: ys, 0, _, _, h, g => by simp at h g; subst h g; rfl
  | x :: xs, y :: ys, i + 1, _, _, h, g => by
    rw [zipP, List.getElem?_cons_succ]
    exact zip_get (by simpa using h) (by simpa using g)
theorem zip_len : ∀ {xs ys : List PV}, (zipP xs ys).length = min xs.length ys.length
  | [], _ => by simp [zipP]
  | _ :: _, [] => by simp [zipP]
  | _ :: xs, _ :: ys => by rw [zipP, List.length_cons, zip_len, List.length_cons, List.length_cons]; omega
theorem it_zipOf {G : Hp → Prop} {J : L2.It} {vs ws : List V} {xs ys : List PV} (w : ∀ {n : Nat}, n = min vs.length ws.length → Walk J n G (YPair (fun i => vs[i]?) (fun i => ws[i]?))) (hg : ∀ F' θ' H', Ext F θ H F' θ' H' → G H') (r : Reps T F θ H vs xs) (q : Reps T F θ H ws ys) : IterOk T J (zipP xs ys) F θ H := by
  refine ⟨G, _, w (by rw [zip_len, r.length, q.length]), hg, fun A F' θ' H' σ ρ st i x H'' hA e s hi y => ?_⟩
  obtain ⟨p, u, v, rfl, n, rfl, h1, h2⟩ := y
  obtain ⟨pv, h3, h4⟩ := r.get h1
  obtain ⟨pw, h5, h6⟩ := q.get h2
  obtain ⟨F'', e2, s2, r2⟩ := pair_new (T := T) hA s n (.cons (h4.ext e) (.cons (h6.ext e) .nil))
  exact ⟨F'', _, zip_get h3 h5, e2, s2, r2⟩
theorem walk_zipT {K : PySem.W.Frag} {a b : Addr} {xs ys : List V} {n : Nat} (hn : n = min xs.length ys.length) : Walk (ItzT K a b) n (fun H => SqT K H a xs ∧ SqT K H b ys) (YPair (fun i => xs[i]?) (fun i => ys[i]?)) := by
  subst hn
  refine ⟨fun i _ hi q => ?_, fun _ q => ⟨xs, ys, q.1, q.2, by omega⟩, fun i H v H' _ q y => ?_⟩
  · have h1 : i < xs.length := by omega
    have h2 : i < ys.length := by omega
    exact ⟨xs, ys, xs[i], ys[i], q.1, q.2, by simp [h1], by simp [h2]⟩
  · obtain ⟨T, x, z, h1, h2, h3, h4, h5⟩ := y
    exact ⟨T, x, z, h1, h2, h3, h4 xs q.1, h5 ys q.2⟩
end

/-! ### readings -/
def cI (T : Tab) : L2.St → Cnd PV L2.It := fun _ F θ H _ J pv => ∃ xs, pv = .lst xs ∧ IterOk T J xs F θ H
section
variable {T : Tab} {ex : Option (Addr × Value × Option Addr)} {W : WX} {X : Cx} {c : CE} {cf : CF} {A : Act}
def tI (A : Act) (W : WX) (cf : CF) (it : It) : TI := tG A W (cI A.T) (evIt A.T.P cf it)
theorem PI.imp {tg e : Expr} {t t' : TI} (h : PI X tg e t) (i : ∀ σ H R, t' σ H R → t σ H R) : PI X tg e t' := ⟨fun pins s σ H R I q => h.run pins s σ H R I (i _ _ _ q)⟩
/-- a value that is walked: a list, a tuple, a text -/
def iAny (K : PySem.W.Frag) (te : TE) : TI := fun σ H R => te σ H fun v H1 => (∃ a, v = .ref a ∧ (∃ xs, SqL K H1 a xs) ∧ R (Itl K a) H1) ∨ (∃ a, v = .ref a ∧ (∃ xs, SqT K H1 a xs) ∧ R (Itt K a) H1) ∨ ∃ x, v = .str x ∧ R (Its x) H1
theorem pi_any {tg e : Expr} {te : TE} (he : PE X e te) : PI X tg e (iAny X.K te) := by
  refine ⟨fun pins s σ H R I h => ?_⟩
  refine thn (he.run pins s σ H _ I h) fun u s1 ⟨v, H1, I1, rv, q⟩ => ?_
  rcases q with ⟨a, rfl, ⟨xs, hq⟩, q⟩ | ⟨a, rfl, ⟨xs, hq⟩, q⟩ | ⟨x, rfl, q⟩
  · cases rv
    obtain ⟨its, rv, p, hz⟩ := I1.list hq
    exact wpAny_pyIter_list p.isList (pi_one (tk := s1.toks) I1 _ (turn_list a _) ⟨_, Heap.get?_push_size _ rfl, rfl, rfl⟩ q)
  · cases rv
    obtain ⟨its, rv, p, hz⟩ := I1.tuple hq
    exact wpAny_pyIter_tuple (show s1.heap.IsTuple a its.toArray from p) (pi_one (tk := s1.toks) I1 _ (turn_tuple a _) ⟨_, Heap.get?_push_size _ rfl, rfl, rfl⟩ q)
  · obtain ⟨t, rfl⟩ := rv
    cases ha : x.cps.all (· < 128)
    · exact wpAny_pyIter_wide ha (pi_one (tk := s1.toks) I1 _ (turn_str _ x t "str_iterator" (.inr rfl)) ⟨_, Heap.get?_push_size _ rfl, rfl, rfl⟩ q)
    · exact wpAny_pyIter_ascii ha (pi_one (tk := s1.toks) I1 _ (turn_str _ x t "str_ascii_iterator" (.inl rfl)) ⟨_, Heap.get?_push_size _ rfl, rfl, rfl⟩ q)
theorem valPI (hK : X.K = A.T.K) {tg ast : Expr} {e : E} (he : PE X ast (tE A W cf false e)) : PI X tg ast (tI A W cf (.val e)) :=
  PI.imp (pi_any he) fun σ H R q => by
    obtain ⟨F, θ, ρ, st, s, p⟩ := q
    unfold evIt at p
    refine (Post.bind (C1 := cM A false) s p).mono fun v H1 ⟨F1, θ1, ρ1, st1, w, x1, s1, c1, p1⟩ => ?_
    replace c1 : Rep A.T F1 θ1 H1 v w := by simpa [cM] using c1
    split at p1
    · rename_i xs hs
      have go : ∀ J, IterOk A.T J xs F1 θ1 H1 → R J H1 := fun J k => p1 J F1 θ1 H1 .refl s1 ⟨xs, rfl, k⟩
      unfold seqOf at hs
      rw [hK]
      split at hs
      · cases hs
        cases c1 with
        | lst f h r => exact .inl ⟨_, rfl, ⟨_, .inl (.inl h)⟩, go _ (it_list h f r)⟩
      · cases hs
        cases c1 with
        | scr h => exact .inl ⟨_, rfl, ⟨_, h.elim (fun q => .inl q.2) .inr⟩, go _ (it_scr h)⟩
      · cases hs
        cases c1 with
        | tup h r => exact .inr (.inl ⟨_, rfl, ⟨_, h.elim (fun q => .inl q.2) .inr⟩, go _ (it_tup h r)⟩)
      · cases hs
        cases c1
        exact .inr (.inr ⟨_, rfl, go _ it_str⟩)
      · cases hs
    · exact p1.elim
theorem small62_ok {i : Int} (h : small62 i = true) : -(2 ^ 62) ≤ i ∧ i < 2 ^ 62 := by
  unfold small62 at h
  simpa using h
theorem rng1PI (hg : Gl X "range") (hm : X.mg "range" = none) {tg ast : Expr} {e : E} {p pos : Pos} (he : PE X ast (tE A W cf false e)) (hp : plainArg ast = true) : PI X tg (.Call (.Name "range" p) [ast] [] pos) (tI A W cf (.rng1 e)) :=
  PI.imp (pi_range1 hg hm (pa_cons he pa_nil (star_cons hp)) (star_cons hp)) fun σ H R q => by
    obtain ⟨F, θ, ρ, st, s, p⟩ := q
    unfold evIt at p
    refine (Post.bind (C1 := cM A false) s p).mono fun v H1 ⟨F1, θ1, ρ1, st1, w, x1, s1, c1, p1⟩ => ?_
    replace c1 : Rep A.T F1 θ1 H1 v w := by simpa [cM] using c1
    split at p1
    · rename_i n
      split at p1
      · rename_i hn
        cases c1
        obtain ⟨h1, h2⟩ := small62_ok hn
        have := p1 (Itr 0 (n - 0).toNat) F1 θ1 H1 .refl s1 ⟨_, rfl, it_rng⟩
        rw [Int.sub_zero] at this
        exact ⟨n, rfl, h1, h2, this⟩
      · exact p1.elim
    · exact p1.elim
theorem rng2PI (hg : Gl X "range") (hm : X.mg "range" = none) {tg a1 a2 : Expr} {e1 e2 : E} {p pos : Pos} (h1 : PE X a1 (tE A W cf false e1)) (p1 : plainArg a1 = true) (h2 : PE X a2 (tE A W cf false e2)) (p2 : plainArg a2 = true) : PI X tg (.Call (.Name "range" p) [a1, a2] [] pos) (tI A W cf (.rng2 e1 e2)) :=
  PI.imp (pi_range2 hg hm (pa_cons h1 (pa_cons h2 pa_nil (star_cons p2)) (star_cons p1)) (by rw [star_cons p1, star_cons p2]; rfl) (by rw [star_cons p2]; rfl)) fun σ H R q => by
    obtain ⟨F, θ, ρ, st, s, p⟩ := q
    unfold evIt at p
    refine (Post.bind (C1 := cM A false) s p).mono fun v H1 ⟨F1, θ1, ρ1, st1, w, x1, s1, c1, p1⟩ => ?_
    replace c1 : Rep A.T F1 θ1 H1 v w := by simpa [cM] using c1
    refine (Post.bind (C1 := cM A false) s1 p1).mono fun u H2 ⟨F2, θ2, ρ2, st2, y, x2, s2, c2, p2⟩ => ?_
    replace c2 : Rep A.T F2 θ2 H2 u y := by simpa [cM] using c2
    split at p2
    · rename_i m n
      split at p2
      · rename_i hn
        cases c1
        cases c2
        rw [Bool.and_eq_true] at hn
        obtain ⟨h1, h2⟩ := small62_ok hn.1
        obtain ⟨h3, h4⟩ := small62_ok hn.2
        exact ⟨_, _, rfl, ⟨h1, h2, h3, h4⟩, p2 _ F2 θ2 H2 .refl s2 ⟨_, rfl, it_rng⟩⟩
      · exact p2.elim
    · exact p2.elim
theorem enumPI (hK : X.K = A.T.K) (hg : Gl X "enumerate") (hm : X.mg "enumerate" = none) {ast : Expr} {e : E} {p pos tpos : Pos} {elts : List Expr} {kk : Nat} (he : PE X ast (tE A W cf false e)) (hp : plainArg ast = true) : PI X (.Tuple elts kk tpos) (.Call (.Name "enumerate" p) [ast] [] pos) (tI A W cf (.enum e)) :=
  PI.imp (pi_enum hg hm (pa_cons he pa_nil (star_cons hp)) (star_cons hp)) fun σ H R q => by
    obtain ⟨F, θ, ρ, st, s, p⟩ := q
    unfold evIt at p
    refine (Post.bind (C1 := cM A false) s p).mono fun v H1 ⟨F1, θ1, ρ1, st1, w, x1, s1, c1, p1⟩ => ?_
    replace c1 : Rep A.T F1 θ1 H1 v w := by simpa [cM] using c1
    split at p1
    · cases c1 with
      | lst f h r =>
        refine ⟨_, _, rfl, .inl (.inl h), ?_⟩
        rw [hK]
        exact p1 _ F1 θ1 H1 .refl s1 ⟨_, rfl, it_enum h f r⟩
    · exact p1.elim
theorem zipPI (hK : X.K = A.T.K) (hg : Gl X "zip") (hm : X.mg "zip" = none) {a1 a2 : Expr} {e1 e2 : E} {p pos tpos : Pos} {elts : List Expr} {kk : Nat} (h1 : PE X a1 (tE A W cf false e1)) (p1 : plainArg a1 = true) (h2 : PE X a2 (tE A W cf false e2)) (p2 : plainArg a2 = true) : PI X (.Tuple elts kk tpos) (.Call (.Name "zip" p) [a1, a2] [] pos) (tI A W cf (.zip e1 e2)) :=
  PI.imp (pi_zipA hg hm (pa_cons h1 (pa_cons h2 pa_nil (star_cons p2)) (star_cons p1)) (star_cons p1) (star_plain (by rw [List.all_cons, p2]; rfl))) fun σ H R q => by
    obtain ⟨F, θ, ρ, st, s, p⟩ := q
    unfold evIt at p
    refine (Post.bind (C1 := cM A false) s p).mono fun v H1 ⟨F1, θ1, ρ1, st1, w, x1, s1, c1, p1⟩ => ?_
    replace c1 : Rep A.T F1 θ1 H1 v w := by simpa [cM] using c1
    refine (Post.bind (C1 := cM A false) s1 p1).mono fun u H2 ⟨F2, θ2, ρ2, st2, y, x2, s2, c2, p2⟩ => ?_
    replace c2 : Rep A.T F2 θ2 H2 u y := by simpa [cM] using c2
    split at p2
    · have c3 := c1.ext x2
      cases c3 with
      | lst f h r =>
        cases c2 with
        | lst f2 h2 r2 =>
          refine ⟨_, _, _, _, rfl, .inl ⟨.inl (.inl h), .inl (.inl h2), ?_⟩⟩
          rw [hK]
          exact p2 _ F2 θ2 H2 .refl s2 ⟨_, rfl, it_zipOf (fun hn => walk_zip hn) (fun F' θ' H' e => ⟨.inl (.inl ((e.h _ f).lst h)), .inl (.inl ((e.h _ f2).lst h2))⟩) r r2⟩
    · have c3 := c1.ext x2
      cases c3 with
      | tup h r =>
        cases c2 with
        | tup h2 r2 =>
          refine ⟨_, _, _, _, rfl, .inr ⟨by rw [hK]; exact h.elim (fun q => .inl q.2) .inr, by rw [hK]; exact h2.elim (fun q => .inl q.2) .inr, ?_⟩⟩
          rw [hK]
          exact p2 _ F2 θ2 H2 .refl s2 ⟨_, rfl, it_zipOf (fun hn => walk_zipT hn) (fun F' θ' H' e => ⟨h.elim (fun q => .inl ((e.h _ q.1).rd q.2)) .inr, h2.elim (fun q => .inl ((e.h _ q.1).rd q.2)) .inr⟩) r r2⟩
    · exact p2.elim
end
end PB

end
section
set_option Elab.async false
set_option linter.all false
set_option maxRecDepth 100000
set_option exponentiation.threshold 10000
/-! PB17: comprehensions. -/
namespace PB
open PySem L2 PySem.Calls PyProof.Rows RZ RT

/-! ### slots set aside -/
theorem blank_len (ρ : REnv) : ∀ own : List Nat, (blank ρ own).length = ρ.length
  | [] => rfl
  | i :: own => by unfold blank; rw [List.length_set, blank_len ρ own]
theorem blank_out {ρ : REnv} {j : Nat} : ∀ {own : List Nat}, j ∉ own → (blank ρ own)[j]? = ρ[j]?
  | [], _ => rfl
  | i :: own, h => by
    rw [List.mem_cons, not_or] at h
    unfold blank
    rw [List.getElem?_set_ne (Ne.symm h.1), blank_out h.2]
theorem blank_in {ρ : REnv} {j : Nat} : ∀ {own : List Nat}, j ∈ own → (blank ρ own)[j]? = none ∨ (blank ρ own)[j]? = some .un
  | [], h => absurd h (by simp)
  | i :: own, h => by
    unfold blank
    by_cases e : i = j
    · subst e
      by_cases hl : i < (blank ρ own).length
      · exact .inr (List.getElem?_set_self hl)
      · exact .inl (List.getElem?_eq_none (by rw [List.length_set]; omega))
    · rw [List.getElem?_set_ne e]
      refine blank_in ?_
      rcases List.mem_cons.mp h with z | z
      · exact absurd z.symm e
      · exact z
theorem unblank_len (ρ0 ρ : REnv) : ∀ own : List Nat, (unblank ρ0 ρ own).length = ρ.length
  | [] => rfl
  | i :: own => by unfold unblank; rw [List.length_set, unblank_len ρ0 ρ own]
theorem unblank_out {ρ0 ρ : REnv} {j : Nat} : ∀ {own : List Nat}, j ∉ own → (unblank ρ0 ρ own)[j]? = ρ[j]?
  | [], _ => rfl
  | i :: own, h => by
    rw [List.mem_cons, not_or] at h
    unfold unblank
    rw [List.getElem?_set_ne (Ne.symm h.1), unblank_out h.2]
theorem unblank_in {ρ0 ρ : REnv} {j : Nat} {s : Slot} : ∀ {own : List Nat}, j ∈ own → (unblank ρ0 ρ own)[j]? = some s → s = .un ∨ (∃ v, s = .fz v ∧ ρ0[j]? = some (.fz v))
  | [], h, _ => absurd h (by simp)
  | i :: own, h, g => by
    unfold unblank at g
    by_cases e : i = j
    · subst e
      by_cases hl : i < (unblank ρ0 ρ own).length
      · rw [List.getElem?_set_self hl] at g
        cases g
        split
        · rename_i v hv; exact .inr ⟨v, rfl, hv⟩
        · exact .inl rfl
      · rw [List.getElem?_eq_none (by rw [List.length_set]; omega)] at g
        cases g
    · rw [List.getElem?_set_ne e] at g
      refine unblank_in ?_ g
      rcases List.mem_cons.mp h with z | z
      · exact absurd z.symm e
      · exact z
theorem wipe_out {σ : L2.St} {j : Nat} : ∀ {own : List Nat}, j ∉ own → (wipe σ own)[j]? = σ[j]?
  | [], _ => rfl
  | i :: own, h => by
    rw [List.mem_cons, not_or] at h
    unfold wipe
    rw [List.getElem?_set_ne (Ne.symm h.1), wipe_out h.2]
theorem wipe_in {σ : L2.St} {j : Nat} : ∀ {own : List Nat}, j ∈ own → (wipe σ own)[j]? = none ∨ (wipe σ own)[j]? = some none
  | [], h => absurd h (by simp)
  | i :: own, h => by
    unfold wipe
    by_cases e : i = j
    · subst e
      by_cases hl : i < (wipe σ own).length
      · exact .inr (List.getElem?_set_self hl)
      · exact .inl (List.getElem?_eq_none (by rw [List.length_set]; omega))
    · rw [List.getElem?_set_ne e]
      refine wipe_in ?_
      rcases List.mem_cons.mp h with z | z
      · exact absurd z.symm e
      · exact z
theorem wipe_same {σ σ' : L2.St} {own : List Nat} (hl : σ.length = σ'.length) (h : ∀ j, j ∉ own → σ[j]? = σ'[j]?) : wipe σ own = wipe σ' own := by
  refine List.ext_getElem? fun j => ?_
  by_cases hj : j ∈ own
  · by_cases hb : j < σ.length
    · have h1 : j < (wipe σ own).length := by rw [wipe_length]; exact hb
      have h2 : j < (wipe σ' own).length := by rw [wipe_length, ← hl]; exact hb
      rcases wipe_in (σ := σ) hj with a | a
      · rw [List.getElem?_eq_none_iff] at a; omega
      · rcases wipe_in (σ := σ') hj with b | b
        · rw [List.getElem?_eq_none_iff] at b; omega
        · rw [a, b]
    · rw [List.getElem?_eq_none (by rw [wipe_length]; omega), List.getElem?_eq_none (by rw [wipe_length]; omega)]
  · rw [wipe_out hj, wipe_out hj, h j hj]
theorem wipe_wipe {σ : L2.St} {own : List Nat} : wipe (wipe σ own) own = wipe σ own := wipe_same (wipe_length σ own) fun j hj => wipe_out hj
theorem blank_same {ρ ρ' : REnv} {own : List Nat} (hl : ρ.length = ρ'.length) (h : ∀ j, j ∉ own → ρ[j]? = ρ'[j]?) : blank ρ own = blank ρ' own := by
  refine List.ext_getElem? fun j => ?_
  by_cases hj : j ∈ own
  · by_cases hb : j < ρ.length
    · have h1 : j < (blank ρ own).length := by rw [blank_len]; exact hb
      have h2 : j < (blank ρ' own).length := by rw [blank_len, ← hl]; exact hb
      rcases blank_in (ρ := ρ) hj with a | a
      · rw [List.getElem?_eq_none_iff] at a; omega
      · rcases blank_in (ρ := ρ') hj with b | b
        · rw [List.getElem?_eq_none_iff] at b; omega
        · rw [a, b]
    · rw [List.getElem?_eq_none (by rw [blank_len]; omega), List.getElem?_eq_none (by rw [blank_len]; omega)]
  · rw [blank_out hj, blank_out hj, h j hj]
section
variable {A : Act} {F F1 : Addr → Prop} {θ θ1 : List Addr} {H H1 : Hp} {σ : L2.St} {ρ ρ1 : REnv} {st st1 : Sto} {own : List Nat}
/-- the slots as they are seen within -/
theorem SR.blanked (s : SR A F θ H σ ρ st) (own : List Nat) : SR A F θ H (wipe σ own) (blank ρ own) st := by
  have ow : ∀ j, isOw (blank ρ own) j → j ∉ own ∧ isOw ρ j := fun j ⟨v, h⟩ => by
    have hj : j ∉ own := fun z => by rcases blank_in (ρ := ρ) z with q | q <;> (rw [q] at h; cases h)
    rw [blank_out hj] at h
    exact ⟨hj, v, h⟩
  refine ⟨s.so, s.f0, s.fn, s.lk, s.kp, s.t0, s.tn, by rw [blank_len, wipe_length]; exact s.le, fun i sl h => ?_, fun i j a h1 h2 h3 h4 => ?_⟩
  · by_cases hi : i ∈ own
    · rcases blank_in (ρ := ρ) hi with q | q
      · rw [q] at h; cases h
      · rw [q] at h; cases h; trivial
    · rw [blank_out hi] at h
      have hs := s.rs i sl h
      cases sl with
      | un => trivial
      | fz v => obtain ⟨x, q⟩ := hs; exact ⟨x, by rw [wipe_out hi]; exact q.1, q.2⟩
      | ow v => obtain ⟨x, q⟩ := hs; exact ⟨x, by rw [wipe_out hi]; exact q.1, q.2⟩
      | ex c fs => obtain ⟨x, d, vfs, q⟩ := hs; exact ⟨x, d, vfs, by rw [wipe_out hi]; exact q.1, q.2⟩
  · obtain ⟨n1, o1⟩ := ow i h1
    obtain ⟨n2, o2⟩ := ow j h2
    rw [wipe_out n1] at h3
    rw [wipe_out n2] at h4
    exact s.ow i j a o1 o2 h3 h4
/-- .. and behind it -/
theorem SR.unblanked (s : SR A F θ H (wipe σ own) (blank ρ own) st) (s1 : SR A F1 θ1 H1 σ ρ1 st1) (e : Ext F1 θ1 H1 F θ H) : SR A F θ H σ (unblank ρ1 ρ own) st := by
  have ow : ∀ j, isOw (unblank ρ1 ρ own) j → j ∉ own ∧ isOw (blank ρ own) j := fun j ⟨v, h⟩ => by
    have hj : j ∉ own := fun z => by rcases unblank_in z h with q | ⟨w, q, _⟩ <;> cases q
    rw [unblank_out hj] at h
    exact ⟨hj, v, by rw [blank_out hj]; exact h⟩
  have hl : ρ.length = σ.length := by
    have := s.le
    rw [blank_len, wipe_length] at this
    exact this
  refine ⟨s.so, s.f0, s.fn, s.lk, s.kp, s.t0, s.tn, by rw [unblank_len]; exact hl, fun i sl h => ?_, fun i j a h1 h2 h3 h4 => ?_⟩
  · by_cases hi : i ∈ own
    · rcases unblank_in hi h with rfl | ⟨v, rfl, q⟩
      · trivial
      · obtain ⟨x, h1, h2⟩ := s1.rs i _ q
        exact ⟨x, h1, h2.ext e⟩
    · rw [unblank_out hi] at h
      have hs := s.rs i sl (by rw [blank_out hi]; exact h)
      cases sl with
      | un => trivial
      | fz v => obtain ⟨x, q⟩ := hs; rw [wipe_out hi] at q; exact ⟨x, q⟩
      | ow v => obtain ⟨x, q⟩ := hs; rw [wipe_out hi] at q; exact ⟨x, q⟩
      | ex c fs => obtain ⟨x, d, vfs, q⟩ := hs; rw [wipe_out hi] at q; exact ⟨x, d, vfs, q⟩
  · obtain ⟨n1, o1⟩ := ow i h1
    obtain ⟨n2, o2⟩ := ow j h2
    refine s.ow i j a o1 o2 ?_ ?_
    · rw [wipe_out n1]; exact h3
    · rw [wipe_out n2]; exact h4
theorem Free.unblanked {p : Addr} (fr : Free A F θ (wipe σ own) (blank ρ own) p) : Free A F θ σ (unblank ρ1 ρ own) p := ⟨fr.f, fr.t, fr.n, fun j ⟨v, h⟩ z => by
  have hj : j ∉ own := fun q => by rcases unblank_in q h with q | ⟨w, q, _⟩ <;> cases q
  rw [unblank_out hj] at h
  exact fr.o j ⟨v, by rw [blank_out hj]; exact h⟩ (by rw [wipe_out hj]; exact z)⟩
/-- slots forgotten: nobody's thing stays so -/
theorem Free.blanked {p : Addr} (fr : Free A F θ σ ρ p) (own : List Nat) : Free A F θ (wipe σ own) (blank ρ own) p := ⟨fr.f, fr.t, fr.n, fun j ⟨v, h⟩ z => by
  have hj : j ∉ own := fun q => by rcases blank_in (ρ := ρ) q with q | q <;> (rw [q] at h; cases h)
  rw [blank_out hj] at h
  rw [wipe_out hj] at z
  exact fr.o j ⟨v, h⟩ z⟩
end
end PB

end
section
set_option Elab.async false
set_option linter.all false
set_option maxRecDepth 100000
set_option exponentiation.threshold 10000
/-! PB18: targets; the turns of a comprehension. -/
namespace PB
open PySem L2 PySem.Calls PyProof.Rows RZ RT

def Tg.slots : Tg → List Nat
  | .one i => [i]
  | .two i j => [i, j]
def stoOk (c : CE) (i : Nat) (x : Str) : Bool := (match c.N[i]? with
  | some y => y == x
  | none => false) && c.isS x
def tgOk (c : CE) : Tg → Expr → Bool
  | .one i, .Name x _ => stoOk c i x
  | .two i j, .Tuple [.Name x _, .Name y _] _ _ => c.calm && stoOk c i x && stoOk c j y
  | _, _ => false
def gTg (K : PySem.W.Frag) : Tg → TG
  | .one i => gName i
  | .two i j => gTup K 2 (gCons (gName i) (gCons (gName j) gNil))
section
variable {T : Tab} {ex : Option (Addr × Value × Option Addr)} {W : WX} {X : Cx} {c : CE} {cf : CF}
theorem stoOk_ok (o : Ok T W X c) {i : Nat} {x : Str} (h : stoOk c i x = true) : X.N[i]? = some x ∧ L2.Loc X.env.scope x ∧ (X.fn x = true ∨ X.env.scope.names.lookup x = some .local) := by
  unfold stoOk at h
  rw [Bool.and_eq_true] at h
  have e : X.N[i]? = some x := by
    rw [o.N]
    split at h
    · rename_i y e
      rw [e, beq_iff_eq.mp h.1]
    · cases h.1
  exact ⟨e, o.sto h.2⟩
theorem nodupN (o : Ok T W X c) : X.N.Nodup := by rw [o.N]; exact o.nd
theorem pg_one (o : Ok T W X c) {i : Nat} {x : Str} {p : Pos} (h : stoOk c i x = true) : PG X (.Name x p) (gName i) := by
  obtain ⟨h1, h2, h3⟩ := stoOk_ok o h
  exact pg_name (nodupN o) h1 h2 h3
theorem pg_tg (o : Ok T W X c) {tg : Tg} {ast : Expr} (h : tgOk c tg ast = true) : PG X ast (gTg X.K tg) := by
  unfold tgOk at h
  split at h
  · exact pg_one o h
  · rw [Bool.and_eq_true, Bool.and_eq_true] at h
    exact pg_tup (o.calm h.1.1) (pgs_cons (pg_one o h.1.2) (pgs_cons (pg_one o h.2) pgs_nil))
  · cases h
theorem bind_tg {A : Act} {F : Addr → Prop} {θ : List Addr} {H : Hp} {σ : L2.St} {ρ ρ' : REnv} {st : Sto} {v : V} {pv : PV} {tg : Tg} {Q : L2.St → Hp → Prop} (hK : X.K = A.T.K) (s : SR A F θ H σ ρ st) (r : Rep A.T F θ H v pv) (hb : tg.bind pv ρ = some ρ')
    (h : ∀ σ', SR A F θ H σ' ρ' st → σ'.length = σ.length → (∀ j, j ∉ tg.slots → σ'[j]? = σ[j]?) → Q σ' H) : gTg X.K tg v σ H Q := by
  cases tg with
  | one i =>
    cases hb
    refine h _ (s.setF r) (by simp) fun j hj => ?_
    rw [List.getElem?_set_ne]
    exact fun z => hj (by simp [Tg.slots, z])
  | two i j =>
    unfold Tg.bind at hb
    simp only at hb
    split at hb
    · rename_i a b
      cases hb
      cases r with
      | tup hh rr =>
        cases rr with
        | cons r1 rr =>
          cases rr with
          | cons r2 rr =>
            cases rr
            refine ⟨_, _, rfl, by rw [hK]; exact hh.elim (fun q => .inl q.2) .inr, rfl, _, _, rfl, _, _, rfl, rfl, ?_⟩
            refine h _ ((s.setF r1).setF r2) (by simp) fun k hk => ?_
            rw [List.getElem?_set_ne, List.getElem?_set_ne]
            · exact fun z => hk (by simp [Tg.slots, z])
            · exact fun z => hk (by simp [Tg.slots, z])
    · cases hb
/-! ### the turns -/
def Wno : WX := fun _ _ _ _ => False
def tX (T : Tab) (ex : Option (Addr × Value × Option Addr)) (cf : CF) (e : E) : TE := fun σ H Q => ∃ A : Act, A.T = T ∧ A.ex = ex ∧ tE A Wno cf false e σ H Q
def tCond (T : Tab) (ex : Option (Addr × Value × Option Addr)) (cf : CF) : Option1 → TT
  | .none => tYes
  | .some e => tTest (tX T ex cf e)
theorem loop_take {α : Type} {xs : List α} {i : Nat} {x : α} (h : xs[i]? = some x) : xs.drop i = x :: xs.drop (i + 1) := by
  obtain ⟨h1, h2⟩ := List.getElem?_eq_some_iff.mp h
  rw [List.drop_eq_getElem_cons h1, h2]
theorem compT {A : Act} (hK : X.K = A.T.K) (hA : A.T = T) (hx : A.ex = ex) {fr : Bool} {own : List Nat} {it : It} {tg : Tg} {cond : Option1} {elt : E} (hown : ∀ j ∈ tg.slots, j ∈ own) {σ : L2.St} {H : Hp} {Q : VK}
    (q : tE A W cf fr (.comp own it tg cond elt) σ H Q) : tLc (tI A W cf it) (gTg X.K tg) (tCond T ex cf cond) (tX T ex cf elt) own σ H Q := by
  obtain ⟨F, θ, ρ, st, s, p⟩ := q
  unfold evE at p
  refine (Post.bind (C1 := cI A.T) s p).mono fun J H1 ⟨F1, θ1, ρ1, st1, a, x1, s1, ⟨xs, ea, itok⟩, p1⟩ => ?_
  subst ea
  intro D hD
  obtain ⟨G, Y, w, hG, hY⟩ := itok
  replace p1 : Post A W (cM A fr σ) F1 θ1 H1 σ (match loopC tg own (evO A.T.P cf cond) (evE A.T.P cf elt) xs [] ρ1 st1 with | .ok v ρ2 st2 => .ok v (unblank ρ1 ρ2 own) st2 | _ => .bad) Q := p1
  refine lc_it w (Qd := Q (.ref D)) (fun i H => ∃ F θ ρ st acc vacc, Ext F1 θ1 H1 F θ H ∧ SR A F θ H (wipe σ own) (blank ρ own) st ∧ Free A F θ (wipe σ own) (blank ρ own) D ∧ H D = some (.lst vacc) ∧ Reps A.T F θ H vacc acc ∧
    Post A W (cM A fr σ) F1 θ1 H1 σ (match loopC tg own (evO A.T.P cf cond) (evE A.T.P cf elt) (xs.drop i) acc ρ st with | .ok v ρ2 st2 => .ok v (unblank ρ1 ρ2 own) st2 | _ => .bad) Q) ?_ (fun i H _ h => ?_) (fun i x H H' hi h y => ?_) fun H h => ?_
  · exact ⟨F1, θ1, ρ1, st1, [], [], .upd (s1.newF hD), (s1.lay hD).blanked own, (s1.freeN hD).blanked own, upd_same, .nil, p1⟩
  · obtain ⟨F2, θ2, ρ2, st2, acc, vacc, e2, _⟩ := h
    exact hG _ _ _ e2
  · obtain ⟨F2, θ2, ρ2, st2, acc, vacc, e2, s2, fr2, hd2, r2, p2⟩ := h
    have nf0 := fr2.f0 s2
    have nt0 := fr2.t0 s2
    have s2' := s2.pend fr2 hd2
    obtain ⟨F3, pv, hpv, e3, s3, r3⟩ := hY (A.pend D (.lst vacc)) F2 θ2 H _ _ _ i x H' rfl e2 s2' hi y
    rw [loop_take hpv] at p2
    unfold loopC at p2
    cases hb : tg.bind pv (blank ρ2 own) with
    | none => rw [hb] at p2; exact p2.elim
    | some ρb =>
      rw [hb] at p2
      refine bind_tg (A := A.pend D (.lst vacc)) hK s3 r3 hb fun σ2 s4 hl hσ => ?_
      have hw : wipe σ2 own = wipe σ own := by
        rw [← wipe_wipe (σ := σ)]
        exact wipe_same hl fun j hj => hσ j fun z => hj (hown j z)
      refine ⟨hw, ?_⟩
      -- the item, once the test is passed
      have item : ∀ F5 θ5 H5 ρ5 st5, Ext F2 θ2 H F5 θ5 H5 → SR (A.pend D (.lst vacc)) F5 θ5 H5 σ2 ρ5 st5 →
          Post A W (cM A fr σ) F1 θ1 H1 σ (match (evE A.T.P cf elt ρ5 st5).bind (fun v ρ3 st3 => if acc.length < lim then loopC tg own (evO A.T.P cf cond) (evE A.T.P cf elt) (xs.drop (i + 1)) (acc ++ [v]) ρ3 st3 else .bad) with | .ok v ρ2 st2 => .ok v (unblank ρ1 ρ2 own) st2 | _ => .bad) Q →
          tX T ex cf elt σ2 H5 fun y H4 => ∃ acc_1, H4 D = some (.lst acc_1) ∧ acc_1.length < sizeLine ∧ ∃ F θ ρ st acc vacc, Ext F1 θ1 H1 F θ (upd H4 D (.lst (acc_1 ++ [y]))) ∧ SR A F θ (upd H4 D (.lst (acc_1 ++ [y]))) (wipe σ own) (blank ρ own) st ∧ Free A F θ (wipe σ own) (blank ρ own) D ∧ (upd H4 D (.lst (acc_1 ++ [y]))) D = some (.lst vacc) ∧ Reps A.T F θ (upd H4 D (.lst (acc_1 ++ [y]))) vacc acc ∧
            Post A W (cM A fr σ) F1 θ1 H1 σ (match loopC tg own (evO A.T.P cf cond) (evE A.T.P cf elt) (xs.drop (i + 1)) acc ρ st with | .ok v ρ2 st2 => .ok v (unblank ρ1 ρ2 own) st2 | _ => .bad) Q := by
        intro F5 θ5 H5 ρ5 st5 e5 s5 p5
        refine ⟨A.pend D (.lst vacc), hA, hx, F5, θ5, ρ5, st5, s5, ?_⟩
        cases hr : evE A.T.P cf elt ρ5 st5 with
        | exc v ρ6 st6 => rw [hr] at p5; exact p5.elim
        | bad => rw [hr] at p5; exact p5.elim
        | ok v ρ6 st6 =>
          rw [hr] at p5
          have hr' : evE (A.pend D (.lst vacc)).T.P cf elt ρ5 st5 = .ok v ρ6 st6 := hr
          rw [hr']
          intro y F6 θ6 H6 e6 s6 c6
          replace c6 : Rep (A.pend D (.lst vacc)).T F6 θ6 H6 y v := by simpa [cM] using c6
          replace c6 : Rep A.T F6 θ6 H6 y v := c6
          obtain ⟨s7, hd7, fr7⟩ := s6.unpend fr2.n nf0 nt0
          replace p5 : Post A W (cM A fr σ) F1 θ1 H1 σ (match (if acc.length < lim then loopC tg own (evO A.T.P cf cond) (evE A.T.P cf elt) (xs.drop (i + 1)) (acc ++ [v]) ρ6 st6 else .bad) with | .ok v ρ2 st2 => .ok v (unblank ρ1 ρ2 own) st2 | _ => .bad) Q := p5
          split at p5
          · rename_i h0
            split at h0
            · rename_i hl2
              refine ⟨vacc, hd7, by rw [r2.length, lim_eq]; exact hl2, F6, θ6, ρ6, st6, acc ++ [v], vacc ++ [y], ((e2.trans e5).trans e6).trans (.upd fr7.f), ?_, ?_, upd_same, ?_, ?_⟩
              · rw [← hw]; exact (s7.poke fr7).blanked own
              · rw [← hw]; exact fr7.blanked own
              · exact ((r2.ext (e5.trans e6)).append (.cons c6 .nil)).ext (.upd fr7.f)
              · rw [h0]; exact p5
            · cases h0
          · exact p5.elim
      cases cond with
      | none =>
        have p2' : Post A W (cM A fr σ) F1 θ1 H1 σ (match (evE A.T.P cf elt ρb st2).bind (fun v ρ3 st3 => if acc.length < lim then loopC tg own (evO A.T.P cf .none) (evE A.T.P cf elt) (xs.drop (i + 1)) (acc ++ [v]) ρ3 st3 else .bad) with | .ok v ρ2 st2 => .ok v (unblank ρ1 ρ2 own) st2 | _ => .bad) Q := p2
        exact item F3 θ2 H' ρb st2 e3 s4 p2'
      | some e =>
        refine ⟨A.pend D (.lst vacc), hA, hx, F3, θ2, ρb, st2, s4, ?_⟩
        have ev : evO A.T.P cf (.some e) = fun ρ st => evE A.T.P cf e ρ st := by funext ρ st; unfold evO; rfl
        rw [ev] at p2 item
        cases hr : evE A.T.P cf e ρb st2 with
        | exc v ρ6 st6 => simp only at p2; rw [hr] at p2; exact p2.elim
        | bad => simp only at p2; rw [hr] at p2; exact p2.elim
        | ok v ρ6 st6 =>
          simp only at p2
          rw [hr] at p2
          have hr' : evE (A.pend D (.lst vacc)).T.P cf e ρb st2 = .ok v ρ6 st6 := hr
          rw [hr']
          intro y F6 θ6 H6 e6 s6 c6
          replace c6 : Rep (A.pend D (.lst vacc)).T F6 θ6 H6 y v := by simpa [cM] using c6
          replace c6 : Rep A.T F6 θ6 H6 y v := c6
          cases v <;> first | exact p2.elim | skip
          rename_i b
          obtain rfl := bool_rep c6
          cases b with
          | true => exact ⟨true, rfl, item F6 θ6 H6 ρ6 st6 (e3.trans e6) s6 p2⟩
          | false =>
            refine ⟨false, rfl, ?_⟩
            obtain ⟨s7, hd7, fr7⟩ := s6.unpend fr2.n nf0 nt0
            refine ⟨F6, θ6, ρ6, st6, acc, vacc, (e2.trans e3).trans e6, ?_, ?_, hd7, r2.ext (e3.trans e6), ?_⟩
            · rw [← hw]; exact s7.blanked own
            · rw [← hw]; exact fr7.blanked own
            · rw [ev]; exact p2
  · obtain ⟨F2, θ2, ρ2, st2, acc, vacc, e2, s2, fr2, hd2, r2, p2⟩ := h
    rw [List.drop_length] at p2
    unfold loopC at p2
    exact Fin.nr (fr := fr) p2 e2 (s2.unblanked s1 e2) (.of fr2.unblanked ⟨vacc, hd2, r2⟩)
end
end PB

end
section
set_option Elab.async false
set_option linter.all false
set_option maxRecDepth 100000
set_option exponentiation.threshold 10000
/-! PB19: comprehensions' rule; calls. -/
namespace PB
open PySem L2 PySem.Calls PyProof.Rows RZ RT

def CE.blk (c : CE) (scope : Scope) : CE := { c with nm := scope.names.map fun (n, k) => if (k == .free && c.nm.lookup n == some .cell) then (n, .cell) else (n, k), cells := (scope.names.filter fun p => p.2 == .cell).map (·.1) }
def CE.sc (c : CE) : Scope := { kind := .function, names := c.nm, isGenerator := false, isCoroutine := false }
def CE.own (c : CE) (own : List Nat) : List (Str × Nat) := own.map fun i => (c.N.getD i default, i)
theorem own_snd (c : CE) (own : List Nat) : (c.own own).map (·.2) = own := by
  unfold CE.own
  rw [List.map_map]
  show own.map (fun i => i) = own
  simp
section
variable {T : Tab} {ex : Option (Addr × Value × Option Addr)} {W : WX} {X : Cx} {c : CE} {cf : CF}
theorem blk_ok (o : Ok T W X c) {scope : Scope} {own : List Nat} (h : blkC c.N c.sc scope (c.own own) = true) : BlkOk X.N X.env.scope scope (c.own own) := by
  refine blkOk_by ?_
  have : blkC X.N X.env.scope scope (c.own own) = blkC c.N c.sc scope (c.own own) := by
    rw [o.N]
    unfold blkC CE.sc
    rw [o.nm]
  rw [this]
  exact h
theorem ok_blk (o : Ok T W X c) {scope : Scope} {own : List Nat} (h : BlkOk X.N X.env.scope scope (c.own own)) (s : Shared) (H : Hp) (C : Addr) (cl : List (Str × Addr)) (fp : List Addr) : Ok T Wno (X.blk s H scope (compEnvC scope cl C X.env) fp) (c.blk scope) := by
  refine ⟨o.K, o.N, o.nd, o.an, o.and_, ?_, o.calm, ?_, fun x hx => ?_, o.units, fun u s' ⟨_, _, _, _, _, _, _, _, _, _, _, _, _, _, _, _, w⟩ => w, o.bl, o.gv, o.fl⟩
  · show (relabel scope X.env).names = _
    show (scope.names.map _) = _
    unfold CE.blk
    refine List.map_congr_left fun p _ => ?_
    have e1 : (X.env.scope.kind == ScopeKind.function) = true := by rw [o.kind]; rfl
    have e2 : X.env.kindOf p.1 = c.nm.lookup p.1 := by unfold Env.kindOf; rw [o.nm]
    show (if (p.2 == NameKind.free && X.env.scope.kind == .function && X.env.kindOf p.1 == some .cell) = true then (p.1, NameKind.cell) else (p.1, p.2)) = _
    rw [e1, e2, Bool.and_true]
  · exact h.kind
  · show (scope.names.lookup x == some NameKind.cell) = true
    have hx : x ∈ (scope.names.filter fun p => p.2 == .cell).map (·.1) := hx
    obtain ⟨p, hp, rfl⟩ := List.mem_map.mp hx
    obtain ⟨h1, h2⟩ := List.mem_filter.mp hp
    rw [h.uniq p h1, beq_iff_eq.mp h2]
    rfl
def noSet : Expr → Bool
  | .Set .. => false
  | _ => true
theorem noSet_ok {e : Expr} {env : Env} (h : noSet e = true) : ∀ x, foldedSetIterable e env x = pure x := fun x => by
  cases e <;> first | rfl | cases h
def tgIn (tg : Tg) (own : List Nat) : Bool := tg.slots.all fun j => own.contains j
theorem pe_ex {X : Cx} {x : Expr} {e : E} (h : ∀ A : Act, A.T = T → A.ex = ex → PE X x (tE A Wno cf false e)) : PE X x (tX T ex cf e) := ⟨fun pins s σ H Q I ⟨A, h1, h2, q⟩ => (h A h1 h2).run pins s σ H Q I q⟩
theorem pt_ex {X : Cx} {x : Expr} {e : E} (h : ∀ A : Act, A.T = T → A.ex = ex → PT X x (tTest (tE A Wno cf false e))) : PT X x (tTest (tX T ex cf e)) := ⟨fun pins s σ H Q I ⟨A, h1, h2, q⟩ => (h A h1 h2).run pins s σ H Q I q⟩
def condOk : Option1 → List Expr → Bool
  | .none, [] => true
  | .some _, [_] => true
  | _, _ => false
theorem compPE {A : Act} (o : Ok T W X c) (hc : c.calm = true) (hA : A.T = T) (hx : A.ex = ex) {fr : Bool} {own : List Nat} {it : It} {tg : Tg} {cond : Option1} {e : E} {elt tga iter : Expr} {ifs : List Expr} {scope : Scope} {pos : Pos}
    (hi : PI X tga iter (tI A W cf it)) (hb : blkC c.N c.sc scope (c.own own) = true) (hs : noSet iter = true) (htg : tgOk (c.blk scope) tg tga = true) (hin : tgIn tg own = true)
    (hcd : ∀ (s : Shared) (H : Hp) (C : Addr) (cl : List (Str × Addr)) (fp : List Addr), PTs (X.blk s H scope (compEnvC scope cl C X.env) fp) ifs (tCond T ex cf cond))
    (he : ∀ (s : Shared) (H : Hp) (C : Addr) (cl : List (Str × Addr)) (fp : List Addr), PE (X.blk s H scope (compEnvC scope cl C X.env) fp) elt (tX T ex cf e)) :
    PE X (.ListComp elt [⟨tga, iter, ifs, 0⟩] scope pos) (tE A W cf fr (.comp own it tg cond e)) := by
  have bk := blk_ok o hb
  have hK : X.K = A.T.K := by rw [hA]; exact o.K
  have hg : ∀ (s : Shared) (H : Hp) (C : Addr) (cl : List (Str × Addr)) (fp : List Addr), PG (X.blk s H scope (compEnvC scope cl C X.env) fp) tga (gTg X.K tg) := fun s H C cl fp => pg_tg (ok_blk o bk s H C cl fp) htg
  refine (pe_lc (o.calm hc) (nodupN o) hi bk hg hcd he (noSet_ok hs)).imp fun σ H Q q => ?_
  rw [own_snd]
  refine compT hK hA hx (fun j hj => ?_) q
  have := List.all_eq_true.mp hin j hj
  simpa using this

/-! ### calls -/
structure Frm (F : Addr → Prop) (θ : List Addr) (H : Hp) (F' : Addr → Prop) (θ' : List Addr) (H' : Hp) : Prop where
  e : Ext F θ H F' θ' H'
  k : ∀ a o, H a = some o → ¬ F a → a ∉ θ → H' a = some o
  f : ∀ a, F' a → F a ∨ H a = none
  t : ∀ a, a ∈ θ' → a ∈ θ ∨ H a = none
def ERepT (T : Tab) (F : Addr → Prop) (θ : List Addr) (H : Hp) (cls : Value) (d : Option Addr) : PV → Prop
  | .exc c fs => cls = .ref (T.ca c) ∧ ((fs = [] ∧ d = none) ∨ ∃ dd vfs, d = some dd ∧ F dd ∧ H dd = some (.xd vfs) ∧ RepF T F θ H vfs fs)
  | _ => False
def RRep (T : Tab) (fr : Bool) (H0 : Hp) (F : Addr → Prop) (θ : List Addr) (H : Hp) (v : V) (pv : PV) : Prop :=
  if fr = true then (contP pv = false ∧ Rep T F θ H v pv) ∨ ∃ a, v = .ref a ∧ ObjAt T F θ H a pv ∧ ¬ F a ∧ a ∉ θ ∧ H0 a = none else Rep T F θ H v pv
/-- what a def promises: it answers as callF -/
def CPost (T : Tab) (fr : Bool) (F : Addr → Prop) (θ : List Addr) (H : Hp) (r : CR) (Q : VK) (E : XK) : Prop := match r with
  | .ok pv st' => ∀ v F' θ' H', Frm F θ H F' θ' H' → StoR T F' θ' H' st' → RRep T fr H F' θ' H' v pv → Q v H'
  | .exc pv st' => ∀ cls d F' θ' H', Frm F θ H F' θ' H' → StoR T F' θ' H' st' → ERepT T F' θ' H' cls d pv → E cls d H'
  | .bad => False
def frOf (P : Prog) (f : Nat) : Bool := match P.funs[f]? with
  | some fd => fd.fr
  | none => false
def npOf (P : Prog) (f : Nat) : Nat := match P.funs[f]? with
  | some fd => fd.np
  | none => 0
def spF (T : Tab) (n f : Nat) : Sp := fun vs H Q E => vs.length = npOf T.P f ∧ ∃ F θ st ps, StoR T F θ H st ∧ Reps T F θ H vs ps ∧ CPost T (frOf T.P f) F θ H (callF T.P n (.f f) ps st) Q E
/-- the defs that may be called -/
structure CallOk (T : Tab) (n : Nat) (X : Cx) (c : CE) : Prop where
  room : Room (n + 20) X.A
  gf : ∀ x f, c.gl.lookup x = some (.fn f) → X.mg x = some (.ref (T.fa f)) ∧ PySem.W.keepIn X.K (.ref (T.fa f)) = true
  fns : ∀ x f, c.gl.lookup x = some (.fn f) → ∃ fd ps, FnOk X.prog X.w X.K X.mg X.base (L2.CX X.prog X.w) (n + 20) (T.fa f) fd ps (spF T n f) ∧ Binds X.K fd ps [] ∧ ps.length = npOf T.P f
theorem _root_.PB.SR.called {A : Act} {F F' : Addr → Prop} {θ θ' : List Addr} {H H' : Hp} {σ : L2.St} {ρ : REnv} {st st' : Sto} (s : SR A F θ H σ ρ st) (m : Frm F θ H F' θ' H') (so : StoR A.T F' θ' H' st') : SR A F' θ' H' σ ρ st' := by
  refine ⟨so, fun a ha => m.e.f a (s.f0 a ha), fun a ha => ?_, fun a ha => (s.lk a ha).trans (m.e.h a (s.f0 a ha)), fun a o h1 h2 h3 => ?_, fun i a h => m.e.t i a (s.t0 i a h), fun a ha => ?_, s.le, fun i sl h => (s.rs i sl h).ext m.e fun a v e1 e2 => ?_, s.ow⟩
  · rcases m.f a ha with q | q
    · exact s.fn a q
    · exact .inr (s.new0 q)
  · refine m.k a o (s.kp a o h1 h2 h3) (fun q => ?_) fun q => ?_
    · rcases s.fn a q with z | z
      · exact h2 z
      · rw [z] at h1; cases h1
    · rcases s.tn a q with z | z
      · exact h3 z
      · rw [z] at h1; cases h1
  · rcases m.t a ha with q | q
    · exact s.tn a q
    · exact .inr (s.new0 q)
  · have hs := s.rs i sl h
    rw [e1] at hs
    obtain ⟨b, h1, h2, h3, h4, _⟩ := hs
    rw [e2] at h1
    cases h1
    obtain ⟨ob, hob⟩ := h2.some
    refine ⟨(m.k _ _ hob h3 h4).trans hob.symm, fun q => ?_, fun q => ?_⟩
    · rcases m.f _ q with z | z
      · exact h3 z
      · rw [hob] at z; cases z
    · rcases m.t _ q with z | z
      · exact h4 z
      · rw [hob] at z; cases z
theorem RRep.n {A : Act} {fr : Bool} {F F' : Addr → Prop} {θ θ' : List Addr} {H H' : Hp} {σ : L2.St} {ρ : REnv} {st : Sto} {v : V} {pv : PV} (s : SR A F θ H σ ρ st) (r : RRep A.T fr H F' θ' H' v pv) (s' : SR A F' θ' H' σ ρ st) : (if fr = true then NRep A F' θ' H' σ ρ v pv else Rep A.T F' θ' H' v pv) := by
  unfold RRep at r
  cases fr with
  | false => simpa using r
  | true =>
    simp only [if_true] at r ⊢
    rcases r with r | ⟨a, rfl, h1, h2, h3, h4⟩
    · exact .inl r
    · exact .inr ⟨a, rfl, h1, h2, h3, s.new0 h4, s.newO h4⟩
theorem withDfl_full (P : Prog) (f : Nat) (xs : List PV) (h : xs.length = npOf P f) : P.withDfl f xs = xs := by
  unfold Prog.withDfl npOf at *
  split
  · rename_i fd e
    rw [e] at h
    simp only at h
    rw [h]
    simp
  · rfl
theorem callT {A : Act} {n : Nat} (hA : A.T = T) {fr : Bool} {f : Nat} {es : Es} (hb : noBor es = true) (hl : esLen es = npOf T.P f) (hf : fr = true → frOf T.P f = true) {σ : L2.St} {H : Hp} {Q : VK} (q : tE A W (callF T.P n) fr (.call f es) σ H Q) : tCallSD (spF T n f) [] (WE W) (tAs A W (callF T.P n) es) σ H Q := by
  subst hA
  obtain ⟨F, θ, ρ, st, s, p⟩ := q
  unfold evE at p
  refine (Post.bind (C1 := cAs A es) s p).mono fun vs H1 ⟨F1, θ1, ρ1, st1, as, x1, s1, c1, p1⟩ => ?_
  obtain ⟨h1, _⟩ := cAs_reps (ρ' := ρ1) hb c1
  obtain ⟨l1, l2⟩ := cAs_len c1
  rw [withDfl_full _ _ _ (l2.trans hl)] at p1
  rw [List.append_nil]
  refine ⟨l1.trans hl, F1, θ1, st1, as, s1.so, h1, ?_⟩
  cases hr : callF A.T.P n (.f f) as st1 with
  | bad => rw [hr] at p1; exact p1.elim
  | exc v st2 =>
    rw [hr] at p1
    exact fun cls d F' θ' H' m so er => p1 cls d F' θ' H' m.e (s1.called m so) er
  | ok v st2 =>
    rw [hr] at p1
    intro x F' θ' H' m so rr
    have s2 : SR A F' θ' H' σ ρ1 st2 := s1.called m so
    have rn : (if frOf A.T.P f = true then NRep A F' θ' H' σ ρ1 x v else Rep A.T F' θ' H' x v) := by
      unfold RRep at rr
      cases hfr : frOf A.T.P f with
      | false => rw [hfr] at rr; simpa using rr
      | true =>
        rw [hfr] at rr
        simp only [if_true] at rr ⊢
        rcases rr with rr | ⟨a, rfl, h1, h2, h3, h4⟩
        · exact .inl rr
        · exact .inr ⟨a, rfl, h1, h2, h3, s1.new0 h4, s1.newO h4⟩
    cases hfr : frOf A.T.P f with
    | true =>
      rw [hfr] at rn
      simp only [if_true] at rn
      exact Fin.nr (fr := fr) p1 m.e s2 rn
    | false =>
      rw [hfr] at rn
      have : fr = false := by
        cases fr with
        | false => rfl
        | true => rw [hf rfl] at hfr; cases hfr
      subst this
      exact p1 x F' θ' H' m.e s2 (by simpa [cM] using rn)
theorem callPE {A : Act} {n : Nat} (o : Ok T W X c) (k : CallOk T n X c) (hA : A.T = T) (hx : A.ex = ex) {fr : Bool} {f : Nat} {es : Es} {xs : List Expr} {x : Str} {p pos : Pos} (hg : c.isG x = true) (hm : c.gl.lookup x = some (.fn f)) (hd : (x == ("__debug__" : Str)) = false)
    (ha : AllA T ex W X (callF T.P n) es xs) (hb : noBor es = true) (hl : esLen es = npOf T.P f) (hf : fr = true → frOf T.P f = true) (h1 : xs ≠ []) : PE X (.Call (.Name x p) xs [] pos) (tE A W (callF T.P n) fr (.call f es)) := by
  obtain ⟨fd, ps, F, B, _⟩ := k.fns x f hm
  obtain ⟨k1, k2⟩ := k.gf x f hm
  have pl := ha.plain
  match xs, ha, h1, pl with
  | y :: ys, ha, _, pl =>
    rw [List.all_cons, Bool.and_eq_true] at pl
    exact (pe_callSD (dvs := []) (ds := []) F k.room (o.gl hg) k1 k2 B .nil (fun σ => passAt o.tk σ) (ha.pa hA hx) hd (star_cons pl.1) (star_plain pl.2)).imp fun σ H Q q => callT hA hb hl hf q
end
end PB

end
section
set_option Elab.async false
set_option linter.all false
set_option maxRecDepth 100000
set_option exponentiation.threshold 10000
/-! PB20: what changes a name's own thing. -/
namespace PB
open PySem L2 PySem.Calls PyProof.Rows RZ RT

section
variable {T : Tab} {ex : Option (Addr × Value × Option Addr)} {W : WX} {X : Cx} {c : CE} {cf : CF} {A : Act}
/-- how the change is written -/
def mName : MOp → List Expr → Str
  | .append, _ => "append"
  | .extend, _ => "extend"
  | .insert, _ => "insert"
  | .popL, _ => "pop"
  | .popAt, _ => "pop"
  | .clearL, _ => "clear"
  | .popK, _ => "pop"
  | .clearD, _ => "clear"
  | .update, _ => "update"
  | _, _ => ""
def mId : MOp → Option (Str × String)
  | .append => some ("append", "list.append")
  | .extend => some ("extend", "list.extend")
  | .insert => some ("insert", "list.insert")
  | .popAt => some ("pop", "list.pop")
  | _ => none
theorem mut_append {w w' r : PV} {ps : List PV} (h : mutF .append w ps = some (w', r)) : ∃ xs v, w = .lst xs ∧ ps = [v] ∧ xs.length < lim ∧ w' = .lst (xs ++ [v]) ∧ r = .non := by
  rcases ps with _ | ⟨v, _ | ⟨u, ps⟩⟩ <;> cases w <;> first | (simp [mutF] at h; done) | skip
  rename_i xs
  simp only [mutF, Option.ite_none_right_eq_some, Option.some.injEq, Prod.mk.injEq] at h
  exact ⟨xs, v, rfl, rfl, h.1, h.2.1.symm, h.2.2.symm⟩
theorem mut_extend {w w' r : PV} {ps : List PV} (h : mutF .extend w ps = some (w', r)) : ∃ xs ys, w = .lst xs ∧ ps = [.lst ys] ∧ xs.length + ys.length ≤ lim ∧ w' = .lst (xs ++ ys) ∧ r = .non := by
  rcases ps with _ | ⟨v, _ | ⟨u, ps⟩⟩ <;> cases w <;> first | (simp [mutF] at h; done) | skip
  rename_i xs
  cases v <;> first | (simp [mutF] at h; done) | skip
  rename_i ys
  simp only [mutF, Option.ite_none_right_eq_some, Option.some.injEq, Prod.mk.injEq] at h
  exact ⟨xs, ys, rfl, rfl, h.1, h.2.1.symm, h.2.2.symm⟩
theorem mut_insert {w w' r : PV} {ps : List PV} (h : mutF .insert w ps = some (w', r)) : ∃ xs i v, w = .lst xs ∧ ps = [.int i, v] ∧ (0 ≤ i ∧ i ≤ xs.length ∧ xs.length < lim) ∧ w' = .lst (xs.take i.toNat ++ v :: xs.drop i.toNat) ∧ r = .non := by
  rcases ps with _ | ⟨v, _ | ⟨u, _ | ⟨t, ps⟩⟩⟩ <;> cases w <;> first | (simp [mutF] at h; done) | skip
  rename_i xs
  cases v <;> first | (simp [mutF] at h; done) | skip
  rename_i i
  simp only [mutF, Option.ite_none_right_eq_some, Option.some.injEq, Prod.mk.injEq] at h
  exact ⟨xs, i, u, rfl, rfl, h.1, h.2.1.symm, h.2.2.symm⟩
theorem mut_popL {w w' r : PV} {ps : List PV} (h : mutF .popL w ps = some (w', r)) : ∃ xs, w = .lst xs ∧ ps = [] ∧ xs.getLast? = some r ∧ w' = .lst xs.dropLast := by
  rcases ps with _ | ⟨v, ps⟩ <;> cases w <;> first | (simp [mutF] at h; done) | skip
  rename_i xs
  simp only [mutF] at h
  split at h
  · rename_i v e
    cases h
    exact ⟨xs, rfl, rfl, e, rfl⟩
  · cases h
theorem mut_popAt {w w' r : PV} {ps : List PV} (h : mutF .popAt w ps = some (w', r)) : ∃ xs i k, w = .lst xs ∧ ps = [.int i] ∧ pIx xs.length i = some k ∧ xs[k]? = some r ∧ w' = .lst (xs.eraseIdx k) := by
  rcases ps with _ | ⟨v, _ | ⟨u, ps⟩⟩ <;> cases w <;> first | (simp [mutF] at h; done) | skip
  · rename_i xs
    cases v <;> first | (simp [mutF] at h; done) | skip
    rename_i i
    simp only [mutF] at h
    split at h
    · rename_i k e
      split at h
      · rename_i v e2
        cases h
        exact ⟨xs, i, k, rfl, rfl, e, e2, rfl⟩
      · cases h
    · cases h
/-- a change by values -/
def rMut (op : MOp) : V → List V → Hp → VK → Prop := fun x xs H Q => ∃ (A : Act) (W : WX) (σ : L2.St) (i : Nat) (a : Addr) (F : Addr → Prop) (θ : List Addr) (ρ : REnv) (st : Sto) (ps : List PV) (w w' r : PV), x = .ref a ∧ SR A F θ H σ ρ st ∧ σ[i]? = some (some x) ∧ Reps A.T F θ H xs ps ∧ ρ[i]? = some (.ow w) ∧ mutF op w ps = some (w', r) ∧
  Post A W (cM A false σ) F θ H σ (.ok r (ρ.set i (.ow w')) st) Q
theorem ow_at {F : Addr → Prop} {θ : List Addr} {H : Hp} {σ : L2.St} {ρ : REnv} {st : Sto} {i : Nat} {a : Addr} {w : PV} (s : SR A F θ H σ ρ st) (h : ρ[i]? = some (.ow w)) (e : σ[i]? = some (some (.ref a))) : ObjAt A.T F θ H a w ∧ ¬ F a := by
  obtain ⟨b, h1, h2, h3, _⟩ := s.rs i _ h
  rw [e] at h1
  cases h1
  exact ⟨h2, h3⟩
/-- the thing behind the change -/
theorem wr {F : Addr → Prop} {θ : List Addr} {H : Hp} {σ : L2.St} {ρ : REnv} {st : Sto} {i : Nat} {a : Addr} {w w' r : PV} {v : V} {o : HO} {Q : VK} (s : SR A F θ H σ ρ st) (h : ρ[i]? = some (.ow w)) (e : σ[i]? = some (some (.ref a))) (ob : ObjAt A.T F θ (upd H a o) a w') (rr : Rep A.T F θ H v r)
    (p : Post A W (cM A false σ) F θ H σ (.ok r (ρ.set i (.ow w')) st) Q) : Q v (upd H a o) := by
  obtain ⟨_, nF⟩ := ow_at s h e
  exact p v F θ _ (.upd nF) (s.write h e ob) (by simpa [cM] using rr.ext (Ext.upd nF))
theorem mut_list {op : MOp} {nm : Str} {id : String} (h : mId op = some (nm, id)) : MtR X id (rMut op) := by
  rintro pins s σ0 H x xs v us Q I rx rs ⟨A, W, σ, i, a, F, θ, ρ, st, ps, w, w', r, rfl, sr, hi, rr, ho, hm, p⟩
  obtain ⟨ob, nF⟩ := ow_at sr ho hi
  have ext : ∀ {o : HO}, Ext F θ H F θ (upd H a o) := .upd nF
  cases op <;> first | (cases h; done) | skip
  · cases h
    obtain ⟨xs', y, rfl, rfl, hl, rfl, rfl⟩ := mut_append hm
    obtain ⟨vs, h1, h2⟩ := ob
    cases rr with
    | cons r1 r2 =>
      cases r2
      rename_i u
      exact mt_append pins s σ0 H _ _ v us Q I rx rs ⟨a, vs, u, rfl, rfl, h1, by rw [h2.length, lim_eq]; exact hl, wr (w' := .lst (xs' ++ [y])) sr ho hi ⟨_, upd_same, (h2.append (.cons r1 .nil)).ext ext⟩ .non p⟩
  · cases h
    obtain ⟨xs', ys, rfl, rfl, hl, rfl, rfl⟩ := mut_extend hm
    obtain ⟨vs, h1, h2⟩ := ob
    cases rr with
    | cons r1 r2 =>
      cases r2
      cases r1 with
      | lst f hb rb =>
        exact mt_extend pins s σ0 H _ _ v us Q I rx rs ⟨a, _, vs, _, rfl, rfl, h1, hb, by rw [h2.length, rb.length, lim_eq]; exact hl, wr (w' := .lst (xs' ++ ys)) sr ho hi ⟨_, upd_same, (h2.append rb).ext ext⟩ .non p⟩
  · cases h
    obtain ⟨xs', k, y, rfl, rfl, hl, rfl, rfl⟩ := mut_insert hm
    obtain ⟨vs, h1, h2⟩ := ob
    cases rr with
    | cons r1 r2 =>
      cases r2 with
      | cons r2 r3 =>
        cases r3
        cases r1
        rename_i u
        have hlim : lim < 2 ^ 62 := by unfold lim; decide
        refine mt_insert pins s σ0 H _ _ v us Q I rx rs ⟨a, vs, k, u, rfl, rfl, h1, by rw [h2.length, lim_eq]; exact hl.2.2, hl.1, by have := hl.2.1; have := hl.2.2; omega, wr (w' := .lst (xs'.take k.toNat ++ y :: xs'.drop k.toNat)) sr ho hi ⟨_, upd_same, ?_⟩ .non p⟩
        have := ((h2.take k.toNat).append (.cons r2 (h2.drop k.toNat))).ext (ext (o := .lst (vs.take k.toNat ++ [u] ++ vs.drop k.toNat)))
        simpa using this
  · cases h
    obtain ⟨xs', k, j, rfl, rfl, hk, hr, rfl⟩ := mut_popAt hm
    obtain ⟨vs, h1, h2⟩ := ob
    cases rr with
    | cons r1 r2 =>
      cases r2
      cases r1
      obtain ⟨y, h3, h4⟩ := h2.get' hr
      have hk' : ixN vs.length k = some j := by rw [h2.length]; exact hk
      obtain ⟨q1, q2, q3, q4⟩ := ixN_seq hk'
      have hz := (I.hok a _ h1).1
      have hlim := lim_eq
      have hl2 : lim < 2 ^ 62 := by unfold lim; decide
      exact mt_popAt pins s σ0 H _ _ v us Q I rx rs ⟨a, vs, k, j, y, rfl, rfl, h1, by omega, by omega, q1, h3, wr (w' := .lst (xs'.eraseIdx j)) sr ho hi ⟨_, upd_same, (h2.eraseIdx j).ext ext⟩ h4 p⟩
theorem mut_pop0 : MtR X "list.pop" (rMut .popL) := by
  rintro pins s σ0 H x xs v us Q I rx rs ⟨A, W, σ, i, a, F, θ, ρ, st, ps, w, w', r, rfl, sr, hi, rr, ho, hm, p⟩
  obtain ⟨ob, nF⟩ := ow_at sr ho hi
  obtain ⟨xs', rfl, rfl, hl, rfl⟩ := mut_popL hm
  obtain ⟨vs, h1, h2⟩ := ob
  cases rr
  rw [List.getLast?_eq_getElem?] at hl
  obtain ⟨y, h3, h4⟩ := h2.get' hl
  rw [← h2.length] at h3
  exact mt_pop pins s σ0 H _ _ v us Q I rx rs ⟨a, vs, y, rfl, rfl, h1, h3, wr (w' := .lst xs'.dropLast) sr ho hi ⟨_, upd_same, h2.dropLast.ext (.upd nF)⟩ h4 p⟩
/-- the reading of a change, the receiver first -/
theorem mutT {op : MOp} {i : Nat} {es : Es} (hb : noBor es = true) {σ : L2.St} {H : Hp} {Q : VK} (hk : ∀ w, mKind op w = true → ∃ xs, w = .lst xs) {K : PySem.W.Frag} (q : tE A W cf false (.mutS op i es) σ H Q) :
    ∃ v, σ[i]? = some (some v) ∧ tyV K "list" v H ∧ tAs A W cf es σ H fun vs H2 => rMut op v vs H2 Q := by
  obtain ⟨F, θ, ρ, st, s, p⟩ := q
  unfold evE at p
  split at p
  · rename_i v0 hv0
    split at p
    · rename_i hk0
      obtain ⟨xs0, rfl⟩ := hk _ hk0
      obtain ⟨a, h1, ⟨vs0, h2, _⟩, _⟩ := s.rs i _ hv0
      refine ⟨.ref a, h1, .inl ⟨rfl, vs0, .inl (.inl h2)⟩, ?_⟩
      refine (Post.bind (C1 := cAs A es) s p).mono fun vs H1 ⟨F1, θ1, ρ1, st1, as, x1, s1, c1, p1⟩ => ?_
      obtain ⟨c2, _⟩ := cAs_reps (ρ' := ρ1) hb c1
      split at p1
      · rename_i w hw
        split at p1
        · rename_i w' r hm
          exact ⟨A, W, σ, i, a, F1, θ1, ρ1, st1, as, w, w', r, rfl, s1, h1, c2, hw, hm, p1⟩
        · exact p1.elim
      · exact p1.elim
    · exact p.elim
  · exact p.elim
theorem mutPE (o : Ok T W X c) (hA : A.T = T) (hx : A.ex = ex) {op : MOp} {nm : Str} {id : String} (hid : mId op = some (nm, id)) {i : Nat} {x : Str} {p apos cpos : Pos} {es : Es} {xs : List Expr} (hn : nameOk c i x = true) (ha : AllA T ex W X cf es xs) (hb : noBor es = true) (h1 : xs ≠ []) (hl : xs.length < 30) (hline : (apos.endLine == cpos.line) = true) :
    PE X (.Call (.Attribute (.Name x p) nm apos) xs [] cpos) (tE A W cf false (.mutS op i es)) := by
  have pl := ha.plain
  have hk : ∀ w, mKind op w = true → ∃ xs, w = .lst xs := fun w hw => by
    cases op <;> first | (cases hid; done) | skip
    all_goals (cases w <;> first | (cases hw; done) | exact ⟨_, rfl⟩)
  match xs, ha, h1, pl with
  | y :: ys, ha, _, pl =>
    have few := star_few (cpos := cpos) (env := X.env) pl hl
    rw [List.all_cons, Bool.and_eq_true] at pl
    have go : ∀ {T' : String} (slot : PySem.Slot "list" nm id) (hty : typeOf (.builtin id) = pure (.type "method_descriptor")), PE X (.Call (.Attribute (.Name x p) nm apos) (y :: ys) [] cpos) (tE A W cf false (.mutS op i es)) := fun {_} slot hty =>
      (pe_bm PySem.F.plainAttrs_list slot hty (mut_list hid) (nameOk_ok o hn).1 (ha.pa hA hx) (base_ok rfl) few hline (star_cons pl.1) (star_plain pl.2)).imp fun σ H Q q => mutT hb hk q
    cases op <;> first | (cases hid; done) | skip
    · cases hid; exact go (T' := "") PySem.F.slot_list_append PySem.F.type_list_append
    · cases hid; exact go (T' := "") PySem.F.slot_list_extend PySem.F.type_list_extend
    · cases hid; exact go (T' := "") PySem.F.slot_list_insert PySem.F.type_list_insert
    · cases hid; exact go (T' := "") PySem.F.slot_list_pop PySem.F.type_list_pop
theorem pop0PE (o : Ok T W X c) {i : Nat} {x : Str} {p apos cpos : Pos} (hn : nameOk c i x = true) (hline : (apos.endLine == cpos.line) = true) :
    PE X (.Call (.Attribute (.Name x p) "pop" apos) [] [] cpos) (tE A W cf false (.mutS .popL i .nil)) :=
  (pe_bm0 PySem.F.plainAttrs_list PySem.F.slot_list_pop PySem.F.type_list_pop mut_pop0 (nameOk_ok o hn).1 (base_ok rfl) hline).imp fun σ H Q q => by
    obtain ⟨v, h1, h2, h3⟩ := mutT (K := X.K) rfl (fun w hw => by cases w <;> first | (cases hw; done) | exact ⟨_, rfl⟩) q
    exact ⟨v, h1, h2, tAs_nil h3⟩
end
end PB

end
section
set_option Elab.async false
set_option linter.all false
set_option maxRecDepth 100000
set_option exponentiation.threshold 10000
/-! PB21: the checker of expressions, and that it is right. -/
namespace PB
open PySem L2 PySem.Calls PyProof.Rows RZ RT

def chkBor : E → CE → Expr → Bool
  | .bor i, c, .Name x _ => nameOk c i x
  | _, _, _ => false
def isLC : Expr → Bool
  | .ListComp .. => true
  | .SetComp .. => true
  | .DictComp .. => true
  | _ => false
mutual
def chkE : E → CE → Prog → Bool → Expr → Bool
  | .const v, c, P, fr, ast => constOk v ast
  | .glob g, c, P, fr, ast => (match ast with
    | .Name x _ => globOk c g x
    | _ => false)
  | .slot i, c, P, fr, ast => (match ast with
    | .Name x _ => !fr && nameOk c i x
    | _ => false)
  | .mov i, c, P, fr, ast => (match ast with
    | .Name x _ => fr && nameOk c i x
    | _ => false)
  | .prim op es, c, P, fr, ast => (match op, ast with
    | .mkT, .Tuple xs _ _ => noBor es && decide (xs.length ≤ 1000) && chkEs es c P xs
    | .mkL, .List xs _ => noBor es && decide (xs.length ≤ 1000) && chkEs es c P xs
    | .mkD, .Dict [] [] _ => esLen es == 0
    | _, _ => (match shape c op ast with
      | some xs => (!fr || freshOp op) && primQ op es && chkEs es c P xs
      | none => false))
  | .fld e f, c, P, fr, ast => (match ast with
    | .Attribute o nm _ => !fr && (c.an[f]? == some nm) && plainBase o && (if isBor e then chkBor e c o else chkE e c P false o)
    | _ => false)
  | .and a b, c, P, fr, ast => (match ast with
    | .BoolOp .And (x :: y :: rest) pos => !fr && chkE a c P false x && chkE b c P false (if rest.isEmpty then y else .BoolOp .And (y :: rest) pos)
    | _ => false)
  | .or a b, c, P, fr, ast => (match ast with
    | .BoolOp .Or (x :: y :: rest) pos => !fr && chkE a c P false x && chkE b c P false (if rest.isEmpty then y else .BoolOp .Or (y :: rest) pos)
    | _ => false)
  | .not a, c, P, fr, ast => (match ast with
    | .UnaryOp .Not x _ => !fr && chkE a c P false x
    | _ => false)
  | .ite t a b, c, P, fr, ast => (match ast with
    | .IfExp x y z _ => chkE t c P false x && chkE a c P fr y && chkE b c P fr z
    | _ => false)
  | .chain o1 o2 a b e, c, P, fr, ast => (match ast with
    | .Compare x [p, q] [y, z] _ => !fr && cop o1 p && cop o2 q && !lastMarks [p, q] [y, z] && chkE a c P false x && chkE b c P false y && chkE e c P false z
    | _ => false)
  | .comp own it tg cond e, c, P, fr, ast => (match ast with
    | .ListComp elt [⟨tga, iter, ifs, 0⟩] scope _ => c.calm && chkIt it c P tga iter && blkC c.N c.sc scope (c.own own) && noSet iter && tgOk (c.blk scope) tg tga && tgIn tg own && chkO cond (c.blk scope) P ifs && chkE e (c.blk scope) P false elt
    | _ => false)
  | .call f es, c, P, fr, ast => (match ast with
    | .Call (.Name x _) xs [] _ => c.isG x && (c.gl.lookup x == some (.fn f)) && !(x == "__debug__") && noBor es && (esLen es == npOf P f) && (!fr || frOf P f) && !xs.isEmpty && chkEs es c P xs
    | _ => false)
  | .new e, c, P, fr, ast => !fr && plainTest ast && !isLC ast && chkE e c P true ast
  | .mutS op i es, c, P, fr, ast => (match ast with
    | .Call (.Attribute (.Name x _) nm apos) xs [] cpos => !fr && nameOk c i x && (apos.endLine == cpos.line) && (if op = .popL then nm == "pop" && (esLen es == 0) && xs.isEmpty else (match mId op with
      | some (nm', _) => nm == nm' && noBor es && !xs.isEmpty && decide (xs.length < 30) && chkEs es c P xs
      | none => false))
    | _ => false)
  | _, _, _, _, _ => false
def chkEs : Es → CE → Prog → List Expr → Bool
  | .nil, c, P, xs => xs.isEmpty
  | .cons e es, c, P, xs => (match xs with
    | x :: xs => plainArg x && (if isBor e then chkBor e c x else chkE e c P false x) && chkEs es c P xs
    | [] => false)
def chkO : Option1 → CE → Prog → List Expr → Bool
  | .none, c, P, xs => xs.isEmpty
  | .some e, c, P, xs => (match xs with
    | [x] => chkE e c P false x
    | _ => false)
def chkIt : It → CE → Prog → Expr → Expr → Bool
  | .val e, c, P, tg, ast => chkE e c P false ast
  | .rng1 e, c, P, tg, ast => (match ast with
    | .Call (.Name x _) [a] [] _ => c.isB "range" x && plainArg a && chkE e c P false a
    | _ => false)
  | .rng2 e1 e2, c, P, tg, ast => (match ast with
    | .Call (.Name x _) [a, b] [] _ => c.isB "range" x && plainArg a && plainArg b && chkE e1 c P false a && chkE e2 c P false b
    | _ => false)
  | .enum e, c, P, tg, ast => (match tg, ast with
    | .Tuple _ _ _, .Call (.Name x _) [a] [] _ => c.isB "enumerate" x && plainArg a && chkE e c P false a
    | _, _ => false)
  | .zip e1 e2, c, P, tg, ast => (match tg, ast with
    | .Tuple _ _ _, .Call (.Name x _) [a, b] [] _ => c.isB "zip" x && plainArg a && plainArg b && chkE e1 c P false a && chkE e2 c P false b
    | _, _ => false)
  | _, _, _, _, _ => false
end
end PB

end
section
set_option Elab.async false
set_option linter.all false
set_option maxRecDepth 100000
set_option exponentiation.threshold 10000
set_option maxHeartbeats 1000000
/-! PB22: the checker of expressions is right. -/
namespace PB
open PySem L2 PySem.Calls PyProof.Rows RZ RT

structure Snd (T : Tab) (ex : Option (Addr × Value × Option Addr)) (W : WX) (X : Cx) (cf : CF) (fr : Bool) (e : E) (ast : Expr) : Prop where
  pe : ∀ A : Act, A.T = T → A.ex = ex → PE X ast (tE A W cf fr e)
  pt : fr = false → ∀ A : Act, A.T = T → A.ex = ex → PT X ast (tTest (tE A W cf false e))
section
variable {T : Tab} {ex : Option (Addr × Value × Option Addr)} {W : WX} {X : Cx} {c : CE} {cf : CF} {n : Nat}
theorem Snd.of {fr : Bool} {e : E} {ast : Expr} (h : ∀ A : Act, A.T = T → A.ex = ex → PE X ast (tE A W cf fr e)) (hp : plainTest ast = true) : Snd T ex W X cf fr e ast :=
  ⟨h, fun hf A h1 h2 => by subst hf; exact pt_val (h A h1 h2) (test_ok hp)⟩
theorem pw_bool {op : BoolOp} {xs : List Expr} {pos : Pos} {t : TT} (h : PT X (.BoolOp op xs pos) t) : PW X (.BoolOp op xs pos) t := ⟨fun wh pins s σ H Q I q => h.run pins s σ H Q I q⟩
theorem ca_ok (k : CallOk T n X c) {s : Shared} {H : Hp} {scope : Scope} {C : Addr} {cl : List (Str × Addr)} {fp : List Addr} : CallOk T n (X.blk s H scope (compEnvC scope cl C X.env) fp) (c.blk scope) := ⟨k.room, k.gf, k.fns⟩
theorem and_snd {a b : E} {x y : Expr} {rest : List Expr} {pos : Pos} (ha : Snd T ex W X cf false a x) (hb : Snd T ex W X cf false b (if rest.isEmpty then y else .BoolOp .And (y :: rest) pos)) : Snd T ex W X cf false (.and a b) (.BoolOp .And (x :: y :: rest) pos) := by
  cases rest with
  | nil =>
    have hb : Snd T ex W X cf false b y := hb
    exact ⟨fun A h1 h2 => (pe_and (ha.pe A h1 h2) (pe_one (hb.pe A h1 h2))).imp fun σ H Q q => andT q, fun _ A h1 h2 => (pw_and (ha.pt rfl A h1 h2) (pw_and1 (hb.pt rfl A h1 h2))).pt.imp fun σ H Q q => andP q⟩
  | cons z rest =>
    have hb : Snd T ex W X cf false b (.BoolOp .And (y :: z :: rest) pos) := hb
    exact ⟨fun A h1 h2 => (pe_and (ha.pe A h1 h2) (hb.pe A h1 h2)).imp fun σ H Q q => andT q, fun _ A h1 h2 => (pw_and (ha.pt rfl A h1 h2) (pw_bool (hb.pt rfl A h1 h2))).pt.imp fun σ H Q q => andP q⟩
theorem or_snd {a b : E} {x y : Expr} {rest : List Expr} {pos : Pos} (ha : Snd T ex W X cf false a x) (hb : Snd T ex W X cf false b (if rest.isEmpty then y else .BoolOp .Or (y :: rest) pos)) : Snd T ex W X cf false (.or a b) (.BoolOp .Or (x :: y :: rest) pos) := by
  cases rest with
  | nil =>
    have hb : Snd T ex W X cf false b y := hb
    exact ⟨fun A h1 h2 => (pe_or (ha.pe A h1 h2) (pe_one (hb.pe A h1 h2))).imp fun σ H Q q => orT q, fun _ A h1 h2 => (pw_or (ha.pt rfl A h1 h2) (pw_or1 (hb.pt rfl A h1 h2))).pt.imp fun σ H Q q => orP q⟩
  | cons z rest =>
    have hb : Snd T ex W X cf false b (.BoolOp .Or (y :: z :: rest) pos) := hb
    exact ⟨fun A h1 h2 => (pe_or (ha.pe A h1 h2) (hb.pe A h1 h2)).imp fun σ H Q q => orT q, fun _ A h1 h2 => (pw_or (ha.pt rfl A h1 h2) (pw_bool (hb.pt rfl A h1 h2))).pt.imp fun σ H Q q => orP q⟩
theorem not_snd {a : E} {x : Expr} {pos : Pos} (ha : Snd T ex W X cf false a x) : Snd T ex W X cf false (.not a) (.UnaryOp .Not x pos) :=
  ⟨fun A h1 h2 => (pe_not (ha.pe A h1 h2)).imp fun σ H Q q => notT q, fun _ A h1 h2 => (pt_not (ha.pt rfl A h1 h2)).imp fun σ H Q q => notP q⟩
theorem ite_snd {fr : Bool} {t a b : E} {x y z : Expr} {pos : Pos} (ht : Snd T ex W X cf false t x) (ha : Snd T ex W X cf fr a y) (hb : Snd T ex W X cf fr b z) : Snd T ex W X cf fr (.ite t a b) (.IfExp x y z pos) :=
  ⟨fun A h1 h2 => (pe_ifExp (ht.pt rfl A h1 h2) (ha.pe A h1 h2) (hb.pe A h1 h2)).imp fun σ H Q q => iteT q, fun hf A h1 h2 => by
    subst hf
    exact (pt_ifExp (ht.pt rfl A h1 h2) (ha.pt rfl A h1 h2) (hb.pt rfl A h1 h2)).imp fun σ H Q q => iteP q⟩
theorem chain_snd (o : Ok T W X c) {o1 o2 : Op} {p q : CmpOp} {a b e : E} {x y z : Expr} {pos : Pos} (h1 : cop o1 p = true) (h2 : cop o2 q = true) (hm : lastMarks [p, q] [y, z] = false) (ha : Snd T ex W X cf false a x) (hb : Snd T ex W X cf false b y) (he : Snd T ex W X cf false e z) :
    Snd T ex W X cf false (.chain o1 o2 a b e) (.Compare x [p, q] [y, z] pos) := by
  refine ⟨fun A k1 k2 => ?_, fun _ A k1 k2 => ?_⟩
  · obtain ⟨g1, r1, q1⟩ := cop_ok (A := A) (fr := false) o k1 h1
    obtain ⟨g2, r2, q2⟩ := cop_ok (A := A) (fr := false) o k1 h2
    exact (pe_chain r1 r2 (ha.pe A k1 k2) (hb.pe A k1 k2) (he.pe A k1 k2) hm).imp fun σ H Q q => chainT k1 q1 q2 q
  · obtain ⟨g1, r1, q1⟩ := cop_ok (A := A) (fr := false) o k1 h1
    obtain ⟨g2, r2, q2⟩ := cop_ok (A := A) (fr := false) o k1 h2
    exact (pt_chain r1 r2 (ha.pe A k1 k2) (hb.pe A k1 k2) (he.pe A k1 k2) hm).imp fun σ H Q q => chainT k1 q1 q2 q
theorem tA_of {A : Act} {e : E} {x : Expr} (hb : isBor e = false) (h : PE X x (tE A W cf false e)) : PE X x (tA A W cf e) := h.imp fun σ H Q q => tA_tE (isBor_ne hb) q
theorem bor_snd (o : Ok T W X c) {e : E} {x : Expr} (h : chkBor e c x = true) (A : Act) : PE X x (tA A W cf e) := by
  unfold chkBor at h
  split at h
  · exact borPE o h
  · cases h
end
section
variable {T : Tab} {ex : Option (Addr × Value × Option Addr)} {n : Nat}
mutual
theorem sndE : ∀ (e : E) (c : CE) (W : WX) (X : Cx) (fr : Bool) (ast : Expr), Ok T W X c → CallOk T n X c → chkE e c T.P fr ast = true → Snd T ex W X (callF T.P n) fr e ast
  | .const v, c, W, X, fr, ast, o, k, h => by
    unfold chkE at h
    refine .of (fun A _ _ => constPE h) ?_
    unfold constOk at h
    split at h <;> first | rfl | cases h
  | .glob g, c, W, X, fr, ast, o, k, h => by
    unfold chkE at h
    split at h
    · exact .of (fun A h1 _ => globPE o h1 h) rfl
    · cases h
  | .slot i, c, W, X, fr, ast, o, k, h => by
    unfold chkE at h
    split at h
    · rw [Bool.and_eq_true] at h
      have hf : fr = false := by simpa using h.1
      subst hf
      exact .of (fun A _ _ => slotPE o h.2) rfl
    · cases h
  | .bor i, c, W, X, fr, ast, o, k, h => by unfold chkE at h; cases h
  | .mov i, c, W, X, fr, ast, o, k, h => by
    unfold chkE at h
    split at h
    · rw [Bool.and_eq_true] at h
      have hf : fr = true := h.1
      subst hf
      exact .of (fun A _ _ => movPE o h.2) rfl
    · cases h
  | .prim op es, c, W, X, fr, ast, o, k, h => by
    unfold chkE at h
    split at h
    · simp only [Bool.and_eq_true, decide_eq_true_eq] at h
      exact .of (fun A h1 h2 => tupPE h1 h2 (sndEs es c W X _ o k h.2) h.1.1 h.1.2) rfl
    · simp only [Bool.and_eq_true, decide_eq_true_eq] at h
      exact .of (fun A h1 h2 => lstPE h1 h2 (sndEs es c W X _ o k h.2) h.1.1 h.1.2) rfl
    · cases es with
      | nil => exact .of (fun A h1 h2 => dic0PE) rfl
      | cons _ _ => cases h
    · split at h
      · rename_i xs hs
        simp only [Bool.and_eq_true, Bool.or_eq_true] at h
        have hf : fr = true → freshOp op = true := fun z => by
          rcases h.1.1 with q | q
          · rw [z] at q; cases q
          · exact q
        have ha := sndEs es c W X _ o k h.2
        refine ⟨fun A h1 h2 => primPE o h1 h2 hs ha hf h.1.2, fun z A h1 h2 => ?_⟩
        subst z
        exact primPT o h1 h2 hs ha hf h.1.2
      · cases h
  | .fld e f, c, W, X, fr, ast, o, k, h => by
    unfold chkE at h
    split at h
    · rename_i ob nm p
      simp only [Bool.and_eq_true] at h
      have hf : fr = false := by simpa using h.1.1.1
      subst hf
      have pa : ∀ A : Act, A.T = T → A.ex = ex → PE X ob (tA A W (callF T.P n) e) := fun A h1 h2 => by
        have q := h.2
        split at q
        · exact bor_snd o q A
        · rename_i hb
          exact tA_of (by simpa using hb) ((sndE e c W X false ob o k q).pe A h1 h2)
      exact .of (fun A h1 h2 => fldPE o h1 (pa A h1 h2) (beq_iff_eq.mp h.1.1.2) h.1.2) rfl
    · cases h
  | .and a b, c, W, X, fr, ast, o, k, h => by
    unfold chkE at h
    split at h
    · simp only [Bool.and_eq_true] at h
      have hf : fr = false := by simpa using h.1.1
      subst hf
      exact and_snd (sndE a c W X false _ o k h.1.2) (sndE b c W X false _ o k h.2)
    · cases h
  | .or a b, c, W, X, fr, ast, o, k, h => by
    unfold chkE at h
    split at h
    · simp only [Bool.and_eq_true] at h
      have hf : fr = false := by simpa using h.1.1
      subst hf
      exact or_snd (sndE a c W X false _ o k h.1.2) (sndE b c W X false _ o k h.2)
    · cases h
  | .not a, c, W, X, fr, ast, o, k, h => by
    unfold chkE at h
    split at h
    · simp only [Bool.and_eq_true] at h
      have hf : fr = false := by simpa using h.1
      subst hf
      exact not_snd (sndE a c W X false _ o k h.2)
    · cases h
  | .ite t a b, c, W, X, fr, ast, o, k, h => by
    unfold chkE at h
    split at h
    · simp only [Bool.and_eq_true] at h
      exact ite_snd (sndE t c W X false _ o k h.1.1) (sndE a c W X fr _ o k h.1.2) (sndE b c W X fr _ o k h.2)
    · cases h
  | .chain o1 o2 a b e, c, W, X, fr, ast, o, k, h => by
    unfold chkE at h
    split at h
    · simp only [Bool.and_eq_true] at h
      have hf : fr = false := by simpa using h.1.1.1.1.1.1
      subst hf
      exact chain_snd o h.1.1.1.1.1.2 h.1.1.1.1.2 (by simpa using h.1.1.1.2) (sndE a c W X false _ o k h.1.1.2) (sndE b c W X false _ o k h.1.2) (sndE e c W X false _ o k h.2)
    · cases h
  | .comp own it tg cond e, c, W, X, fr, ast, o, k, h => by
    unfold chkE at h
    split at h
    · rename_i elt tga iter ifs scope pos
      simp only [Bool.and_eq_true] at h
      obtain ⟨⟨⟨⟨⟨⟨⟨hc, h1⟩, h2⟩, h3⟩, h4⟩, h5⟩, h6⟩, h7⟩ := h
      have bk := blk_ok o h2
      refine .of (fun A k1 k2 => compPE o hc k1 k2 (sndIt it c W X tga iter o k h1 A k1 k2) h2 h3 h4 h5 (fun s H C cl fp => ?_) fun s H C cl fp => ?_) rfl
      · exact sndO cond (c.blk scope) _ ifs (ok_blk o bk s H C cl fp) (ca_ok k) h6
      · exact pe_ex fun A k1 k2 => (sndE e (c.blk scope) Wno _ false elt (ok_blk o bk s H C cl fp) (ca_ok k) h7).pe A k1 k2
    · cases h
  | .call f es, c, W, X, fr, ast, o, k, h => by
    unfold chkE at h
    split at h
    · simp only [Bool.and_eq_true] at h
      obtain ⟨⟨⟨⟨⟨⟨⟨h1, h2⟩, h3⟩, h4⟩, h5⟩, h6⟩, h7⟩, h8⟩ := h
      refine .of (fun A k1 k2 => callPE o k k1 k2 h1 (beq_iff_eq.mp h2) (by simpa using h3) (sndEs es c W X _ o k h8) h4 (beq_iff_eq.mp h5) (fun z => ?_) (by simpa using h7)) rfl
      rw [Bool.or_eq_true] at h6
      rcases h6 with q | q
      · rw [z] at q; cases q
      · exact q
    · cases h
  | .mutS op i es, c, W, X, fr, ast, o, k, h => by
    unfold chkE at h
    split at h
    · rename_i x p nm apos xs cpos
      rw [Bool.and_eq_true, Bool.and_eq_true, Bool.and_eq_true] at h
      obtain ⟨⟨⟨h1, h2⟩, h3⟩, h4⟩ := h
      have hf : fr = false := by simpa using h1
      subst hf
      split at h4
      · rename_i hop
        subst hop
        simp only [Bool.and_eq_true] at h4
        obtain ⟨⟨h5, h6⟩, h7⟩ := h4
        have e1 := beq_iff_eq.mp h5
        subst e1
        cases es with
        | cons _ _ => cases h6
        | nil =>
          cases xs with
          | cons _ _ => cases h7
          | nil => exact .of (fun A k1 k2 => pop0PE o h2 h3) rfl
      · split at h4
        · rename_i nm' id hid
          simp only [Bool.and_eq_true, decide_eq_true_eq] at h4
          obtain ⟨⟨⟨⟨h5, h6⟩, h7⟩, h8⟩, h9⟩ := h4
          have e1 := beq_iff_eq.mp h5
          subst e1
          exact .of (fun A k1 k2 => mutPE o k1 k2 hid h2 (sndEs es c W X _ o k h9) h6 (by simpa using h7) h8 h3) rfl
        · cases h4
    · cases h
  | .callv .., _, _, _, _, _, _, _, h => by unfold chkE at h; cases h
  | .meth .., _, _, _, _, _, _, _, h => by unfold chkE at h; cases h
  | .mk .., _, _, _, _, _, _, _, h => by unfold chkE at h; cases h
  | .new e, c, W, X, fr, ast, o, k, h => by
    unfold chkE at h
    simp only [Bool.and_eq_true] at h
    have hf : fr = false := by simpa using h.1.1.1
    subst hf
    exact .of (fun A h1 h2 => newPE ((sndE e c W X true ast o k h.2).pe A h1 h2)) h.1.1.2
  | .lam .., _, _, _, _, _, _, _, h => by unfold chkE at h; cases h
  | .sortk .., _, _, _, _, _, _, _, h => by unfold chkE at h; cases h
  | .mutR .., _, _, _, _, _, _, _, h => by unfold chkE at h; cases h
  | .efld .., _, _, _, _, _, _, _, h => by unfold chkE at h; cases h
  | .eis .., _, _, _, _, _, _, _, h => by unfold chkE at h; cases h
theorem sndEs : ∀ (es : Es) (c : CE) (W : WX) (X : Cx) (xs : List Expr), Ok T W X c → CallOk T n X c → chkEs es c T.P xs = true → AllA T ex W X (callF T.P n) es xs
  | .nil, c, W, X, xs, o, k, h => by
    unfold chkEs at h
    cases xs with
    | nil => exact .nil
    | cons _ _ => cases h
  | .cons e es, c, W, X, xs, o, k, h => by
    unfold chkEs at h
    split at h
    · rename_i x xs
      simp only [Bool.and_eq_true] at h
      refine .cons (fun A h1 h2 => ?_) h.1.1 (sndEs es c W X xs o k h.2)
      have q := h.1.2
      split at q
      · exact bor_snd o q A
      · rename_i hb
        exact tA_of (by simpa using hb) ((sndE e c W X false x o k q).pe A h1 h2)
    · cases h
theorem sndO : ∀ (e : Option1) (c : CE) (X : Cx) (ifs : List Expr), Ok T Wno X c → CallOk T n X c → chkO e c T.P ifs = true → PTs X ifs (tCond T ex (callF T.P n) e)
  | .none, c, X, ifs, o, k, h => by
    unfold chkO at h
    cases ifs with
    | nil => exact pts_nil
    | cons _ _ => cases h
  | .some e, c, X, ifs, o, k, h => by
    unfold chkO at h
    split at h
    · exact pts_one (pt_ex fun A h1 h2 => (sndE e c Wno X false _ o k h).pt rfl A h1 h2)
    · cases h
theorem sndIt : ∀ (it : It) (c : CE) (W : WX) (X : Cx) (tg ast : Expr), Ok T W X c → CallOk T n X c → chkIt it c T.P tg ast = true → ∀ A : Act, A.T = T → A.ex = ex → PI X tg ast (tI A W (callF T.P n) it)
  | .val e, c, W, X, tg, ast, o, k, h, A, h1, h2 => by
    unfold chkIt at h
    exact valPI (by rw [h1]; exact o.K) ((sndE e c W X false ast o k h).pe A h1 h2)
  | .rng1 e, c, W, X, tg, ast, o, k, h, A, h1, h2 => by
    unfold chkIt at h
    split at h
    · simp only [Bool.and_eq_true] at h
      obtain ⟨rfl, g1, g2⟩ := isB_ok o h.1.1 (by decide)
      exact rng1PI g1 g2 ((sndE e c W X false _ o k h.2).pe A h1 h2) h.1.2
    · cases h
  | .rng2 e1 e2, c, W, X, tg, ast, o, k, h, A, h1, h2 => by
    unfold chkIt at h
    split at h
    · simp only [Bool.and_eq_true] at h
      obtain ⟨rfl, g1, g2⟩ := isB_ok o h.1.1.1.1 (by decide)
      exact rng2PI g1 g2 ((sndE e1 c W X false _ o k h.1.2).pe A h1 h2) h.1.1.1.2 ((sndE e2 c W X false _ o k h.2).pe A h1 h2) h.1.1.2
    · cases h
  | .enum e, c, W, X, tg, ast, o, k, h, A, h1, h2 => by
    unfold chkIt at h
    split at h
    · simp only [Bool.and_eq_true] at h
      obtain ⟨rfl, g1, g2⟩ := isB_ok o h.1.1 (by decide)
      exact enumPI (by rw [h1]; exact o.K) g1 g2 ((sndE e c W X false _ o k h.2).pe A h1 h2) h.1.2
    · cases h
  | .zip e1 e2, c, W, X, tg, ast, o, k, h, A, h1, h2 => by
    unfold chkIt at h
    split at h
    · simp only [Bool.and_eq_true] at h
      obtain ⟨rfl, g1, g2⟩ := isB_ok o h.1.1.1.1 (by decide)
      exact zipPI (by rw [h1]; exact o.K) g1 g2 ((sndE e1 c W X false _ o k h.1.2).pe A h1 h2) h.1.1.1.2 ((sndE e2 c W X false _ o k h.2).pe A h1 h2) h.1.1.2
    · cases h
  | .rev .., _, _, _, _, _, _, _, h, _, _, _ => by unfold chkIt at h; cases h
  | .revR .., _, _, _, _, _, _, _, h, _, _, _ => by unfold chkIt at h; cases h
  | .items .., _, _, _, _, _, _, _, h, _, _, _ => by unfold chkIt at h; cases h
end
end
end PB

end
section
set_option Elab.async false
set_option linter.all false
set_option maxRecDepth 100000
set_option exponentiation.threshold 10000
set_option maxHeartbeats 1000000
/-! PB23: readings of statements. -/
namespace PB
open PySem L2 PySem.Calls PyProof.Rows RZ RT

section
variable (A : Act) (W : WX) (fr : Bool) (cf : CF)
def PostS (F : Addr → Prop) (θ : List Addr) (H : Hp) (r : Flow) (D : Ends) : Prop := match r with
  | .nx ρ' st' => ∀ σ' F' θ' H', Ext F θ H F' θ' H' → SR A F' θ' H' σ' ρ' st' → D.nx σ' H'
  | .ct ρ' st' => ∀ σ' F' θ' H', Ext F θ H F' θ' H' → SR A F' θ' H' σ' ρ' st' → D.ct σ' H'
  | .ret v ρ' st' => ∀ x σ' F' θ' H', Ext F θ H F' θ' H' → SR A F' θ' H' σ' ρ' st' → cM A fr σ' F' θ' H' ρ' x v → D.rt x H'
  | .exc v ρ' st' => ∀ cls d σ' F' θ' H', Ext F θ H F' θ' H' → SR A F' θ' H' σ' ρ' st' → ERep A F' θ' H' cls d v → W cls d σ' H'
  | .bad => False
def tF (ev : REnv → Sto → Flow) : TS := fun D σ H => ∃ F θ ρ st, SR A F θ H σ ρ st ∧ PostS A W fr F θ H (ev ρ st) D
def tSt (s : S) : TS := tF A W fr (evS A.T.P cf s)
def tSts (s : Ss) : TS := tF A W fr (evSs A.T.P cf s)
end
section
variable {A : Act} {W : WX} {fr : Bool} {cf : CF} {F F1 : Addr → Prop} {θ θ1 : List Addr} {H H1 : Hp} {σ : L2.St} {ρ : REnv} {st : Sto} {D D' : Ends} {Q : VK}
theorem PostS.ext {r : Flow} (p : PostS A W fr F θ H r D) (e : Ext F θ H F1 θ1 H1) : PostS A W fr F1 θ1 H1 r D := by
  cases r with
  | nx ρ st => exact fun σ' F' θ' H' e' => p σ' F' θ' H' (e.trans e')
  | ct ρ st => exact fun σ' F' θ' H' e' => p σ' F' θ' H' (e.trans e')
  | ret v ρ st => exact fun x σ' F' θ' H' e' => p x σ' F' θ' H' (e.trans e')
  | exc v ρ st => exact fun c d σ' F' θ' H' e' => p c d σ' F' θ' H' (e.trans e')
  | bad => exact p
theorem PostS.flow {α β : Type} {C1 : L2.St → Cnd PV β} {ev : REnv → Sto → Res PV} {f : PV → REnv → Sto → Flow} (s : SR A F θ H σ ρ st) (p : PostS A W fr F θ H ((ev ρ st).flow f) D) :
    tG A W C1 ev σ H fun b H1 => ∃ F1 θ1 ρ1 st1 a, Ext F θ H F1 θ1 H1 ∧ SR A F1 θ1 H1 σ ρ1 st1 ∧ C1 σ F1 θ1 H1 ρ1 b a ∧ PostS A W fr F1 θ1 H1 (f a ρ1 st1) D := by
  refine ⟨F, θ, ρ, st, s, ?_⟩
  cases r : ev ρ st with
  | ok a ρ1 st1 =>
    rw [r] at p
    exact fun b F1 θ1 H1 e s1 c => ⟨F1, θ1, ρ1, st1, a, e, s1, c, PostS.ext p e⟩
  | exc v ρ1 st1 =>
    rw [r] at p
    exact fun cls d F' θ' H' e s' er => p cls d σ F' θ' H' e s' er
  | bad =>
    rw [r] at p
    exact p
/-- what lies behind a flow -/
theorem PostS.then {r : Flow} {f : REnv → Sto → Flow} (p : PostS A W fr F θ H (r.then f) D) : PostS A W fr F θ H r { D with nx := tF A W fr f D } := by
  cases r with
  | nx ρ1 st1 => exact fun σ' F' θ' H' e s => ⟨F', θ', ρ1, st1, s, PostS.ext p e⟩
  | ct ρ1 st1 => exact p
  | ret v ρ1 st1 => exact p
  | exc v ρ1 st1 => exact p
  | bad => exact p
theorem _root_.L2.PS.imp {X : Cx} {e : Stmt} {t t' : TS} (h : PS X e t) (i : ∀ D σ H, t' D σ H → t D σ H) : PS X e t' := ⟨fun pins s σ H D I q => h.run pins s σ H D I (i _ _ _ q)⟩
theorem _root_.L2.PSs.imp {X : Cx} {e : List Stmt} {t t' : TS} (h : PSs X e t) (i : ∀ D σ H, t' D σ H → t D σ H) : PSs X e t' := ⟨fun pins s σ H D I q => h.run pins s σ H D I (i _ _ _ q)⟩
theorem seqT {s : S} {r : Ss} (q : tSts A W fr cf (.cons s r) D σ H) : tSeq (tSt A W fr cf s) (tSts A W fr cf r) D σ H := by
  obtain ⟨F, θ, ρ, st, sr, p⟩ := q
  unfold evSs at p
  exact ⟨F, θ, ρ, st, sr, p.then⟩
theorem nilT (q : tSts A W fr cf .nil D σ H) : tNext D σ H := by
  obtain ⟨F, θ, ρ, st, sr, p⟩ := q
  unfold evSs at p
  exact p σ F θ H .refl sr
theorem passT (q : tSt A W fr cf .pass D σ H) : tNext D σ H := by
  obtain ⟨F, θ, ρ, st, sr, p⟩ := q
  unfold evS at p
  exact p σ F θ H .refl sr
theorem contT (q : tSt A W fr cf .cont D σ H) : tCont D σ H := by
  obtain ⟨F, θ, ρ, st, sr, p⟩ := q
  unfold evS at p
  exact p σ F θ H .refl sr
theorem exprT {e : E} (q : tSt A W fr cf (.expr e) D σ H) : tDrop (tE A W cf false e) D σ H := by
  obtain ⟨F, θ, ρ, st, sr, p⟩ := q
  unfold evS at p
  refine (PostS.flow (α := PV) (C1 := cM A false) sr p).mono fun v H1 ⟨F1, θ1, ρ1, st1, a, x1, s1, c1, p1⟩ => ?_
  exact p1 σ F1 θ1 H1 .refl s1
theorem setT {i : Nat} {e : E} (q : tSt A W fr cf (.set i e) D σ H) : tAsg (tE A W cf false e) (gName i) D σ H := by
  obtain ⟨F, θ, ρ, st, sr, p⟩ := q
  unfold evS at p
  refine (PostS.flow (α := PV) (C1 := cM A false) sr p).mono fun v H1 ⟨F1, θ1, ρ1, st1, a, x1, s1, c1, p1⟩ => ?_
  exact p1 _ F1 θ1 H1 .refl (s1.setF (by simpa [cM] using c1))
theorem ownT {i : Nat} {e : E} (q : tSt A W fr cf (.own i e) D σ H) : tAsg (tE A W cf true e) (gName i) D σ H := by
  obtain ⟨F, θ, ρ, st, sr, p⟩ := q
  unfold evS at p
  refine (PostS.flow (α := PV) (C1 := cM A true) sr p).mono fun v H1 ⟨F1, θ1, ρ1, st1, a, x1, s1, c1, p1⟩ => ?_
  have c1' : NRep A F1 θ1 H1 σ ρ1 v a := c1
  rcases c1' with ⟨h1, h2⟩ | ⟨b, rfl, h1, h2, h3, h4, h5⟩
  · rw [isCont_eq, h1] at p1
    exact p1 _ F1 θ1 H1 .refl (s1.setF h2)
  · have : contP a = true := by cases a <;> first | rfl | exact h1.elim
    rw [isCont_eq, this] at p1
    exact p1 _ F1 θ1 H1 .refl (s1.setO h1 h2 h3 h4 h5)
theorem retT {e : E} (q : tSt A W fr cf (.ret e) D σ H) : tRet (tE A W cf fr e) D σ H := by
  obtain ⟨F, θ, ρ, st, sr, p⟩ := q
  unfold evS at p
  refine (PostS.flow (α := PV) (C1 := cM A fr) sr p).mono fun v H1 ⟨F1, θ1, ρ1, st1, a, x1, s1, c1, p1⟩ => ?_
  exact p1 v σ F1 θ1 H1 .refl s1 c1
theorem retNT (q : tSt A W fr cf .retN D σ H) : tRetN D σ H := by
  obtain ⟨F, θ, ρ, st, sr, p⟩ := q
  unfold evS at p
  refine p .non σ F θ H .refl sr ?_
  unfold cM
  cases fr with
  | true => exact .inl ⟨rfl, .non⟩
  | false => exact .non
theorem iffT {e : E} {a b : Ss} (q : tSt A W fr cf (.iff e a b) D σ H) : tIfS (tTest (tE A W cf false e)) (tSts A W fr cf a) (tSts A W fr cf b) D σ H := by
  obtain ⟨F, θ, ρ, st, sr, p⟩ := q
  unfold evS at p
  refine (PostS.flow (α := PV) (C1 := cM A false) sr p).mono fun v H1 ⟨F1, θ1, ρ1, st1, w, x1, s1, c1, p1⟩ => ?_
  replace c1 : Rep A.T F1 θ1 H1 v w := by simpa [cM] using c1
  split at p1
  · obtain rfl := bool_rep c1
    exact ⟨true, rfl, F1, θ1, ρ1, st1, s1, p1⟩
  · obtain rfl := bool_rep c1
    exact ⟨false, rfl, F1, θ1, ρ1, st1, s1, p1⟩
  · exact p1.elim
/-! ### a, b = .. -/
def gSlots : List Nat → TGs
  | [] => gNil
  | i :: is => gCons (gName i) (gSlots is)
theorem slotsT {vs : List V} {ps : List PV} {is : List Nat} {ρ' : REnv} {Q : L2.St → Hp → Prop} (r : Reps A.T F θ H vs ps) (s : SR A F θ H σ ρ st) (h : setSlots ρ is ps = some ρ') (q : ∀ σ', SR A F θ H σ' ρ' st → Q σ' H) : gSlots is vs σ H Q := by
  induction is generalizing vs ps σ ρ with
  | nil =>
    cases r with
    | nil =>
      cases h
      exact ⟨rfl, q σ s⟩
    | cons _ _ => cases h
  | cons i is ih =>
    cases r with
    | nil => cases h
    | cons r1 r2 =>
      rename_i v vs p ps
      exact ⟨v, vs, rfl, ih r2 (s.setF r1) h⟩
theorem setSlots_len {ps : List PV} {is : List Nat} {ρ ρ' : REnv} (h : setSlots ρ is ps = some ρ') : ps.length = is.length := by
  induction is generalizing ps ρ with
  | nil => cases ps with
    | nil => rfl
    | cons _ _ => cases h
  | cons i is ih => cases ps with
    | nil => cases h
    | cons _ _ => exact congrArg (· + 1) (ih h)
theorem unpackT {K : PySem.W.Frag} (hK : K = A.T.K) {is : List Nat} {e : E} (q : tSt A W fr cf (.unpack is e) D σ H) : tAsg (tE A W cf false e) (gTup K is.length (gSlots is)) D σ H := by
  obtain ⟨F, θ, ρ, st, sr, p⟩ := q
  unfold evS at p
  refine (PostS.flow (α := PV) (C1 := cM A false) sr p).mono fun v H1 ⟨F1, θ1, ρ1, st1, w, x1, s1, c1, p1⟩ => ?_
  replace c1 : Rep A.T F1 θ1 H1 v w := by simpa [cM] using c1
  split at p1
  · split at p1
    · rename_i ρ2 hs
      cases c1 with
      | tup hh rr =>
        refine ⟨_, _, rfl, by rw [hK]; exact hh.elim (fun q => .inl q.2) .inr, by rw [rr.length, setSlots_len hs], ?_⟩
        exact slotsT rr s1 hs fun σ' s' => p1 σ' F1 θ1 H1 .refl s'
    · exact p1.elim
  · exact p1.elim
/-! ### o[k] = v -/
theorem mut_setIx {w w' r k v : PV} (h : mutF .setIx w [k, v] = some (w', r)) : (∃ xs i j, w = .lst xs ∧ k = .int i ∧ pIx xs.length i = some j ∧ w' = .lst (xs.set j v)) ∨ ∃ d k2, w = .dic d ∧ keyOf k = some k2 ∧ d.length < lim ∧ w' = .dic (put k2 v d) := by
  cases w <;> first | (simp [mutF] at h; done) | skip
  · rename_i xs
    cases k <;> first | (simp [mutF] at h; done) | skip
    rename_i i
    simp only [mutF] at h
    split at h
    · rename_i j e
      cases h
      exact .inl ⟨xs, i, j, rfl, rfl, e, rfl⟩
    · cases h
  · rename_i d
    simp only [mutF] at h
    split at h
    · rename_i k2 e
      split at h
      · rename_i hl
        cases h
        exact .inr ⟨d, k2, rfl, e, hl, rfl⟩
      · cases h
    · cases h
def rSet : V → V → V → Hp → (Hp → Prop) → Prop := fun o i v H Q => rSetL o i v H Q ∨ rSetD o i v H Q
theorem set_any {X : Cx} (hu : X.A.units + 500 < cLine) : PSet X rSet := fun pins s σ H o i v ov iv u Q I ro ri rv h => h.elim (set_list pins s σ H o i v ov iv u Q I ro ri rv) (set_dict (by omega) pins s σ H o i v ov iv u Q I ro ri rv)
theorem rset_of {a : Addr} {w w' r k v : PV} {x y : V} {Q : Hp → Prop} (ob : ObjAt A.T F θ H a w) (nF : ¬ F a) (rk : Rep A.T F θ H y k) (rv : Rep A.T F θ H x v) (h : mutF .setIx w [k, v] = some (w', r)) (q : ∀ o, ObjAt A.T F θ (upd H a o) a w' → Q (upd H a o)) : rSet (.ref a) y x H Q := by
  rcases mut_setIx h with ⟨xs, i, j, rfl, rfl, hj, rfl⟩ | ⟨d, k2, rfl, hk, hl, rfl⟩
  · obtain ⟨vs, h1, h2⟩ := ob
    cases rk
    exact .inl ⟨a, vs, i, j, rfl, rfl, h1, by rw [h2.length]; exact hj, q _ ⟨_, upd_same, (h2.set rv j).ext (.upd nF)⟩⟩
  · obtain ⟨vs, h1, h2⟩ := ob
    obtain rfl := keyOf_rep (A := A) (.inl rk) hk
    exact .inr ⟨a, _, rfl, .k h1 (by rw [h2.length, lim_eq]; exact hl), q _ ⟨_, upd_same, (h2.put k2 rv).ext (.upd nF)⟩⟩
theorem setST {i : Nat} {k v : E} (q : tSt A W fr cf (.setS i k v) D σ H) : tAsg (tE A W cf false v) (gSub (tVar i) (tE A W cf false k) rSet) D σ H := by
  obtain ⟨F, θ, ρ, st, sr, p⟩ := q
  unfold evS at p
  refine (PostS.flow (α := PV) (C1 := cM A false) sr p).mono fun x H1 ⟨F1, θ1, ρ1, st1, a, x1, s1, c1, p1⟩ => ?_
  replace c1 : Rep A.T F1 θ1 H1 x a := by simpa [cM] using c1
  split at p1
  · rename_i w0 hw0
    obtain ⟨ad, h1, _⟩ := s1.rs i _ hw0
    refine ⟨_, h1, ?_⟩
    refine (PostS.flow (α := PV) (C1 := cM A false) s1 p1).mono fun y H2 ⟨F2, θ2, ρ2, st2, b, x2, s2, c2, p2⟩ => ?_
    replace c2 : Rep A.T F2 θ2 H2 y b := by simpa [cM] using c2
    split at p2
    · rename_i w hw
      split at p2
      · rename_i w' r hm
        obtain ⟨ob, nF⟩ := ow_at s2 hw h1
        exact rset_of ob nF c2 (c1.ext x2) hm fun o ob' => p2 σ F2 θ2 _ (.upd nF) (s2.write hw h1 ob')
      · exact p2.elim
    · exact p2.elim
  · exact p1.elim
theorem setRT {ob k v : E} (q : tSt A W fr cf (.setR ob k v) D σ H) : tAsg (tE A W cf false v) (gSub (tE A W cf false ob) (tE A W cf false k) rSet) D σ H := by
  obtain ⟨F, θ, ρ, st, sr, p⟩ := q
  unfold evS at p
  refine (PostS.flow (α := PV) (C1 := cM A false) sr p).mono fun x H1 ⟨F1, θ1, ρ1, st1, a, x1, s1, c1, p1⟩ => ?_
  replace c1 : Rep A.T F1 θ1 H1 x a := by simpa [cM] using c1
  refine (PostS.flow (α := PV) (C1 := cM A false) s1 p1).mono fun y H2 ⟨F2, θ2, ρ2, st2, b, x2, s2, c2, p2⟩ => ?_
  replace c2 : Rep A.T F2 θ2 H2 y b := by simpa [cM] using c2
  refine (PostS.flow (α := PV) (C1 := cM A false) s2 p2).mono fun z H3 ⟨F3, θ3, ρ3, st3, d, x3, s3, c3, p3⟩ => ?_
  replace c3 : Rep A.T F3 θ3 H3 z d := by simpa [cM] using c3
  split at p3
  · rename_i i
    split at p3
    · rename_i w hw
      split at p3
      · rename_i w' r hm
        have c2' := c2.ext x3
        cases c2' with
        | ref hi =>
          have ob' := s3.so.so _ _ _ hi hw
          exact rset_of ob' (s3.so.tf _ (List.mem_of_getElem? hi)) c3 ((c1.ext x2).ext x3) hm fun o ob2 => p3 σ F3 θ3 _ (.upd (s3.so.tf _ (List.mem_of_getElem? hi))) (s3.writeT hi ob2)
      · exact p3.elim
    · exact p3.elim
  · exact p3.elim
end
end PB

end
section
set_option Elab.async false
set_option linter.all false
set_option maxRecDepth 100000
set_option exponentiation.threshold 10000
set_option maxHeartbeats 1000000
/-! PB24: loops; the checker of statements, and that it is right. -/
namespace PB
open PySem L2 PySem.Calls PyProof.Rows RZ RT

section
variable {A : Act} {W : WX} {fr : Bool} {cf : CF} {X : Cx}
theorem PostS.ends {F : Addr → Prop} {θ : List Addr} {H : Hp} {r : Flow} {D D' : Ends} (p : PostS A W fr F θ H r D) (h1 : ∀ σ H, D.nx σ H → D'.nx σ H) (h2 : ∀ σ H, D.ct σ H → D'.ct σ H) (h3 : ∀ v H, D.rt v H → D'.rt v H) : PostS A W fr F θ H r D' := by
  cases r with
  | nx ρ st => exact fun σ' F' θ' H' e s => h1 _ _ (p σ' F' θ' H' e s)
  | ct ρ st => exact fun σ' F' θ' H' e s => h2 _ _ (p σ' F' θ' H' e s)
  | ret v ρ st => exact fun x σ' F' θ' H' e s c => h3 _ _ (p x σ' F' θ' H' e s c)
  | exc v ρ st => exact p
  | bad => exact p
theorem forT (hK : X.K = A.T.K) {tg : Tg} {it : It} {body : Ss} {D : Ends} {σ : L2.St} {H : Hp} (q : tSt A W fr cf (.for tg it body) D σ H) : tFor (tI A W cf it) (gTg X.K tg) (tSts A W fr cf body) D σ H := by
  obtain ⟨F, θ, ρ, st, sr, p⟩ := q
  unfold evS at p
  refine (PostS.flow (α := PV) (C1 := cI A.T) sr p).mono fun J H1 ⟨F1, θ1, ρ1, st1, a, x1, s1, ⟨xs, ea, itok⟩, p1⟩ => ?_
  subst ea
  obtain ⟨G, Y, w, hG, hY⟩ := itok
  replace p1 : PostS A W fr F1 θ1 H1 (loopF tg (evSs A.T.P cf body) xs ρ1 st1) D := p1
  refine for_it w (D := D) (fun i σ H => ∃ F θ ρ st, Ext F1 θ1 H1 F θ H ∧ SR A F θ H σ ρ st ∧ PostS A W fr F θ H (loopF tg (evSs A.T.P cf body) (xs.drop i) ρ st) D) ⟨F1, θ1, ρ1, st1, .refl, s1, p1⟩ (fun i σ H _ h => ?_) (fun i x σ H H' hi h y => ?_) fun σ H h => ?_
  · obtain ⟨F2, θ2, ρ2, st2, e2, _⟩ := h
    exact hG _ _ _ e2
  · obtain ⟨F2, θ2, ρ2, st2, e2, s2, p2⟩ := h
    obtain ⟨F3, pv, hpv, e3, s3, r3⟩ := hY A F2 θ2 H _ _ _ i x H' rfl e2 s2 hi y
    rw [loop_take hpv] at p2
    unfold loopF at p2
    cases hb : tg.bind pv ρ2 with
    | none => rw [hb] at p2; exact p2.elim
    | some ρb =>
      rw [hb] at p2
      refine bind_tg hK s3 r3 hb fun σ2 s4 _ _ => ?_
      refine ⟨F3, θ2, ρb, st2, s4, ?_⟩
      replace p2 : PostS A W fr F3 θ2 H' (match evSs A.T.P cf body ρb st2 with
        | .nx ρ2 st2 => loopF tg (evSs A.T.P cf body) (xs.drop (i + 1)) ρ2 st2
        | .ct ρ2 st2 => loopF tg (evSs A.T.P cf body) (xs.drop (i + 1)) ρ2 st2
        | r => r) D := PostS.ext p2 e3
      cases hr : evSs A.T.P cf body ρb st2 with
      | nx ρ5 st5 =>
        rw [hr] at p2
        exact fun σ' F' θ' H' e s => ⟨F', θ', ρ5, st5, (e2.trans e3).trans e, s, PostS.ext p2 e⟩
      | ct ρ5 st5 =>
        rw [hr] at p2
        exact fun σ' F' θ' H' e s => ⟨F', θ', ρ5, st5, (e2.trans e3).trans e, s, PostS.ext p2 e⟩
      | ret v ρ5 st5 =>
        rw [hr] at p2
        exact p2
      | exc v ρ5 st5 =>
        rw [hr] at p2
        exact p2
      | bad =>
        rw [hr] at p2
        exact p2
  · obtain ⟨F2, θ2, ρ2, st2, e2, s2, p2⟩ := h
    rw [List.drop_length] at p2
    unfold loopF at p2
    exact p2 σ F2 θ2 H .refl s2
theorem whileT {c : E} {body : Ss} {D : Ends} {σ : L2.St} {H : Hp} (q : tSt A W fr cf (.while c body) D σ H) : tWhile (tTest (tE A W cf false c)) (tSts A W fr cf body) D σ H := by
  obtain ⟨F, θ, ρ, st, sr, p⟩ := q
  unfold evS at p
  refine ⟨fun m σ H => ∃ F θ ρ st, SR A F θ H σ ρ st ∧ PostS A W fr F θ H (loopW (evE A.T.P cf c) (evSs A.T.P cf body) m ρ st) D, ⟨wfuel, F, θ, ρ, st, sr, p⟩, fun m σ H h => ?_⟩
  obtain ⟨F2, θ2, ρ2, st2, s2, p2⟩ := h
  cases m with
  | zero => unfold loopW at p2; exact p2.elim
  | succ m =>
    unfold loopW at p2
    refine (PostS.flow (α := PV) (C1 := cM A false) s2 p2).mono fun v H1 ⟨F3, θ3, ρ3, st3, a, x3, s3, c3, p3⟩ => ?_
    replace c3 : Rep A.T F3 θ3 H1 v a := by simpa [cM] using c3
    split at p3
    · obtain rfl := bool_rep c3
      refine ⟨true, rfl, fun σ H => ∃ F θ ρ st, SR A F θ H σ ρ st ∧ PostS A W fr F θ H (loopW (evE A.T.P cf c) (evSs A.T.P cf body) m ρ st) D, fun σ' H' h => ⟨m, Nat.lt_succ_self m, h⟩, F3, θ3, ρ3, st3, s3, ?_⟩
      cases hr : evSs A.T.P cf body ρ3 st3 with
      | nx ρ5 st5 =>
        rw [hr] at p3
        exact fun σ' F' θ' H' e s => ⟨F', θ', ρ5, st5, s, PostS.ext p3 e⟩
      | ct ρ5 st5 =>
        rw [hr] at p3
        exact fun σ' F' θ' H' e s => ⟨F', θ', ρ5, st5, s, PostS.ext p3 e⟩
      | ret v ρ5 st5 =>
        rw [hr] at p3
        exact p3
      | exc v ρ5 st5 =>
        rw [hr] at p3
        exact p3
      | bad =>
        rw [hr] at p3
        exact p3
    · obtain rfl := bool_rep c3
      exact ⟨false, rfl, p3 σ F3 θ3 H1 .refl s3⟩
    · exact p3.elim
end

/-! ### the checker -/
theorem sw_plain {e : Expr} {t : Option Expr} {l : Nat} {env : Env} (h : isLC e = false) : swapsWith e t l env = pure false := by
  cases e <;> first | rfl | cases h
/-- name = [.. for ..], stored together with the block's end -/
def lcSw (c : CE) (x : Str) (px : Pos) : Expr → Bool
  | .ListComp _ _ scope pos => (c.nm.lookup x == some .local) && (px.line == pos.line) && !(scope.names.any fun (n, k) => n == x && (k == .local || k == .cell))
  | _ => false
def isTup : Expr → Bool
  | .Tuple .. => true
  | _ => false
def unpNames (c : CE) : List Nat → List Expr → Bool
  | [], [] => true
  | i :: is, .Name x _ :: es => stoOk c i x && unpNames c is es
  | _, _ => false
mutual
def chkS : S → CE → Prog → Bool → Stmt → Bool
  | .pass, c, P, fr, st => (match st with
    | .Pass _ => true
    | _ => false)
  | .cont, c, P, fr, st => (match st with
    | .Continue _ => true
    | _ => false)
  | .expr e, c, P, fr, st => (match st with
    | .Expr x _ => !isLC x && chkE e c P false x
    | _ => false)
  | .set i e, c, P, fr, st => (match st with
    | .Assign [.Name x px] v pos => stoOk c i x && chkE e c P false v && (!isLC v || lcSw c x px v)
    | _ => false)
  | .own i e, c, P, fr, st => (match st with
    | .Assign [.Name x px] v pos => stoOk c i x && chkE e c P true v && (!isLC v || lcSw c x px v)
    | _ => false)
  | .unpack is e, c, P, fr, st => (match st with
    | .Assign [.Tuple ts _ _] v pos => c.calm && unpNames c is ts && !isTup v && !isLC v && chkE e c P false v
    | _ => false)
  | .setS i k v, c, P, fr, st => (match st with
    | .Assign [.Subscript (.Name x _) y _] z pos => nameOk c i x && plainIx y && chkE v c P false z && chkE k c P false y
    | _ => false)
  | .setR ob k v, c, P, fr, st => (match st with
    | .Assign [.Subscript x y _] z pos => plainIx y && chkE v c P false z && chkE ob c P false x && chkE k c P false y
    | _ => false)
  | .ret e, c, P, fr, st => (match st with
    | .Return (some x) _ => chkE e c P fr x
    | _ => false)
  | .retN, c, P, fr, st => (match st with
    | .Return none _ => true
    | _ => false)
  | .iff e a b, c, P, fr, st => (match st with
    | .If x y z _ => chkE e c P false x && chkSs a c P fr y && chkSs b c P fr z
    | _ => false)
  | .for tg it body, c, P, fr, st => (match st with
    | .For tga iter b [] _ => c.calm && chkIt it c P tga iter && noSet iter && tgOk c tg tga && chkSs body c P fr b
    | _ => false)
  | .while e body, c, P, fr, st => (match st with
    | .While x b [] _ => chkE e c P false x && chkSs body c P fr b
    | _ => false)
  | _, _, _, _, _ => false
def chkSs : Ss → CE → Prog → Bool → List Stmt → Bool
  | .nil, c, P, fr, st => st.isEmpty
  | .cons s r, c, P, fr, st => (match st with
    | x :: xs => chkS s c P fr x && chkSs r c P fr xs
    | [] => false)
end
section
variable {T : Tab} {ex : Option (Addr × Value × Option Addr)} {n : Nat} {W : WX} {X : Cx} {c : CE} {fr : Bool}
theorem chk_lc {P : Prog} {fe : Bool} {elt : Expr} {gs : List Comprehension} {sc : Scope} {p : Pos} : ∀ (e : E), chkE e c P fe (.ListComp elt gs sc p) = true → ∃ own it tg cond e', e = .comp own it tg cond e'
  | .comp own it tg cond e, _ => ⟨own, it, tg, cond, e, rfl⟩
  | .const v, h => by
    unfold chkE at h
    cases v <;> cases h
  | .glob g, h => by unfold chkE at h; cases h
  | .slot i, h => by unfold chkE at h; cases h
  | .bor i, h => by unfold chkE at h; cases h
  | .mov i, h => by unfold chkE at h; cases h
  | .prim op es, h => by
    unfold chkE at h
    cases op <;> cases h
  | .fld e f, h => by unfold chkE at h; cases h
  | .and a b, h => by unfold chkE at h; cases h
  | .or a b, h => by unfold chkE at h; cases h
  | .not a, h => by unfold chkE at h; cases h
  | .ite t a b, h => by unfold chkE at h; cases h
  | .chain o1 o2 a b e, h => by unfold chkE at h; cases h
  | .call f es, h => by unfold chkE at h; cases h
  | .mutS op i es, h => by unfold chkE at h; cases h
  | .callv .., h => by unfold chkE at h; cases h
  | .meth .., h => by unfold chkE at h; cases h
  | .mk .., h => by unfold chkE at h; cases h
  | .new e, h => by
    unfold chkE at h
    simp only [Bool.and_eq_true] at h
    exact absurd h.1.2 (by simp [isLC])
  | .lam .., h => by unfold chkE at h; cases h
  | .sortk .., h => by unfold chkE at h; cases h
  | .mutR .., h => by unfold chkE at h; cases h
  | .efld .., h => by unfold chkE at h; cases h
  | .eis .., h => by unfold chkE at h; cases h
theorem comp_inv {P : Prog} {fe : Bool} {own : List Nat} {it : It} {tg : Tg} {cond : Option1} {e : E} {elt : Expr} {gs : List Comprehension} {scope : Scope} {p : Pos} (h : chkE (.comp own it tg cond e) c P fe (.ListComp elt gs scope p) = true) :
    ∃ tga iter ifs, gs = [⟨tga, iter, ifs, 0⟩] ∧ c.calm = true ∧ chkIt it c P tga iter = true ∧ blkC c.N c.sc scope (c.own own) = true ∧ noSet iter = true ∧ tgOk (c.blk scope) tg tga = true ∧ tgIn tg own = true ∧ chkO cond (c.blk scope) P ifs = true ∧ chkE e (c.blk scope) P false elt = true := by
  unfold chkE at h
  split at h
  · rename_i heq
    injection heq with e1 e2 e3 e4
    subst e1 e2 e3
    simp only [Bool.and_eq_true] at h
    obtain ⟨⟨⟨⟨⟨⟨⟨hc, g1⟩, g2⟩, g3⟩, g4⟩, g5⟩, g6⟩, g7⟩ := h
    exact ⟨_, _, _, rfl, hc, g1, g2, g3, g4, g5, g6, g7⟩
  · cases h
/-- name = e -/
theorem asg_snd {A : Act} {fe : Bool} (o : Ok T W X c) (k : CallOk T n X c) (h1 : A.T = T) (h2 : A.ex = ex) {i : Nat} {e : E} {x : Str} {px pos : Pos} {v : Expr} (hs : stoOk c i x = true) (hv : chkE e c T.P fe v = true) (hl : (!isLC v || lcSw c x px v) = true) :
    PS X (.Assign [.Name x px] v pos) (tAsg (tE A W (callF T.P n) fe e) (gName i)) := by
  obtain ⟨k1, k2, k3⟩ := stoOk_ok o hs
  cases hlc : isLC v with
  | false => exact ps_set (nodupN o) k1 k2 ((sndE e c W X fe v o k hv).pe A h1 h2) (sw_plain hlc) k3
  | true =>
    rw [hlc] at hl
    have hl : lcSw c x px v = true := hl
    cases v <;> first | (cases hlc; done) | (cases hl; done) | skip
    rename_i elt gs scope lp _
    unfold lcSw at hl
    simp only [Bool.and_eq_true] at hl
    obtain ⟨⟨q1, q2⟩, q3⟩ := hl
    have hloc : X.env.scope.names.lookup x = some .local := by rw [o.nm]; exact beq_iff_eq.mp q1
    obtain ⟨own, it, tg, cond, e, rfl⟩ := chk_lc e hv
    obtain ⟨tga, iter, ifs, rfl, hc, g1, g2, g3, g4, g5, g6, g7⟩ := comp_inv hv
    have bk := blk_ok o g2
    have hsw : swapsWith (.ListComp elt [⟨tga, iter, ifs, 0⟩] scope lp) (some (.Name x px)) pos.line X.env = pure true := sw_true o.kind hloc q2 (by simpa using q3)
    refine (ps_setLc (g := gTg X.K tg) (o.calm hc) (nodupN o) k1 hloc hsw (sndIt it c W X tga iter o k g1 A h1 h2) bk (fun s H C cl fp => pg_tg (ok_blk o bk s H C cl fp) g4) (fun s H C cl fp => sndO (ex := ex) cond (c.blk scope) _ ifs (ok_blk o bk s H C cl fp) (ca_ok k) g6)
      (fun s H C cl fp => pe_ex (ex := ex) fun A k1 k2 => (sndE e (c.blk scope) Wno _ false elt (ok_blk o bk s H C cl fp) (ca_ok k) g7).pe A k1 k2) (noSet_ok g3)).imp fun D σ H q => ?_
    rw [own_snd]
    exact compT (by rw [h1]; exact o.K) h1 h2 (fun j hj => by have := List.all_eq_true.mp g5 j hj; simpa using this) q
theorem unp_ok (o : Ok T W X c) : ∀ {is : List Nat} {ts : List Expr}, unpNames c is ts = true → PGs X ts (gSlots is) ∧ (assignEach ts X.env).length = is.length ∧ (assignEach ts X.env).findIdx? (·.1) = none
  | [], [], _ => ⟨pgs_nil, rfl, rfl⟩
  | [], _ :: _, h => by simp [unpNames] at h
  | _ :: _, [], h => by simp [unpNames] at h
  | i :: is, e :: ts, h => by
    cases e <;> first | (simp [unpNames] at h; done) | skip
    rename_i x p
    unfold unpNames at h
    rw [Bool.and_eq_true] at h
    obtain ⟨k1, k2, k3⟩ := unp_ok o h.2
    refine ⟨pgs_cons (pg_one o h.1) k1, ?_, ?_⟩
    · show ((false, assign (.Name x p) X.env) :: assignEach ts X.env).length = _
      rw [List.length_cons, k2, List.length_cons]
    · show ((false, assign (.Name x p) X.env) :: assignEach ts X.env).findIdx? (·.1) = none
      rw [List.findIdx?_cons, k3]
      rfl
mutual
theorem sndS : ∀ (s : S) (c : CE) (fr : Bool) (st : Stmt), Ok T W X c → CallOk T n X c → PassesOwn (model X.prog X.w) X.A X.env X.xe → chkS s c T.P fr st = true → ∀ A : Act, A.T = T → A.ex = ex → PS X st (tSt A W fr (callF T.P n) s)
  | .pass, c, fr, st, o, k, hp, h, A, h1, h2 => by
    unfold chkS at h
    split at h
    · exact ps_pass.imp fun D σ H q => passT q
    · cases h
  | .cont, c, fr, st, o, k, hp, h, A, h1, h2 => by
    unfold chkS at h
    split at h
    · exact ps_continue.imp fun D σ H q => contT q
    · cases h
  | .expr e, c, fr, st, o, k, hp, h, A, h1, h2 => by
    unfold chkS at h
    split at h
    · rw [Bool.and_eq_true] at h
      exact (ps_expr ((sndE e c W X false _ o k h.2).pe A h1 h2) (sw_plain (by simpa using h.1))).imp fun D σ H q => exprT q
    · cases h
  | .set i e, c, fr, st, o, k, hp, h, A, h1, h2 => by
    unfold chkS at h
    split at h
    · rw [Bool.and_eq_true, Bool.and_eq_true] at h
      exact (asg_snd o k h1 h2 h.1.1 h.1.2 h.2).imp fun D σ H q => setT q
    · cases h
  | .own i e, c, fr, st, o, k, hp, h, A, h1, h2 => by
    unfold chkS at h
    split at h
    · rw [Bool.and_eq_true, Bool.and_eq_true] at h
      exact (asg_snd o k h1 h2 h.1.1 h.1.2 h.2).imp fun D σ H q => ownT q
    · cases h
  | .unpack is e, c, fr, st, o, k, hp, h, A, h1, h2 => by
    unfold chkS at h
    split at h
    · rename_i ts kk tp v pos
      simp only [Bool.and_eq_true] at h
      obtain ⟨⟨⟨⟨g1, g2⟩, g3⟩, g4⟩, g5⟩ := h
      obtain ⟨u1, u2, u3⟩ := unp_ok o g2
      have hl : isLC v = false := by simpa using g4
      have ht : isTup v = false := by simpa using g3
      have hw : swappedStores [.Tuple ts kk tp] v X.env = pure none := by
        cases v <;> first | rfl | cases ht
      have hsw : swapsWithSole [.Tuple ts kk tp] v pos.line X.env = pure false := by
        cases v <;> first | rfl | cases hl
      exact (ps_asg ((sndE e c W X false v o k g5).pe A h1 h2) (pg_tup (o.calm g1) u1 u2 u3) hsw hw rfl).imp fun D σ H q => unpackT (by rw [h1]; exact o.K) q
    · cases h
  | .setS i kk v, c, fr, st, o, k, hp, h, A, h1, h2 => by
    unfold chkS at h
    split at h
    · rename_i x p y p2 z pos
      rw [Bool.and_eq_true, Bool.and_eq_true, Bool.and_eq_true] at h
      have hw : swappedStores [.Subscript (.Name x p) y p2] z X.env = pure none := by
        cases z <;> rfl
      have hix := h.1.1.2
      have has : ∀ v, assign (.Subscript (.Name x p) y p2) X.env v = (do
          let ov ← holding [v] (eval (.Name x p) X.env)
          let iv ← holding [v, ov] (eval y X.env)
          standAt p2
          holding [v, ov, iv] (setItem ov iv v)
          release [v, ov, iv] []) := fun v => by
        cases y <;> first | rfl | cases hix
      have hsw : swapsWithSole [.Subscript (.Name x p) y p2] z pos.line X.env = pure false := by
        cases z <;> rfl
      exact (ps_asg ((sndE v c W X false z o k h.1.2).pe A h1 h2) (pg_sub (nameOk_ok o h.1.1.1).1 ((sndE kk c W X false y o k h.2).pe A h1 h2) (set_any o.units) has) hsw hw rfl).imp fun D σ H q => setST q
    · cases h
  | .ret e, c, fr, st, o, k, hp, h, A, h1, h2 => by
    unfold chkS at h
    split at h
    · exact (ps_ret ((sndE e c W X fr _ o k h).pe A h1 h2)).imp fun D σ H q => retT q
    · cases h
  | .retN, c, fr, st, o, k, hp, h, A, h1, h2 => by
    unfold chkS at h
    split at h
    · exact ps_retN.imp fun D σ H q => retNT q
    · cases h
  | .iff e a b, c, fr, st, o, k, hp, h, A, h1, h2 => by
    unfold chkS at h
    split at h
    · rw [Bool.and_eq_true, Bool.and_eq_true] at h
      exact (ps_if ((sndE e c W X false _ o k h.1.1).pt rfl A h1 h2) (sndSs a c fr _ o k hp h.1.2 A h1 h2) (sndSs b c fr _ o k hp h.2 A h1 h2)).imp fun D σ H q => iffT q
    · cases h
  | .for tg it body, c, fr, st, o, k, hp, h, A, h1, h2 => by
    unfold chkS at h
    split at h
    · simp only [Bool.and_eq_true] at h
      obtain ⟨⟨⟨⟨g1, g2⟩, g3⟩, g4⟩, g5⟩ := h
      exact (ps_for hp (o.calm g1) (sndIt it c W X _ _ o k g2 A h1 h2) (pg_tg o g4) (sndSs body c fr _ o k hp g5 A h1 h2) (noSet_ok g3)).imp fun D σ H q => forT (by rw [h1]; exact o.K) q
    · cases h
  | .while e body, c, fr, st, o, k, hp, h, A, h1, h2 => by
    unfold chkS at h
    split at h
    · rw [Bool.and_eq_true] at h
      exact (ps_while hp ((sndE e c W X false _ o k h.1).pt rfl A h1 h2) (sndSs body c fr _ o k hp h.2 A h1 h2)).imp fun D σ H q => whileT q
    · cases h
  | .setR ob kk v, c, fr, st, o, k, hp, h, A, h1, h2 => by
    unfold chkS at h
    split at h
    · rename_i x y p2 z pos
      rw [Bool.and_eq_true, Bool.and_eq_true, Bool.and_eq_true] at h
      have hw : swappedStores [.Subscript x y p2] z X.env = pure none := by
        cases z <;> rfl
      have hix := h.1.1.1
      have has : ∀ v, assign (.Subscript x y p2) X.env v = (do
          let ov ← holding [v] (eval x X.env)
          let iv ← holding [v, ov] (eval y X.env)
          standAt p2
          holding [v, ov, iv] (setItem ov iv v)
          release [v, ov, iv] []) := fun v => by
        cases y <;> first | rfl | cases hix
      have hsw : swapsWithSole [.Subscript x y p2] z pos.line X.env = pure false := by
        cases z <;> rfl
      exact (ps_asg ((sndE v c W X false z o k h.1.1.2).pe A h1 h2) (pg_sub ((sndE ob c W X false x o k h.1.2).pe A h1 h2) ((sndE kk c W X false y o k h.2).pe A h1 h2) (set_any o.units) has) hsw hw rfl).imp fun D σ H q => setRT q
    · cases h
  | .fld .., _, _, _, _, _, _, h, _, _, _ => by unfold chkS at h; cases h
  | .fldS .., _, _, _, _, _, _, h, _, _, _ => by unfold chkS at h; cases h
  | .aug .., _, _, _, _, _, _, h, _, _, _ => by unfold chkS at h; cases h
  | .raise .., _, _, _, _, _, _, h, _, _, _ => by unfold chkS at h; cases h
  | .try_ .., _, _, _, _, _, _, h, _, _, _ => by unfold chkS at h; cases h
theorem sndSs : ∀ (s : Ss) (c : CE) (fr : Bool) (st : List Stmt), Ok T W X c → CallOk T n X c → PassesOwn (model X.prog X.w) X.A X.env X.xe → chkSs s c T.P fr st = true → ∀ A : Act, A.T = T → A.ex = ex → PSs X st (tSts A W fr (callF T.P n) s)
  | .nil, c, fr, st, o, k, hp, h, A, h1, h2 => by
    unfold chkSs at h
    cases st with
    | nil => exact pss_nil.imp fun D σ H q => nilT q
    | cons _ _ => cases h
  | .cons s r, c, fr, st, o, k, hp, h, A, h1, h2 => by
    unfold chkSs at h
    split at h
    · rw [Bool.and_eq_true] at h
      exact (pss_cons (sndS s c fr _ o k hp h.1 A h1 h2) (sndSs r c fr _ o k hp h.2 A h1 h2)).imp fun D σ H q => seqT q
    · cases h
end
end
end PB

end
section
set_option Elab.async false
set_option linter.all false
set_option maxRecDepth 100000
set_option exponentiation.threshold 10000
set_option maxHeartbeats 1000000
/-! PB25: defs. -/
namespace PB
open PySem L2 PySem.Calls PyProof.Rows RZ RT

/-! ### binding -/
theorem zip_some {us : List Value} : ∀ {ps : List Str}, us.length = ps.length → ∀ n ∈ ps, ((ps.zip us).lookup n).isSome = true := by
  intro ps
  induction ps generalizing us with
  | nil => intro _ n hn; cases hn
  | cons p ps ih =>
    intro hl n hn
    cases us with
    | nil => cases hl
    | cons u us =>
      rw [List.zip_cons_cons, List.lookup_cons]
      cases e : n == p with
      | true => rfl
      | false =>
        refine ih (by simpa using hl) n ?_
        rcases List.mem_cons.mp hn with z | z
        · rw [z] at e; simp at e
        · exact z
theorem zip_binds {us : List Value} : ∀ {ps : List Str}, ps.Nodup → us.length = ps.length → ∀ {l : List (Str × Value)}, (∀ n ∈ ps, l.lookup n = (ps.zip us).lookup n) → ps.filterMap (fun n => (l.lookup n).map (n, ·)) = ps.zip us := by
  intro ps
  induction ps generalizing us with
  | nil => intro _ _ _ _; rfl
  | cons p ps ih =>
    intro nd hl l h
    cases us with
    | nil => cases hl
    | cons u us =>
      rw [List.nodup_cons] at nd
      have h1 : l.lookup p = some u := by rw [h p List.mem_cons_self]; simp
      rw [List.filterMap_cons, h1, List.zip_cons_cons]
      show (p, u) :: _ = _
      congr 1
      refine ih nd.2 (by simpa using hl) fun n hn => ?_
      rw [h n (List.mem_cons_of_mem _ hn), List.zip_cons_cons, List.lookup_cons]
      have : (n == p) = false := beq_eq_false_iff_ne.mpr fun z => nd.1 (z ▸ hn)
      rw [this]
def plainPar (p : Arguments) : Bool := p.posonlyargs.isEmpty && p.vararg.isNone && p.kwonlyargs.isEmpty && p.kwarg.isNone
theorem bind_plain {fd : FuncData} {us : List Value} (hp : plainPar fd.params = true) (hd : fd.defaults = .none) (nd : (fd.params.args.map (·.arg)).Nodup) (hl : us.length = (fd.params.args.map (·.arg)).length) : bindArgs fd ⟨us, []⟩ = pure ((fd.params.args.map (·.arg)).zip us) := by
  unfold plainPar at hp
  simp only [Bool.and_eq_true, List.isEmpty_iff, Option.isNone_iff_eq_none] at hp
  obtain ⟨⟨⟨h1, h2⟩, h3⟩, h4⟩ := hp
  have miss : ∀ l : List Str, (∀ n ∈ l, n ∈ fd.params.args.map (·.arg)) → (l.filter fun n => (((fd.params.args.map (·.arg)).zip us).lookup n).isNone) = [] := fun l hl' => by
    rw [List.filter_eq_nil_iff]
    intro n hn
    have := zip_some hl n (hl' n hn)
    cases q : ((fd.params.args.map (·.arg)).zip us).lookup n with
    | none => rw [q] at this; cases this
    | some v => simp
  have bs := zip_binds nd hl (l := (fd.params.args.map (·.arg)).zip us) fun _ _ => rfl
  have sq : seqItems? Value.none = pure none := rfl
  unfold bindArgs
  simp only [h1, h2, h3, h4, hd, sq, List.map_nil, List.nil_append, List.append_nil, pure_bind, List.forIn_nil, Option.isNone_none, Option.getD_none]
  have hg : ¬ (us.length > (fd.params.args.map (·.arg)).length) := by omega
  have e1 : (decide (us.length > (fd.params.args.map (·.arg)).length) && true) = false := by simp [hl]
  have m1 := miss (fd.params.args.map (·.arg)) fun _ h => h
  rw [if_neg (by rw [e1]; exact Bool.false_ne_true)]
  simp only [List.drop_nil, List.length_nil, Nat.sub_zero, List.take_length, List.zip_nil_right, m1, List.isEmpty_nil, Bool.not_true, Bool.false_eq_true, if_false, List.forIn_nil, pure_bind, bs]

/-! ### the law's tables -/
/-- a def of the text: its IR, where it stands, its syntax, its names -/
structure FnI where
  fd : FD
  d : He.DefD
  N : List Str
structure LawT where
  fs : List FnI
  cls : List CD := []
  ca : List Str := []
  an : List Str := []
  gl : List (Str × GK)
  glob : List PV := []
def LawT.P (L : LawT) : Prog := { funs := L.fs.map (·.fd), cls := L.cls, glob := L.glob }
def LawT.T (L : LawT) (K : PySem.W.Frag) : Tab where
  P := L.P
  K := K
  fa := fun f => match L.fs[f]? with
    | some i => He.fAd K i.d.at_
    | none => 0
  ca := fun c => He.ga K (L.ca.getD c default)
  an := L.an
def LawT.ce (L : LawT) (i : FnI) : CE := { N := i.N, nm := i.d.scope.names, gl := L.gl, an := L.an, calm := true, cells := (i.d.scope.names.filter fun p => p.2 == .cell).map (·.1) }
def FnI.ps (i : FnI) : List Str := i.d.params.args.map (·.arg)
def ndB : List Str → Bool
  | [] => true
  | x :: xs => !xs.contains x && ndB xs
theorem ndB_ok : ∀ {xs : List Str}, ndB xs = true → xs.Nodup
  | [], _ => List.nodup_nil
  | x :: xs, h => by
    unfold ndB at h
    rw [Bool.and_eq_true] at h
    exact List.nodup_cons.mpr ⟨by simpa using h.1, ndB_ok h.2⟩
def scopeB (N ps : List Str) (sc : Scope) : Bool := (sc.kind == .function) && !sc.isCoroutine && !sc.isGenerator && ndB N && (N.take ps.length == ps) && (ps.all fun x => match sc.names.lookup x with
    | some .local => true
    | some .cell => true
    | _ => false) && (sc.names.all fun y => !(y.2 == .free))
theorem scopeB_ok {N ps : List Str} {sc : Scope} (h : scopeB N ps sc = true) : FnScope N ps sc := by
  unfold scopeB at h
  simp only [Bool.and_eq_true] at h
  obtain ⟨⟨⟨⟨⟨⟨h1, h2⟩, h3⟩, h4⟩, h5⟩, h6⟩, h7⟩ := h
  refine ⟨beq_iff_eq.mp h1, by simpa using h2, by simpa using h3, ndB_ok h4, beq_iff_eq.mp h5, fun x hx => ?_, fun y hy e => ?_⟩
  · have := List.all_eq_true.mp h6 x hx
    split at this
    · rename_i q; exact .inl q
    · rename_i q; exact .inr q
    · cases this
  · have := List.all_eq_true.mp h7 y hy
    rw [e] at this
    cases this
def FnI.ok (L : LawT) (i : FnI) : Bool := !i.fd.init && scopeB i.N i.ps i.d.scope && plainPar i.d.params && i.d.dfl.isEmpty && i.d.kwd.isEmpty && (i.fd.np == i.ps.length) && (i.fd.ns == i.N.length) && chkSs i.fd.body (L.ce i) L.P i.fd.fr i.d.body
def LawT.ok (L : LawT) : Bool := (L.fs.all fun i => i.ok L) && ndB L.an && L.an.isEmpty && (L.gl.all fun p => match p.2 with
  | .fn f => (match L.fs[f]? with
    | some i => i.d.at_ == (p.1, none)
    | none => false)
  | _ => false)
/-! ### what is known of the head -/
structure Head (L : LawT) (K : PySem.W.Frag) (mg : Str → Option Value) : Prop where
  fns : ∀ i ∈ L.fs, ∃ fd, FunD K i.d.name i.d.qual i.d.params i.d.body i.d.scope [] [] (He.fAd K i.d.at_) fd
  gf : ∀ x f, L.gl.lookup x = some (.fn f) → mg x = some (.ref (He.ga K x))
  bl : ∀ x ∈ bltN, mg x = none
section
variable {L : LawT} {K : PySem.W.Frag} {mg : Str → Option Value} {PR : Program} {w : World} {base : Heap}
theorem gl_fn (hL : L.ok = true) {x : Str} {f : Nat} (h : L.gl.lookup x = some (.fn f)) : ∃ i, L.fs[f]? = some i ∧ i.d.at_ = (x, none) := by
  unfold LawT.ok at hL
  simp only [Bool.and_eq_true] at hL
  have := List.all_eq_true.mp hL.2 (x, .fn f) (PySem.mem_of_lookup h)
  simp only at this
  split at this
  · rename_i i e
    exact ⟨i, e, beq_iff_eq.mp this⟩
  · cases this
theorem gl_val (hL : L.ok = true) {x : Str} {g : Nat} (h : L.gl.lookup x = some (.val g)) : False := by
  unfold LawT.ok at hL
  simp only [Bool.and_eq_true] at hL
  have := List.all_eq_true.mp hL.2 (x, .val g) (PySem.mem_of_lookup h)
  cases this
theorem fs_ok (hL : L.ok = true) {f : Nat} {i : FnI} (h : L.fs[f]? = some i) : i.ok L = true := by
  unfold LawT.ok at hL
  simp only [Bool.and_eq_true] at hL
  exact List.all_eq_true.mp hL.1.1.1 i (List.mem_of_getElem? h)
theorem an_nil (hL : L.ok = true) : L.an = [] := by
  unfold LawT.ok at hL
  simp only [Bool.and_eq_true] at hL
  simpa using hL.1.2
/-- what a body's flow is, as a call -/
theorem flow_cpost {T : Tab} {F : Addr → Prop} {θ : List Addr} {H : Hp} {fr : Bool} {r : Flow} {Q : VK} {E : XK} (h : CPost T fr F θ H r.cr Q E) :
    PostS { T := T, H0 := H, F0 := F, θ0 := θ } (fun cls d _ H => E cls d H) fr F θ H r { nx := fun _ H' => Q .non H', rt := Q } := by
  have frm : ∀ {σ' : L2.St} {F' : Addr → Prop} {θ' : List Addr} {H' : Hp} {ρ' : REnv} {st' : Sto}, Ext F θ H F' θ' H' → SR { T := T, H0 := H, F0 := F, θ0 := θ } F' θ' H' σ' ρ' st' → Frm F θ H F' θ' H' := fun e s => ⟨e, fun a o h1 h2 h3 => s.kp a o h1 h2 h3, s.fn, s.tn⟩
  cases r with
  | nx ρ st => exact fun σ' F' θ' H' e s => h .non F' θ' H' (frm e s) s.so (by unfold RRep; split <;> first | exact .inl ⟨rfl, .non⟩ | exact .non)
  | ct ρ st => exact h.elim
  | ret v ρ st =>
    refine fun x σ' F' θ' H' e s c => h x F' θ' H' (frm e s) s.so ?_
    unfold cM at c
    unfold RRep
    split
    · rename_i hf
      rw [if_pos hf] at c
      rcases c with c | ⟨a, rfl, c1, c2, c3, c4, _⟩
      · exact .inl c
      · exact .inr ⟨a, rfl, c1, c2, c3, c4⟩
    · rename_i hf
      rw [if_neg hf] at c
      exact c
  | exc v ρ st => exact fun cls d σ' F' θ' H' e s er => h cls d F' θ' H' (frm e s) s.so er
  | bad => exact h.elim
theorem start_sr {T : Tab} {F : Addr → Prop} {θ : List Addr} {H : Hp} {st : Sto} {vs : List V} {ps : List PV} {N : List Str} {ns : Nat} (so : StoR T F θ H st) (r : Reps T F θ H vs ps) (hn : ns = N.length) (hl : ps.length ≤ ns) :
    SR { T := T, H0 := H, F0 := F, θ0 := θ } F θ H (L2.start N vs) (startE ns (ps.map .fz)) st := by
  subst hn
  refine ⟨so, fun _ h => h, fun _ h => .inl h, fun _ _ => .refl, fun _ _ h _ _ => h, fun _ _ h => h, fun _ h => .inl h, ?_, fun i sl h => ?_, fun i j a ⟨v, h⟩ => ?_⟩
  · unfold startE L2.start
    simp only [List.length_append, List.length_map, List.length_replicate, r.length]
  · unfold startE at h
    unfold SlotAt L2.start
    by_cases hi : i < ps.length
    · rw [List.getElem?_append_left (by simpa using hi), List.getElem?_map] at h
      obtain ⟨p, hp, rfl⟩ := Option.map_eq_some_iff.mp h
      obtain ⟨v, hv, rv⟩ := r.get' hp
      refine ⟨v, ?_, rv⟩
      rw [List.getElem?_append_left (by rw [List.length_map, r.length]; exact hi), List.getElem?_map, hv]
      rfl
    · rw [List.getElem?_append_right (by simpa using hi)] at h
      obtain ⟨h1, h2⟩ := List.getElem?_eq_some_iff.mp h
      rw [List.getElem_replicate] at h2
      subst h2
      trivial
  · unfold startE at h
    exfalso
    by_cases hi : i < ps.length
    · rw [List.getElem?_append_left (by simpa using hi), List.getElem?_map] at h
      obtain ⟨p, hp, e⟩ := Option.map_eq_some_iff.mp h
      cases e
    · rw [List.getElem?_append_right (by simpa using hi)] at h
      obtain ⟨h1, h2⟩ := List.getElem?_eq_some_iff.mp h
      rw [List.getElem_replicate] at h2
      cases h2
/-- every def answers as its IR -/
theorem fns_ok (hL : L.ok = true) (hd : Head L K mg) : ∀ (n f : Nat) (i : FnI) (fd : FuncData), L.fs[f]? = some i → FunD K i.d.name i.d.qual i.d.params i.d.body i.d.scope [] [] (He.fAd K i.d.at_) fd →
    FnOk PR w K mg base (L2.CX PR w) (n + 20) (He.fAd K i.d.at_) fd i.ps (spF (L.T K) n f) := by
  intro n
  induction n with
  | zero =>
    intro f i fd hi hf
    have npe : npOf (L.T K).P f = i.ps.length := by
      have ok := fs_ok hL hi
      unfold FnI.ok at ok
      simp only [Bool.and_eq_true] at ok
      unfold npOf
      show (match (L.fs.map (·.fd))[f]? with | some fd => fd.np | none => 0) = _
      rw [List.getElem?_map, hi]
      exact beq_iff_eq.mp ok.1.1.2
    refine ⟨fun vs H Q E h => h.1.trans npe, fun A outer s H args us vs Q E _ _ _ _ h => ?_⟩
    obtain ⟨_, F, θ, st, ps, _, _, h⟩ := h
    exact h.elim
  | succ n ih =>
    intro f i fd hi hf
    have ok := fs_ok hL hi
    unfold FnI.ok at ok
    simp only [Bool.and_eq_true] at ok
    obtain ⟨⟨⟨⟨⟨⟨⟨o1, o2⟩, o3⟩, o4⟩, o5⟩, o6⟩, o7⟩, o8⟩ := ok
    have S := scopeB_ok o2
    have hfd : (L.T K).P.funs[f]? = some i.fd := by
      show (L.fs.map (·.fd))[f]? = _
      rw [List.getElem?_map, hi]
      rfl
    have npe : npOf (L.T K).P f = i.ps.length := by
      unfold npOf
      rw [hfd]
      exact beq_iff_eq.mp o6
    have fre : frOf (L.T K).P f = i.fd.fr := by
      unfold frOf
      rw [hfd]
    have e1 : (n + 1) + 20 = (n + 20) + 1 := by omega
    rw [e1]
    refine hf.ok S (fun vs H Q E h => h.1.trans npe) fun cdv A outer s H vs Q E hr h => ?_
    obtain ⟨hlen, F, θ, st, ps, so, rp, h⟩ := h
    let X := cxOf (L2.CX PR w) PR w K mg base i.N i.d.qual i.d.scope (He.fAd K i.d.at_) cdv A outer s H E
    have hp : PassesOwn (model X.prog X.w) X.A X.env X.xe := passes_of (K := fun e s'' => L2.CX PR w outer H s E e s'') rfl
    have tk : Takes X (fun cls d _ H => E cls d H) := takes_of (X := X) rfl rfl rfl rfl
    have hN : i.N.Nodup := S.nd
    have o : Ok (L.T K) (fun cls d _ H => E cls d H) X (L.ce i) := by
      refine ⟨rfl, rfl, hN, rfl, ?_, rfl, fun _ => rfl, S.kind, fun _ _ => rfl, ?_, tk, hd.bl, fun x g hx => (gl_val hL hx).elim, fun f nm hx => ?_⟩
      · show L.an.Nodup
        rw [an_nil hL]
        exact List.nodup_nil
      · have := hr.un
        show (A.deeper (envOfC i.d.qual i.d.scope s.heap.objs.size (He.fAd K i.d.at_) cdv)).units + 500 < cLine
        omega
      · have hx : L.an[f]? = some nm := hx
        rw [an_nil hL] at hx
        cases hx
    have k : CallOk (L.T K) n X (L.ce i) := by
      have key : ∀ x g, L.gl.lookup x = some (.fn g) → ∃ j, L.fs[g]? = some j ∧ (L.T K).fa g = He.fAd K j.d.at_ ∧ He.fAd K j.d.at_ = He.ga K x := fun x g hx => by
        obtain ⟨j, h1, h2⟩ := gl_fn hL hx
        refine ⟨j, h1, ?_, ?_⟩
        · show (match L.fs[g]? with | some i => He.fAd K i.d.at_ | none => 0) = _
          rw [h1]
        · rw [h2]; rfl
      refine ⟨hr, fun x g hx => ?_, fun x g hx => ?_⟩
      · obtain ⟨j, h1, h2, h3⟩ := key x g hx
        obtain ⟨fdj, hfj⟩ := hd.fns j (List.mem_of_getElem? h1)
        rw [h2]
        exact ⟨by rw [h3]; exact hd.gf x g hx, hfj.kp⟩
      · obtain ⟨j, h1, h2, h3⟩ := key x g hx
        obtain ⟨fdj, hfj⟩ := hd.fns j (List.mem_of_getElem? h1)
        rw [h2]
        have okj := fs_ok hL h1
        unfold FnI.ok at okj
        simp only [Bool.and_eq_true] at okj
        obtain ⟨⟨⟨⟨⟨⟨⟨q1, q2⟩, q3⟩, q4⟩, q5⟩, q6⟩, q7⟩, q8⟩ := okj
        have Sj := scopeB_ok q2
        have ndj : j.ps.Nodup := by rw [← Sj.pre]; exact Sj.nd.sublist (List.take_sublist _ _)
        refine ⟨fdj, j.ps, ih g j fdj h1 hfj, hfj.bindsN fun kV doc pm an cdv ct us hl => bind_plain q3 rfl ndj hl, ?_⟩
        unfold npOf
        show _ = (match (L.fs.map (·.fd))[g]? with | some fd => fd.np | none => 0)
        rw [List.getElem?_map, h1]
        exact (beq_iff_eq.mp q6).symm
    refine ⟨_, sndSs (ex := none) i.fd.body (L.ce i) i.fd.fr i.d.body o k hp o8 { T := L.T K, H0 := H, F0 := F, θ0 := θ } rfl rfl, ?_⟩
    have hps : ps.length = i.fd.np := by
      rw [← rp.length, hlen, npe]
      exact (beq_iff_eq.mp o6).symm
    have hlN : i.ps.length ≤ i.N.length := by
      have := congrArg List.length S.pre
      rw [List.length_take] at this
      omega
    have hnp := beq_iff_eq.mp o6
    have hns := beq_iff_eq.mp o7
    refine ⟨F, θ, startE i.fd.ns (ps.map .fz), st, start_sr so rp hns (by omega), ?_⟩
    have ev : callF (L.T K).P (n + 1) (.f f) ps st = (evSs (L.T K).P (callF (L.T K).P n) i.fd.body (startE i.fd.ns (ps.map .fz)) st).cr := by
      show (match (L.T K).P.funs[f]? with
        | some fd => if fd.init = false ∧ ps.length = fd.np then (evSs (L.T K).P (callF (L.T K).P n) fd.body (startE fd.ns (ps.map .fz)) st).cr else .bad
        | none => .bad) = _
      rw [hfd]
      have : i.fd.init = false := by simpa using o1
      simp only [this, hps, and_self, if_true]
    rw [ev, fre] at h
    exact flow_cpost h
end
end PB

end
section
set_option Elab.async false
set_option linter.all false
set_option maxRecDepth 100000
set_option exponentiation.threshold 10000
set_option maxHeartbeats 1000000
/-! PB26: from the head to the law's end. -/
namespace PB
open PySem L2 PySem.Calls PyProof.Rows RZ RT

def LawT.fa (L : LawT) : List He.Fa := (L.gl.map fun p => He.Fa.glo p.1) ++ bltN.map He.Fa.free
def LawT.fn (L : LawT) : List He.DefD := L.fs.map (·.d)
theorem head_of {L : LawT} (hL : L.ok = true) {K : PySem.W.Frag} {h : Heap} {mg : Str → Option Value} (KX : K.In h) (G : h.Ns mainGlobals mg) (c : He.SaysD L.fa L.fn K) : Head L K mg := by
  have fact : ∀ f ∈ L.fa, f.ok K = true := fun f hf => by
    obtain ⟨i, hi⟩ := List.getElem?_of_mem hf
    exact c.fact i hi
  refine ⟨fun i hi => ?_, fun x f hx => ?_, fun x hx => ?_⟩
  · obtain ⟨j, hj⟩ := List.getElem?_of_mem hi
    have ok := fs_ok hL hj
    unfold FnI.ok at ok
    simp only [Bool.and_eq_true, List.isEmpty_iff] at ok
    obtain ⟨⟨⟨⟨⟨⟨⟨_, _⟩, _⟩, o4⟩, o5⟩, _⟩, _⟩, _⟩ := ok
    obtain ⟨fd, F⟩ := c.def_ j (d := i.d) (by show (L.fs.map (·.d))[j]? = _; rw [List.getElem?_map, hj]; rfl)
    have e1 : i.d.dvs K = [] := by unfold He.DefD.dvs; rw [o4]; rfl
    have e2 : i.d.kws K = [] := by unfold He.DefD.kws; rw [o5]; rfl
    rw [e1, e2] at F
    exact ⟨fd, F⟩
  · exact He.glo_ok KX G (fact _ (List.mem_append_left _ (List.mem_map.mpr ⟨_, PySem.mem_of_lookup hx, rfl⟩)))
  · exact He.free_ok KX G (fact _ (List.mem_append_right _ (List.mem_map.mpr ⟨_, hx, rfl⟩)))
/-- what is let out, whatever the world -/
def CXw (PR : Program) : CXT := fun outer H s E e s' => ∃ w, L2.CX PR w outer H s E e s'
theorem fn_cx {PR : Program} {w : World} {K : PySem.W.Frag} {mg : Str → Option Value} {base : Heap} {k : Nat} {f : Addr} {fd : FuncData} {ps : List Str} {sp : Sp} (F : FnOk PR w K mg base (L2.CX PR w) k f fd ps sp) : FnOk PR w K mg base (CXw PR) k f fd ps sp :=
  ⟨F.len, fun A outer s H args us vs Q E hr he hb hv hs => codeAny_mono (F.run A outer s H args us vs Q E hr he hb hv hs) fun r s' q => by
    cases r with
    | error e => exact ⟨w, q⟩
    | ok fl => cases fl <;> exact q⟩
/-- the law's call: its script as it is handed in -/
theorem law_sp {L : LawT} {K : PySem.W.Frag} {n m : Nat} {H : Hp} {a : Addr} {ns : List Int} (hnp : npOf L.P m = 1) (hO : Only H) (hS : SqL K H a (ns.map V.int)) (hp : ∃ st, callF L.P n (.f m) [.scr ns] [] = .ok (.bl true) st) :
    spF (L.T K) n m [.ref a] H (fun v _ => v = .bl true) (fun _ _ _ => False) := by
  obtain ⟨st, hp⟩ := hp
  refine ⟨hnp.symm, fun b => ∃ o, H b = some o, [], [], [.scr ns], ⟨List.nodup_nil, fun _ h => absurd h (by simp), fun _ h => absurd h (by simp), rfl, fun i _ _ h => absurd h (by simp), fun _ h => h⟩, .cons (.scr ?_) .nil, ?_⟩
  · rcases hS with h | h
    · refine .inl ⟨?_, h⟩
      rcases h with h | ⟨o, h⟩
      · exact ⟨_, h⟩
      · exact ⟨_, h⟩
    · exact .inr h
  · show CPost _ _ _ _ _ (callF L.P n (.f m) [.scr ns] []) _ _
    rw [hp]
    intro v F' θ' H' _ _ r
    unfold RRep at r
    split at r
    · rcases r with ⟨_, r⟩ | ⟨b, _, r, _⟩
      · cases r; rfl
      · exact r.elim
    · cases r; rfl
theorem law_walk {l : PySem.W.OpenLaw} {L : LawT} {n m : Nat} {i : FnI} {q : Program} {loose : List Str} {XP : (Str → Option Value) → Heap → Prop} {d : DefRec} {x : Str} (hL : L.ok = true) (hm : L.fs[m]? = some i) (hps : i.ps = [x]) (hat : i.d.at_ = (d.name, none)) (hin : L.gl.lookup d.name = some (.fn m))
    (hn : l.most = some 63) (hdf : d.params.defaults = []) (hr : Room (n + 20) callerA) (hp : ∀ ns : List Int, ns.length ≤ 63 → ∃ st, callF L.P n (.f m) [.scr ns] [] = .ok (.bl true) st) :
    PySem.W.WalkO q loose XP (He.hookD 6 L.fa L.fn).says l.row.toRowW d [] (fun f vs => PySem.call f vs) := by
  refine L2.walk_ofE (l := l) (n := 63) (k := n + 20) (x := x) (CX := CXw l.prog) hn (by rw [lim_eq]; decide) hdf hr (fun w mg fa h Y G hmg => ?_) (fun H s e s' ⟨w, z⟩ => ?_)
  · obtain ⟨K, KX, c⟩ := Y
    have hd := head_of hL KX G c
    obtain ⟨fd, F⟩ := hd.fns i (List.mem_of_getElem? hm)
    have e : fa = He.fAd K i.d.at_ := by
      have := hd.gf _ _ hin
      rw [hmg] at this
      cases this
      rw [hat]
      rfl
    have okj := fs_ok hL hm
    unfold FnI.ok at okj
    simp only [Bool.and_eq_true] at okj
    obtain ⟨⟨⟨⟨⟨⟨⟨q1, q2⟩, q3⟩, q4⟩, q5⟩, q6⟩, q7⟩, q8⟩ := okj
    have Sj := scopeB_ok q2
    have ndj : i.ps.Nodup := by rw [← Sj.pre]; exact Sj.nd.sublist (List.take_sublist _ _)
    have hnp : npOf L.P m = 1 := by
      unfold npOf LawT.P
      simp only [List.getElem?_map, hm, Option.map_some]
      have := beq_iff_eq.mp q6
      rw [hps] at this
      exact this
    refine ⟨K, fd, spF (L.T K) n m, KX, fun s u => ?_, fun H a ns hl hO hS => law_sp hnp hO hS (hp ns hl), fun base _ _ => ?_⟩
    · have := FunD.bindsA (ps := i.ps) F (fun kV doc pm an cdv ct us hl => bind_plain q3 rfl ndj hl) s [u] (by rw [hps]; rfl)
      rw [hps] at this
      exact this
    · rw [e, ← hps]
      exact fn_cx (fns_ok hL hd n m i fd hm F)
  · obtain ⟨_, _, _, _, _, _, _, _, _, _, _, _, z⟩ := z
    exact z.elim
end PB

end
section
set_option Elab.async false
set_option linter.all false
set_option maxRecDepth 100000
/-! PB27: running the IR by simp. -/
namespace PB
open PySem L2
section
variable {α β : Type} {a : α} {v : PV} {ρ : REnv} {st : Sto}
theorem bind_ok (f : α → REnv → Sto → Res β) : (Res.ok a ρ st).bind f = f a ρ st := rfl
theorem bind_exc (f : α → REnv → Sto → Res β) : (Res.exc v ρ st).bind f = .exc v ρ st := rfl
theorem bind_bad (f : α → REnv → Sto → Res β) : (Res.bad).bind f = .bad := rfl
theorem flow_ok (f : PV → REnv → Sto → Flow) : (Res.ok v ρ st).flow f = f v ρ st := rfl
theorem flow_exc (f : PV → REnv → Sto → Flow) : (Res.exc v ρ st).flow f = .exc v ρ st := rfl
theorem flow_bad (f : PV → REnv → Sto → Flow) : (Res.bad).flow f = .bad := rfl
theorem then_nx (f : REnv → Sto → Flow) : (Flow.nx ρ st).then f = f ρ st := rfl
theorem then_ct (f : REnv → Sto → Flow) : (Flow.ct ρ st).then f = .ct ρ st := rfl
theorem then_ret (f : REnv → Sto → Flow) : (Flow.ret v ρ st).then f = .ret v ρ st := rfl
theorem then_exc (f : REnv → Sto → Flow) : (Flow.exc v ρ st).then f = .exc v ρ st := rfl
theorem res_ok : (CR.ok v st).res ρ = .ok v ρ st := rfl
theorem res_exc : (CR.exc v st).res ρ = .exc v ρ st := rfl
theorem cr_ret : (Flow.ret v ρ st).cr = .ok v st := rfl
theorem cr_nx : (Flow.nx ρ st).cr = .ok .non st := rfl
theorem cr_exc : (Flow.exc v ρ st).cr = .exc v st := rfl
theorem then_nil {P : Prog} {cf : CF} (r : Flow) : r.then (evSs P cf .nil) = r := by cases r <;> first | rfl | (unfold Flow.then evSs; rfl)
theorem then_tail (r : CR) (f : REnv → Sto → Flow) : ((r.res ρ).flow fun v ρ st => Flow.ret v ρ st).then f = (r.res ρ).flow fun v ρ st => Flow.ret v ρ st := by cases r <;> rfl
theorem cr_tail (r : CR) : ((r.res ρ).flow fun v ρ st => Flow.ret v ρ st).cr = r := by cases r <;> rfl
theorem loopF_nil {tg : Tg} {body : REnv → Sto → Flow} : loopF tg body [] ρ st = .nx ρ st := by unfold loopF; rfl
theorem loopC_nil {tg : Tg} {own : List Nat} {c e : REnv → Sto → Res PV} {acc : List PV} : loopC tg own c e [] acc ρ st = .ok (.lst acc) ρ st := by unfold loopC; rfl
end
theorem callF_f {P : Prog} {n i : Nat} {fd : FD} {args : List PV} {st : Sto} (h : P.funs[i]? = some fd) (h1 : fd.init = false) (h2 : args.length = fd.np) : callF P (n + 1) (.f i) args st = (evSs P (callF P n) fd.body (startE fd.ns (args.map .fz)) st).cr := by
  show (match P.funs[i]? with
    | some fd => if fd.init = false ∧ args.length = fd.np then (evSs P (callF P n) fd.body (startE fd.ns (args.map .fz)) st).cr else .bad
    | none => .bad) = _
  rw [h]
  simp only [h1, h2, and_self, if_true]
theorem no_dfl {P : Prog} (h : (P.funs.all fun fd => fd.dfl.isEmpty) = true) (f : Nat) (xs : List PV) : P.withDfl f xs = xs := by
  unfold Prog.withDfl
  split
  · rename_i fd e
    have : fd.dfl = [] := by simpa using List.all_eq_true.mp h fd (List.mem_of_getElem? e)
    rw [this]
    simp
  · rfl
section
variable {tg : Tg} {own : List Nat} {body : REnv → Sto → Flow} {c e : REnv → Sto → Res PV} {x v : PV} {xs acc : List PV} {ρ ρ1 ρ2 ρ3 : REnv} {st st2 st3 : Sto}
theorem loopF_nx (hb : tg.bind x ρ = some ρ1) (hr : body ρ1 st = .nx ρ2 st2) : loopF tg body (x :: xs) ρ st = loopF tg body xs ρ2 st2 := by
  conv => lhs; unfold loopF
  rw [hb]
  simp only [hr]
theorem loopF_ct (hb : tg.bind x ρ = some ρ1) (hr : body ρ1 st = .ct ρ2 st2) : loopF tg body (x :: xs) ρ st = loopF tg body xs ρ2 st2 := by
  conv => lhs; unfold loopF
  rw [hb]
  simp only [hr]
theorem loopF_ret (hb : tg.bind x ρ = some ρ1) (hr : body ρ1 st = .ret v ρ2 st2) : loopF tg body (x :: xs) ρ st = .ret v ρ2 st2 := by
  conv => lhs; unfold loopF
  rw [hb]
  simp only [hr]
theorem loopC_yes (hb : tg.bind x (blank ρ own) = some ρ1) (hc : c ρ1 st = .ok (.bl true) ρ2 st2) (he : e ρ2 st2 = .ok v ρ3 st3) (hl : acc.length < lim) : loopC tg own c e (x :: xs) acc ρ st = loopC tg own c e xs (acc ++ [v]) ρ3 st3 := by
  conv => lhs; unfold loopC
  rw [hb]
  simp only [hc, bind_ok, he, hl, if_true]
theorem loopC_no (hb : tg.bind x (blank ρ own) = some ρ1) (hc : c ρ1 st = .ok (.bl false) ρ2 st2) : loopC tg own c e (x :: xs) acc ρ st = loopC tg own c e xs acc ρ2 st2 := by
  conv => lhs; unfold loopC
  rw [hb]
  simp only [hc, bind_ok]
end
theorem mut_app {xs : List PV} {v : PV} (h : xs.length < lim) : mutF .append (.lst xs) [v] = some (.lst (xs ++ [v]), .non) := by
  show (if xs.length < lim then some (PV.lst (xs ++ [v]), PV.non) else none) = _
  rw [if_pos h]
theorem mut_setS {d : List (K2 × PV)} {t : Tx} {v : PV} (h : d.length < lim) : mutF .setIx (.dic d) [.str t, v] = some (.dic (put (.s t) v d), .non) := by
  show (if d.length < lim then some (PV.dic (put (.s t) v d), PV.non) else none) = _
  rw [if_pos h]
theorem mut_setI {d : List (K2 × PV)} {i : Int} {v : PV} (h : d.length < lim) : mutF .setIx (.dic d) [.int i, v] = some (.dic (put (.i i) v d), .non) := by
  show (if d.length < lim then some (PV.dic (put (.i i) v d), PV.non) else none) = _
  rw [if_pos h]
theorem mut_setL {xs : List PV} {i : Int} {k : Nat} {v : PV} (h : pIx xs.length i = some k) : mutF .setIx (.lst xs) [.int i, v] = some (.lst (xs.set k v), .non) := by
  show (match pIx xs.length i with | some k => some (PV.lst (xs.set k v), PV.non) | none => none) = _
  rw [h]
/-! ### numbers as indices -/
theorem pIx_nat {n k : Nat} (h : k < n) : pIx n (k : Int) = some k := by
  unfold pIx ixN
  simp [h]
theorem ixLL {xs : List PV} {k : Nat} {v : PV} (h : xs[k]? = some v) : ixOp (.lst xs) (.int (k : Int)) = some v := by
  show (pIx xs.length (k : Int)).bind (xs[·]?) = _
  rw [pIx_nat (List.getElem?_eq_some_iff.mp h).1]
  exact h
theorem ixTL {xs : List PV} {k : Nat} {v : PV} (h : xs[k]? = some v) : ixOp (.tup xs) (.int (k : Int)) = some v := by
  show (pIx xs.length (k : Int)).bind (xs[·]?) = _
  rw [pIx_nat (List.getElem?_eq_some_iff.mp h).1]
  exact h
theorem ixL0 {x : PV} {xs : List PV} : ixOp (.lst (x :: xs)) (.int 0) = some x := ixLL (k := 0) rfl
theorem ixT0 {x : PV} {xs : List PV} : ixOp (.tup (x :: xs)) (.int 0) = some x := ixTL (k := 0) rfl
theorem ixT1 {x y : PV} {xs : List PV} : ixOp (.tup (x :: y :: xs)) (.int 1) = some y := ixTL (k := 1) rfl
theorem ixT2 {x y z : PV} {xs : List PV} : ixOp (.tup (x :: y :: z :: xs)) (.int 2) = some z := ixTL (k := 2) rfl
theorem ixT3 {x y z w : PV} {xs : List PV} : ixOp (.tup (x :: y :: z :: w :: xs)) (.int 3) = some w := ixTL (k := 3) rfl
theorem de_scr {st : Sto} {ns : List Int} : PB.de st (.scr ns) = .scr ns := rfl
theorem de_lst {st : Sto} {ns : List PV} : PB.de st (.lst ns) = .lst ns := rfl
theorem de_tup {st : Sto} {ns : List PV} : PB.de st (.tup ns) = .tup ns := rfl
theorem de_dic {st : Sto} {ns : List (K2 × PV)} : PB.de st (.dic ns) = .dic ns := rfl
theorem de_str {st : Sto} {ns : Tx} : PB.de st (.str ns) = .str ns := rfl
/-! ### dicts -/
theorem look_app {k : K2} {v : PV} : ∀ {d : List (K2 × PV)}, look k (d ++ [(k, v)]) = some ((look k d).getD v)
  | [] => by simp [look]
  | (k', u) :: r => by
    rw [List.cons_append]
    unfold look
    split
    · rfl
    · exact look_app
theorem look_append_ne {k k' : K2} {v : PV} (h : k' ≠ k) : ∀ {d : List (K2 × PV)}, look k (d ++ [(k', v)]) = look k d
  | [] => by simp [look, h]
  | (k2, u) :: r => by
    rw [List.cons_append]
    unfold look
    split
    · rfl
    · exact look_append_ne h
theorem put_new {k : K2} {v : PV} {d : List (K2 × PV)} (h : look k d = none) : put k v d = d ++ [(k, v)] := by
  unfold put
  rw [h]
  rfl
end PB

end
section
set_option Elab.async false
set_option linter.all false
set_option maxRecDepth 100000
/-! PB28: sorted texts, lists of texts, letters. -/
namespace PB
open PySem L2
def unS : PV → Option Tx
  | .str t => some t
  | _ => none
theorem sortOk_txt (ts : List Tx) : sortOk (ts.map PV.str) = true := by
  unfold sortOk
  simp only [List.all_map, List.all_eq_true, Function.comp]
  intro a _ b _
  rfl
theorem sort_txt (ts : List Tx) : ∃ ss : List Tx, sortOp (.lst (ts.map PV.str)) = some (.lst (ss.map PV.str)) ∧ ss.Perm ts := by
  have hs : ∃ ys, sortBy (ts.map PV.str) (ts.map PV.str) = some ys := by
    unfold sortBy
    rw [if_pos (sortOk_txt ts)]
    exact ⟨_, rfl⟩
  obtain ⟨ys, hy⟩ := hs
  obtain ⟨_, e⟩ := sortBy_self hy
  have pm : ys.Perm (ts.map PV.str) := by rw [e]; exact List.mergeSort_perm _ _
  have fm : (ts.map PV.str).filterMap unS = ts := by
    rw [List.filterMap_map]
    show ts.filterMap (fun t => some t) = ts
    simp
  refine ⟨ys.filterMap unS, ?_, ?_⟩
  · have : ys = (ys.filterMap unS).map PV.str := by
      have all : ∀ y ∈ ys, ∃ t, y = PV.str t := fun y hy => by
        obtain ⟨t, _, rfl⟩ := List.mem_map.mp (pm.mem_iff.mp hy)
        exact ⟨t, rfl⟩
      clear pm e hy
      induction ys with
      | nil => rfl
      | cons y ys ih =>
        obtain ⟨t, rfl⟩ := all y List.mem_cons_self
        rw [List.filterMap_cons]
        show _ = (t :: ys.filterMap unS).map PV.str
        rw [List.map_cons, ← ih fun z hz => all z (List.mem_cons_of_mem _ hz)]
    show (sortBy (ts.map PV.str) (ts.map PV.str)).map PV.lst = _
    rw [hy, Option.map_some, ← this]
  · have := pm.filterMap unS
    rw [fm] at this
    exact this
theorem rep_one (c n : Nat) : (List.replicate n [c]).flatten = List.replicate n c := by
  induction n with
  | zero => rfl
  | succ n ih => rw [List.replicate_succ, List.flatten_cons, ih]; rfl
def abc : Tx := [97, 98, 99, 100, 101, 102, 103, 104, 105, 106, 107, 108, 109, 110, 111, 112, 113, 114, 115, 116, 117, 118, 119, 120, 121, 122]
theorem abc_ix {i : Int} (h0 : 0 ≤ i) (h1 : i < 26) : ixOp (.str abc) (.int i) = some (.str [97 + i.toNat]) := by
  obtain ⟨k, rfl⟩ : ∃ k : Nat, i = k := ⟨i.toNat, by omega⟩
  have hk : k < 26 := by omega
  have e : abc[k]? = some (97 + k) := by
    have : ∀ k : _root_.Fin 26, abc[k.1]? = some (97 + k.1) := by decide
    exact this ⟨k, hk⟩
  show (if abc.length ≤ lim then (pIx abc.length (k : Int)).bind (fun k => (abc[k]?).map fun c => PV.str [c]) else none) = _
  rw [if_pos (by decide), pIx_nat (by show k < 26; exact hk), Option.bind_some, e]
  rfl
theorem mul_st {t : Tx} {j : Int} (h0 : 0 ≤ j) (h1 : j < 1000) (h2 : t.length ≤ 1000) : mulOp (.str t) (.int j) = some (.str (List.replicate j.toNat t).flatten) := by
  show (if 0 ≤ j ∧ j < 1000 ∧ t.length * j.toNat ≤ lim then some (PV.str (List.replicate j.toNat t).flatten) else none) = _
  rw [if_pos ⟨h0, h1, by unfold lim; have : t.length * j.toNat ≤ 1000 * 1000 := Nat.mul_le_mul h2 (by omega); omega⟩]
theorem add_ss {a b : Tx} (h : a.length + b.length ≤ 100000) : addOp (.str a) (.str b) = some (.str (a ++ b)) := by
  show (if a.length + b.length ≤ lim then some (PV.str (a ++ b)) else none) = _
  rw [if_pos (by unfold lim; omega)]
theorem slc_str {lo hi : Option Int} {t : Tx} (h : t.length ≤ 100000) : slc lo hi (.str t) = some (.str (cutL t lo hi)) := by
  show (if t.length ≤ lim then some (PV.str (cutL t lo hi)) else none) = _
  rw [if_pos (by unfold lim; omega)]
section
variable {P : Prog} {cf : CF} {s : S} {r : Ss} {ρ ρ' : REnv} {st st' : Sto} {v : PV} {R : CR} {F : Flow}
theorem step_nx (h : evS P cf s ρ st = .nx ρ' st') (k : (evSs P cf r ρ' st').cr = R) : (evSs P cf (.cons s r) ρ st).cr = R := by
  unfold evSs
  rw [h]
  exact k
theorem step_ret (h : evS P cf s ρ st = .ret v ρ' st') : (evSs P cf (.cons s r) ρ st).cr = .ok v st' := by
  unfold evSs
  rw [h]
  rfl
theorem stp_nx (h : evS P cf s ρ st = .nx ρ' st') (k : evSs P cf r ρ' st' = F) : evSs P cf (.cons s r) ρ st = F := by
  unfold evSs
  rw [h]
  exact k
theorem stp_ret (h : evS P cf s ρ st = .ret v ρ' st') : evSs P cf (.cons s r) ρ st = .ret v ρ' st' := by
  unfold evSs
  rw [h]
  rfl
theorem stp_nil : evSs P cf .nil ρ st = .nx ρ st := by unfold evSs; rfl
end
theorem evIt_rng1 {P : Prog} {cf : CF} {e : E} {ρ ρ' : REnv} {st st' : Sto} {n : Int} (h : evE P cf e ρ st = .ok (.int n) ρ' st') (sm : small62 n = true) : evIt P cf (.rng1 e) ρ st = .ok (.lst (rngL 0 n)) ρ' st' := by
  unfold evIt
  rw [h]
  show (match small62 n with | true => Res.ok (PV.lst (rngL 0 n)) ρ' st' | false => .bad) = _
  rw [sm]
theorem evIt_rng2 {P : Prog} {cf : CF} {e f : E} {ρ ρ' ρ'' : REnv} {st st' st'' : Sto} {m n : Int} (h : evE P cf e ρ st = .ok (.int m) ρ' st') (g : evE P cf f ρ' st' = .ok (.int n) ρ'' st'') (sm : small62 m = true) (sn : small62 n = true) : evIt P cf (.rng2 e f) ρ st = .ok (.lst (rngL m n)) ρ'' st'' := by
  unfold evIt
  rw [h]
  show (evE P cf f ρ' st').bind _ = _
  rw [g]
  show (match small62 m && small62 n with | true => Res.ok (PV.lst (rngL m n)) ρ'' st'' | false => .bad) = _
  rw [sm, sn]
  rfl
theorem for_step {P : Prog} {cf : CF} {tg : Tg} {it : It} {b : Ss} {ρ ρ1 : REnv} {st st1 : Sto} {xs : List PV} {R : Flow} (h : evIt P cf it ρ st = .ok (.lst xs) ρ1 st1) (g : loopF tg (evSs P cf b) xs ρ1 st1 = R) : evS P cf (.for tg it b) ρ st = R := by
  unfold evS
  rw [h]
  exact g
theorem small_nat {n : Nat} (h : n < 2 ^ 62) : small62 (n : Int) = true := by
  unfold small62
  simp
  omega
end PB

end
section
set_option Elab.async false
set_option linter.all false
set_option maxRecDepth 100000
/-! PB29: numbers, the store's cell, defaults. -/
namespace PB
open PySem L2
class ND (P : Prog) : Prop where wd : ∀ (f : Nat) (xs : List PV), P.withDfl f xs = xs
theorem wd {P : Prog} [h : ND P] (f : Nat) (xs : List PV) : P.withDfl f xs = xs := h.wd f xs
theorem evO_none {P : Prog} {cf : CF} {ρ : REnv} {st : Sto} : evO P cf .none ρ st = .ok (.bl true) ρ st := by unfold evO; rfl
theorem evO_some {P : Prog} {cf : CF} {e : E} {ρ : REnv} {st : Sto} : evO P cf (.some e) ρ st = evE P cf e ρ st := by unfold evO; rfl
theorem eq_ii (i j : Int) : eqOp (.int i) (.int j) = some (i == j) := by
  show (if dp (.int i) ≤ deepL ∨ dp (.int j) ≤ deepL then eqv (.int i) (.int j) else none) = _
  rw [if_pos (.inl (Nat.zero_le _))]
  unfold eqv; rfl
theorem eq_ss (i j : Tx) : eqOp (.str i) (.str j) = some (i == j) := by
  show (if dp (.str i) ≤ deepL ∨ dp (.str j) ≤ deepL then eqv (.str i) (.str j) else none) = _
  rw [if_pos (.inl (Nat.zero_le _))]
  unfold eqv; rfl
theorem tq_cc (a b : Nat) (x y : Tx) : ((a :: x) == (b :: y)) = (a == b && x == y) := rfl
theorem tq_cn (a : Nat) (x : Tx) : ((a :: x) == ([] : Tx)) = false := rfl
theorem tq_nc (a : Nat) (x : Tx) : (([] : Tx) == (a :: x)) = false := rfl
theorem tq_nn : (([] : Tx) == ([] : Tx)) = true := rfl
theorem bt_not : (!true) = false := rfl
theorem bf_not : (!false) = true := rfl
theorem isNonB_non : isNonB .non = true := rfl
theorem set_same {st : Sto} {a : Nat} {v : PV} (h : ∃ u, st[a]? = some u) : (st.set a v)[a]? = some v := by
  obtain ⟨u, h⟩ := h
  rw [List.getElem?_set_self (List.getElem?_eq_some_iff.mp h).1]
theorem de_at {st : Sto} {a : Nat} {v : PV} (h : st[a]? = some v) : PB.de st (.ref a) = v := by
  show st.getD a .non = v
  rw [List.getD_eq_getElem?_getD, h]
  rfl
theorem big_of {i : Int} (h : i.natAbs < 2 ^ 300) : i.natAbs < big := by
  unfold big
  exact Nat.lt_of_lt_of_le h (Nat.pow_le_pow_right (by decide) (by decide))
theorem mul_ii {i j : Int} (h : i.natAbs < big) (g : j.natAbs < big) : mulOp (.int i) (.int j) = some (.int (i * j)) := by
  show (if i.natAbs < big ∧ j.natAbs < big then some (PV.int (i * j)) else none) = _
  rw [if_pos ⟨h, g⟩]
theorem mod_ii {i j : Int} (h : 0 < j) : modOp (.int i) (.int j) = some (.int (i % j)) := by
  show (if 0 < j then some (PV.int (i % j)) else none) = _
  rw [if_pos h]
theorem div_ii {i j : Int} (h : 0 < j) (g : j.natAbs < 2 ^ 300) : fdivOp (.int i) (.int j) = some (.int (i / j)) := by
  show (if 0 < j ∧ j.natAbs < big then some (PV.int (i / j)) else none) = _
  rw [if_pos ⟨h, big_of g⟩]
theorem add_ii {i j : Int} : addOp (.int i) (.int j) = some (.int (i + j)) := rfl
theorem sub_ii {i j : Int} : subOp (.int i) (.int j) = some (.int (i - j)) := rfl
theorem rng0 (k : Nat) : rngL 0 (k : Int) = (List.range' 0 k).map fun (i : Nat) => PV.int (i : Int) := by
  unfold rngL
  rw [← List.range_eq_range']
  simp
end PB

end
section
set_option Elab.async false
set_option linter.all false
set_option maxRecDepth 100000
namespace PB
/-! ### kinds -/
inductive KD where
  | num
  | word
  | rec_ (fs : List (Tx × KD))
  | rows (key by_ : Tx) (fs : List (Tx × KD))
  | tree (k : KD)
  | eith (fs : List (Tx × KD))
abbrev KF := List (Tx × KD)
def tNumber : Tx := [110, 117, 109, 98, 101, 114]
def tWord : Tx := [119, 111, 114, 100]
def tRecord : Tx := [114, 101, 99, 111, 114, 100]
def tRows : Tx := [114, 111, 119, 115]
def tTree : Tx := [116, 114, 101, 101]
def tEither : Tx := [101, 105, 116, 104, 101, 114]
mutual
def KD.pv : KD → PV
  | .num => .tup [.str tNumber]
  | .word => .tup [.str tWord]
  | .rec_ fs => .tup [.str tRecord, .tup (kpvs fs)]
  | .rows key by_ fs => .tup [.str tRows, .str key, .str by_, .tup (kpvs fs)]
  | .tree k => .tup [.str tTree, k.pv]
  | .eith fs => .tup [.str tEither, .tup (kpvs fs)]
def kpvs : List (Tx × KD) → List PV
  | [] => []
  | (n, k) :: r => .tup [.str n, k.pv] :: kpvs r
end
mutual
/-- how deep a kind is nested -/
def KD.dep : KD → Nat
  | .num => 0
  | .word => 0
  | .rec_ fs => kdeps fs + 1
  | .rows _ _ fs => kdeps fs + 1
  | .tree k => k.dep + 1
  | .eith fs => kdeps fs + 1
def kdeps : List (Tx × KD) → Nat
  | [] => 0
  | (_, k) :: r => max k.dep (kdeps r)
end
def KD.plain : KD → Bool
  | .num => true
  | .word => true
  | _ => false
/-- one to twelve small letters -/
def nmOk (t : Tx) : Prop := 0 < t.length ∧ t.length ≤ 12 ∧ ∀ c ∈ t, 97 ≤ c ∧ c ≤ 122
/-- the fields' names rise -/
def rise (fs : KF) : Prop := (fs.map (·.1)).Pairwise (· < ·)
def plainAt (fs : KF) (n : Tx) : Prop := ∃ k, (n, k) ∈ fs ∧ k.plain = true
mutual
def KD.wf : KD → Prop
  | .num => True
  | .word => True
  | .rec_ fs => (rise fs ∧ fs.length ≤ 12) ∧ kwfs fs
  | .rows key by_ fs => (rise fs ∧ fs.length ≤ 12 ∧ plainAt fs key ∧ (by_ = [] ∨ (by_ ≠ key ∧ plainAt fs by_))) ∧ kwfs fs
  | .tree k => k.wf
  | .eith fs => (rise fs ∧ fs.length ≤ 12 ∧ fs ≠ []) ∧ kwfs fs
def kwfs : List (Tx × KD) → Prop
  | [] => True
  | (n, k) :: r => (nmOk n ∧ k.wf) ∧ kwfs r
end
theorem kpvs_map : ∀ fs : KF, kpvs fs = fs.map fun p => .tup [.str p.1, p.2.pv]
  | [] => rfl
  | (n, k) :: r => by show _ :: kpvs r = _; rw [kpvs_map r]; rfl
theorem kpvs_len (fs : KF) : (kpvs fs).length = fs.length := by rw [kpvs_map]; simp
theorem kdeps_mem : ∀ {fs : KF} {p : Tx × KD}, p ∈ fs → p.2.dep ≤ kdeps fs
  | (n, k) :: r, p, h => by
    show _ ≤ max k.dep (kdeps r)
    rcases List.mem_cons.mp h with rfl | h
    · exact Nat.le_max_left _ _
    · have := kdeps_mem h; omega
theorem kdeps_le {d : Nat} : ∀ {fs : KF}, (∀ p ∈ fs, p.2.dep ≤ d) → kdeps fs ≤ d
  | [], _ => Nat.zero_le _
  | (n, k) :: r, h => by
    show max k.dep (kdeps r) ≤ d
    have h1 := h _ List.mem_cons_self
    have h2 := kdeps_le fun p hp => h p (List.mem_cons_of_mem _ hp)
    simp only at h1
    omega
theorem kwfs_iff : ∀ {fs : KF}, kwfs fs ↔ ∀ p ∈ fs, nmOk p.1 ∧ p.2.wf
  | [] => ⟨fun _ _ h => (by cases h), fun _ => trivial⟩
  | (n, k) :: r => by
    show ((nmOk n ∧ k.wf) ∧ kwfs r) ↔ _
    rw [kwfs_iff, List.forall_mem_cons]
theorem kwfs_mem {fs : KF} {p : Tx × KD} (h : kwfs fs) (hp : p ∈ fs) : p.2.wf := (kwfs_iff.mp h p hp).2
/-- texts' order -/
theorem tx_irrefl (a : Tx) : ¬ a < a := List.lt_irrefl a
theorem rise_nodup {fs : KF} (h : rise fs) : (fs.map (·.1)).Nodup := List.Pairwise.imp (fun {a b} (hab : a < b) (e : a = b) => tx_irrefl b (by rw [e] at hab; exact hab)) h
theorem rise_cons {p : Tx × KD} {r : KF} (h : rise (p :: r)) : (∀ q ∈ r, p.1 ≠ q.1) ∧ rise r := by
  unfold rise at *
  rw [List.map_cons, List.pairwise_cons] at h
  exact ⟨fun q hq e => tx_irrefl p.1 (by have := h.1 _ (List.mem_map_of_mem hq); rw [← e] at this; exact this), h.2⟩
theorem kd_ne_non (k : KD) : isNonB k.pv = false := by cases k <;> rfl
/-! ### texts are sorted -/
def leTx (a b : Tx) : Bool := !decide (b < a)
theorem leTx_trans (a b c : Tx) (h : leTx a b = true) (g : leTx b c = true) : leTx a c = true := by
  unfold leTx at *
  simp only [Bool.not_eq_true', decide_eq_false_iff_not] at *
  exact List.le_trans (α := Nat) (l₁ := a) (l₂ := b) (l₃ := c) h g
theorem leTx_total (a b : Tx) : (leTx a b || leTx b a) = true := by
  unfold leTx
  have := List.le_total (α := Nat) a b
  simp only [Bool.or_eq_true, Bool.not_eq_true', decide_eq_false_iff_not]
  exact this
theorem sort_tx (ts : List Tx) : sortOp (.lst (ts.map PV.str)) = some (.lst ((ts.mergeSort leTx).map PV.str)) := by
  have h : sortBy (ts.map PV.str) (ts.map PV.str) = some ((ts.mergeSort leTx).map PV.str) := by
    unfold sortBy
    rw [if_pos (sortOk_txt ts)]
    have e : (ts.map PV.str).zip (ts.map PV.str) = ts.map fun t => (PV.str t, PV.str t) := by
      induction ts with
      | nil => rfl
      | cons t r ih => rw [List.map_cons, List.zip_cons_cons, ih]; rfl
    rw [e, ← List.map_mergeSort (r := leTx), List.map_map]
    · rfl
    · intro a _ b _
      show leTx a b = (match some (decide (b < a)) with | some true => false | _ => true)
      unfold leTx
      cases decide (b < a) <;> rfl
  show (sortBy (ts.map PV.str) (ts.map PV.str)).map PV.lst = _
  rw [h]; rfl
theorem sorted_tx {ts : List Tx} (nd : ts.Nodup) : (ts.mergeSort leTx).Pairwise (· < ·) := by
  have h := List.pairwise_mergeSort leTx_trans leTx_total ts
  have n : (ts.mergeSort leTx).Nodup := (List.mergeSort_perm ts leTx).nodup_iff.mpr nd
  refine (List.pairwise_and_iff.mpr ⟨h, n⟩).imp fun {a b} ⟨h, g⟩ => ?_
  unfold leTx at h
  simp only [Bool.not_eq_true', decide_eq_false_iff_not] at h
  rcases (List.le_iff_lt_or_eq (α := Nat) (l₁ := a) (l₂ := b)).mp h with h | h
  · exact h
  · exact absurd h g
end PB

end
section
set_option Elab.async false
set_option linter.all false
set_option maxRecDepth 100000
set_option exponentiation.threshold 10000
namespace PB
open PySem L2
abbrev i_kind_at : Nat := 0
abbrev i_is_whole : Nat := 1
abbrev i_rank : Nat := 2
abbrev i_record_misfit : Nat := 3
abbrev i_rows_misfit : Nat := 4
abbrev i_tree_misfit : Nat := 5
abbrev i_either_misfit : Nat := 6
abbrev i_misfit : Nat := 7
abbrev i_empty : Nat := 8
abbrev i_empty_record : Nat := 9
abbrev i_l_next : Nat := 10
abbrev i_l_names : Nat := 11
abbrev i_l_plain : Nat := 12
abbrev i_l_fields : Nat := 13
abbrev i_l_rows_kind : Nat := 14
abbrev i_l_kind : Nat := 15
abbrev i_l_alike : Nat := 16
abbrev i_l_due : Nat := 17
abbrev i_law_k01 : Nat := 18
def b1_kind_at : Ss := (.cons (.iff (.prim .eq (.cons (.slot 2) (.cons (.slot 1) .nil)))
 (.cons (.ret (.slot 3))
 .nil)
 .nil)
 .nil)
def b_kind_at : Ss := (.cons (.for (.two 2 3) (.val (.slot 0))
 b1_kind_at)
 (.cons (.ret (.const .non))
 .nil))
def f_kind_at : FD := { np := 2, ns := 4, body := b_kind_at }
def n_kind_at : List Str := ["fields", "name", "other", "kind"]
class H_kind_at (P : Prog) : Prop where at_ : P.funs[i_kind_at]? = some f_kind_at
theorem call_kind_at {P : Prog} [H_kind_at P] {n : Nat} {x0 x1 : PV} {st : Sto} : callF P (n + 1) (.f i_kind_at) [x0, x1] st = (evSs P (callF P n) b_kind_at [.fz x0, .fz x1, .un, .un] st).cr := callF_f H_kind_at.at_ rfl rfl
def b_is_whole : Ss := (.cons (.ret (.and (.prim (.isI ["int"]) (.cons (.slot 0) .nil)) (.not (.prim (.isI ["bool"]) (.cons (.slot 0) .nil)))))
 .nil)
def f_is_whole : FD := { np := 1, ns := 1, body := b_is_whole }
def n_is_whole : List Str := ["value"]
class H_is_whole (P : Prog) : Prop where at_ : P.funs[i_is_whole]? = some f_is_whole
theorem call_is_whole {P : Prog} [H_is_whole P] {n : Nat} {x0 : PV} {st : Sto} : callF P (n + 1) (.f i_is_whole) [x0] st = (evSs P (callF P n) b_is_whole [.fz x0] st).cr := callF_f H_is_whole.at_ rfl rfl
def b_rank : Ss := (.cons (.iff (.prim .eq (.cons (.prim .idx (.cons (.slot 0) (.cons (.const (.int 2)) .nil))) (.cons (.const (.str [])) .nil)))
 (.cons (.ret (.prim .mkT (.cons (.prim .idx (.cons (.slot 1) (.cons (.prim .idx (.cons (.slot 0) (.cons (.const (.int 1)) .nil))) .nil))) .nil)))
 .nil)
 .nil)
 (.cons (.ret (.prim .mkT (.cons (.prim .idx (.cons (.slot 1) (.cons (.prim .idx (.cons (.slot 0) (.cons (.const (.int 2)) .nil))) .nil))) (.cons (.prim .idx (.cons (.slot 1) (.cons (.prim .idx (.cons (.slot 0) (.cons (.const (.int 1)) .nil))) .nil))) .nil))))
 .nil))
def f_rank : FD := { np := 2, ns := 2, body := b_rank, fr := true }
def n_rank : List Str := ["kind", "row"]
class H_rank (P : Prog) : Prop where at_ : P.funs[i_rank]? = some f_rank
theorem call_rank {P : Prog} [H_rank P] {n : Nat} {x0 x1 : PV} {st : Sto} : callF P (n + 1) (.f i_rank) [x0, x1] st = (evSs P (callF P n) b_rank [.fz x0, .fz x1] st).cr := callF_f H_rank.at_ rfl rfl
def b1_record_misfit : Ss := (.cons (.iff (.prim .notIn (.cons (.slot 2) (.cons (.slot 1) .nil)))
 (.cons (.ret (.prim .mkL .nil))
 .nil)
 .nil)
 .nil)
def b2_record_misfit : Ss := (.cons (.set 4 (.call i_misfit (.cons (.slot 3) (.cons (.prim .idx (.cons (.slot 1) (.cons (.slot 2) .nil))) .nil))))
 (.cons (.iff (.prim .isSome (.cons (.slot 4) .nil))
 (.cons (.ret (.prim .add (.cons (.prim .mkL (.cons (.slot 2) .nil)) (.cons (.slot 4) .nil))))
 .nil)
 .nil)
 .nil))
def b_record_misfit : Ss := (.cons (.iff (.or (.not (.prim (.isI ["dict"]) (.cons (.slot 1) .nil))) (.prim .ne (.cons (.prim .len (.cons (.slot 1) .nil)) (.cons (.prim .len (.cons (.slot 0) .nil)) .nil))))
 (.cons (.ret (.prim .mkL .nil))
 .nil)
 .nil)
 (.cons (.for (.two 2 3) (.val (.slot 0))
 b1_record_misfit)
 (.cons (.for (.two 2 3) (.val (.slot 0))
 b2_record_misfit)
 (.cons (.ret (.const .non))
 .nil))))
def f_record_misfit : FD := { np := 2, ns := 5, body := b_record_misfit, fr := true }
def n_record_misfit : List Str := ["fields", "value", "name", "kind", "wrong"]
class H_record_misfit (P : Prog) : Prop where at_ : P.funs[i_record_misfit]? = some f_record_misfit
theorem call_record_misfit {P : Prog} [H_record_misfit P] {n : Nat} {x0 x1 : PV} {st : Sto} : callF P (n + 1) (.f i_record_misfit) [x0, x1] st = (evSs P (callF P n) b_record_misfit [.fz x0, .fz x1, .un, .un, .un] st).cr := callF_f H_record_misfit.at_ rfl rfl
def b1_rows_misfit : Ss := (.cons (.set 5 (.call i_record_misfit (.cons (.prim .idx (.cons (.slot 0) (.cons (.const (.int 3)) .nil))) (.cons (.slot 4) .nil))))
 (.cons (.iff (.prim .isSome (.cons (.slot 5) .nil))
 (.cons (.ret (.prim .add (.cons (.prim .mkL (.cons (.slot 3) .nil)) (.cons (.slot 5) .nil))))
 .nil)
 .nil)
 (.cons (.iff (.and (.prim .gt (.cons (.slot 3) (.cons (.const (.int 0)) .nil))) (.prim .le (.cons (.call i_rank (.cons (.slot 0) (.cons (.slot 4) .nil))) (.cons (.call i_rank (.cons (.slot 0) (.cons (.prim .idx (.cons (.slot 1) (.cons (.prim .sub (.cons (.slot 3) (.cons (.const (.int 1)) .nil))) .nil))) .nil))) .nil))))
 (.cons (.ret (.prim .mkL (.cons (.slot 3) .nil)))
 .nil)
 .nil)
 (.cons (.iff (.prim .isIn (.cons (.prim .idx (.cons (.slot 4) (.cons (.prim .idx (.cons (.slot 0) (.cons (.const (.int 1)) .nil))) .nil))) (.cons (.bor 2) .nil)))
 (.cons (.ret (.prim .mkL (.cons (.slot 3) .nil)))
 .nil)
 .nil)
 (.cons (.setS 2 (.prim .idx (.cons (.slot 4) (.cons (.prim .idx (.cons (.slot 0) (.cons (.const (.int 1)) .nil))) .nil))) (.const (.bl true)))
 .nil)))))
def b_rows_misfit : Ss := (.cons (.iff (.not (.prim (.isI ["list"]) (.cons (.slot 1) .nil)))
 (.cons (.ret (.prim .mkL .nil))
 .nil)
 .nil)
 (.cons (.own 2 (.prim .mkD .nil))
 (.cons (.for (.two 3 4) (.enum (.slot 1))
 b1_rows_misfit)
 (.cons (.ret (.const .non))
 .nil))))
def f_rows_misfit : FD := { np := 2, ns := 6, body := b_rows_misfit, fr := true }
def n_rows_misfit : List Str := ["kind", "value", "met", "k", "row", "wrong"]
class H_rows_misfit (P : Prog) : Prop where at_ : P.funs[i_rows_misfit]? = some f_rows_misfit
theorem call_rows_misfit {P : Prog} [H_rows_misfit P] {n : Nat} {x0 x1 : PV} {st : Sto} : callF P (n + 1) (.f i_rows_misfit) [x0, x1] st = (evSs P (callF P n) b_rows_misfit [.fz x0, .fz x1, .un, .un, .un, .un] st).cr := callF_f H_rows_misfit.at_ rfl rfl
def b1_tree_misfit : Ss := (.cons (.set 2 (.call i_tree_misfit (.cons (.slot 0) (.cons (.slot 4) .nil))))
 (.cons (.iff (.prim .isSome (.cons (.slot 2) .nil))
 (.cons (.ret (.prim .add (.cons (.prim .mkL (.cons (.slot 3) .nil)) (.cons (.slot 2) .nil))))
 .nil)
 .nil)
 .nil))
def b_tree_misfit : Ss := (.cons (.iff (.or (.not (.prim (.isI ["tuple"]) (.cons (.slot 1) .nil))) (.prim .ne (.cons (.prim .len (.cons (.slot 1) .nil)) (.cons (.const (.int 2)) .nil))))
 (.cons (.ret (.prim .mkL .nil))
 .nil)
 .nil)
 (.cons (.iff (.not (.prim (.isI ["list"]) (.cons (.prim .idx (.cons (.slot 1) (.cons (.const (.int 1)) .nil))) .nil)))
 (.cons (.ret (.prim .mkL .nil))
 .nil)
 .nil)
 (.cons (.set 2 (.call i_misfit (.cons (.prim .idx (.cons (.slot 0) (.cons (.const (.int 1)) .nil))) (.cons (.prim .idx (.cons (.slot 1) (.cons (.const (.int 0)) .nil))) .nil))))
 (.cons (.iff (.prim .isSome (.cons (.slot 2) .nil))
 (.cons (.ret (.prim .add (.cons (.prim .mkL (.cons (.const (.str [107, 110, 111, 116])) .nil)) (.cons (.slot 2) .nil))))
 .nil)
 .nil)
 (.cons (.for (.two 3 4) (.enum (.prim .idx (.cons (.slot 1) (.cons (.const (.int 1)) .nil))))
 b1_tree_misfit)
 (.cons (.ret (.const .non))
 .nil))))))
def f_tree_misfit : FD := { np := 2, ns := 5, body := b_tree_misfit, fr := true }
def n_tree_misfit : List Str := ["kind", "value", "wrong", "k", "arm"]
class H_tree_misfit (P : Prog) : Prop where at_ : P.funs[i_tree_misfit]? = some f_tree_misfit
theorem call_tree_misfit {P : Prog} [H_tree_misfit P] {n : Nat} {x0 x1 : PV} {st : Sto} : callF P (n + 1) (.f i_tree_misfit) [x0, x1] st = (evSs P (callF P n) b_tree_misfit [.fz x0, .fz x1, .un, .un, .un] st).cr := callF_f H_tree_misfit.at_ rfl rfl
def b_either_misfit : Ss := (.cons (.iff (.or (.not (.prim (.isI ["tuple"]) (.cons (.slot 1) .nil))) (.prim .ne (.cons (.prim .len (.cons (.slot 1) .nil)) (.cons (.const (.int 2)) .nil))))
 (.cons (.ret (.prim .mkL .nil))
 .nil)
 .nil)
 (.cons (.iff (.not (.prim (.isI ["str"]) (.cons (.prim .idx (.cons (.slot 1) (.cons (.const (.int 0)) .nil))) .nil)))
 (.cons (.ret (.prim .mkL .nil))
 .nil)
 .nil)
 (.cons (.set 2 (.call i_kind_at (.cons (.prim .idx (.cons (.slot 0) (.cons (.const (.int 1)) .nil))) (.cons (.prim .idx (.cons (.slot 1) (.cons (.const (.int 0)) .nil))) .nil))))
 (.cons (.iff (.prim .isNone (.cons (.slot 2) .nil))
 (.cons (.ret (.prim .mkL .nil))
 .nil)
 .nil)
 (.cons (.set 3 (.call i_misfit (.cons (.slot 2) (.cons (.prim .idx (.cons (.slot 1) (.cons (.const (.int 1)) .nil))) .nil))))
 (.cons (.iff (.prim .isSome (.cons (.slot 3) .nil))
 (.cons (.ret (.prim .add (.cons (.prim .mkL (.cons (.prim .idx (.cons (.slot 1) (.cons (.const (.int 0)) .nil))) .nil)) (.cons (.slot 3) .nil))))
 .nil)
 .nil)
 (.cons (.ret (.const .non))
 .nil)))))))
def f_either_misfit : FD := { np := 2, ns := 4, body := b_either_misfit, fr := true }
def n_either_misfit : List Str := ["kind", "value", "inner", "wrong"]
class H_either_misfit (P : Prog) : Prop where at_ : P.funs[i_either_misfit]? = some f_either_misfit
theorem call_either_misfit {P : Prog} [H_either_misfit P] {n : Nat} {x0 x1 : PV} {st : Sto} : callF P (n + 1) (.f i_either_misfit) [x0, x1] st = (evSs P (callF P n) b_either_misfit [.fz x0, .fz x1, .un, .un] st).cr := callF_f H_either_misfit.at_ rfl rfl
def b_misfit : Ss := (.cons (.iff (.prim .eq (.cons (.prim .idx (.cons (.slot 0) (.cons (.const (.int 0)) .nil))) (.cons (.const (.str [110, 117, 109, 98, 101, 114])) .nil)))
 (.cons (.ret (.ite (.call i_is_whole (.cons (.slot 1) .nil)) (.const .non) (.prim .mkL .nil)))
 .nil)
 .nil)
 (.cons (.iff (.prim .eq (.cons (.prim .idx (.cons (.slot 0) (.cons (.const (.int 0)) .nil))) (.cons (.const (.str [119, 111, 114, 100])) .nil)))
 (.cons (.ret (.ite (.prim (.isI ["str"]) (.cons (.slot 1) .nil)) (.const .non) (.prim .mkL .nil)))
 .nil)
 .nil)
 (.cons (.iff (.prim .eq (.cons (.prim .idx (.cons (.slot 0) (.cons (.const (.int 0)) .nil))) (.cons (.const (.str [114, 101, 99, 111, 114, 100])) .nil)))
 (.cons (.ret (.call i_record_misfit (.cons (.prim .idx (.cons (.slot 0) (.cons (.const (.int 1)) .nil))) (.cons (.slot 1) .nil))))
 .nil)
 .nil)
 (.cons (.iff (.prim .eq (.cons (.prim .idx (.cons (.slot 0) (.cons (.const (.int 0)) .nil))) (.cons (.const (.str [114, 111, 119, 115])) .nil)))
 (.cons (.ret (.call i_rows_misfit (.cons (.slot 0) (.cons (.slot 1) .nil))))
 .nil)
 .nil)
 (.cons (.iff (.prim .eq (.cons (.prim .idx (.cons (.slot 0) (.cons (.const (.int 0)) .nil))) (.cons (.const (.str [116, 114, 101, 101])) .nil)))
 (.cons (.ret (.call i_tree_misfit (.cons (.slot 0) (.cons (.slot 1) .nil))))
 .nil)
 .nil)
 (.cons (.ret (.call i_either_misfit (.cons (.slot 0) (.cons (.slot 1) .nil))))
 .nil))))))
def f_misfit : FD := { np := 2, ns := 2, body := b_misfit, fr := true }
def n_misfit : List Str := ["kind", "value"]
class H_misfit (P : Prog) : Prop where at_ : P.funs[i_misfit]? = some f_misfit
theorem call_misfit {P : Prog} [H_misfit P] {n : Nat} {x0 x1 : PV} {st : Sto} : callF P (n + 1) (.f i_misfit) [x0, x1] st = (evSs P (callF P n) b_misfit [.fz x0, .fz x1] st).cr := callF_f H_misfit.at_ rfl rfl
def b_empty : Ss := (.cons (.iff (.prim .eq (.cons (.prim .idx (.cons (.slot 0) (.cons (.const (.int 0)) .nil))) (.cons (.const (.str [110, 117, 109, 98, 101, 114])) .nil)))
 (.cons (.ret (.const (.int 0)))
 .nil)
 .nil)
 (.cons (.iff (.prim .eq (.cons (.prim .idx (.cons (.slot 0) (.cons (.const (.int 0)) .nil))) (.cons (.const (.str [119, 111, 114, 100])) .nil)))
 (.cons (.ret (.const (.str [])))
 .nil)
 .nil)
 (.cons (.iff (.prim .eq (.cons (.prim .idx (.cons (.slot 0) (.cons (.const (.int 0)) .nil))) (.cons (.const (.str [114, 101, 99, 111, 114, 100])) .nil)))
 (.cons (.ret (.call i_empty_record (.cons (.prim .idx (.cons (.slot 0) (.cons (.const (.int 1)) .nil))) .nil)))
 .nil)
 .nil)
 (.cons (.iff (.prim .eq (.cons (.prim .idx (.cons (.slot 0) (.cons (.const (.int 0)) .nil))) (.cons (.const (.str [114, 111, 119, 115])) .nil)))
 (.cons (.ret (.prim .mkL .nil))
 .nil)
 .nil)
 (.cons (.iff (.prim .eq (.cons (.prim .idx (.cons (.slot 0) (.cons (.const (.int 0)) .nil))) (.cons (.const (.str [116, 114, 101, 101])) .nil)))
 (.cons (.ret (.prim .mkT (.cons (.call i_empty (.cons (.prim .idx (.cons (.slot 0) (.cons (.const (.int 1)) .nil))) .nil)) (.cons (.prim .mkL .nil) .nil))))
 .nil)
 .nil)
 (.cons (.unpack [1, 2] (.prim .idx (.cons (.prim .idx (.cons (.slot 0) (.cons (.const (.int 1)) .nil))) (.cons (.const (.int 0)) .nil))))
 (.cons (.ret (.prim .mkT (.cons (.slot 1) (.cons (.call i_empty (.cons (.slot 2) .nil)) .nil))))
 .nil)))))))
def f_empty : FD := { np := 1, ns := 3, body := b_empty, fr := true }
def n_empty : List Str := ["kind", "name", "inner"]
class H_empty (P : Prog) : Prop where at_ : P.funs[i_empty]? = some f_empty
theorem call_empty {P : Prog} [H_empty P] {n : Nat} {x0 : PV} {st : Sto} : callF P (n + 1) (.f i_empty) [x0] st = (evSs P (callF P n) b_empty [.fz x0, .un, .un] st).cr := callF_f H_empty.at_ rfl rfl
def b1_empty_record : Ss := (.cons (.setS 1 (.slot 2) (.call i_empty (.cons (.slot 3) .nil)))
 .nil)
def b_empty_record : Ss := (.cons (.own 1 (.prim .mkD .nil))
 (.cons (.for (.two 2 3) (.val (.slot 0))
 b1_empty_record)
 (.cons (.ret (.mov 1))
 .nil)))
def f_empty_record : FD := { np := 1, ns := 4, body := b_empty_record, fr := true }
def n_empty_record : List Str := ["fields", "made", "name", "kind"]
class H_empty_record (P : Prog) : Prop where at_ : P.funs[i_empty_record]? = some f_empty_record
theorem call_empty_record {P : Prog} [H_empty_record P] {n : Nat} {x0 : PV} {st : Sto} : callF P (n + 1) (.f i_empty_record) [x0] st = (evSs P (callF P n) b_empty_record [.fz x0, .un, .un, .un] st).cr := callF_f H_empty_record.at_ rfl rfl
def b_l_next : Ss := (.cons (.setR (.slot 1) (.const (.int 0)) (.prim .add (.cons (.prim .idx (.cons (.slot 1) (.cons (.const (.int 0)) .nil))) (.cons (.const (.int 1)) .nil))))
 (.cons (.set 2 (.const (.int 0)))
 (.cons (.iff (.prim .gt (.cons (.prim .len (.cons (.slot 0) .nil)) (.cons (.const (.int 0)) .nil)))
 (.cons (.set 2 (.prim .idx (.cons (.slot 0) (.cons (.prim .mod (.cons (.prim .idx (.cons (.slot 1) (.cons (.const (.int 0)) .nil))) (.cons (.prim .len (.cons (.slot 0) .nil)) .nil))) .nil))))
 .nil)
 .nil)
 (.cons (.set 3 (.prim .mod (.cons (.prim .mul (.cons (.prim .add (.cons (.prim .add (.cons (.prim .mod (.cons (.slot 2) (.cons (.const (.int 2147483647)) .nil))) (.cons (.prim .mul (.cons (.prim .mul (.cons (.prim .idx (.cons (.slot 1) (.cons (.const (.int 0)) .nil))) (.cons (.prim .idx (.cons (.slot 1) (.cons (.const (.int 0)) .nil))) .nil))) (.cons (.const (.int 7919)) .nil))) .nil))) (.cons (.const (.int 11)) .nil))) (.cons (.const (.int 48271)) .nil))) (.cons (.const (.int 2147483647)) .nil))))
 (.cons (.ret (.prim .mod (.cons (.prim .mul (.cons (.slot 3) (.cons (.slot 3) .nil))) (.cons (.const (.int 1999999973)) .nil))))
 .nil)))))
def f_l_next : FD := { np := 2, ns := 4, body := b_l_next, fr := true }
def n_l_next : List Str := ["_law_script", "_law_at", "_law_cell", "_law_m"]
class H_l_next (P : Prog) : Prop where at_ : P.funs[i_l_next]? = some f_l_next
theorem call_l_next {P : Prog} [H_l_next P] {n : Nat} {x0 x1 : PV} {st : Sto} : callF P (n + 1) (.f i_l_next) [x0, x1] st = (evSs P (callF P n) b_l_next [.fz x0, .fz x1, .un, .un] st).cr := callF_f H_l_next.at_ rfl rfl
def b1_l_names : Ss := (.cons (.iff (.prim .eq (.cons (.prim .mod (.cons (.prim .fdiv (.cons (.slot 4) (.cons (.const (.int 12168)) .nil))) (.cons (.const (.int 4)) .nil))) (.cons (.const (.int 0)) .nil)))
 (.cons (.expr (.mutS .append 8 (.cons (.prim .mul (.cons (.prim .idx (.cons (.slot 3) (.cons (.prim .mod (.cons (.prim .fdiv (.cons (.slot 4) (.cons (.const (.int 6)) .nil))) (.cons (.const (.int 26)) .nil))) .nil))) (.cons (.prim .add (.cons (.slot 9) (.cons (.const (.int 1)) .nil))) .nil))) .nil)))
 .nil)
 (.cons (.set 10 (.prim .idx (.cons (.slot 3) (.cons (.prim .mod (.cons (.prim .add (.cons (.prim .fdiv (.cons (.slot 4) (.cons (.const (.int 156)) .nil))) (.cons (.prim .mul (.cons (.slot 9) (.cons (.slot 5) .nil))) .nil))) (.cons (.const (.int 26)) .nil))) .nil))))
 (.cons (.expr (.mutS .append 8 (.cons (.prim .add (.cons (.prim .add (.cons (.prim .slH (.cons (.slot 6) (.cons (.slot 7) .nil))) (.cons (.slot 10) .nil))) (.cons (.prim .slL (.cons (.slot 6) (.cons (.slot 7) .nil))) .nil))) .nil)))
 .nil)))
 .nil)
def b_l_names : Ss := (.cons (.set 3 (.const (.str [97, 98, 99, 100, 101, 102, 103, 104, 105, 106, 107, 108, 109, 110, 111, 112, 113, 114, 115, 116, 117, 118, 119, 120, 121, 122])))
 (.cons (.set 4 (.call i_l_next (.cons (.slot 0) (.cons (.slot 1) .nil))))
 (.cons (.set 5 (.prim .idx (.cons (.prim .mkL (.cons (.const (.int 1)) (.cons (.const (.int 3)) (.cons (.const (.int 5)) (.cons (.const (.int 7)) (.cons (.const (.int 9)) (.cons (.const (.int 11)) .nil))))))) (.cons (.prim .mod (.cons (.slot 4) (.cons (.const (.int 6)) .nil))) .nil))))
 (.cons (.set 6 (.prim .add (.cons (.prim .idx (.cons (.slot 3) (.cons (.prim .mod (.cons (.prim .fdiv (.cons (.slot 4) (.cons (.const (.int 6)) .nil))) (.cons (.const (.int 26)) .nil))) .nil))) (.cons (.prim .idx (.cons (.slot 3) (.cons (.prim .mod (.cons (.prim .fdiv (.cons (.slot 4) (.cons (.const (.int 156)) .nil))) (.cons (.const (.int 26)) .nil))) .nil))) .nil))))
 (.cons (.set 7 (.prim .mod (.cons (.prim .fdiv (.cons (.slot 4) (.cons (.const (.int 4056)) .nil))) (.cons (.const (.int 3)) .nil))))
 (.cons (.own 8 (.prim .mkL .nil))
 (.cons (.for (.one 9) (.rng1 (.slot 2))
 b1_l_names)
 (.cons (.ret (.prim .sorted (.cons (.bor 8) .nil)))
 .nil))))))))
def f_l_names : FD := { np := 3, ns := 11, body := b_l_names, fr := true }
def n_l_names : List Str := ["_law_script", "_law_at", "_law_many", "_law_letters", "_law_m", "_law_step", "_law_stem", "_law_cut", "_law_names_here", "_law_k", "_law_sign"]
class H_l_names (P : Prog) : Prop where at_ : P.funs[i_l_names]? = some f_l_names
theorem call_l_names {P : Prog} [H_l_names P] {n : Nat} {x0 x1 x2 : PV} {st : Sto} : callF P (n + 1) (.f i_l_names) [x0, x1, x2] st = (evSs P (callF P n) b_l_names [.fz x0, .fz x1, .fz x2, .un, .un, .un, .un, .un, .un, .un, .un] st).cr := callF_f H_l_names.at_ rfl rfl
def b_l_plain : Ss := (.cons (.iff (.prim .eq (.cons (.prim .mod (.cons (.call i_l_next (.cons (.slot 0) (.cons (.slot 1) .nil))) (.cons (.const (.int 2)) .nil))) (.cons (.const (.int 0)) .nil)))
 (.cons (.ret (.prim .mkT (.cons (.const (.str [110, 117, 109, 98, 101, 114])) .nil)))
 .nil)
 .nil)
 (.cons (.ret (.prim .mkT (.cons (.const (.str [119, 111, 114, 100])) .nil)))
 .nil))
def f_l_plain : FD := { np := 2, ns := 2, body := b_l_plain, fr := true }
def n_l_plain : List Str := ["_law_script", "_law_at"]
class H_l_plain (P : Prog) : Prop where at_ : P.funs[i_l_plain]? = some f_l_plain
theorem call_l_plain {P : Prog} [H_l_plain P] {n : Nat} {x0 x1 : PV} {st : Sto} : callF P (n + 1) (.f i_l_plain) [x0, x1] st = (evSs P (callF P n) b_l_plain [.fz x0, .fz x1] st).cr := callF_f H_l_plain.at_ rfl rfl
def e1_l_fields : E := (.prim .mkT (.cons (.slot 5) (.cons (.call i_l_kind (.cons (.slot 0) (.cons (.slot 1) (.cons (.slot 3) .nil)))) .nil)))
def b_l_fields : Ss := (.cons (.set 4 (.call i_l_names (.cons (.slot 0) (.cons (.slot 1) (.cons (.slot 2) .nil)))))
 (.cons (.ret (.prim .tupleOf (.cons (.comp [5] (.val (.slot 4)) (.one 5) .none e1_l_fields) .nil)))
 .nil))
def f_l_fields : FD := { np := 4, ns := 6, body := b_l_fields, fr := true }
def n_l_fields : List Str := ["_law_script", "_law_at", "_law_many", "_law_deep", "_law_names_here", "_law_name"]
class H_l_fields (P : Prog) : Prop where at_ : P.funs[i_l_fields]? = some f_l_fields
theorem call_l_fields {P : Prog} [H_l_fields P] {n : Nat} {x0 x1 x2 x3 : PV} {st : Sto} : callF P (n + 1) (.f i_l_fields) [x0, x1, x2, x3] st = (evSs P (callF P n) b_l_fields [.fz x0, .fz x1, .fz x2, .fz x3, .un, .un] st).cr := callF_f H_l_fields.at_ rfl rfl
def b1_l_rows_kind : Ss := (.cons (.set 11 (.call i_l_kind (.cons (.slot 0) (.cons (.slot 1) (.cons (.slot 3) .nil)))))
 (.cons (.iff (.or (.prim .eq (.cons (.slot 9) (.cons (.slot 6) .nil))) (.prim .eq (.cons (.slot 9) (.cons (.slot 7) .nil))))
 (.cons (.set 11 (.call i_l_plain (.cons (.slot 0) (.cons (.slot 1) .nil))))
 .nil)
 .nil)
 (.cons (.expr (.mutS .append 8 (.cons (.prim .mkT (.cons (.prim .idx (.cons (.slot 4) (.cons (.slot 9) .nil))) (.cons (.slot 11) .nil))) .nil)))
 .nil)))
def b_l_rows_kind : Ss := (.cons (.set 4 (.call i_l_names (.cons (.slot 0) (.cons (.slot 1) (.cons (.slot 2) .nil)))))
 (.cons (.set 5 (.call i_l_next (.cons (.slot 0) (.cons (.slot 1) .nil))))
 (.cons (.set 6 (.prim .mod (.cons (.slot 5) (.cons (.slot 2) .nil))))
 (.cons (.set 7 (.prim .mod (.cons (.prim .fdiv (.cons (.slot 5) (.cons (.slot 2) .nil))) (.cons (.prim .add (.cons (.slot 2) (.cons (.const (.int 1)) .nil))) .nil))))
 (.cons (.own 8 (.prim .mkL .nil))
 (.cons (.for (.one 9) (.rng1 (.slot 2))
 b1_l_rows_kind)
 (.cons (.set 10 (.const (.str [])))
 (.cons (.iff (.and (.prim .lt (.cons (.slot 7) (.cons (.slot 2) .nil))) (.prim .ne (.cons (.slot 7) (.cons (.slot 6) .nil))))
 (.cons (.set 10 (.prim .idx (.cons (.slot 4) (.cons (.slot 7) .nil))))
 .nil)
 .nil)
 (.cons (.ret (.prim .mkT (.cons (.const (.str [114, 111, 119, 115])) (.cons (.prim .idx (.cons (.slot 4) (.cons (.slot 6) .nil))) (.cons (.slot 10) (.cons (.prim .tupleOf (.cons (.bor 8) .nil)) .nil))))))
 .nil)))))))))
def f_l_rows_kind : FD := { np := 4, ns := 12, body := b_l_rows_kind, fr := true }
def n_l_rows_kind : List Str := ["_law_script", "_law_at", "_law_many", "_law_deep", "_law_names_here", "_law_m", "_law_lead", "_law_by", "_law_fields_here", "_law_k", "_law_name", "_law_kind_here"]
class H_l_rows_kind (P : Prog) : Prop where at_ : P.funs[i_l_rows_kind]? = some f_l_rows_kind
theorem call_l_rows_kind {P : Prog} [H_l_rows_kind P] {n : Nat} {x0 x1 x2 x3 : PV} {st : Sto} : callF P (n + 1) (.f i_l_rows_kind) [x0, x1, x2, x3] st = (evSs P (callF P n) b_l_rows_kind [.fz x0, .fz x1, .fz x2, .fz x3, .un, .un, .un, .un, .un, .un, .un, .un] st).cr := callF_f H_l_rows_kind.at_ rfl rfl
def b_l_kind : Ss := (.cons (.set 3 (.call i_l_next (.cons (.slot 0) (.cons (.slot 1) .nil))))
 (.cons (.iff (.or (.prim .le (.cons (.slot 2) (.cons (.const (.int 0)) .nil))) (.prim .lt (.cons (.prim .mod (.cons (.slot 3) (.cons (.const (.int 10)) .nil))) (.cons (.const (.int 3)) .nil))))
 (.cons (.ret (.call i_l_plain (.cons (.slot 0) (.cons (.slot 1) .nil))))
 .nil)
 .nil)
 (.cons (.iff (.prim .lt (.cons (.prim .mod (.cons (.slot 3) (.cons (.const (.int 10)) .nil))) (.cons (.const (.int 6)) .nil)))
 (.cons (.ret (.prim .mkT (.cons (.const (.str [114, 101, 99, 111, 114, 100])) (.cons (.call i_l_fields (.cons (.slot 0) (.cons (.slot 1) (.cons (.prim .mod (.cons (.prim .fdiv (.cons (.slot 3) (.cons (.const (.int 10)) .nil))) (.cons (.const (.int 4)) .nil))) (.cons (.prim .sub (.cons (.slot 2) (.cons (.const (.int 1)) .nil))) .nil))))) .nil))))
 .nil)
 .nil)
 (.cons (.iff (.prim .lt (.cons (.prim .mod (.cons (.slot 3) (.cons (.const (.int 10)) .nil))) (.cons (.const (.int 8)) .nil)))
 (.cons (.ret (.call i_l_rows_kind (.cons (.slot 0) (.cons (.slot 1) (.cons (.prim .add (.cons (.const (.int 1)) (.cons (.prim .mod (.cons (.prim .fdiv (.cons (.slot 3) (.cons (.const (.int 10)) .nil))) (.cons (.const (.int 3)) .nil))) .nil))) (.cons (.prim .sub (.cons (.slot 2) (.cons (.const (.int 1)) .nil))) .nil))))))
 .nil)
 .nil)
 (.cons (.iff (.prim .eq (.cons (.prim .mod (.cons (.slot 3) (.cons (.const (.int 10)) .nil))) (.cons (.const (.int 8)) .nil)))
 (.cons (.ret (.prim .mkT (.cons (.const (.str [116, 114, 101, 101])) (.cons (.call i_l_kind (.cons (.slot 0) (.cons (.slot 1) (.cons (.prim .sub (.cons (.slot 2) (.cons (.const (.int 1)) .nil))) .nil)))) .nil))))
 .nil)
 .nil)
 (.cons (.ret (.prim .mkT (.cons (.const (.str [101, 105, 116, 104, 101, 114])) (.cons (.call i_l_fields (.cons (.slot 0) (.cons (.slot 1) (.cons (.prim .add (.cons (.const (.int 1)) (.cons (.prim .mod (.cons (.prim .fdiv (.cons (.slot 3) (.cons (.const (.int 10)) .nil))) (.cons (.const (.int 3)) .nil))) .nil))) (.cons (.prim .sub (.cons (.slot 2) (.cons (.const (.int 1)) .nil))) .nil))))) .nil))))
 .nil))))))
def f_l_kind : FD := { np := 3, ns := 4, body := b_l_kind, fr := true }
def n_l_kind : List Str := ["_law_script", "_law_at", "_law_deep", "_law_m"]
class H_l_kind (P : Prog) : Prop where at_ : P.funs[i_l_kind]? = some f_l_kind
theorem call_l_kind {P : Prog} [H_l_kind P] {n : Nat} {x0 x1 x2 : PV} {st : Sto} : callF P (n + 1) (.f i_l_kind) [x0, x1, x2] st = (evSs P (callF P n) b_l_kind [.fz x0, .fz x1, .fz x2, .un] st).cr := callF_f H_l_kind.at_ rfl rfl
def b1_l_alike : Ss := (.cons (.iff (.or (.prim .notIn (.cons (.slot 4) (.cons (.slot 1) .nil))) (.not (.call i_l_alike (.cons (.slot 3) (.cons (.prim .idx (.cons (.slot 1) (.cons (.slot 4) .nil))) (.cons (.prim .idx (.cons (.slot 2) (.cons (.slot 4) .nil))) .nil))))))
 (.cons (.ret (.const (.bl false)))
 .nil)
 .nil)
 .nil)
def e2_l_alike : E := (.call i_l_alike (.cons (.prim .mkT (.cons (.const (.str [114, 101, 99, 111, 114, 100])) (.cons (.prim .idx (.cons (.slot 0) (.cons (.const (.int 3)) .nil))) .nil))) (.cons (.slot 6) (.cons (.slot 7) .nil))))
def o3_l_alike : Option1 := (.some (.prim .eq (.cons (.prim .idx (.cons (.slot 5) (.cons (.const (.int 0)) .nil))) (.cons (.prim .idx (.cons (.slot 2) (.cons (.const (.int 0)) .nil))) .nil))))
def e4_l_alike : E := (.prim .idx (.cons (.slot 5) (.cons (.const (.int 1)) .nil)))
def e5_l_alike : E := (.call i_l_alike (.cons (.slot 0) (.cons (.slot 6) (.cons (.slot 7) .nil))))
def b_l_alike : Ss := (.cons (.iff (.prim .eq (.cons (.prim .idx (.cons (.slot 0) (.cons (.const (.int 0)) .nil))) (.cons (.const (.str [110, 117, 109, 98, 101, 114])) .nil)))
 (.cons (.ret (.and (.prim (.isI ["int"]) (.cons (.slot 1) .nil)) (.and (.not (.prim (.isI ["bool"]) (.cons (.slot 1) .nil))) (.prim .eq (.cons (.slot 1) (.cons (.slot 2) .nil))))))
 .nil)
 .nil)
 (.cons (.iff (.prim .eq (.cons (.prim .idx (.cons (.slot 0) (.cons (.const (.int 0)) .nil))) (.cons (.const (.str [119, 111, 114, 100])) .nil)))
 (.cons (.ret (.and (.prim (.isI ["str"]) (.cons (.slot 1) .nil)) (.prim .eq (.cons (.slot 1) (.cons (.slot 2) .nil)))))
 .nil)
 .nil)
 (.cons (.iff (.prim .eq (.cons (.prim .idx (.cons (.slot 0) (.cons (.const (.int 0)) .nil))) (.cons (.const (.str [114, 101, 99, 111, 114, 100])) .nil)))
 (.cons (.iff (.or (.not (.prim (.isI ["dict"]) (.cons (.slot 1) .nil))) (.prim .ne (.cons (.prim .len (.cons (.slot 1) .nil)) (.cons (.prim .len (.cons (.prim .idx (.cons (.slot 0) (.cons (.const (.int 1)) .nil))) .nil)) .nil))))
 (.cons (.ret (.const (.bl false)))
 .nil)
 .nil)
 (.cons (.for (.two 4 3) (.val (.prim .idx (.cons (.slot 0) (.cons (.const (.int 1)) .nil))))
 b1_l_alike)
 (.cons (.ret (.const (.bl true)))
 .nil)))
 .nil)
 (.cons (.iff (.prim .eq (.cons (.prim .idx (.cons (.slot 0) (.cons (.const (.int 0)) .nil))) (.cons (.const (.str [114, 111, 119, 115])) .nil)))
 (.cons (.iff (.or (.not (.prim (.isI ["list"]) (.cons (.slot 1) .nil))) (.prim .ne (.cons (.prim .len (.cons (.slot 1) .nil)) (.cons (.prim .len (.cons (.slot 2) .nil)) .nil))))
 (.cons (.ret (.const (.bl false)))
 .nil)
 .nil)
 (.cons (.ret (.prim .all (.cons (.comp [6, 7] (.zip (.slot 1) (.slot 2)) (.two 6 7) .none e2_l_alike) .nil)))
 .nil))
 .nil)
 (.cons (.iff (.or (.not (.prim (.isI ["tuple"]) (.cons (.slot 1) .nil))) (.prim .ne (.cons (.prim .len (.cons (.slot 1) .nil)) (.cons (.const (.int 2)) .nil))))
 (.cons (.ret (.const (.bl false)))
 .nil)
 .nil)
 (.cons (.iff (.prim .eq (.cons (.prim .idx (.cons (.slot 0) (.cons (.const (.int 0)) .nil))) (.cons (.const (.str [101, 105, 116, 104, 101, 114])) .nil)))
 (.cons (.iff (.or (.not (.prim (.isI ["str"]) (.cons (.prim .idx (.cons (.slot 1) (.cons (.const (.int 0)) .nil))) .nil))) (.prim .ne (.cons (.prim .idx (.cons (.slot 1) (.cons (.const (.int 0)) .nil))) (.cons (.prim .idx (.cons (.slot 2) (.cons (.const (.int 0)) .nil))) .nil))))
 (.cons (.ret (.const (.bl false)))
 .nil)
 .nil)
 (.cons (.set 3 (.comp [5] (.val (.prim .idx (.cons (.slot 0) (.cons (.const (.int 1)) .nil)))) (.one 5) o3_l_alike e4_l_alike))
 (.cons (.ret (.call i_l_alike (.cons (.prim .idx (.cons (.slot 3) (.cons (.const (.int 0)) .nil))) (.cons (.prim .idx (.cons (.slot 1) (.cons (.const (.int 1)) .nil))) (.cons (.prim .idx (.cons (.slot 2) (.cons (.const (.int 1)) .nil))) .nil)))))
 .nil)))
 .nil)
 (.cons (.iff (.or (.not (.prim (.isI ["list"]) (.cons (.prim .idx (.cons (.slot 1) (.cons (.const (.int 1)) .nil))) .nil))) (.prim .ne (.cons (.prim .len (.cons (.prim .idx (.cons (.slot 1) (.cons (.const (.int 1)) .nil))) .nil)) (.cons (.prim .len (.cons (.prim .idx (.cons (.slot 2) (.cons (.const (.int 1)) .nil))) .nil)) .nil))))
 (.cons (.ret (.const (.bl false)))
 .nil)
 .nil)
 (.cons (.iff (.not (.call i_l_alike (.cons (.prim .idx (.cons (.slot 0) (.cons (.const (.int 1)) .nil))) (.cons (.prim .idx (.cons (.slot 1) (.cons (.const (.int 0)) .nil))) (.cons (.prim .idx (.cons (.slot 2) (.cons (.const (.int 0)) .nil))) .nil)))))
 (.cons (.ret (.const (.bl false)))
 .nil)
 .nil)
 (.cons (.ret (.prim .all (.cons (.comp [6, 7] (.zip (.prim .idx (.cons (.slot 1) (.cons (.const (.int 1)) .nil))) (.prim .idx (.cons (.slot 2) (.cons (.const (.int 1)) .nil)))) (.two 6 7) .none e5_l_alike) .nil)))
 .nil)))))))))
def f_l_alike : FD := { np := 3, ns := 8, body := b_l_alike }
def n_l_alike : List Str := ["_law_kind_here", "_law_found", "_law_due_here", "_law_inner", "_law_name", "_law_pair", "_law_a", "_law_b"]
class H_l_alike (P : Prog) : Prop where at_ : P.funs[i_l_alike]? = some f_l_alike
theorem call_l_alike {P : Prog} [H_l_alike P] {n : Nat} {x0 x1 x2 : PV} {st : Sto} : callF P (n + 1) (.f i_l_alike) [x0, x1, x2] st = (evSs P (callF P n) b_l_alike [.fz x0, .fz x1, .fz x2, .un, .un, .un, .un, .un] st).cr := callF_f H_l_alike.at_ rfl rfl
def b1_l_due : Ss := (.cons (.setS 1 (.slot 2) (.call i_l_due (.cons (.slot 3) .nil)))
 .nil)
def b_l_due : Ss := (.cons (.iff (.prim .eq (.cons (.prim .idx (.cons (.slot 0) (.cons (.const (.int 0)) .nil))) (.cons (.const (.str [110, 117, 109, 98, 101, 114])) .nil)))
 (.cons (.ret (.const (.int 0)))
 .nil)
 .nil)
 (.cons (.iff (.prim .eq (.cons (.prim .idx (.cons (.slot 0) (.cons (.const (.int 0)) .nil))) (.cons (.const (.str [119, 111, 114, 100])) .nil)))
 (.cons (.ret (.const (.str [])))
 .nil)
 .nil)
 (.cons (.iff (.prim .eq (.cons (.prim .idx (.cons (.slot 0) (.cons (.const (.int 0)) .nil))) (.cons (.const (.str [114, 101, 99, 111, 114, 100])) .nil)))
 (.cons (.own 1 (.prim .mkD .nil))
 (.cons (.for (.two 2 3) (.val (.prim .idx (.cons (.slot 0) (.cons (.const (.int 1)) .nil))))
 b1_l_due)
 (.cons (.ret (.mov 1))
 .nil)))
 .nil)
 (.cons (.iff (.prim .eq (.cons (.prim .idx (.cons (.slot 0) (.cons (.const (.int 0)) .nil))) (.cons (.const (.str [114, 111, 119, 115])) .nil)))
 (.cons (.ret (.prim .mkL .nil))
 .nil)
 .nil)
 (.cons (.iff (.prim .eq (.cons (.prim .idx (.cons (.slot 0) (.cons (.const (.int 0)) .nil))) (.cons (.const (.str [116, 114, 101, 101])) .nil)))
 (.cons (.ret (.prim .mkT (.cons (.call i_l_due (.cons (.prim .idx (.cons (.slot 0) (.cons (.const (.int 1)) .nil))) .nil)) (.cons (.prim .mkL .nil) .nil))))
 .nil)
 .nil)
 (.cons (.ret (.prim .mkT (.cons (.prim .idx (.cons (.prim .idx (.cons (.prim .idx (.cons (.slot 0) (.cons (.const (.int 1)) .nil))) (.cons (.const (.int 0)) .nil))) (.cons (.const (.int 0)) .nil))) (.cons (.call i_l_due (.cons (.prim .idx (.cons (.prim .idx (.cons (.prim .idx (.cons (.slot 0) (.cons (.const (.int 1)) .nil))) (.cons (.const (.int 0)) .nil))) (.cons (.const (.int 1)) .nil))) .nil)) .nil))))
 .nil))))))
def f_l_due : FD := { np := 1, ns := 4, body := b_l_due, fr := true }
def n_l_due : List Str := ["_law_kind_here", "_law_made", "_law_name", "_law_inner"]
class H_l_due (P : Prog) : Prop where at_ : P.funs[i_l_due]? = some f_l_due
theorem call_l_due {P : Prog} [H_l_due P] {n : Nat} {x0 : PV} {st : Sto} : callF P (n + 1) (.f i_l_due) [x0] st = (evSs P (callF P n) b_l_due [.fz x0, .un, .un, .un] st).cr := callF_f H_l_due.at_ rfl rfl
def b1_law_k01 : Ss := (.cons (.set 3 (.call i_l_kind (.cons (.slot 0) (.cons (.slot 1) (.cons (.const (.int 3)) .nil)))))
 (.cons (.set 4 (.call i_empty (.cons (.slot 3) .nil)))
 (.cons (.iff (.not (.call i_l_alike (.cons (.slot 3) (.cons (.slot 4) (.cons (.call i_l_due (.cons (.slot 3) .nil)) .nil)))))
 (.cons (.ret (.const (.bl false)))
 .nil)
 .nil)
 (.cons (.iff (.prim .isSome (.cons (.call i_misfit (.cons (.slot 3) (.cons (.slot 4) .nil))) .nil))
 (.cons (.ret (.const (.bl false)))
 .nil)
 .nil)
 .nil))))
def b_law_k01 : Ss := (.cons (.set 1 (.new (.prim .mkL (.cons (.const (.int 0)) .nil))))
 (.cons (.for (.one 2) (.rng1 (.prim .add (.cons (.const (.int 1)) (.cons (.prim .fdiv (.cons (.prim .len (.cons (.prim .slH (.cons (.slot 0) (.cons (.const (.int 60)) .nil))) .nil)) (.cons (.const (.int 20)) .nil))) .nil))))
 b1_law_k01)
 (.cons (.ret (.const (.bl true)))
 .nil)))
def f_law_k01 : FD := { np := 1, ns := 5, body := b_law_k01, fr := true }
def n_law_k01 : List Str := ["_law_script", "_law_at", "_law_k", "_law_kind_here", "_law_found"]
class H_law_k01 (P : Prog) : Prop where at_ : P.funs[i_law_k01]? = some f_law_k01
theorem call_law_k01 {P : Prog} [H_law_k01 P] {n : Nat} {x0 : PV} {st : Sto} : callF P (n + 1) (.f i_law_k01) [x0] st = (evSs P (callF P n) b_law_k01 [.fz x0, .un, .un, .un, .un] st).cr := callF_f H_law_k01.at_ rfl rfl
end PB

end
section
set_option Elab.async false
set_option linter.all false
set_option maxRecDepth 100000
set_option exponentiation.threshold 10000
namespace PB
open PySem L2
section
variable {P : Prog} [ND P] [H_l_next P]
/-! ### _law_next -/
/-- the number that is drawn, the counter being c by then -/
def cellV (ns : List Int) (c : Int) : Int := if 0 < ns.length then ns.getD (c % ns.length).toNat 0 else 0
def midV (ns : List Int) (c : Int) : Int := (cellV ns c % 2147483647 + c * c * 7919 + 11) * 48271 % 2147483647
def nextV (ns : List Int) (c : Int) : Int := midV ns c * midV ns c % 1999999973
theorem nextV_bd (ns : List Int) (c : Int) : 0 ≤ nextV ns c ∧ nextV ns c < 1999999973 := by
  unfold nextV
  exact ⟨Int.emod_nonneg _ (by decide), Int.emod_lt_of_pos _ (by decide)⟩
theorem next_ok {n : Nat} {st : Sto} {a : Nat} {c : Int} {ns : List Int} (ha : st[a]? = some (.lst [.int c])) (h0 : 0 ≤ c) (h1 : c < 2 ^ 64) :
    callF P (n + 1) (.f i_l_next) [.scr ns, .ref a] st = .ok (.int (nextV ns (c + 1))) (st.set a (.lst [.int (c + 1)])) := by
  have hs := set_same (v := .lst [.int (c + 1)]) ⟨_, ha⟩
  have d1 := de_at ha
  have d2 := de_at hs
  have b1 : (c + 1).natAbs < 2 ^ 65 := by omega
  have b2 : ((c + 1) * (c + 1)).natAbs < 2 ^ 130 := by
    rw [Int.natAbs_mul]
    calc (c + 1).natAbs * (c + 1).natAbs < 2 ^ 65 * 2 ^ 65 := Nat.mul_lt_mul'' b1 b1
      _ = 2 ^ 130 := by decide
  have b3 : (cellV ns (c + 1) % 2147483647 + (c + 1) * (c + 1) * 7919 + 11).natAbs < 2 ^ 150 := by
    have : 0 ≤ cellV ns (c + 1) % 2147483647 := Int.emod_nonneg _ (by decide)
    have : cellV ns (c + 1) % 2147483647 < 2147483647 := Int.emod_lt_of_pos _ (by decide)
    omega
  have b4 : (midV ns (c + 1)).natAbs < 2 ^ 40 := by
    have : 0 ≤ midV ns (c + 1) := Int.emod_nonneg _ (by decide)
    have : midV ns (c + 1) < 2147483647 := Int.emod_lt_of_pos _ (by decide)
    omega
  have m1 := mul_ii (big_of (i := c + 1) (by omega)) (big_of (i := c + 1) (by omega))
  have m2 := mul_ii (big_of (i := (c + 1) * (c + 1)) (by omega)) (big_of (i := 7919) (by decide))
  have m3 := mul_ii (big_of (i := cellV ns (c + 1) % 2147483647 + (c + 1) * (c + 1) * 7919 + 11) (by omega)) (big_of (i := 48271) (by decide))
  have m4 := mul_ii (big_of (i := midV ns (c + 1)) (by omega)) (big_of (i := midV ns (c + 1)) (by omega))
  have setm : mutF .setIx (.lst [.int c]) [.int 0, .int (c + 1)] = some (.lst [.int (c + 1)], .non) := rfl
  rw [call_l_next]
  have em : (cellV ns (c + 1) % 2147483647 + (c + 1) * (c + 1) * 7919 + 11) * 48271 % 2147483647 = midV ns (c + 1) := rfl
  have en : midV ns (c + 1) * midV ns (c + 1) % 1999999973 = nextV ns (c + 1) := rfl
  by_cases hl : 0 < ns.length
  · have hl' : (0 : Int) < (ns.length : Int) := by omega
    have q0 : 0 ≤ (c + 1) % (ns.length : Int) := Int.emod_nonneg _ (by omega)
    have q1 : (c + 1) % (ns.length : Int) < (ns.length : Int) := Int.emod_lt_of_pos _ hl'
    have hix : ixOp (.scr ns) (.int ((c + 1) % (ns.length : Int))) = some (.int (cellV ns (c + 1))) := by
      obtain ⟨k, hk⟩ : ∃ k : Nat, (c + 1) % (ns.length : Int) = k := ⟨((c + 1) % (ns.length : Int)).toNat, by omega⟩
      unfold cellV
      rw [if_pos hl, hk]
      rw [hk] at q1
      show (pIx ns.length (k : Int)).bind (fun k => (ns[k]?).map PV.int) = _
      rw [pIx_nat (by omega), Option.bind_some, List.getElem?_eq_getElem (by omega)]
      simp [List.getD_eq_getElem?_getD, List.getElem?_eq_getElem (show k < ns.length by omega)]
    simp [f_l_next, b_l_next, evSs, evS, evE, evEs, evO_none, evO_some, evIt, bind_ok, bind_exc, bind_bad, flow_ok, flow_exc, flow_bad, then_nx, then_ct, then_ret, then_exc, res_ok, res_exc, cr_ret, cr_nx, cr_exc, then_nil, then_tail, cr_tail, fixB, prim, startE, ixL0, ixT0, ixT1, ixT2, ixT3, eqOp, dp, eqv, deepL, wd, de_scr, de_tup, de_lst, de_dic, de_str, ha, d1, d2, hs, setm, addOp, lenOp, ltv, lt1, mod_ii, hl', hl, hix, m1, m2, m3, m4, em, en]
  · have hl' : ¬ (0 : Int) < (ns.length : Int) := by omega
    have e0 : cellV ns (c + 1) = 0 := by unfold cellV; rw [if_neg hl]
    rw [e0, show (0 : Int) % 2147483647 = 0 from rfl, Int.zero_add] at em m3
    simp [f_l_next, b_l_next, evSs, evS, evE, evEs, evO_none, evO_some, evIt, bind_ok, bind_exc, bind_bad, flow_ok, flow_exc, flow_bad, then_nx, then_ct, then_ret, then_exc, res_ok, res_exc, cr_ret, cr_nx, cr_exc, then_nil, then_tail, cr_tail, fixB, prim, startE, ixL0, ixT0, ixT1, ixT2, ixT3, eqOp, dp, eqv, deepL, wd, de_scr, de_tup, de_lst, de_dic, de_str, ha, d1, d2, hs, setm, addOp, lenOp, ltv, lt1, mod_ii, hl', hl, m1, m2, m3, m4, em, en]
end
section
variable {P : Prog} [ND P] [H_l_next P] [H_l_names P]
/-! ### _law_names -/
def stemV (m : Int) : Tx := [97 + (m / 6 % 26).toNat, 97 + (m / 156 % 26).toNat]
def stepV (m : Int) : Int := [1, 3, 5, 7, 9, 11].getD (m % 6).toNat 0
def nameV (m : Int) (k : Nat) : Tx :=
  if m / 12168 % 4 = 0 then List.replicate (k + 1) (97 + (m / 6 % 26).toNat)
  else (stemV m).take (m / 4056 % 3).toNat ++ (97 + ((m / 156 + k * stepV m) % 26).toNat) :: (stemV m).drop (m / 4056 % 3).toNat
theorem stepV_in (m : Int) : stepV m = 1 ∨ stepV m = 3 ∨ stepV m = 5 ∨ stepV m = 7 ∨ stepV m = 9 ∨ stepV m = 11 := by
  have h0 : 0 ≤ m % 6 := Int.emod_nonneg _ (by decide)
  have h1 : m % 6 < 6 := Int.emod_lt_of_pos _ (by decide)
  unfold stepV
  generalize m % 6 = x at h0 h1
  obtain ⟨k, rfl⟩ : ∃ k : Nat, x = k := ⟨x.toNat, by omega⟩
  have hk : k < 6 := by omega
  match k, hk with
  | 0, _ => simp
  | 1, _ => simp
  | 2, _ => simp
  | 3, _ => simp
  | 4, _ => simp
  | 5, _ => simp
theorem nameV_ne {m : Int} {j k : Nat} (hj : j < 26) (hk : k < 26) (e : nameV m j = nameV m k) : j = k := by
  unfold nameV at e
  split at e
  · have := congrArg List.length e
    simp at this
    exact this
  · have e2 := List.append_cancel_left e
    simp only [List.cons.injEq, and_true] at e2
    have p1 : 0 ≤ (m / 156 + j * stepV m) % 26 := Int.emod_nonneg _ (by decide)
    have p2 : 0 ≤ (m / 156 + k * stepV m) % 26 := Int.emod_nonneg _ (by decide)
    rcases stepV_in m with s | s | s | s | s | s <;> rw [s] at e2 p1 p2 <;> omega
theorem cut_lo {m : Int} : cutL (stemV m) none (some (m / 4056 % 3)) = (stemV m).take (m / 4056 % 3).toNat ∧ cutL (stemV m) (some (m / 4056 % 3)) none = (stemV m).drop (m / 4056 % 3).toNat := by
  have h0 : 0 ≤ m / 4056 % 3 := Int.emod_nonneg _ (by decide)
  have h1 : m / 4056 % 3 < 3 := Int.emod_lt_of_pos _ (by decide)
  generalize m / 4056 % 3 = x at h0 h1
  unfold stemV
  generalize 97 + (m / 6 % 26).toNat = p
  generalize 97 + (m / 156 % 26).toNat = q
  obtain ⟨k, rfl⟩ : ∃ k : Nat, x = k := ⟨x.toNat, by omega⟩
  have hk : k < 3 := by omega
  match k, hk with
  | 0, _ => exact ⟨rfl, rfl⟩
  | 1, _ => exact ⟨rfl, rfl⟩
  | 2, _ => exact ⟨rfl, rfl⟩
theorem names_turn {n : Nat} {st : Sto} {s0 s1 s2 s9' s10 : Slot} {m : Int} {k : Nat} {acc : List PV} (hm : 0 ≤ m) (hm2 : m < 2 ^ 40) (hk : k < 26) (hl : acc.length ≤ 26) :
    ∃ s10', evSs P (callF P n) b1_l_names [s0, s1, s2, .fz (.str abc), .fz (.int m), .fz (.int (stepV m)), .fz (.str (stemV m)), .fz (.int (m / 4056 % 3)), .ow (.lst acc), .fz (.int (k : Int)), s10] st =
      .nx [s0, s1, s2, .fz (.str abc), .fz (.int m), .fz (.int (stepV m)), .fz (.str (stemV m)), .fz (.int (m / 4056 % 3)), .ow (.lst (acc ++ [.str (nameV m k)])), .fz (.int (k : Int)), s10'] st := by
  have hap : ∀ v, mutF .append (.lst acc) [v] = some (.lst (acc ++ [v]), .non) := fun v => mut_app (by unfold lim; omega)
  have d1 : fdivOp (.int m) (.int 12168) = some (.int (m / 12168)) := div_ii (by decide) (by decide)
  have d2 : fdivOp (.int m) (.int 6) = some (.int (m / 6)) := div_ii (by decide) (by decide)
  have d3 : fdivOp (.int m) (.int 156) = some (.int (m / 156)) := div_ii (by decide) (by decide)
  have r1 : modOp (.int (m / 12168)) (.int 4) = some (.int (m / 12168 % 4)) := mod_ii (by decide)
  have r2 : modOp (.int (m / 6)) (.int 26) = some (.int (m / 6 % 26)) := mod_ii (by decide)
  have r3 : ∀ i, modOp (.int i) (.int 26) = some (.int (i % 26)) := fun i => mod_ii (by decide)
  have a1 : addOp (.int (k : Int)) (.int 1) = some (.int ((k : Int) + 1)) := rfl
  by_cases h : m / 12168 % 4 = 0
  · have x1 := abc_ix (i := m / 6 % 26) (Int.emod_nonneg _ (by decide)) (Int.emod_lt_of_pos _ (by decide))
    have x2 : mulOp (.str [97 + (m / 6 % 26).toNat]) (.int ((k : Int) + 1)) = some (.str (nameV m k)) := by
      rw [mul_st (by omega) (by omega) (by simp), rep_one]
      unfold nameV
      rw [if_pos h]
      congr 3
    refine ⟨s10, ?_⟩
    simp [b1_l_names, evSs, evS, evE, evEs, evO_none, evO_some, evIt, bind_ok, bind_exc, bind_bad, flow_ok, flow_exc, flow_bad, then_nx, then_ct, then_ret, then_exc, res_ok, res_exc, cr_ret, cr_nx, cr_exc, then_nil, then_tail, cr_tail, fixB, prim, startE, ixL0, ixT0, ixT1, ixT2, ixT3, eqOp, dp, eqv, deepL, wd, de_scr, de_tup, de_lst, de_dic, de_str, d1, d2, r1, r2, a1, h, x1, x2, hap, mKind]
  · have mm : mulOp (.int (k : Int)) (.int (stepV m)) = some (.int ((k : Int) * stepV m)) := by
      refine mul_ii (big_of (by omega)) (big_of ?_)
      rcases stepV_in m with s | s | s | s | s | s <;> rw [s] <;> decide
    have a2 : addOp (.int (m / 156)) (.int ((k : Int) * stepV m)) = some (.int (m / 156 + (k : Int) * stepV m)) := rfl
    have x1 := abc_ix (i := (m / 156 + (k : Int) * stepV m) % 26) (Int.emod_nonneg _ (by decide)) (Int.emod_lt_of_pos _ (by decide))
    have sl : (stemV m).length ≤ 100000 := by show 2 ≤ 100000; decide
    have c1 : slc none (some (m / 4056 % 3)) (.str (stemV m)) = some (.str ((stemV m).take (m / 4056 % 3).toNat)) := by rw [slc_str sl, cut_lo.1]
    have c2 : slc (some (m / 4056 % 3)) none (.str (stemV m)) = some (.str ((stemV m).drop (m / 4056 % 3).toNat)) := by rw [slc_str sl, cut_lo.2]
    have t1 : ((stemV m).take (m / 4056 % 3).toNat).length ≤ 2 := by rw [List.length_take]; exact Nat.min_le_right _ _
    have t2 : ((stemV m).drop (m / 4056 % 3).toNat).length ≤ 2 := by rw [List.length_drop]; exact Nat.sub_le _ _
    have e1 : addOp (.str ((stemV m).take (m / 4056 % 3).toNat)) (.str [97 + ((m / 156 + (k : Int) * stepV m) % 26).toNat]) = some (.str ((stemV m).take (m / 4056 % 3).toNat ++ [97 + ((m / 156 + (k : Int) * stepV m) % 26).toNat])) := add_ss (by simp only [List.length_singleton]; omega)
    have e2 : addOp (.str ((stemV m).take (m / 4056 % 3).toNat ++ [97 + ((m / 156 + (k : Int) * stepV m) % 26).toNat])) (.str ((stemV m).drop (m / 4056 % 3).toNat)) = some (.str (nameV m k)) := by
      rw [add_ss (by rw [List.length_append]; simp only [List.length_singleton]; omega)]
      unfold nameV
      rw [if_neg h]
      simp
    refine ⟨.fz (.str [97 + ((m / 156 + (k : Int) * stepV m) % 26).toNat]), ?_⟩
    have hb : (m / 12168 % 4 == 0) = false := beq_eq_false_iff_ne.mpr h
    simp [b1_l_names, evSs, evS, evE, evEs, evO_none, evO_some, evIt, bind_ok, bind_exc, bind_bad, flow_ok, flow_exc, flow_bad, then_nx, then_ct, then_ret, then_exc, res_ok, res_exc, cr_ret, cr_nx, cr_exc, then_nil, then_tail, cr_tail, fixB, prim, startE, ixL0, ixT0, ixT1, ixT2, ixT3, eqOp, dp, eqv, deepL, wd, de_scr, de_tup, de_lst, de_dic, de_str, d1, d3, r1, r3, a2, mm, hb, x1, sl1, c1, c2, e1, e2, hap, mKind]
theorem nameV_ok {m : Int} {k : Nat} (hk : k < 12) : nmOk (nameV m k) := by
  have r : ∀ x : Int, 97 ≤ 97 + (x % 26).toNat ∧ 97 + (x % 26).toNat ≤ 122 := fun x => by
    have h0 : 0 ≤ x % 26 := Int.emod_nonneg _ (by decide)
    have h1 : x % 26 < 26 := Int.emod_lt_of_pos _ (by decide)
    omega
  have st : ∀ c ∈ stemV m, 97 ≤ c ∧ c ≤ 122 := fun c hc => by
    unfold stemV at hc
    simp only [List.mem_cons, List.not_mem_nil, or_false] at hc
    rcases hc with rfl | rfl <;> exact r _
  have ls : (stemV m).length = 2 := rfl
  unfold nameV
  split
  · refine ⟨by simp, by simp; omega, fun c hc => ?_⟩
    rw [List.eq_of_mem_replicate hc]
    exact r _
  · refine ⟨by rw [List.length_append, List.length_cons]; omega, ?_, fun c hc => ?_⟩
    · rw [List.length_append, List.length_cons, List.length_take, List.length_drop, ls]
      omega
    · rcases List.mem_append.mp hc with h | h
      · exact st c (List.mem_of_mem_take h)
      · rcases List.mem_cons.mp h with rfl | h
        · exact r _
        · exact st c (List.mem_of_mem_drop h)
theorem names_loop {n : Nat} {st : Sto} {s0 s1 s2 : Slot} {m : Int} (hm : 0 ≤ m) (hm2 : m < 2 ^ 40) : ∀ (many k : Nat) (s9 s10 : Slot) (acc : List PV), k + many ≤ 26 → acc = (List.range k).map (fun i => PV.str (nameV m i)) →
    ∃ s9' s10', loopF (.one 9) (evSs P (callF P n) b1_l_names) ((List.range' k many).map fun (i : Nat) => PV.int (i : Int)) [s0, s1, s2, .fz (.str abc), .fz (.int m), .fz (.int (stepV m)), .fz (.str (stemV m)), .fz (.int (m / 4056 % 3)), .ow (.lst acc), s9, s10] st =
      .nx [s0, s1, s2, .fz (.str abc), .fz (.int m), .fz (.int (stepV m)), .fz (.str (stemV m)), .fz (.int (m / 4056 % 3)), .ow (.lst ((List.range (k + many)).map fun i => PV.str (nameV m i))), s9', s10'] st := by
  intro many
  induction many with
  | zero => intro k s9 s10 acc _ e; subst e; exact ⟨s9, s10, loopF_nil⟩
  | succ many ih =>
    intro k s9 s10 acc hk e
    obtain ⟨t10, h1⟩ := names_turn (P := P) (n := n) (st := st) (s0 := s0) (s1 := s1) (s2 := s2) (s9' := .un) (s10 := s10) (m := m) (k := k) (acc := acc) hm hm2 (by omega) (by rw [e]; simp; omega)
    obtain ⟨a, b, h2⟩ := ih (k + 1) (.fz (.int (k : Int))) t10 (acc ++ [.str (nameV m k)]) (by omega) (by rw [e, List.range_succ, List.map_append]; rfl)
    refine ⟨a, b, ?_⟩
    rw [List.range'_succ, List.map_cons, loopF_nx rfl h1, h2]
    congr 8
    all_goals (try rw [show k + 1 + many = k + (many + 1) by omega])
theorem names_ok {n : Nat} {st : Sto} {a : Nat} {c : Int} {ns : List Int} {many : Nat} (ha : st[a]? = some (.lst [.int c])) (h0 : 0 ≤ c) (h1 : c < 2 ^ 64) (hk : many ≤ 12) :
    ∃ ts : List Tx, ts.length = many ∧ ts.Pairwise (· < ·) ∧ (∀ t ∈ ts, nmOk t) ∧ callF P (n + 2) (.f i_l_names) [.scr ns, .ref a, .int (many : Int)] st = .ok (.lst (ts.map PV.str)) (st.set a (.lst [.int (c + 1)])) := by
  have hnx := next_ok (P := P) (n := n) (ns := ns) ha h0 h1
  obtain ⟨m0, m1⟩ := nextV_bd ns (c + 1)
  generalize nextV ns (c + 1) = m at hnx m0 m1
  generalize st.set a (.lst [.int (c + 1)]) = st' at hnx
  have d2 : fdivOp (.int m) (.int 6) = some (.int (m / 6)) := div_ii (by decide) (by decide)
  have d3 : fdivOp (.int m) (.int 156) = some (.int (m / 156)) := div_ii (by decide) (by decide)
  have d4 : fdivOp (.int m) (.int 4056) = some (.int (m / 4056)) := div_ii (by decide) (by decide)
  have r3 : ∀ i, modOp (.int i) (.int 26) = some (.int (i % 26)) := fun i => mod_ii (by decide)
  have r4 : ∀ i, modOp (.int i) (.int 3) = some (.int (i % 3)) := fun i => mod_ii (by decide)
  have r6 : modOp (.int m) (.int 6) = some (.int (m % 6)) := mod_ii (by decide)
  have x1 := abc_ix (i := m / 6 % 26) (Int.emod_nonneg _ (by decide)) (Int.emod_lt_of_pos _ (by decide))
  have x2 := abc_ix (i := m / 156 % 26) (Int.emod_nonneg _ (by decide)) (Int.emod_lt_of_pos _ (by decide))
  have xs : ixOp (.lst [.int 1, .int 3, .int 5, .int 7, .int 9, .int 11]) (.int (m % 6)) = some (.int (stepV m)) := by
    have h0 : 0 ≤ m % 6 := Int.emod_nonneg _ (by decide)
    have h1 : m % 6 < 6 := Int.emod_lt_of_pos _ (by decide)
    unfold stepV
    generalize m % 6 = x at h0 h1
    obtain ⟨k, rfl⟩ : ∃ k : Nat, x = k := ⟨x.toNat, by omega⟩
    have hk : k < 6 := by omega
    match k, hk with
    | 0, _ => rfl
    | 1, _ => rfl
    | 2, _ => rfl
    | 3, _ => rfl
    | 4, _ => rfl
    | 5, _ => rfl
  have ad : addOp (.str [97 + (m / 6 % 26).toNat]) (.str [97 + (m / 156 % 26).toNat]) = some (.str (stemV m)) := add_ss (by show 1 + 1 ≤ 100000; decide)
  obtain ⟨a', b', hl⟩ := names_loop (P := P) (n := n + 1) (st := st') (s0 := .fz (.scr ns)) (s1 := .fz (.ref a)) (s2 := .fz (.int (many : Int))) (m := m) m0 (by omega) many 0 .un .un [] (by omega) rfl
  rw [← rng0, Nat.zero_add] at hl
  have em : (List.range many).map (fun i => PV.str (nameV m i)) = ((List.range many).map (nameV m)).map PV.str := by rw [List.map_map]; rfl
  have nd : ((List.range many).map (nameV m)).Nodup := by
    rw [List.Nodup, List.pairwise_map]
    exact List.Pairwise.imp_of_mem (fun {x y} hx hy hne e => hne (nameV_ne (by have := List.mem_range.mp hx; omega) (by have := List.mem_range.mp hy; omega) e)) List.nodup_range
  have hs := sort_tx ((List.range many).map (nameV m))
  have pm := List.mergeSort_perm ((List.range many).map (nameV m)) leTx
  rw [em] at hl
  refine ⟨_, by rw [pm.length_eq]; simp, sorted_tx nd, fun t ht => ?_, ?_⟩
  · obtain ⟨k, hk', rfl⟩ := List.mem_map.mp (pm.mem_iff.mp ht)
    exact nameV_ok (by have := List.mem_range.mp hk'; omega)
  · have sm : small62 (many : Int) = true := small_nat (by omega)
    clear pm em nd
    generalize (List.range many).map (nameV m) = qs at hl hs
    rw [call_l_names]
    apply step_nx
    · simp only [evSs, evS, evE, evEs, evO_none, evO_some, evIt, bind_ok, bind_exc, bind_bad, flow_ok, flow_exc, flow_bad, then_nx, then_ct, then_ret, then_exc, res_ok, res_exc, cr_ret, cr_nx, cr_exc, then_nil, then_tail, cr_tail, fixB, prim, ixL0, ixT0, ixT1, ixT2, ixT3, eq_ii, eq_ss, tq_cc, tq_cn, tq_nc, tq_nn, Nat.reduceBEq, Int.reduceBEq, Bool.true_and, Bool.false_and, bt_not, bf_not, wd, de_scr, de_tup, de_lst, de_dic, de_str, List.getElem?_cons_zero, List.getElem?_cons_succ, List.set_cons_zero, List.set_cons_succ, Option.bind_some, Option.map_some]; rfl
    apply step_nx
    · simp only [evSs, evS, evE, evEs, evO_none, evO_some, evIt, bind_ok, bind_exc, bind_bad, flow_ok, flow_exc, flow_bad, then_nx, then_ct, then_ret, then_exc, res_ok, res_exc, cr_ret, cr_nx, cr_exc, then_nil, then_tail, cr_tail, fixB, prim, ixL0, ixT0, ixT1, ixT2, ixT3, eq_ii, eq_ss, tq_cc, tq_cn, tq_nc, tq_nn, Nat.reduceBEq, Int.reduceBEq, Bool.true_and, Bool.false_and, bt_not, bf_not, wd, de_scr, de_tup, de_lst, de_dic, de_str, List.getElem?_cons_zero, List.getElem?_cons_succ, List.set_cons_zero, List.set_cons_succ, Option.bind_some, Option.map_some, hnx]; rfl
    apply step_nx
    · simp only [evSs, evS, evE, evEs, evO_none, evO_some, evIt, bind_ok, bind_exc, bind_bad, flow_ok, flow_exc, flow_bad, then_nx, then_ct, then_ret, then_exc, res_ok, res_exc, cr_ret, cr_nx, cr_exc, then_nil, then_tail, cr_tail, fixB, prim, ixL0, ixT0, ixT1, ixT2, ixT3, eq_ii, eq_ss, tq_cc, tq_cn, tq_nc, tq_nn, Nat.reduceBEq, Int.reduceBEq, Bool.true_and, Bool.false_and, bt_not, bf_not, wd, de_scr, de_tup, de_lst, de_dic, de_str, List.getElem?_cons_zero, List.getElem?_cons_succ, List.set_cons_zero, List.set_cons_succ, Option.bind_some, Option.map_some, r6, xs]; rfl
    apply step_nx
    · show evS P (callF P (n + 1)) _ [.fz (.scr ns), .fz (.ref a), .fz (.int (many : Int)), .fz (.str abc), .fz (.int m), .fz (.int (stepV m)), .un, .un, .un, .un, .un] st' = _
      simp only [evSs, evS, evE, evEs, evO_none, evO_some, evIt, bind_ok, bind_exc, bind_bad, flow_ok, flow_exc, flow_bad, then_nx, then_ct, then_ret, then_exc, res_ok, res_exc, cr_ret, cr_nx, cr_exc, then_nil, then_tail, cr_tail, fixB, prim, ixL0, ixT0, ixT1, ixT2, ixT3, eq_ii, eq_ss, tq_cc, tq_cn, tq_nc, tq_nn, Nat.reduceBEq, Int.reduceBEq, Bool.true_and, Bool.false_and, bt_not, bf_not, wd, de_scr, de_tup, de_lst, de_dic, de_str, List.getElem?_cons_zero, List.getElem?_cons_succ, List.set_cons_zero, List.set_cons_succ, Option.bind_some, Option.map_some, d2, d3, r3, x1, x2, ad]; rfl
    apply step_nx
    · simp only [evSs, evS, evE, evEs, evO_none, evO_some, evIt, bind_ok, bind_exc, bind_bad, flow_ok, flow_exc, flow_bad, then_nx, then_ct, then_ret, then_exc, res_ok, res_exc, cr_ret, cr_nx, cr_exc, then_nil, then_tail, cr_tail, fixB, prim, ixL0, ixT0, ixT1, ixT2, ixT3, eq_ii, eq_ss, tq_cc, tq_cn, tq_nc, tq_nn, Nat.reduceBEq, Int.reduceBEq, Bool.true_and, Bool.false_and, bt_not, bf_not, wd, de_scr, de_tup, de_lst, de_dic, de_str, List.getElem?_cons_zero, List.getElem?_cons_succ, List.set_cons_zero, List.set_cons_succ, Option.bind_some, Option.map_some, d4, r4]; rfl
    apply step_nx
    · simp only [evSs, evS, evE, evEs, evO_none, evO_some, evIt, bind_ok, bind_exc, bind_bad, flow_ok, flow_exc, flow_bad, then_nx, then_ct, then_ret, then_exc, res_ok, res_exc, cr_ret, cr_nx, cr_exc, then_nil, then_tail, cr_tail, fixB, prim, ixL0, ixT0, ixT1, ixT2, ixT3, eq_ii, eq_ss, tq_cc, tq_cn, tq_nc, tq_nn, Nat.reduceBEq, Int.reduceBEq, Bool.true_and, Bool.false_and, bt_not, bf_not, wd, de_scr, de_tup, de_lst, de_dic, de_str, List.getElem?_cons_zero, List.getElem?_cons_succ, List.set_cons_zero, List.set_cons_succ, Option.bind_some, Option.map_some, isCont, if_true]; rfl
    apply step_nx
    · exact for_step (evIt_rng1 (by simp only [evSs, evS, evE, evEs, evO_none, evO_some, evIt, bind_ok, bind_exc, bind_bad, flow_ok, flow_exc, flow_bad, then_nx, then_ct, then_ret, then_exc, res_ok, res_exc, cr_ret, cr_nx, cr_exc, then_nil, then_tail, cr_tail, fixB, prim, ixL0, ixT0, ixT1, ixT2, ixT3, eq_ii, eq_ss, tq_cc, tq_cn, tq_nc, tq_nn, Nat.reduceBEq, Int.reduceBEq, Bool.true_and, Bool.false_and, bt_not, bf_not, wd, de_scr, de_tup, de_lst, de_dic, de_str, List.getElem?_cons_zero, List.getElem?_cons_succ, List.set_cons_zero, List.set_cons_succ, Option.bind_some, Option.map_some]) sm) hl
    apply step_ret
    simp only [evSs, evS, evE, evEs, evO_none, evO_some, evIt, bind_ok, bind_exc, bind_bad, flow_ok, flow_exc, flow_bad, then_nx, then_ct, then_ret, then_exc, res_ok, res_exc, cr_ret, cr_nx, cr_exc, then_nil, then_tail, cr_tail, fixB, prim, ixL0, ixT0, ixT1, ixT2, ixT3, eq_ii, eq_ss, tq_cc, tq_cn, tq_nc, tq_nn, Nat.reduceBEq, Int.reduceBEq, Bool.true_and, Bool.false_and, bt_not, bf_not, wd, de_scr, de_tup, de_lst, de_dic, de_str, List.getElem?_cons_zero, List.getElem?_cons_succ, List.set_cons_zero, List.set_cons_succ, Option.bind_some, Option.map_some, hs]; rfl
end
end PB

end
section
set_option Elab.async false
set_option linter.all false
set_option maxRecDepth 100000
set_option exponentiation.threshold 10000
namespace PB
open PySem L2
abbrev cell (c : Int) : PV := .lst [.int c]
section
variable {P : Prog} [ND P] [H_l_next P] [H_l_plain P]
theorem plain_ok {n a : Nat} {ns : List Int} {st : Sto} {c : Int} (ha : st[a]? = some (cell c)) (h0 : 0 ≤ c) (h1 : c < 2 ^ 64) :
    ∃ k : KD, k.plain = true ∧ callF P (n + 2) (.f i_l_plain) [.scr ns, .ref a] st = .ok k.pv (st.set a (cell (c + 1))) := by
  have hnx := next_ok (P := P) (n := n) (ns := ns) ha h0 h1
  have r : ∀ i, modOp (.int i) (.int 2) = some (.int (i % 2)) := fun i => mod_ii (by decide)
  generalize nextV ns (c + 1) = m at hnx
  by_cases h : m % 2 = 0
  · refine ⟨.num, rfl, ?_⟩
    rw [call_l_plain]
    (repeat (first | refine step_nx (by simp only [evSs, evS, evE, evEs, evO_none, evO_some, evIt, bind_ok, bind_exc, bind_bad, flow_ok, flow_exc, flow_bad, then_nx, then_ct, then_ret, then_exc, res_ok, res_exc, cr_ret, cr_nx, cr_exc, then_nil, then_tail, cr_tail, fixB, prim, ixL0, ixT0, ixT1, ixT2, ixT3, eq_ii, eq_ss, tq_cc, tq_cn, tq_nc, tq_nn, Nat.reduceBEq, Int.reduceBEq, Bool.true_and, Bool.false_and, bt_not, bf_not, wd, de_scr, de_tup, de_lst, de_dic, de_str, List.getElem?_cons_zero, List.getElem?_cons_succ, List.set_cons_zero, List.set_cons_succ, Option.bind_some, Option.map_some, hnx, r, h]; rfl) ?_ | refine step_ret (by simp only [evSs, evS, evE, evEs, evO_none, evO_some, evIt, bind_ok, bind_exc, bind_bad, flow_ok, flow_exc, flow_bad, then_nx, then_ct, then_ret, then_exc, res_ok, res_exc, cr_ret, cr_nx, cr_exc, then_nil, then_tail, cr_tail, fixB, prim, ixL0, ixT0, ixT1, ixT2, ixT3, eq_ii, eq_ss, tq_cc, tq_cn, tq_nc, tq_nn, Nat.reduceBEq, Int.reduceBEq, Bool.true_and, Bool.false_and, bt_not, bf_not, wd, de_scr, de_tup, de_lst, de_dic, de_str, List.getElem?_cons_zero, List.getElem?_cons_succ, List.set_cons_zero, List.set_cons_succ, Option.bind_some, Option.map_some, hnx, r, h]; rfl)))
  · refine ⟨.word, rfl, ?_⟩
    have hb : (m % 2 == 0) = false := beq_eq_false_iff_ne.mpr h
    rw [call_l_plain]
    (repeat (first | refine step_nx (by simp only [evSs, evS, evE, evEs, evO_none, evO_some, evIt, bind_ok, bind_exc, bind_bad, flow_ok, flow_exc, flow_bad, then_nx, then_ct, then_ret, then_exc, res_ok, res_exc, cr_ret, cr_nx, cr_exc, then_nil, then_tail, cr_tail, fixB, prim, ixL0, ixT0, ixT1, ixT2, ixT3, eq_ii, eq_ss, tq_cc, tq_cn, tq_nc, tq_nn, Nat.reduceBEq, Int.reduceBEq, Bool.true_and, Bool.false_and, bt_not, bf_not, wd, de_scr, de_tup, de_lst, de_dic, de_str, List.getElem?_cons_zero, List.getElem?_cons_succ, List.set_cons_zero, List.set_cons_succ, Option.bind_some, Option.map_some, hnx, r, hb]; rfl) ?_ | refine step_ret (by simp only [evSs, evS, evE, evEs, evO_none, evO_some, evIt, bind_ok, bind_exc, bind_bad, flow_ok, flow_exc, flow_bad, then_nx, then_ct, then_ret, then_exc, res_ok, res_exc, cr_ret, cr_nx, cr_exc, then_nil, then_tail, cr_tail, fixB, prim, ixL0, ixT0, ixT1, ixT2, ixT3, eq_ii, eq_ss, tq_cc, tq_cn, tq_nc, tq_nn, Nat.reduceBEq, Int.reduceBEq, Bool.true_and, Bool.false_and, bt_not, bf_not, wd, de_scr, de_tup, de_lst, de_dic, de_str, List.getElem?_cons_zero, List.getElem?_cons_succ, List.set_cons_zero, List.set_cons_succ, Option.bind_some, Option.map_some, hnx, r, hb]; rfl)))
end
theorem comp_step {P : Prog} {cf : CF} {own : List Nat} {it : It} {tg : Tg} {cond : Option1} {e : E} {ρ ρ1 ρ2 : REnv} {st st1 st2 : Sto} {xs : List PV} {v : PV} (h : evIt P cf it ρ st = .ok (.lst xs) ρ1 st1) (g : loopC tg own (evO P cf cond) (evE P cf e) xs [] ρ1 st1 = .ok v ρ2 st2) : evE P cf (.comp own it tg cond e) ρ st = .ok v (unblank ρ1 ρ2 own) st2 := by
  unfold evE
  rw [h]
  show (match loopC tg own (evO P cf cond) (evE P cf e) xs [] ρ1 st1 with
      | .ok v ρ2 st2 => Res.ok v (unblank ρ1 ρ2 own) st2
      | _ => .bad) = _
  rw [g]
/-- kinds are drawn, at most so deep, by at most so many numbers -/
def GenK (P : Prog) (n a : Nat) (ns : List Int) (d : Nat) (B : Int) : Prop := ∀ (st : Sto) (c : Int), st[a]? = some (cell c) → 0 ≤ c → c + B < 2 ^ 64 →
  ∃ (k : KD) (c' : Int), k.wf ∧ k.dep ≤ d ∧ c ≤ c' ∧ c' ≤ c + B ∧ callF P n (.f i_l_kind) [.scr ns, .ref a, .int (d : Int)] st = .ok k.pv (st.set a (cell c'))
section
variable {P : Prog} [ND P]
theorem fields_loop {n a d : Nat} {ns : List Int} {B : Int} (g : GenK P n a ns d B) (B0 : 0 ≤ B) {s2 s4 : Slot} : ∀ (ts : List Tx) (st : Sto) (c : Int) (acc : List PV) (s5 : Slot), st[a]? = some (cell c) → 0 ≤ c → c + B * ts.length < 2 ^ 64 → acc.length + ts.length ≤ 1000 →
    ∃ (fs : KF) (c' : Int) (s5' : Slot), fs.map (·.1) = ts ∧ (∀ p ∈ fs, p.2.wf ∧ p.2.dep ≤ d) ∧ c ≤ c' ∧ c' ≤ c + B * ts.length ∧
      loopC (.one 5) [5] (evO P (callF P n) .none) (evE P (callF P n) e1_l_fields) (ts.map PV.str) acc [.fz (.scr ns), .fz (.ref a), s2, .fz (.int (d : Int)), s4, s5] st = .ok (.lst (acc ++ kpvs fs)) [.fz (.scr ns), .fz (.ref a), s2, .fz (.int (d : Int)), s4, s5'] (st.set a (cell c'))
  | [], st, c, acc, s5, ha, h0, h1, hl => ⟨[], c, s5, rfl, fun _ h => (by cases h), Int.le_refl _, by simp, by
      have e : st.set a (cell c) = st := by
        apply List.ext_getElem?
        intro i
        by_cases hi : a = i
        · subst hi; rw [set_same ⟨_, ha⟩, ha]
        · rw [List.getElem?_set_ne hi]
      rw [e]; show loopC _ _ _ _ [] _ _ _ = _; rw [loopC_nil, kpvs, List.append_nil]⟩
  | t :: ts, st, c, acc, s5, ha, h0, h1, hl => by
    rw [List.length_cons] at h1 hl
    have e1 : B * ((ts.length + 1 : Nat) : Int) = B * (ts.length : Int) + B := by rw [Int.natCast_add, Int.mul_add]; simp
    have nn : 0 ≤ B * (ts.length : Int) := Int.mul_nonneg B0 (by omega)
    rw [e1] at h1
    obtain ⟨k, c1, w, dk, l1, l2, hk⟩ := g st c ha h0 (by omega)
    have ha1 : (st.set a (cell c1))[a]? = some (cell c1) := set_same ⟨_, ha⟩
    obtain ⟨fs, c2, s5', q1, q2, q3, q4, q5⟩ := fields_loop (s2 := s2) (s4 := s4) g B0 ts (st.set a (cell c1)) c1 (acc ++ [.tup [.str t, k.pv]]) (.fz (.str t)) ha1 (by omega) (by omega) (by rw [List.length_append]; simp; omega)
    refine ⟨(t, k) :: fs, c2, s5', by rw [List.map_cons, q1], fun p hp => ?_, by omega, by rw [List.length_cons, e1]; omega, ?_⟩
    · rcases List.mem_cons.mp hp with rfl | hp
      · exact ⟨w, dk⟩
      · exact q2 p hp
    · rw [List.map_cons, loopC_yes (ρ1 := [.fz (.scr ns), .fz (.ref a), s2, .fz (.int (d : Int)), s4, .fz (.str t)]) rfl (by unfold evO; rfl) (by simp only [e1_l_fields, evSs, evS, evE, evEs, evO_none, evO_some, evIt, bind_ok, bind_exc, bind_bad, flow_ok, flow_exc, flow_bad, then_nx, then_ct, then_ret, then_exc, res_ok, res_exc, cr_ret, cr_nx, cr_exc, then_nil, then_tail, cr_tail, fixB, prim, ixL0, ixT0, ixT1, ixT2, ixT3, eq_ii, eq_ss, tq_cc, tq_cn, tq_nc, tq_nn, Nat.reduceBEq, Int.reduceBEq, Bool.true_and, Bool.false_and, bt_not, bf_not, wd, de_scr, de_tup, de_lst, de_dic, de_str, List.getElem?_cons_zero, List.getElem?_cons_succ, List.set_cons_zero, List.set_cons_succ, Option.bind_some, Option.map_some, hk]; rfl) (by unfold lim; omega)]
      refine q5.trans ?_
      rw [List.set_set, List.append_assoc]
      rfl
end
section
variable {P : Prog} [ND P] [H_l_next P] [H_l_names P] [H_l_fields P]
theorem fields_ok {n a d : Nat} {ns : List Int} {B : Int} (g : GenK P (n + 2) a ns d B) (B0 : 0 ≤ B) {many : Nat} (hm : many ≤ 12) {st : Sto} {c : Int} (ha : st[a]? = some (cell c)) (h0 : 0 ≤ c) (h1 : c + (1 + B * many) < 2 ^ 64) :
    ∃ (fs : KF) (c' : Int), fs.length = many ∧ rise fs ∧ (∀ p ∈ fs, nmOk p.1) ∧ (∀ p ∈ fs, p.2.wf ∧ p.2.dep ≤ d) ∧ c ≤ c' ∧ c' ≤ c + (1 + B * many) ∧
      callF P (n + 3) (.f i_l_fields) [.scr ns, .ref a, .int (many : Int), .int (d : Int)] st = .ok (.tup (kpvs fs)) (st.set a (cell c')) := by
  have nn : 0 ≤ B * (many : Int) := Int.mul_nonneg B0 (by omega)
  obtain ⟨ts, t1, t2, t3, hn⟩ := names_ok (P := P) (n := n) (ns := ns) (many := many) ha h0 (by omega) hm
  have ha1 : (st.set a (cell (c + 1)))[a]? = some (cell (c + 1)) := set_same ⟨_, ha⟩
  obtain ⟨fs, c', s5', q1, q2, q3, q4, q5⟩ := fields_loop (s2 := .fz (.int (many : Int))) (s4 := .fz (.lst (ts.map PV.str))) g B0 ts (st.set a (cell (c + 1))) (c + 1) [] .un ha1 (by omega) (by rw [t1]; omega) (by rw [t1]; simp; omega)
  rw [t1] at q4
  refine ⟨fs, c', by rw [← t1, ← q1, List.length_map], by unfold rise; rw [q1]; exact t2, fun p hp => t3 _ (by rw [← q1]; exact List.mem_map_of_mem hp), q2, by omega, by omega, ?_⟩
  rw [List.set_set, List.nil_append] at q5
  rw [call_l_fields]
  (repeat (first | refine step_nx (by simp only [evSs, evS, evE, evEs, evO_none, evO_some, evIt, bind_ok, bind_exc, bind_bad, flow_ok, flow_exc, flow_bad, then_nx, then_ct, then_ret, then_exc, res_ok, res_exc, cr_ret, cr_nx, cr_exc, then_nil, then_tail, cr_tail, fixB, prim, ixL0, ixT0, ixT1, ixT2, ixT3, eq_ii, eq_ss, tq_cc, tq_cn, tq_nc, tq_nn, Nat.reduceBEq, Int.reduceBEq, Bool.true_and, Bool.false_and, bt_not, bf_not, wd, de_scr, de_tup, de_lst, de_dic, de_str, List.getElem?_cons_zero, List.getElem?_cons_succ, List.set_cons_zero, List.set_cons_succ, Option.bind_some, Option.map_some, hn, q5, seqOf, unblank, tupleOp]; rfl) ?_ | refine step_ret (by simp only [evSs, evS, evE, evEs, evO_none, evO_some, evIt, bind_ok, bind_exc, bind_bad, flow_ok, flow_exc, flow_bad, then_nx, then_ct, then_ret, then_exc, res_ok, res_exc, cr_ret, cr_nx, cr_exc, then_nil, then_tail, cr_tail, fixB, prim, ixL0, ixT0, ixT1, ixT2, ixT3, eq_ii, eq_ss, tq_cc, tq_cn, tq_nc, tq_nn, Nat.reduceBEq, Int.reduceBEq, Bool.true_and, Bool.false_and, bt_not, bf_not, wd, de_scr, de_tup, de_lst, de_dic, de_str, List.getElem?_cons_zero, List.getElem?_cons_succ, List.set_cons_zero, List.set_cons_succ, Option.bind_some, Option.map_some, hn, q5, seqOf, unblank, tupleOp]; rfl)))
end
end PB

end
section
set_option Elab.async false
set_option linter.all false
set_option maxRecDepth 100000
set_option exponentiation.threshold 10000
namespace PB
open PySem L2
theorem plain_wf {k : KD} (h : k.plain = true) : k.wf ∧ k.dep = 0 := by cases k <;> first | exact ⟨trivial, rfl⟩ | cases h
theorem get_str {ts : List Tx} {i : Nat} {t : Tx} (h : ts[i]? = some t) : ixOp (.lst (ts.map PV.str)) (.int (i : Int)) = some (.str t) := ixLL (by rw [List.getElem?_map, h]; rfl)
theorem beq_int (i j : Nat) : ((i : Int) == (j : Int)) = decide (i = j) := by
  rw [Bool.eq_iff_iff, beq_iff_eq, decide_eq_true_iff]
  omega
section
variable {P : Prog} [ND P] [H_l_next P] [H_l_plain P]
theorem rk_turn {n a d : Nat} {ns : List Int} {B : Int} (g : GenK P (n + 2) a ns d B) (B0 : 0 ≤ B) {ts : List Tx} {i ld b : Nat} {t : Tx} (ht : ts[i]? = some t) {s2 s5 s10 s11 : Slot} {acc : List PV} (hl : acc.length ≤ 1000) {st : Sto} {c : Int} (ha : st[a]? = some (cell c)) (h0 : 0 ≤ c) (h1 : c + (B + 1) < 2 ^ 64) :
    ∃ (k : KD) (c' : Int), k.wf ∧ k.dep ≤ d ∧ (i = ld ∨ i = b → k.plain = true) ∧ c ≤ c' ∧ c' ≤ c + (B + 1) ∧
      evSs P (callF P (n + 2)) b1_l_rows_kind [.fz (.scr ns), .fz (.ref a), s2, .fz (.int (d : Int)), .fz (.lst (ts.map PV.str)), s5, .fz (.int (ld : Int)), .fz (.int (b : Int)), .ow (.lst acc), .fz (.int (i : Int)), s10, s11] st =
        .nx [.fz (.scr ns), .fz (.ref a), s2, .fz (.int (d : Int)), .fz (.lst (ts.map PV.str)), s5, .fz (.int (ld : Int)), .fz (.int (b : Int)), .ow (.lst (acc ++ [.tup [.str t, k.pv]])), .fz (.int (i : Int)), s10, .fz k.pv] (st.set a (cell c')) := by
  have hap : ∀ v, mutF .append (.lst acc) [v] = some (.lst (acc ++ [v]), .non) := fun v => mut_app (by unfold lim; omega)
  have hx := get_str ht
  obtain ⟨k, c1, w, dk, l1, l2, hk⟩ := g st c ha h0 (by omega)
  have ha1 : (st.set a (cell c1))[a]? = some (cell c1) := set_same ⟨_, ha⟩
  by_cases hi : i = ld ∨ i = b
  · obtain ⟨p, pp, hp⟩ := plain_ok (P := P) (n := n) (ns := ns) ha1 (by omega) (by omega)
    obtain ⟨pw, pd⟩ := plain_wf pp
    refine ⟨p, c1 + 1, pw, by omega, fun _ => pp, by omega, by omega, ?_⟩
    rw [List.set_set] at hp
    unfold b1_l_rows_kind
    rcases Decidable.em (i = ld) with e | e
    · have hb : ((i : Int) == (ld : Int)) = true := by rw [beq_int]; exact decide_eq_true e
      (repeat (first | exact stp_nil | refine stp_nx (by simp only [evSs, evS, evE, evEs, evO_none, evO_some, evIt, bind_ok, bind_exc, bind_bad, flow_ok, flow_exc, flow_bad, then_nx, then_ct, then_ret, then_exc, res_ok, res_exc, cr_ret, cr_nx, cr_exc, then_nil, then_tail, cr_tail, fixB, prim, ixL0, ixT0, ixT1, ixT2, ixT3, eq_ii, eq_ss, tq_cc, tq_cn, tq_nc, tq_nn, Nat.reduceBEq, Int.reduceBEq, Bool.true_and, Bool.false_and, bt_not, bf_not, wd, de_scr, de_tup, de_lst, de_dic, de_str, List.getElem?_cons_zero, List.getElem?_cons_succ, List.set_cons_zero, List.set_cons_succ, Option.bind_some, Option.map_some, hk, hp, hb, hx, hap, mKind, if_true]; rfl) ?_ | refine stp_ret (by simp only [evSs, evS, evE, evEs, evO_none, evO_some, evIt, bind_ok, bind_exc, bind_bad, flow_ok, flow_exc, flow_bad, then_nx, then_ct, then_ret, then_exc, res_ok, res_exc, cr_ret, cr_nx, cr_exc, then_nil, then_tail, cr_tail, fixB, prim, ixL0, ixT0, ixT1, ixT2, ixT3, eq_ii, eq_ss, tq_cc, tq_cn, tq_nc, tq_nn, Nat.reduceBEq, Int.reduceBEq, Bool.true_and, Bool.false_and, bt_not, bf_not, wd, de_scr, de_tup, de_lst, de_dic, de_str, List.getElem?_cons_zero, List.getElem?_cons_succ, List.set_cons_zero, List.set_cons_succ, Option.bind_some, Option.map_some, hk, hp, hb, hx, hap, mKind, if_true]; rfl)))
    · have hb : ((i : Int) == (ld : Int)) = false := by rw [beq_int]; exact decide_eq_false e
      have hb2 : ((i : Int) == (b : Int)) = true := by rw [beq_int]; exact decide_eq_true (hi.resolve_left e)
      (repeat (first | exact stp_nil | refine stp_nx (by simp only [evSs, evS, evE, evEs, evO_none, evO_some, evIt, bind_ok, bind_exc, bind_bad, flow_ok, flow_exc, flow_bad, then_nx, then_ct, then_ret, then_exc, res_ok, res_exc, cr_ret, cr_nx, cr_exc, then_nil, then_tail, cr_tail, fixB, prim, ixL0, ixT0, ixT1, ixT2, ixT3, eq_ii, eq_ss, tq_cc, tq_cn, tq_nc, tq_nn, Nat.reduceBEq, Int.reduceBEq, Bool.true_and, Bool.false_and, bt_not, bf_not, wd, de_scr, de_tup, de_lst, de_dic, de_str, List.getElem?_cons_zero, List.getElem?_cons_succ, List.set_cons_zero, List.set_cons_succ, Option.bind_some, Option.map_some, hk, hp, hb, hb2, hx, hap, mKind, if_true]; rfl) ?_ | refine stp_ret (by simp only [evSs, evS, evE, evEs, evO_none, evO_some, evIt, bind_ok, bind_exc, bind_bad, flow_ok, flow_exc, flow_bad, then_nx, then_ct, then_ret, then_exc, res_ok, res_exc, cr_ret, cr_nx, cr_exc, then_nil, then_tail, cr_tail, fixB, prim, ixL0, ixT0, ixT1, ixT2, ixT3, eq_ii, eq_ss, tq_cc, tq_cn, tq_nc, tq_nn, Nat.reduceBEq, Int.reduceBEq, Bool.true_and, Bool.false_and, bt_not, bf_not, wd, de_scr, de_tup, de_lst, de_dic, de_str, List.getElem?_cons_zero, List.getElem?_cons_succ, List.set_cons_zero, List.set_cons_succ, Option.bind_some, Option.map_some, hk, hp, hb, hb2, hx, hap, mKind, if_true]; rfl)))
  · have hb : ((i : Int) == (ld : Int)) = false := by rw [beq_int]; exact decide_eq_false fun e => hi (.inl e)
    have hb2 : ((i : Int) == (b : Int)) = false := by rw [beq_int]; exact decide_eq_false fun e => hi (.inr e)
    refine ⟨k, c1, w, dk, fun h => absurd h hi, by omega, by omega, ?_⟩
    unfold b1_l_rows_kind
    (repeat (first | exact stp_nil | refine stp_nx (by simp only [evSs, evS, evE, evEs, evO_none, evO_some, evIt, bind_ok, bind_exc, bind_bad, flow_ok, flow_exc, flow_bad, then_nx, then_ct, then_ret, then_exc, res_ok, res_exc, cr_ret, cr_nx, cr_exc, then_nil, then_tail, cr_tail, fixB, prim, ixL0, ixT0, ixT1, ixT2, ixT3, eq_ii, eq_ss, tq_cc, tq_cn, tq_nc, tq_nn, Nat.reduceBEq, Int.reduceBEq, Bool.true_and, Bool.false_and, bt_not, bf_not, wd, de_scr, de_tup, de_lst, de_dic, de_str, List.getElem?_cons_zero, List.getElem?_cons_succ, List.set_cons_zero, List.set_cons_succ, Option.bind_some, Option.map_some, hk, hb, hb2, hx, hap, mKind, if_true]; rfl) ?_ | refine stp_ret (by simp only [evSs, evS, evE, evEs, evO_none, evO_some, evIt, bind_ok, bind_exc, bind_bad, flow_ok, flow_exc, flow_bad, then_nx, then_ct, then_ret, then_exc, res_ok, res_exc, cr_ret, cr_nx, cr_exc, then_nil, then_tail, cr_tail, fixB, prim, ixL0, ixT0, ixT1, ixT2, ixT3, eq_ii, eq_ss, tq_cc, tq_cn, tq_nc, tq_nn, Nat.reduceBEq, Int.reduceBEq, Bool.true_and, Bool.false_and, bt_not, bf_not, wd, de_scr, de_tup, de_lst, de_dic, de_str, List.getElem?_cons_zero, List.getElem?_cons_succ, List.set_cons_zero, List.set_cons_succ, Option.bind_some, Option.map_some, hk, hb, hb2, hx, hap, mKind, if_true]; rfl)))
theorem rk_loop {n a d : Nat} {ns : List Int} {B : Int} (g : GenK P (n + 2) a ns d B) (B0 : 0 ≤ B) {ts : List Tx} {ld b : Nat} (hts : ts.length ≤ 12) {s2 s5 s10 : Slot} : ∀ (j i : Nat) (s9 s11 : Slot) (fs0 : KF) (st : Sto) (c : Int), i + j = ts.length → fs0.length = i → st[a]? = some (cell c) → 0 ≤ c → c + (B + 1) * j < 2 ^ 64 →
    ∃ (fs : KF) (c' : Int) (s9' s11' : Slot), fs.map (·.1) = ts.drop i ∧ (∀ p ∈ fs, p.2.wf ∧ p.2.dep ≤ d) ∧ (∀ x p, fs[x]? = some p → (i + x = ld ∨ i + x = b) → p.2.plain = true) ∧ c ≤ c' ∧ c' ≤ c + (B + 1) * j ∧
      loopF (.one 9) (evSs P (callF P (n + 2)) b1_l_rows_kind) ((List.range' i j).map fun (i : Nat) => PV.int (i : Int)) [.fz (.scr ns), .fz (.ref a), s2, .fz (.int (d : Int)), .fz (.lst (ts.map PV.str)), s5, .fz (.int (ld : Int)), .fz (.int (b : Int)), .ow (.lst (kpvs fs0)), s9, s10, s11] st =
        .nx [.fz (.scr ns), .fz (.ref a), s2, .fz (.int (d : Int)), .fz (.lst (ts.map PV.str)), s5, .fz (.int (ld : Int)), .fz (.int (b : Int)), .ow (.lst (kpvs (fs0 ++ fs))), s9', s10, s11'] (st.set a (cell c')) := by
  intro j
  induction j with
  | zero =>
    intro i s9 s11 fs0 st c hi _ ha h0 h1
    have e : st.set a (cell c) = st := by
      apply List.ext_getElem?
      intro i
      by_cases hi : a = i
      · subst hi; rw [set_same ⟨_, ha⟩, ha]
      · rw [List.getElem?_set_ne hi]
    refine ⟨[], c, s9, s11, by rw [List.drop_eq_nil_of_le (by omega)]; rfl, fun _ h => (by cases h), fun x p h => (by cases h), Int.le_refl _, by simp, ?_⟩
    rw [e, List.append_nil]
    exact loopF_nil
  | succ j ih =>
    intro i s9 s11 fs0 st c hi hf ha h0 h1
    have e1 : (B + 1) * ((j + 1 : Nat) : Int) = (B + 1) * (j : Int) + (B + 1) := by rw [Int.natCast_add, Int.mul_add]; simp
    have nn : 0 ≤ (B + 1) * (j : Int) := Int.mul_nonneg (by omega) (by omega)
    rw [e1] at h1
    obtain ⟨t, ht⟩ : ∃ t, ts[i]? = some t := ⟨_, List.getElem?_eq_getElem (show i < ts.length by omega)⟩
    obtain ⟨k, c1, w, dk, pk, l1, l2, hk⟩ := rk_turn (P := P) (n := n) (ld := ld) (b := b) (s2 := s2) (s5 := s5) (s10 := s10) (s11 := s11) (acc := kpvs fs0) g B0 ht (by rw [kpvs_len]; omega) ha h0 (by omega)
    have ha1 : (st.set a (cell c1))[a]? = some (cell c1) := set_same ⟨_, ha⟩
    obtain ⟨fs, c2, s9', s11', q1, q2, q3, q4, q5, q6⟩ := ih (i + 1) (.fz (.int (i : Int))) (.fz k.pv) (fs0 ++ [(t, k)]) (st.set a (cell c1)) c1 (by omega) (by rw [List.length_append]; simp; omega) ha1 (by omega) (by omega)
    have ke : kpvs fs0 ++ [.tup [.str t, k.pv]] = kpvs (fs0 ++ [(t, k)]) := by rw [kpvs_map, kpvs_map]; simp
    refine ⟨(t, k) :: fs, c2, s9', s11', ?_, fun p hp => ?_, fun x p hp hx => ?_, by omega, by rw [e1]; omega, ?_⟩
    · rw [List.map_cons, q1, List.drop_eq_getElem_cons (show i < ts.length by omega)]
      congr 1
      rw [List.getElem?_eq_getElem (show i < ts.length by omega)] at ht
      exact (Option.some.inj ht).symm
    · rcases List.mem_cons.mp hp with rfl | hp
      · exact ⟨w, dk⟩
      · exact q2 p hp
    · cases x with
      | zero => cases hp; exact pk (by simpa using hx)
      | succ x => exact q3 x p (by simpa using hp) (by omega)
    · rw [List.range'_succ, List.map_cons, loopF_nx rfl hk, ke]
      refine q6.trans ?_
      rw [List.set_set, List.append_assoc]
      rfl
end
section
variable {P : Prog} [ND P] [H_l_next P] [H_l_names P] [H_l_plain P] [H_l_rows_kind P]
theorem rows_kind_ok {n a d : Nat} {ns : List Int} {B : Int} (g : GenK P (n + 2) a ns d B) (B0 : 0 ≤ B) {many : Nat} (hm0 : 0 < many) (hm : many ≤ 12) {st : Sto} {c : Int} (ha : st[a]? = some (cell c)) (h0 : 0 ≤ c) (h1 : c + (2 + (B + 1) * many) < 2 ^ 64) :
    ∃ (k : KD) (c' : Int), k.wf ∧ k.dep ≤ d + 1 ∧ c ≤ c' ∧ c' ≤ c + (2 + (B + 1) * many) ∧
      callF P (n + 3) (.f i_l_rows_kind) [.scr ns, .ref a, .int (many : Int), .int (d : Int)] st = .ok k.pv (st.set a (cell c')) := by
  have nn : 0 ≤ (B + 1) * (many : Int) := Int.mul_nonneg (by omega) (by omega)
  obtain ⟨ts, t1, t2, t3, hn⟩ := names_ok (P := P) (n := n) (ns := ns) (many := many) ha h0 (by omega) hm
  have ha1 : (st.set a (cell (c + 1)))[a]? = some (cell (c + 1)) := set_same ⟨_, ha⟩
  have hnx := next_ok (P := P) (n := n + 1) (ns := ns) ha1 (by omega) (by omega)
  obtain ⟨m0, m1⟩ := nextV_bd ns (c + 1 + 1)
  generalize nextV ns (c + 1 + 1) = m at hnx m0 m1
  rw [List.set_set] at hnx
  have ha2 : (st.set a (cell (c + 1 + 1)))[a]? = some (cell (c + 1 + 1)) := set_same ⟨_, ha⟩
  obtain ⟨ld, hld⟩ : ∃ ld : Nat, m % (many : Int) = ld := ⟨(m % (many : Int)).toNat, by have := Int.emod_nonneg m (show (many : Int) ≠ 0 by omega); omega⟩
  obtain ⟨b, hb⟩ : ∃ b : Nat, m / (many : Int) % ((many : Int) + 1) = b := ⟨(m / (many : Int) % ((many : Int) + 1)).toNat, by have := Int.emod_nonneg (m / (many : Int)) (show (many : Int) + 1 ≠ 0 by omega); omega⟩
  have hl1 : ld < many := by have := Int.emod_lt_of_pos m (show 0 < (many : Int) by omega); omega
  have hb1 : b < many + 1 := by have := Int.emod_lt_of_pos (m / (many : Int)) (show 0 < (many : Int) + 1 by omega); omega
  have d1 : modOp (.int m) (.int (many : Int)) = some (.int (ld : Int)) := by rw [mod_ii (by omega), hld]
  have d2 : fdivOp (.int m) (.int (many : Int)) = some (.int (m / (many : Int))) := div_ii (by omega) (by omega)
  have d3 : modOp (.int (m / (many : Int))) (.int ((many : Int) + 1)) = some (.int (b : Int)) := by rw [mod_ii (by omega), hb]
  obtain ⟨fs, c2, s9', s11', q1, q2, q3, q4, q5, q6⟩ := rk_loop (P := P) (n := n) (ts := ts) (ld := ld) (b := b) g B0 (by omega) (s2 := .fz (.int (many : Int))) (s5 := .fz (.int m)) (s10 := .un) many 0 .un .un [] _ _ (by omega) rfl ha2 (by omega) (by omega)
  rw [← rng0, List.set_set, List.nil_append] at q6
  rw [List.drop_zero] at q1
  have hfl : fs.length = many := by rw [← t1, ← q1, List.length_map]
  have sm : small62 (many : Int) = true := small_nat (by omega)
  have rs : rise fs := by unfold rise; rw [q1]; exact t2
  have kw : kwfs fs := kwfs_iff.mpr fun p hp => ⟨t3 _ (by rw [← q1]; exact List.mem_map_of_mem hp), (q2 p hp).1⟩
  have at_ : ∀ x, x < many → ∃ p, fs[x]? = some p ∧ ts[x]? = some p.1 := fun x hx => by
    obtain ⟨p, e⟩ : ∃ p, fs[x]? = some p := ⟨_, List.getElem?_eq_getElem (show x < fs.length by omega)⟩
    refine ⟨p, e, ?_⟩
    rw [← q1, List.getElem?_map, e]; rfl
  obtain ⟨pl, p1, p2⟩ := at_ ld hl1
  have pk : plainAt fs pl.1 := ⟨pl.2, List.mem_of_getElem? p1, q3 ld pl p1 (.inl (by omega))⟩
  have x1 := get_str p2
  have dk : kdeps fs + 1 ≤ d + 1 := by have := kdeps_le fun p hp => (q2 p hp).2; omega
  have tl : tupleOp (.lst (kpvs fs)) = some (.tup (kpvs fs)) := rfl
  by_cases hc : b < many ∧ b ≠ ld
  · obtain ⟨pb, p3, p4⟩ := at_ b hc.1
    have pb' : plainAt fs pb.1 := ⟨pb.2, List.mem_of_getElem? p3, q3 b pb p3 (.inr (by omega))⟩
    have x2 := get_str p4
    have ne : pb.1 ≠ pl.1 := fun e => by
      have nd := rise_nodup rs
      have e1 : (fs.map (·.1))[b]? = some pb.1 := by rw [List.getElem?_map, p3]; rfl
      have e2 : (fs.map (·.1))[ld]? = some pl.1 := by rw [List.getElem?_map, p1]; rfl
      rw [← e] at e2
      obtain ⟨i1, j1⟩ := List.getElem?_eq_some_iff.mp e1
      obtain ⟨i2, j2⟩ := List.getElem?_eq_some_iff.mp e2
      exact hc.2 ((List.getElem_inj nd).mp (j1.trans j2.symm))
    have lt1' : ltv (.int (b : Int)) (.int (many : Int)) = some true := by
      show some (decide ((b : Int) < (many : Int))) = _
      rw [decide_eq_true (by omega)]
    have hb2 : ((b : Int) == (ld : Int)) = false := by rw [beq_int]; exact decide_eq_false hc.2
    refine ⟨.rows pl.1 pb.1 fs, c2, ⟨⟨rs, by omega, pk, .inr ⟨ne, pb'⟩⟩, kw⟩, dk, by omega, by omega, ?_⟩
    rw [call_l_rows_kind]
    refine step_nx (by simp only [evSs, evS, evE, evEs, evO_none, evO_some, evIt, bind_ok, bind_exc, bind_bad, flow_ok, flow_exc, flow_bad, then_nx, then_ct, then_ret, then_exc, res_ok, res_exc, cr_ret, cr_nx, cr_exc, then_nil, then_tail, cr_tail, fixB, prim, ixL0, ixT0, ixT1, ixT2, ixT3, eq_ii, eq_ss, tq_cc, tq_cn, tq_nc, tq_nn, Nat.reduceBEq, Int.reduceBEq, Bool.true_and, Bool.false_and, bt_not, bf_not, wd, de_scr, de_tup, de_lst, de_dic, de_str, List.getElem?_cons_zero, List.getElem?_cons_succ, List.set_cons_zero, List.set_cons_succ, Option.bind_some, Option.map_some, hn]; rfl) ?_
    refine step_nx (by simp only [evSs, evS, evE, evEs, evO_none, evO_some, evIt, bind_ok, bind_exc, bind_bad, flow_ok, flow_exc, flow_bad, then_nx, then_ct, then_ret, then_exc, res_ok, res_exc, cr_ret, cr_nx, cr_exc, then_nil, then_tail, cr_tail, fixB, prim, ixL0, ixT0, ixT1, ixT2, ixT3, eq_ii, eq_ss, tq_cc, tq_cn, tq_nc, tq_nn, Nat.reduceBEq, Int.reduceBEq, Bool.true_and, Bool.false_and, bt_not, bf_not, wd, de_scr, de_tup, de_lst, de_dic, de_str, List.getElem?_cons_zero, List.getElem?_cons_succ, List.set_cons_zero, List.set_cons_succ, Option.bind_some, Option.map_some, hnx]; rfl) ?_
    refine step_nx (by simp only [evSs, evS, evE, evEs, evO_none, evO_some, evIt, bind_ok, bind_exc, bind_bad, flow_ok, flow_exc, flow_bad, then_nx, then_ct, then_ret, then_exc, res_ok, res_exc, cr_ret, cr_nx, cr_exc, then_nil, then_tail, cr_tail, fixB, prim, ixL0, ixT0, ixT1, ixT2, ixT3, eq_ii, eq_ss, tq_cc, tq_cn, tq_nc, tq_nn, Nat.reduceBEq, Int.reduceBEq, Bool.true_and, Bool.false_and, bt_not, bf_not, wd, de_scr, de_tup, de_lst, de_dic, de_str, List.getElem?_cons_zero, List.getElem?_cons_succ, List.set_cons_zero, List.set_cons_succ, Option.bind_some, Option.map_some, d1]; rfl) ?_
    refine step_nx (by simp only [evSs, evS, evE, evEs, evO_none, evO_some, evIt, bind_ok, bind_exc, bind_bad, flow_ok, flow_exc, flow_bad, then_nx, then_ct, then_ret, then_exc, res_ok, res_exc, cr_ret, cr_nx, cr_exc, then_nil, then_tail, cr_tail, fixB, prim, ixL0, ixT0, ixT1, ixT2, ixT3, eq_ii, eq_ss, tq_cc, tq_cn, tq_nc, tq_nn, Nat.reduceBEq, Int.reduceBEq, Bool.true_and, Bool.false_and, bt_not, bf_not, wd, de_scr, de_tup, de_lst, de_dic, de_str, List.getElem?_cons_zero, List.getElem?_cons_succ, List.set_cons_zero, List.set_cons_succ, Option.bind_some, Option.map_some, d2, d3, add_ii]; rfl) ?_
    refine step_nx (by simp only [evSs, evS, evE, evEs, evO_none, evO_some, evIt, bind_ok, bind_exc, bind_bad, flow_ok, flow_exc, flow_bad, then_nx, then_ct, then_ret, then_exc, res_ok, res_exc, cr_ret, cr_nx, cr_exc, then_nil, then_tail, cr_tail, fixB, prim, ixL0, ixT0, ixT1, ixT2, ixT3, eq_ii, eq_ss, tq_cc, tq_cn, tq_nc, tq_nn, Nat.reduceBEq, Int.reduceBEq, Bool.true_and, Bool.false_and, bt_not, bf_not, wd, de_scr, de_tup, de_lst, de_dic, de_str, List.getElem?_cons_zero, List.getElem?_cons_succ, List.set_cons_zero, List.set_cons_succ, Option.bind_some, Option.map_some, isCont, if_true]; rfl) ?_
    refine step_nx (for_step (evIt_rng1 (by simp only [evSs, evS, evE, evEs, evO_none, evO_some, evIt, bind_ok, bind_exc, bind_bad, flow_ok, flow_exc, flow_bad, then_nx, then_ct, then_ret, then_exc, res_ok, res_exc, cr_ret, cr_nx, cr_exc, then_nil, then_tail, cr_tail, fixB, prim, ixL0, ixT0, ixT1, ixT2, ixT3, eq_ii, eq_ss, tq_cc, tq_cn, tq_nc, tq_nn, Nat.reduceBEq, Int.reduceBEq, Bool.true_and, Bool.false_and, bt_not, bf_not, wd, de_scr, de_tup, de_lst, de_dic, de_str, List.getElem?_cons_zero, List.getElem?_cons_succ, List.set_cons_zero, List.set_cons_succ, Option.bind_some, Option.map_some]; rfl) sm) q6) ?_
    (repeat (first | refine step_nx (by simp only [evSs, evS, evE, evEs, evO_none, evO_some, evIt, bind_ok, bind_exc, bind_bad, flow_ok, flow_exc, flow_bad, then_nx, then_ct, then_ret, then_exc, res_ok, res_exc, cr_ret, cr_nx, cr_exc, then_nil, then_tail, cr_tail, fixB, prim, ixL0, ixT0, ixT1, ixT2, ixT3, eq_ii, eq_ss, tq_cc, tq_cn, tq_nc, tq_nn, Nat.reduceBEq, Int.reduceBEq, Bool.true_and, Bool.false_and, bt_not, bf_not, wd, de_scr, de_tup, de_lst, de_dic, de_str, List.getElem?_cons_zero, List.getElem?_cons_succ, List.set_cons_zero, List.set_cons_succ, Option.bind_some, Option.map_some, lt1', hb2, x1, x2, tl]; rfl) ?_ | refine step_ret (by simp only [evSs, evS, evE, evEs, evO_none, evO_some, evIt, bind_ok, bind_exc, bind_bad, flow_ok, flow_exc, flow_bad, then_nx, then_ct, then_ret, then_exc, res_ok, res_exc, cr_ret, cr_nx, cr_exc, then_nil, then_tail, cr_tail, fixB, prim, ixL0, ixT0, ixT1, ixT2, ixT3, eq_ii, eq_ss, tq_cc, tq_cn, tq_nc, tq_nn, Nat.reduceBEq, Int.reduceBEq, Bool.true_and, Bool.false_and, bt_not, bf_not, wd, de_scr, de_tup, de_lst, de_dic, de_str, List.getElem?_cons_zero, List.getElem?_cons_succ, List.set_cons_zero, List.set_cons_succ, Option.bind_some, Option.map_some, lt1', hb2, x1, x2, tl]; rfl)))
  · have lt2 : ltv (.int (b : Int)) (.int (many : Int)) = some (decide ((b : Int) < (many : Int))) := rfl
    have hb2 : (b : Int) < (many : Int) → ((b : Int) == (ld : Int)) = true := fun h => by rw [beq_int]; exact decide_eq_true (Decidable.byContradiction fun z => hc ⟨by omega, z⟩)
    refine ⟨.rows pl.1 [] fs, c2, ⟨⟨rs, by omega, pk, .inl rfl⟩, kw⟩, dk, by omega, by omega, ?_⟩
    rw [call_l_rows_kind]
    refine step_nx (by simp only [evSs, evS, evE, evEs, evO_none, evO_some, evIt, bind_ok, bind_exc, bind_bad, flow_ok, flow_exc, flow_bad, then_nx, then_ct, then_ret, then_exc, res_ok, res_exc, cr_ret, cr_nx, cr_exc, then_nil, then_tail, cr_tail, fixB, prim, ixL0, ixT0, ixT1, ixT2, ixT3, eq_ii, eq_ss, tq_cc, tq_cn, tq_nc, tq_nn, Nat.reduceBEq, Int.reduceBEq, Bool.true_and, Bool.false_and, bt_not, bf_not, wd, de_scr, de_tup, de_lst, de_dic, de_str, List.getElem?_cons_zero, List.getElem?_cons_succ, List.set_cons_zero, List.set_cons_succ, Option.bind_some, Option.map_some, hn]; rfl) ?_
    refine step_nx (by simp only [evSs, evS, evE, evEs, evO_none, evO_some, evIt, bind_ok, bind_exc, bind_bad, flow_ok, flow_exc, flow_bad, then_nx, then_ct, then_ret, then_exc, res_ok, res_exc, cr_ret, cr_nx, cr_exc, then_nil, then_tail, cr_tail, fixB, prim, ixL0, ixT0, ixT1, ixT2, ixT3, eq_ii, eq_ss, tq_cc, tq_cn, tq_nc, tq_nn, Nat.reduceBEq, Int.reduceBEq, Bool.true_and, Bool.false_and, bt_not, bf_not, wd, de_scr, de_tup, de_lst, de_dic, de_str, List.getElem?_cons_zero, List.getElem?_cons_succ, List.set_cons_zero, List.set_cons_succ, Option.bind_some, Option.map_some, hnx]; rfl) ?_
    refine step_nx (by simp only [evSs, evS, evE, evEs, evO_none, evO_some, evIt, bind_ok, bind_exc, bind_bad, flow_ok, flow_exc, flow_bad, then_nx, then_ct, then_ret, then_exc, res_ok, res_exc, cr_ret, cr_nx, cr_exc, then_nil, then_tail, cr_tail, fixB, prim, ixL0, ixT0, ixT1, ixT2, ixT3, eq_ii, eq_ss, tq_cc, tq_cn, tq_nc, tq_nn, Nat.reduceBEq, Int.reduceBEq, Bool.true_and, Bool.false_and, bt_not, bf_not, wd, de_scr, de_tup, de_lst, de_dic, de_str, List.getElem?_cons_zero, List.getElem?_cons_succ, List.set_cons_zero, List.set_cons_succ, Option.bind_some, Option.map_some, d1]; rfl) ?_
    refine step_nx (by simp only [evSs, evS, evE, evEs, evO_none, evO_some, evIt, bind_ok, bind_exc, bind_bad, flow_ok, flow_exc, flow_bad, then_nx, then_ct, then_ret, then_exc, res_ok, res_exc, cr_ret, cr_nx, cr_exc, then_nil, then_tail, cr_tail, fixB, prim, ixL0, ixT0, ixT1, ixT2, ixT3, eq_ii, eq_ss, tq_cc, tq_cn, tq_nc, tq_nn, Nat.reduceBEq, Int.reduceBEq, Bool.true_and, Bool.false_and, bt_not, bf_not, wd, de_scr, de_tup, de_lst, de_dic, de_str, List.getElem?_cons_zero, List.getElem?_cons_succ, List.set_cons_zero, List.set_cons_succ, Option.bind_some, Option.map_some, d2, d3, add_ii]; rfl) ?_
    refine step_nx (by simp only [evSs, evS, evE, evEs, evO_none, evO_some, evIt, bind_ok, bind_exc, bind_bad, flow_ok, flow_exc, flow_bad, then_nx, then_ct, then_ret, then_exc, res_ok, res_exc, cr_ret, cr_nx, cr_exc, then_nil, then_tail, cr_tail, fixB, prim, ixL0, ixT0, ixT1, ixT2, ixT3, eq_ii, eq_ss, tq_cc, tq_cn, tq_nc, tq_nn, Nat.reduceBEq, Int.reduceBEq, Bool.true_and, Bool.false_and, bt_not, bf_not, wd, de_scr, de_tup, de_lst, de_dic, de_str, List.getElem?_cons_zero, List.getElem?_cons_succ, List.set_cons_zero, List.set_cons_succ, Option.bind_some, Option.map_some, isCont, if_true]; rfl) ?_
    refine step_nx (for_step (evIt_rng1 (by simp only [evSs, evS, evE, evEs, evO_none, evO_some, evIt, bind_ok, bind_exc, bind_bad, flow_ok, flow_exc, flow_bad, then_nx, then_ct, then_ret, then_exc, res_ok, res_exc, cr_ret, cr_nx, cr_exc, then_nil, then_tail, cr_tail, fixB, prim, ixL0, ixT0, ixT1, ixT2, ixT3, eq_ii, eq_ss, tq_cc, tq_cn, tq_nc, tq_nn, Nat.reduceBEq, Int.reduceBEq, Bool.true_and, Bool.false_and, bt_not, bf_not, wd, de_scr, de_tup, de_lst, de_dic, de_str, List.getElem?_cons_zero, List.getElem?_cons_succ, List.set_cons_zero, List.set_cons_succ, Option.bind_some, Option.map_some]; rfl) sm) q6) ?_
    by_cases hlt : (b : Int) < (many : Int)
    · have hb3 := hb2 hlt
      rw [decide_eq_true hlt] at lt2
      (repeat (first | refine step_nx (by simp only [evSs, evS, evE, evEs, evO_none, evO_some, evIt, bind_ok, bind_exc, bind_bad, flow_ok, flow_exc, flow_bad, then_nx, then_ct, then_ret, then_exc, res_ok, res_exc, cr_ret, cr_nx, cr_exc, then_nil, then_tail, cr_tail, fixB, prim, ixL0, ixT0, ixT1, ixT2, ixT3, eq_ii, eq_ss, tq_cc, tq_cn, tq_nc, tq_nn, Nat.reduceBEq, Int.reduceBEq, Bool.true_and, Bool.false_and, bt_not, bf_not, wd, de_scr, de_tup, de_lst, de_dic, de_str, List.getElem?_cons_zero, List.getElem?_cons_succ, List.set_cons_zero, List.set_cons_succ, Option.bind_some, Option.map_some, lt2, hb3, x1, tl]; rfl) ?_ | refine step_ret (by simp only [evSs, evS, evE, evEs, evO_none, evO_some, evIt, bind_ok, bind_exc, bind_bad, flow_ok, flow_exc, flow_bad, then_nx, then_ct, then_ret, then_exc, res_ok, res_exc, cr_ret, cr_nx, cr_exc, then_nil, then_tail, cr_tail, fixB, prim, ixL0, ixT0, ixT1, ixT2, ixT3, eq_ii, eq_ss, tq_cc, tq_cn, tq_nc, tq_nn, Nat.reduceBEq, Int.reduceBEq, Bool.true_and, Bool.false_and, bt_not, bf_not, wd, de_scr, de_tup, de_lst, de_dic, de_str, List.getElem?_cons_zero, List.getElem?_cons_succ, List.set_cons_zero, List.set_cons_succ, Option.bind_some, Option.map_some, lt2, hb3, x1, tl]; rfl)))
    · rw [decide_eq_false hlt] at lt2
      (repeat (first | refine step_nx (by simp only [evSs, evS, evE, evEs, evO_none, evO_some, evIt, bind_ok, bind_exc, bind_bad, flow_ok, flow_exc, flow_bad, then_nx, then_ct, then_ret, then_exc, res_ok, res_exc, cr_ret, cr_nx, cr_exc, then_nil, then_tail, cr_tail, fixB, prim, ixL0, ixT0, ixT1, ixT2, ixT3, eq_ii, eq_ss, tq_cc, tq_cn, tq_nc, tq_nn, Nat.reduceBEq, Int.reduceBEq, Bool.true_and, Bool.false_and, bt_not, bf_not, wd, de_scr, de_tup, de_lst, de_dic, de_str, List.getElem?_cons_zero, List.getElem?_cons_succ, List.set_cons_zero, List.set_cons_succ, Option.bind_some, Option.map_some, lt2, x1, tl]; rfl) ?_ | refine step_ret (by simp only [evSs, evS, evE, evEs, evO_none, evO_some, evIt, bind_ok, bind_exc, bind_bad, flow_ok, flow_exc, flow_bad, then_nx, then_ct, then_ret, then_exc, res_ok, res_exc, cr_ret, cr_nx, cr_exc, then_nil, then_tail, cr_tail, fixB, prim, ixL0, ixT0, ixT1, ixT2, ixT3, eq_ii, eq_ss, tq_cc, tq_cn, tq_nc, tq_nn, Nat.reduceBEq, Int.reduceBEq, Bool.true_and, Bool.false_and, bt_not, bf_not, wd, de_scr, de_tup, de_lst, de_dic, de_str, List.getElem?_cons_zero, List.getElem?_cons_succ, List.set_cons_zero, List.set_cons_succ, Option.bind_some, Option.map_some, lt2, x1, tl]; rfl)))
end
end PB

end
section
set_option Elab.async false
set_option linter.all false
set_option maxRecDepth 100000
set_option exponentiation.threshold 10000
namespace PB
open PySem L2
def kB : Nat → Int
  | 0 => 2
  | d + 1 => 10 * kB d
theorem kB_pos : ∀ d, 2 ≤ kB d
  | 0 => by unfold kB; omega
  | d + 1 => by unfold kB; have := kB_pos d; omega
theorem ltv_ii (i j : Int) : ltv (.int i) (.int j) = some (decide (i < j)) := rfl
section
variable {P : Prog} [ND P] [H_l_next P] [H_l_names P] [H_l_plain P] [H_l_fields P] [H_l_rows_kind P] [H_l_kind P]
theorem kind_ok {a : Nat} {ns : List Int} : ∀ (d n : Nat), GenK P (n + 3 + 2 * d) a ns d (kB d) := by
  intro d
  induction d with
  | zero =>
    intro n st c ha h0 h1
    have hb := kB_pos 0
    have hnx := next_ok (P := P) (n := n + 1) (ns := ns) ha (by omega) (by omega)
    obtain ⟨m0, m1⟩ := nextV_bd ns (c + 1)
    generalize nextV ns (c + 1) = m at hnx m0 m1
    have ha1 : (st.set a (cell (c + 1)))[a]? = some (cell (c + 1)) := set_same ⟨_, ha⟩
    obtain ⟨k, pk, hp⟩ := plain_ok (P := P) (n := n) (ns := ns) ha1 (by omega) (by omega)
    rw [List.set_set] at hp
    refine ⟨k, c + 1 + 1, (plain_wf pk).1, by rw [(plain_wf pk).2]; omega, by omega, by unfold kB; omega, ?_⟩
    have l1 : ltv (.int 0) (.int ((0 : Nat) : Int)) = some false := rfl
    show callF P (n + 3) (.f i_l_kind) [.scr ns, .ref a, .int ((0 : Nat) : Int)] st = _
    rw [call_l_kind]
    refine step_nx (by simp only [evSs, evS, evE, evEs, evO_none, evO_some, evIt, bind_ok, bind_exc, bind_bad, flow_ok, flow_exc, flow_bad, then_nx, then_ct, then_ret, then_exc, res_ok, res_exc, cr_ret, cr_nx, cr_exc, then_nil, then_tail, cr_tail, fixB, prim, ixL0, ixT0, ixT1, ixT2, ixT3, eq_ii, eq_ss, tq_cc, tq_cn, tq_nc, tq_nn, Nat.reduceBEq, Int.reduceBEq, Bool.true_and, Bool.false_and, bt_not, bf_not, wd, de_scr, de_tup, de_lst, de_dic, de_str, List.getElem?_cons_zero, List.getElem?_cons_succ, List.set_cons_zero, List.set_cons_succ, Option.bind_some, Option.map_some, hnx]; rfl) ?_
    (repeat (first | refine step_nx (by simp only [evSs, evS, evE, evEs, evO_none, evO_some, evIt, bind_ok, bind_exc, bind_bad, flow_ok, flow_exc, flow_bad, then_nx, then_ct, then_ret, then_exc, res_ok, res_exc, cr_ret, cr_nx, cr_exc, then_nil, then_tail, cr_tail, fixB, prim, ixL0, ixT0, ixT1, ixT2, ixT3, eq_ii, eq_ss, tq_cc, tq_cn, tq_nc, tq_nn, Nat.reduceBEq, Int.reduceBEq, Bool.true_and, Bool.false_and, bt_not, bf_not, wd, de_scr, de_tup, de_lst, de_dic, de_str, List.getElem?_cons_zero, List.getElem?_cons_succ, List.set_cons_zero, List.set_cons_succ, Option.bind_some, Option.map_some, l1, hp]; rfl) ?_ | refine step_ret (by simp only [evSs, evS, evE, evEs, evO_none, evO_some, evIt, bind_ok, bind_exc, bind_bad, flow_ok, flow_exc, flow_bad, then_nx, then_ct, then_ret, then_exc, res_ok, res_exc, cr_ret, cr_nx, cr_exc, then_nil, then_tail, cr_tail, fixB, prim, ixL0, ixT0, ixT1, ixT2, ixT3, eq_ii, eq_ss, tq_cc, tq_cn, tq_nc, tq_nn, Nat.reduceBEq, Int.reduceBEq, Bool.true_and, Bool.false_and, bt_not, bf_not, wd, de_scr, de_tup, de_lst, de_dic, de_str, List.getElem?_cons_zero, List.getElem?_cons_succ, List.set_cons_zero, List.set_cons_succ, Option.bind_some, Option.map_some, l1, hp]; rfl)))
  | succ d ih =>
    intro n st c ha h0 h1
    have hb := kB_pos d
    have e10 : kB (d + 1) = 10 * kB d := rfl
    have hnx := next_ok (P := P) (n := n + 3 + 2 * d) (ns := ns) ha (by omega) (by omega)
    obtain ⟨m0, m1⟩ := nextV_bd ns (c + 1)
    generalize nextV ns (c + 1) = m at hnx m0 m1
    have ha1 : (st.set a (cell (c + 1)))[a]? = some (cell (c + 1)) := set_same ⟨_, ha⟩
    have l1 : ltv (.int 0) (.int ((d + 1 : Nat) : Int)) = some true := by rw [ltv_ii, decide_eq_true (by omega)]
    have r10 : modOp (.int m) (.int 10) = some (.int (m % 10)) := mod_ii (by decide)
    have v10 : fdivOp (.int m) (.int 10) = some (.int (m / 10)) := div_ii (by decide) (by decide)
    have r3 : ∀ i, modOp (.int i) (.int 3) = some (.int (i % 3)) := fun i => mod_ii (by decide)
    have r4 : ∀ i, modOp (.int i) (.int 4) = some (.int (i % 4)) := fun i => mod_ii (by decide)
    have sb : subOp (.int ((d + 1 : Nat) : Int)) (.int 1) = some (.int (d : Int)) := by rw [sub_ii]; congr 2; omega
    have q0 : 0 ≤ m % 10 := Int.emod_nonneg _ (by decide)
    have q1 : m % 10 < 10 := Int.emod_lt_of_pos _ (by decide)
    have en : n + 3 + 2 * (d + 1) = (n + 3 + 2 * d + 1) + 1 := by omega
    have ih1 : GenK P (n + 3 + 2 * d + 1) a ns d (kB d) := by have := ih (n + 1); rwa [show n + 1 + 3 + 2 * d = n + 3 + 2 * d + 1 by omega] at this
    have ih0 : GenK P (n + 1 + 2 * d + 2) a ns d (kB d) := by have := ih n; rwa [show n + 3 + 2 * d = n + 1 + 2 * d + 2 by omega] at this
    rw [en]
    by_cases c3 : m % 10 < 3
    · obtain ⟨k, pk, hp⟩ := plain_ok (P := P) (n := n + 2 + 2 * d) (ns := ns) ha1 (by omega) (by omega)
      rw [List.set_set, show n + 2 + 2 * d + 2 = n + 3 + 2 * d + 1 by omega] at hp
      refine ⟨k, c + 1 + 1, (plain_wf pk).1, by rw [(plain_wf pk).2]; omega, by omega, by omega, ?_⟩
      have l2 : ltv (.int (m % 10)) (.int 3) = some true := by rw [ltv_ii, decide_eq_true c3]
      rw [call_l_kind]
      refine step_nx (by simp only [evSs, evS, evE, evEs, evO_none, evO_some, evIt, bind_ok, bind_exc, bind_bad, flow_ok, flow_exc, flow_bad, then_nx, then_ct, then_ret, then_exc, res_ok, res_exc, cr_ret, cr_nx, cr_exc, then_nil, then_tail, cr_tail, fixB, prim, ixL0, ixT0, ixT1, ixT2, ixT3, eq_ii, eq_ss, tq_cc, tq_cn, tq_nc, tq_nn, Nat.reduceBEq, Int.reduceBEq, Bool.true_and, Bool.false_and, bt_not, bf_not, wd, de_scr, de_tup, de_lst, de_dic, de_str, List.getElem?_cons_zero, List.getElem?_cons_succ, List.set_cons_zero, List.set_cons_succ, Option.bind_some, Option.map_some, hnx]; rfl) ?_
      (repeat (first | refine step_nx (by simp only [evSs, evS, evE, evEs, evO_none, evO_some, evIt, bind_ok, bind_exc, bind_bad, flow_ok, flow_exc, flow_bad, then_nx, then_ct, then_ret, then_exc, res_ok, res_exc, cr_ret, cr_nx, cr_exc, then_nil, then_tail, cr_tail, fixB, prim, ixL0, ixT0, ixT1, ixT2, ixT3, eq_ii, eq_ss, tq_cc, tq_cn, tq_nc, tq_nn, Nat.reduceBEq, Int.reduceBEq, Bool.true_and, Bool.false_and, bt_not, bf_not, wd, de_scr, de_tup, de_lst, de_dic, de_str, List.getElem?_cons_zero, List.getElem?_cons_succ, List.set_cons_zero, List.set_cons_succ, Option.bind_some, Option.map_some, l1, r10, l2, hp]; rfl) ?_ | refine step_ret (by simp only [evSs, evS, evE, evEs, evO_none, evO_some, evIt, bind_ok, bind_exc, bind_bad, flow_ok, flow_exc, flow_bad, then_nx, then_ct, then_ret, then_exc, res_ok, res_exc, cr_ret, cr_nx, cr_exc, then_nil, then_tail, cr_tail, fixB, prim, ixL0, ixT0, ixT1, ixT2, ixT3, eq_ii, eq_ss, tq_cc, tq_cn, tq_nc, tq_nn, Nat.reduceBEq, Int.reduceBEq, Bool.true_and, Bool.false_and, bt_not, bf_not, wd, de_scr, de_tup, de_lst, de_dic, de_str, List.getElem?_cons_zero, List.getElem?_cons_succ, List.set_cons_zero, List.set_cons_succ, Option.bind_some, Option.map_some, l1, r10, l2, hp]; rfl)))
    have l2 : ltv (.int (m % 10)) (.int 3) = some false := by rw [ltv_ii, decide_eq_false c3]
    by_cases c6 : m % 10 < 6
    · have l3 : ltv (.int (m % 10)) (.int 6) = some true := by rw [ltv_ii, decide_eq_true c6]
      obtain ⟨j, hj⟩ : ∃ j : Nat, m / 10 % 4 = j := ⟨(m / 10 % 4).toNat, by have := Int.emod_nonneg (m / 10) (show (4 : Int) ≠ 0 by decide); omega⟩
      have j1 : j < 4 := by have := Int.emod_lt_of_pos (m / 10) (show (0 : Int) < 4 by decide); omega
      have jb : kB d * (j : Int) ≤ kB d * 3 := Int.mul_le_mul_of_nonneg_left (by omega) (by omega)
      obtain ⟨fs, c', f1, f2, f3, f4, f5, f6, hf⟩ := fields_ok (P := P) (many := j) ih0 (by omega) (by omega) ha1 (by omega) (by omega)
      rw [List.set_set, show n + 1 + 2 * d + 3 = n + 3 + 2 * d + 1 by omega] at hf
      have r4' := r4 (m / 10)
      rw [hj] at r4'
      refine ⟨.rec_ fs, c', ⟨⟨f2, by omega⟩, kwfs_iff.mpr fun p hp => ⟨f3 p hp, (f4 p hp).1⟩⟩, ?_, by omega, by omega, ?_⟩
      · have := kdeps_le fun p hp => (f4 p hp).2
        show kdeps fs + 1 ≤ d + 1
        omega
      rw [call_l_kind]
      refine step_nx (by simp only [evSs, evS, evE, evEs, evO_none, evO_some, evIt, bind_ok, bind_exc, bind_bad, flow_ok, flow_exc, flow_bad, then_nx, then_ct, then_ret, then_exc, res_ok, res_exc, cr_ret, cr_nx, cr_exc, then_nil, then_tail, cr_tail, fixB, prim, ixL0, ixT0, ixT1, ixT2, ixT3, eq_ii, eq_ss, tq_cc, tq_cn, tq_nc, tq_nn, Nat.reduceBEq, Int.reduceBEq, Bool.true_and, Bool.false_and, bt_not, bf_not, wd, de_scr, de_tup, de_lst, de_dic, de_str, List.getElem?_cons_zero, List.getElem?_cons_succ, List.set_cons_zero, List.set_cons_succ, Option.bind_some, Option.map_some, hnx]; rfl) ?_
      (repeat (first | refine step_nx (by simp only [evSs, evS, evE, evEs, evO_none, evO_some, evIt, bind_ok, bind_exc, bind_bad, flow_ok, flow_exc, flow_bad, then_nx, then_ct, then_ret, then_exc, res_ok, res_exc, cr_ret, cr_nx, cr_exc, then_nil, then_tail, cr_tail, fixB, prim, ixL0, ixT0, ixT1, ixT2, ixT3, eq_ii, eq_ss, tq_cc, tq_cn, tq_nc, tq_nn, Nat.reduceBEq, Int.reduceBEq, Bool.true_and, Bool.false_and, bt_not, bf_not, wd, de_scr, de_tup, de_lst, de_dic, de_str, List.getElem?_cons_zero, List.getElem?_cons_succ, List.set_cons_zero, List.set_cons_succ, Option.bind_some, Option.map_some, l1, r10, l2, l3, v10, r4', sb, hf]; rfl) ?_ | refine step_ret (by simp only [evSs, evS, evE, evEs, evO_none, evO_some, evIt, bind_ok, bind_exc, bind_bad, flow_ok, flow_exc, flow_bad, then_nx, then_ct, then_ret, then_exc, res_ok, res_exc, cr_ret, cr_nx, cr_exc, then_nil, then_tail, cr_tail, fixB, prim, ixL0, ixT0, ixT1, ixT2, ixT3, eq_ii, eq_ss, tq_cc, tq_cn, tq_nc, tq_nn, Nat.reduceBEq, Int.reduceBEq, Bool.true_and, Bool.false_and, bt_not, bf_not, wd, de_scr, de_tup, de_lst, de_dic, de_str, List.getElem?_cons_zero, List.getElem?_cons_succ, List.set_cons_zero, List.set_cons_succ, Option.bind_some, Option.map_some, l1, r10, l2, l3, v10, r4', sb, hf]; rfl)))
    have l3 : ltv (.int (m % 10)) (.int 6) = some false := by rw [ltv_ii, decide_eq_false c6]
    obtain ⟨j, hj⟩ : ∃ j : Nat, m / 10 % 3 = j := ⟨(m / 10 % 3).toNat, by have := Int.emod_nonneg (m / 10) (show (3 : Int) ≠ 0 by decide); omega⟩
    have j1 : j < 3 := by have := Int.emod_lt_of_pos (m / 10) (show (0 : Int) < 3 by decide); omega
    have jb : (kB d + 1) * ((1 + j : Nat) : Int) ≤ (kB d + 1) * 3 := Int.mul_le_mul_of_nonneg_left (by omega) (by omega)
    have jb2 : kB d * ((1 + j : Nat) : Int) ≤ kB d * 3 := Int.mul_le_mul_of_nonneg_left (by omega) (by omega)
    have r3' := r3 (m / 10)
    rw [hj] at r3'
    have a1 : addOp (.int 1) (.int (j : Int)) = some (.int ((1 + j : Nat) : Int)) := by rw [add_ii]; congr 2
    by_cases c8 : m % 10 < 8
    · have l4 : ltv (.int (m % 10)) (.int 8) = some true := by rw [ltv_ii, decide_eq_true c8]
      obtain ⟨k, c', w, dk, f5, f6, hf⟩ := rows_kind_ok (P := P) (many := 1 + j) ih0 (by omega) (by omega) (by omega) ha1 (by omega) (by omega)
      rw [List.set_set, show n + 1 + 2 * d + 3 = n + 3 + 2 * d + 1 by omega] at hf
      refine ⟨k, c', w, dk, by omega, by omega, ?_⟩
      rw [call_l_kind]
      refine step_nx (by simp only [evSs, evS, evE, evEs, evO_none, evO_some, evIt, bind_ok, bind_exc, bind_bad, flow_ok, flow_exc, flow_bad, then_nx, then_ct, then_ret, then_exc, res_ok, res_exc, cr_ret, cr_nx, cr_exc, then_nil, then_tail, cr_tail, fixB, prim, ixL0, ixT0, ixT1, ixT2, ixT3, eq_ii, eq_ss, tq_cc, tq_cn, tq_nc, tq_nn, Nat.reduceBEq, Int.reduceBEq, Bool.true_and, Bool.false_and, bt_not, bf_not, wd, de_scr, de_tup, de_lst, de_dic, de_str, List.getElem?_cons_zero, List.getElem?_cons_succ, List.set_cons_zero, List.set_cons_succ, Option.bind_some, Option.map_some, hnx]; rfl) ?_
      (repeat (first | refine step_nx (by simp only [evSs, evS, evE, evEs, evO_none, evO_some, evIt, bind_ok, bind_exc, bind_bad, flow_ok, flow_exc, flow_bad, then_nx, then_ct, then_ret, then_exc, res_ok, res_exc, cr_ret, cr_nx, cr_exc, then_nil, then_tail, cr_tail, fixB, prim, ixL0, ixT0, ixT1, ixT2, ixT3, eq_ii, eq_ss, tq_cc, tq_cn, tq_nc, tq_nn, Nat.reduceBEq, Int.reduceBEq, Bool.true_and, Bool.false_and, bt_not, bf_not, wd, de_scr, de_tup, de_lst, de_dic, de_str, List.getElem?_cons_zero, List.getElem?_cons_succ, List.set_cons_zero, List.set_cons_succ, Option.bind_some, Option.map_some, l1, r10, l2, l3, l4, v10, r3', a1, sb, hf]; rfl) ?_ | refine step_ret (by simp only [evSs, evS, evE, evEs, evO_none, evO_some, evIt, bind_ok, bind_exc, bind_bad, flow_ok, flow_exc, flow_bad, then_nx, then_ct, then_ret, then_exc, res_ok, res_exc, cr_ret, cr_nx, cr_exc, then_nil, then_tail, cr_tail, fixB, prim, ixL0, ixT0, ixT1, ixT2, ixT3, eq_ii, eq_ss, tq_cc, tq_cn, tq_nc, tq_nn, Nat.reduceBEq, Int.reduceBEq, Bool.true_and, Bool.false_and, bt_not, bf_not, wd, de_scr, de_tup, de_lst, de_dic, de_str, List.getElem?_cons_zero, List.getElem?_cons_succ, List.set_cons_zero, List.set_cons_succ, Option.bind_some, Option.map_some, l1, r10, l2, l3, l4, v10, r3', a1, sb, hf]; rfl)))
    have l4 : ltv (.int (m % 10)) (.int 8) = some false := by rw [ltv_ii, decide_eq_false c8]
    by_cases c9 : m % 10 = 8
    · have l5 : (m % 10 == 8) = true := by rw [c9]; rfl
      obtain ⟨k, c', w, dk, f5, f6, hf⟩ := ih1 _ _ ha1 (by omega) (by omega)
      rw [List.set_set] at hf
      refine ⟨.tree k, c', w, Nat.succ_le_succ dk, by omega, by omega, ?_⟩
      rw [call_l_kind]
      refine step_nx (by simp only [evSs, evS, evE, evEs, evO_none, evO_some, evIt, bind_ok, bind_exc, bind_bad, flow_ok, flow_exc, flow_bad, then_nx, then_ct, then_ret, then_exc, res_ok, res_exc, cr_ret, cr_nx, cr_exc, then_nil, then_tail, cr_tail, fixB, prim, ixL0, ixT0, ixT1, ixT2, ixT3, eq_ii, eq_ss, tq_cc, tq_cn, tq_nc, tq_nn, Nat.reduceBEq, Int.reduceBEq, Bool.true_and, Bool.false_and, bt_not, bf_not, wd, de_scr, de_tup, de_lst, de_dic, de_str, List.getElem?_cons_zero, List.getElem?_cons_succ, List.set_cons_zero, List.set_cons_succ, Option.bind_some, Option.map_some, hnx]; rfl) ?_
      (repeat (first | refine step_nx (by simp only [evSs, evS, evE, evEs, evO_none, evO_some, evIt, bind_ok, bind_exc, bind_bad, flow_ok, flow_exc, flow_bad, then_nx, then_ct, then_ret, then_exc, res_ok, res_exc, cr_ret, cr_nx, cr_exc, then_nil, then_tail, cr_tail, fixB, prim, ixL0, ixT0, ixT1, ixT2, ixT3, eq_ii, eq_ss, tq_cc, tq_cn, tq_nc, tq_nn, Nat.reduceBEq, Int.reduceBEq, Bool.true_and, Bool.false_and, bt_not, bf_not, wd, de_scr, de_tup, de_lst, de_dic, de_str, List.getElem?_cons_zero, List.getElem?_cons_succ, List.set_cons_zero, List.set_cons_succ, Option.bind_some, Option.map_some, l1, r10, l2, l3, l4, l5, sb, hf]; rfl) ?_ | refine step_ret (by simp only [evSs, evS, evE, evEs, evO_none, evO_some, evIt, bind_ok, bind_exc, bind_bad, flow_ok, flow_exc, flow_bad, then_nx, then_ct, then_ret, then_exc, res_ok, res_exc, cr_ret, cr_nx, cr_exc, then_nil, then_tail, cr_tail, fixB, prim, ixL0, ixT0, ixT1, ixT2, ixT3, eq_ii, eq_ss, tq_cc, tq_cn, tq_nc, tq_nn, Nat.reduceBEq, Int.reduceBEq, Bool.true_and, Bool.false_and, bt_not, bf_not, wd, de_scr, de_tup, de_lst, de_dic, de_str, List.getElem?_cons_zero, List.getElem?_cons_succ, List.set_cons_zero, List.set_cons_succ, Option.bind_some, Option.map_some, l1, r10, l2, l3, l4, l5, sb, hf]; rfl)))
    · have l5 : (m % 10 == 8) = false := beq_eq_false_iff_ne.mpr c9
      obtain ⟨fs, c', f1, f2, f3, f4, f5, f6, hf⟩ := fields_ok (P := P) (many := 1 + j) ih0 (by omega) (by omega) ha1 (by omega) (by omega)
      rw [List.set_set, show n + 1 + 2 * d + 3 = n + 3 + 2 * d + 1 by omega] at hf
      refine ⟨.eith fs, c', ⟨⟨f2, by omega, fun e => by rw [e] at f1; simp at f1; omega⟩, kwfs_iff.mpr fun p hp => ⟨f3 p hp, (f4 p hp).1⟩⟩, ?_, by omega, by omega, ?_⟩
      · have := kdeps_le fun p hp => (f4 p hp).2
        show kdeps fs + 1 ≤ d + 1
        omega
      rw [call_l_kind]
      refine step_nx (by simp only [evSs, evS, evE, evEs, evO_none, evO_some, evIt, bind_ok, bind_exc, bind_bad, flow_ok, flow_exc, flow_bad, then_nx, then_ct, then_ret, then_exc, res_ok, res_exc, cr_ret, cr_nx, cr_exc, then_nil, then_tail, cr_tail, fixB, prim, ixL0, ixT0, ixT1, ixT2, ixT3, eq_ii, eq_ss, tq_cc, tq_cn, tq_nc, tq_nn, Nat.reduceBEq, Int.reduceBEq, Bool.true_and, Bool.false_and, bt_not, bf_not, wd, de_scr, de_tup, de_lst, de_dic, de_str, List.getElem?_cons_zero, List.getElem?_cons_succ, List.set_cons_zero, List.set_cons_succ, Option.bind_some, Option.map_some, hnx]; rfl) ?_
      (repeat (first | refine step_nx (by simp only [evSs, evS, evE, evEs, evO_none, evO_some, evIt, bind_ok, bind_exc, bind_bad, flow_ok, flow_exc, flow_bad, then_nx, then_ct, then_ret, then_exc, res_ok, res_exc, cr_ret, cr_nx, cr_exc, then_nil, then_tail, cr_tail, fixB, prim, ixL0, ixT0, ixT1, ixT2, ixT3, eq_ii, eq_ss, tq_cc, tq_cn, tq_nc, tq_nn, Nat.reduceBEq, Int.reduceBEq, Bool.true_and, Bool.false_and, bt_not, bf_not, wd, de_scr, de_tup, de_lst, de_dic, de_str, List.getElem?_cons_zero, List.getElem?_cons_succ, List.set_cons_zero, List.set_cons_succ, Option.bind_some, Option.map_some, l1, r10, l2, l3, l4, l5, v10, r3', a1, sb, hf]; rfl) ?_ | refine step_ret (by simp only [evSs, evS, evE, evEs, evO_none, evO_some, evIt, bind_ok, bind_exc, bind_bad, flow_ok, flow_exc, flow_bad, then_nx, then_ct, then_ret, then_exc, res_ok, res_exc, cr_ret, cr_nx, cr_exc, then_nil, then_tail, cr_tail, fixB, prim, ixL0, ixT0, ixT1, ixT2, ixT3, eq_ii, eq_ss, tq_cc, tq_cn, tq_nc, tq_nn, Nat.reduceBEq, Int.reduceBEq, Bool.true_and, Bool.false_and, bt_not, bf_not, wd, de_scr, de_tup, de_lst, de_dic, de_str, List.getElem?_cons_zero, List.getElem?_cons_succ, List.set_cons_zero, List.set_cons_succ, Option.bind_some, Option.map_some, l1, r10, l2, l3, l4, l5, v10, r3', a1, sb, hf]; rfl)))
end
end PB

end
section
set_option Elab.async false
set_option linter.all false
set_option maxRecDepth 100000
set_option exponentiation.threshold 10000
namespace PB
open PySem L2
mutual
/-- the empty value -/
def KD.emp : KD → PV
  | .num => .int 0
  | .word => .str []
  | .rec_ fs => .dic (kemps fs)
  | .rows _ _ _ => .lst []
  | .tree k => .tup [k.emp, .lst []]
  | .eith fs => kemp1 fs
def kemps : List (Tx × KD) → List (K2 × PV)
  | [] => []
  | (n, k) :: r => (.s n, k.emp) :: kemps r
def kemp1 : List (Tx × KD) → PV
  | [] => .non
  | (n, k) :: _ => .tup [.str n, k.emp]
end
theorem kemps_none : ∀ {fs : KF} {n : Tx}, (∀ p ∈ fs, n ≠ p.1) → look (.s n) (kemps fs) = none
  | [], _, _ => by unfold kemps; rfl
  | (m, k) :: r, n, h => by
    unfold kemps look
    rw [if_neg (fun z => by cases z; exact h _ List.mem_cons_self rfl)]
    exact kemps_none fun p hp => h p (List.mem_cons_of_mem _ hp)
theorem kemps_look : ∀ {fs : KF} {p : Tx × KD}, rise fs → p ∈ fs → look (.s p.1) (kemps fs) = some p.2.emp
  | (n, k) :: r, p, nd, h => by
    unfold kemps look
    rcases List.mem_cons.mp h with rfl | g
    · rw [if_pos rfl]
    · rw [if_neg (fun z => (rise_cons nd).1 p g (K2.s.inj z))]
      exact kemps_look (rise_cons nd).2 g
theorem kemps_len : ∀ {fs : KF}, (kemps fs).length = fs.length
  | [] => rfl
  | (_, _) :: r => by unfold kemps; rw [List.length_cons, kemps_len, List.length_cons]
/-! ### empty, empty_record -/
section
variable {P : Prog} [ND P] [H_empty P] [H_empty_record P]
theorem emptyF_loop {n : Nat} {st : Sto} : ∀ (fs : KF) (d : List (K2 × PV)) (F : PV) (a b : Slot), (∀ p ∈ fs, callF P n (.f i_empty) [p.2.pv] st = .ok p.2.emp st) → rise fs → (∀ p ∈ fs, look (.s p.1) d = none) → d.length + fs.length ≤ 1000 →
    ∃ a' b', loopF (.two 2 3) (evSs P (callF P n) b1_empty_record) (kpvs fs) [.fz F, .ow (.dic d), a, b] st = .nx [.fz F, .ow (.dic (d ++ kemps fs)), a', b'] st
  | [], d, F, a, b, _, _, _, _ => ⟨a, b, by unfold kpvs kemps; rw [loopF_nil, List.append_nil]⟩
  | (m, k) :: r, d, F, a, b, ih, nd, hf, hl => by
    rw [List.length_cons] at hl
    have hn := hf (m, k) List.mem_cons_self
    have hk := ih (m, k) List.mem_cons_self
    have hs : ∀ v, mutF .setIx (.dic d) [.str m, v] = some (.dic (d ++ [(.s m, v)]), .non) := fun v => by rw [mut_setS (by unfold lim; omega), put_new hn]
    obtain ⟨a', b', e⟩ := emptyF_loop r (d ++ [(.s m, k.emp)]) F (.fz (.str m)) (.fz k.pv) (fun p h => ih p (List.mem_cons_of_mem _ h)) (rise_cons nd).2 (fun p hp => by
      rw [look_append_ne (fun z => by cases z; exact (rise_cons nd).1 p hp rfl)]
      exact hf p (List.mem_cons_of_mem _ hp)) (by rw [List.length_append]; simp; omega)
    refine ⟨a', b', ?_⟩
    have h1 : evSs P (callF P n) b1_empty_record [.fz F, .ow (.dic d), .fz (.str m), .fz k.pv] st = .nx [.fz F, .ow (.dic (d ++ [(.s m, k.emp)])), .fz (.str m), .fz k.pv] st := by
      unfold b1_empty_record
      (repeat (first | exact stp_nil | refine stp_nx (by simp only [evSs, evS, evE, evEs, evO_none, evO_some, evIt, bind_ok, bind_exc, bind_bad, flow_ok, flow_exc, flow_bad, then_nx, then_ct, then_ret, then_exc, res_ok, res_exc, cr_ret, cr_nx, cr_exc, then_nil, then_tail, cr_tail, fixB, prim, ixL0, ixT0, ixT1, ixT2, ixT3, eq_ii, eq_ss, tq_cc, tq_cn, tq_nc, tq_nn, Nat.reduceBEq, Int.reduceBEq, Bool.true_and, Bool.false_and, bt_not, bf_not, wd, de_scr, de_tup, de_lst, de_dic, de_str, List.getElem?_cons_zero, List.getElem?_cons_succ, List.set_cons_zero, List.set_cons_succ, Option.bind_some, Option.map_some, hk, hs]; rfl) ?_ | refine stp_ret (by simp only [evSs, evS, evE, evEs, evO_none, evO_some, evIt, bind_ok, bind_exc, bind_bad, flow_ok, flow_exc, flow_bad, then_nx, then_ct, then_ret, then_exc, res_ok, res_exc, cr_ret, cr_nx, cr_exc, then_nil, then_tail, cr_tail, fixB, prim, ixL0, ixT0, ixT1, ixT2, ixT3, eq_ii, eq_ss, tq_cc, tq_cn, tq_nc, tq_nn, Nat.reduceBEq, Int.reduceBEq, Bool.true_and, Bool.false_and, bt_not, bf_not, wd, de_scr, de_tup, de_lst, de_dic, de_str, List.getElem?_cons_zero, List.getElem?_cons_succ, List.set_cons_zero, List.set_cons_succ, Option.bind_some, Option.map_some, hk, hs]; rfl)))
    unfold kpvs kemps
    rw [loopF_nx rfl h1, e, List.append_assoc]
    rfl
theorem emptyR_ok {n : Nat} {st : Sto} {fs : KF} (ih : ∀ p ∈ fs, callF P n (.f i_empty) [p.2.pv] st = .ok p.2.emp st) (nd : rise fs) (hl : fs.length ≤ 12) : callF P (n + 1) (.f i_empty_record) [.tup (kpvs fs)] st = .ok (.dic (kemps fs)) st := by
  obtain ⟨a', b', e⟩ := emptyF_loop fs [] (.tup (kpvs fs)) .un .un ih nd (fun _ _ => rfl) (by simp; omega)
  rw [List.nil_append] at e
  rw [call_empty_record]
  (repeat (first | refine step_nx (by simp only [evSs, evS, evE, evEs, evO_none, evO_some, evIt, bind_ok, bind_exc, bind_bad, flow_ok, flow_exc, flow_bad, then_nx, then_ct, then_ret, then_exc, res_ok, res_exc, cr_ret, cr_nx, cr_exc, then_nil, then_tail, cr_tail, fixB, prim, ixL0, ixT0, ixT1, ixT2, ixT3, eq_ii, eq_ss, tq_cc, tq_cn, tq_nc, tq_nn, Nat.reduceBEq, Int.reduceBEq, Bool.true_and, Bool.false_and, bt_not, bf_not, wd, de_scr, de_tup, de_lst, de_dic, de_str, List.getElem?_cons_zero, List.getElem?_cons_succ, List.set_cons_zero, List.set_cons_succ, Option.bind_some, Option.map_some, unzipD, puts, isCont, if_true, seqOf, e]; rfl) ?_ | refine step_ret (by simp only [evSs, evS, evE, evEs, evO_none, evO_some, evIt, bind_ok, bind_exc, bind_bad, flow_ok, flow_exc, flow_bad, then_nx, then_ct, then_ret, then_exc, res_ok, res_exc, cr_ret, cr_nx, cr_exc, then_nil, then_tail, cr_tail, fixB, prim, ixL0, ixT0, ixT1, ixT2, ixT3, eq_ii, eq_ss, tq_cc, tq_cn, tq_nc, tq_nn, Nat.reduceBEq, Int.reduceBEq, Bool.true_and, Bool.false_and, bt_not, bf_not, wd, de_scr, de_tup, de_lst, de_dic, de_str, List.getElem?_cons_zero, List.getElem?_cons_succ, List.set_cons_zero, List.set_cons_succ, Option.bind_some, Option.map_some, unzipD, puts, isCont, if_true, seqOf, e]; rfl)))
theorem empty_ok : ∀ (n : Nat) (st : Sto) (k : KD), k.wf → 2 * k.dep < n → callF P n (.f i_empty) [k.pv] st = .ok k.emp st := by
  intro n
  induction n using Nat.strongRecOn with
  | ind n ih =>
    intro st k hw hd
    cases n with
    | zero => omega
    | succ n =>
      rw [call_empty]
      cases k with
      | num => unfold KD.pv KD.emp; rfl
      | word => unfold KD.pv KD.emp; rfl
      | rows key by_ fs => unfold KD.pv KD.emp; rfl
      | rec_ fs =>
        unfold KD.wf at hw
        unfold KD.dep at hd
        cases n with
        | zero => omega
        | succ n =>
          have h := emptyR_ok (n := n) (st := st) (fs := fs) (fun p hp => ih n (by omega) st p.2 (kwfs_mem hw.2 hp) (by have := kdeps_mem hp; omega)) hw.1.1 hw.1.2
          unfold KD.pv KD.emp tRecord
          (repeat (first | refine step_nx (by simp only [evSs, evS, evE, evEs, evO_none, evO_some, evIt, bind_ok, bind_exc, bind_bad, flow_ok, flow_exc, flow_bad, then_nx, then_ct, then_ret, then_exc, res_ok, res_exc, cr_ret, cr_nx, cr_exc, then_nil, then_tail, cr_tail, fixB, prim, ixL0, ixT0, ixT1, ixT2, ixT3, eq_ii, eq_ss, tq_cc, tq_cn, tq_nc, tq_nn, Nat.reduceBEq, Int.reduceBEq, Bool.true_and, Bool.false_and, bt_not, bf_not, wd, de_scr, de_tup, de_lst, de_dic, de_str, List.getElem?_cons_zero, List.getElem?_cons_succ, List.set_cons_zero, List.set_cons_succ, Option.bind_some, Option.map_some, h]; rfl) ?_ | refine step_ret (by simp only [evSs, evS, evE, evEs, evO_none, evO_some, evIt, bind_ok, bind_exc, bind_bad, flow_ok, flow_exc, flow_bad, then_nx, then_ct, then_ret, then_exc, res_ok, res_exc, cr_ret, cr_nx, cr_exc, then_nil, then_tail, cr_tail, fixB, prim, ixL0, ixT0, ixT1, ixT2, ixT3, eq_ii, eq_ss, tq_cc, tq_cn, tq_nc, tq_nn, Nat.reduceBEq, Int.reduceBEq, Bool.true_and, Bool.false_and, bt_not, bf_not, wd, de_scr, de_tup, de_lst, de_dic, de_str, List.getElem?_cons_zero, List.getElem?_cons_succ, List.set_cons_zero, List.set_cons_succ, Option.bind_some, Option.map_some, h]; rfl)))
      | tree k =>
        unfold KD.wf at hw
        unfold KD.dep at hd
        have h := ih n (by omega) st k hw (by omega)
        unfold KD.pv KD.emp tTree
        (repeat (first | refine step_nx (by simp only [evSs, evS, evE, evEs, evO_none, evO_some, evIt, bind_ok, bind_exc, bind_bad, flow_ok, flow_exc, flow_bad, then_nx, then_ct, then_ret, then_exc, res_ok, res_exc, cr_ret, cr_nx, cr_exc, then_nil, then_tail, cr_tail, fixB, prim, ixL0, ixT0, ixT1, ixT2, ixT3, eq_ii, eq_ss, tq_cc, tq_cn, tq_nc, tq_nn, Nat.reduceBEq, Int.reduceBEq, Bool.true_and, Bool.false_and, bt_not, bf_not, wd, de_scr, de_tup, de_lst, de_dic, de_str, List.getElem?_cons_zero, List.getElem?_cons_succ, List.set_cons_zero, List.set_cons_succ, Option.bind_some, Option.map_some, h]; rfl) ?_ | refine step_ret (by simp only [evSs, evS, evE, evEs, evO_none, evO_some, evIt, bind_ok, bind_exc, bind_bad, flow_ok, flow_exc, flow_bad, then_nx, then_ct, then_ret, then_exc, res_ok, res_exc, cr_ret, cr_nx, cr_exc, then_nil, then_tail, cr_tail, fixB, prim, ixL0, ixT0, ixT1, ixT2, ixT3, eq_ii, eq_ss, tq_cc, tq_cn, tq_nc, tq_nn, Nat.reduceBEq, Int.reduceBEq, Bool.true_and, Bool.false_and, bt_not, bf_not, wd, de_scr, de_tup, de_lst, de_dic, de_str, List.getElem?_cons_zero, List.getElem?_cons_succ, List.set_cons_zero, List.set_cons_succ, Option.bind_some, Option.map_some, h]; rfl)))
      | eith fs =>
        cases fs with
        | nil => exact absurd rfl hw.1.2.2
        | cons p r =>
          obtain ⟨m, k⟩ := p
          have hw2 := hw.2
          unfold KD.dep at hd
          have h := ih n (by omega) st k (kwfs_mem hw2 (p := (m, k)) List.mem_cons_self) (by have := kdeps_mem (fs := (m, k) :: r) (p := (m, k)) List.mem_cons_self; simp only at this; omega)
          unfold KD.pv KD.emp kpvs tEither kemp1
          (repeat (first | refine step_nx (by simp only [evSs, evS, evE, evEs, evO_none, evO_some, evIt, bind_ok, bind_exc, bind_bad, flow_ok, flow_exc, flow_bad, then_nx, then_ct, then_ret, then_exc, res_ok, res_exc, cr_ret, cr_nx, cr_exc, then_nil, then_tail, cr_tail, fixB, prim, ixL0, ixT0, ixT1, ixT2, ixT3, eq_ii, eq_ss, tq_cc, tq_cn, tq_nc, tq_nn, Nat.reduceBEq, Int.reduceBEq, Bool.true_and, Bool.false_and, bt_not, bf_not, wd, de_scr, de_tup, de_lst, de_dic, de_str, List.getElem?_cons_zero, List.getElem?_cons_succ, List.set_cons_zero, List.set_cons_succ, Option.bind_some, Option.map_some, h, setSlots]; rfl) ?_ | refine step_ret (by simp only [evSs, evS, evE, evEs, evO_none, evO_some, evIt, bind_ok, bind_exc, bind_bad, flow_ok, flow_exc, flow_bad, then_nx, then_ct, then_ret, then_exc, res_ok, res_exc, cr_ret, cr_nx, cr_exc, then_nil, then_tail, cr_tail, fixB, prim, ixL0, ixT0, ixT1, ixT2, ixT3, eq_ii, eq_ss, tq_cc, tq_cn, tq_nc, tq_nn, Nat.reduceBEq, Int.reduceBEq, Bool.true_and, Bool.false_and, bt_not, bf_not, wd, de_scr, de_tup, de_lst, de_dic, de_str, List.getElem?_cons_zero, List.getElem?_cons_succ, List.set_cons_zero, List.set_cons_succ, Option.bind_some, Option.map_some, h, setSlots]; rfl)))
end
/-! ### _law_due -/
section
variable {P : Prog} [ND P] [H_l_due P]
theorem dueF_loop {n : Nat} {st : Sto} : ∀ (fs : KF) (d : List (K2 × PV)) (F : PV) (a b : Slot), (∀ p ∈ fs, callF P n (.f i_l_due) [p.2.pv] st = .ok p.2.emp st) → rise fs → (∀ p ∈ fs, look (.s p.1) d = none) → d.length + fs.length ≤ 1000 →
    ∃ a' b', loopF (.two 2 3) (evSs P (callF P n) b1_l_due) (kpvs fs) [.fz F, .ow (.dic d), a, b] st = .nx [.fz F, .ow (.dic (d ++ kemps fs)), a', b'] st
  | [], d, F, a, b, _, _, _, _ => ⟨a, b, by unfold kpvs kemps; rw [loopF_nil, List.append_nil]⟩
  | (m, k) :: r, d, F, a, b, ih, nd, hf, hl => by
    rw [List.length_cons] at hl
    have hn := hf (m, k) List.mem_cons_self
    have hk := ih (m, k) List.mem_cons_self
    have hs : ∀ v, mutF .setIx (.dic d) [.str m, v] = some (.dic (d ++ [(.s m, v)]), .non) := fun v => by rw [mut_setS (by unfold lim; omega), put_new hn]
    obtain ⟨a', b', e⟩ := dueF_loop r (d ++ [(.s m, k.emp)]) F (.fz (.str m)) (.fz k.pv) (fun p h => ih p (List.mem_cons_of_mem _ h)) (rise_cons nd).2 (fun p hp => by
      rw [look_append_ne (fun z => by cases z; exact (rise_cons nd).1 p hp rfl)]
      exact hf p (List.mem_cons_of_mem _ hp)) (by rw [List.length_append]; simp; omega)
    refine ⟨a', b', ?_⟩
    have h1 : evSs P (callF P n) b1_l_due [.fz F, .ow (.dic d), .fz (.str m), .fz k.pv] st = .nx [.fz F, .ow (.dic (d ++ [(.s m, k.emp)])), .fz (.str m), .fz k.pv] st := by
      unfold b1_l_due
      (repeat (first | exact stp_nil | refine stp_nx (by simp only [evSs, evS, evE, evEs, evO_none, evO_some, evIt, bind_ok, bind_exc, bind_bad, flow_ok, flow_exc, flow_bad, then_nx, then_ct, then_ret, then_exc, res_ok, res_exc, cr_ret, cr_nx, cr_exc, then_nil, then_tail, cr_tail, fixB, prim, ixL0, ixT0, ixT1, ixT2, ixT3, eq_ii, eq_ss, tq_cc, tq_cn, tq_nc, tq_nn, Nat.reduceBEq, Int.reduceBEq, Bool.true_and, Bool.false_and, bt_not, bf_not, wd, de_scr, de_tup, de_lst, de_dic, de_str, List.getElem?_cons_zero, List.getElem?_cons_succ, List.set_cons_zero, List.set_cons_succ, Option.bind_some, Option.map_some, hk, hs]; rfl) ?_ | refine stp_ret (by simp only [evSs, evS, evE, evEs, evO_none, evO_some, evIt, bind_ok, bind_exc, bind_bad, flow_ok, flow_exc, flow_bad, then_nx, then_ct, then_ret, then_exc, res_ok, res_exc, cr_ret, cr_nx, cr_exc, then_nil, then_tail, cr_tail, fixB, prim, ixL0, ixT0, ixT1, ixT2, ixT3, eq_ii, eq_ss, tq_cc, tq_cn, tq_nc, tq_nn, Nat.reduceBEq, Int.reduceBEq, Bool.true_and, Bool.false_and, bt_not, bf_not, wd, de_scr, de_tup, de_lst, de_dic, de_str, List.getElem?_cons_zero, List.getElem?_cons_succ, List.set_cons_zero, List.set_cons_succ, Option.bind_some, Option.map_some, hk, hs]; rfl)))
    unfold kpvs kemps
    rw [loopF_nx rfl h1, e, List.append_assoc]
    rfl
theorem due_ok : ∀ (n : Nat) (st : Sto) (k : KD), k.wf → k.dep < n → callF P n (.f i_l_due) [k.pv] st = .ok k.emp st := by
  intro n
  induction n with
  | zero => intro st k _ hd; omega
  | succ n ih =>
    intro st k hw hd
    rw [call_l_due]
    cases k with
    | num => unfold KD.pv KD.emp; rfl
    | word => unfold KD.pv KD.emp; rfl
    | rows key by_ fs => unfold KD.pv KD.emp; rfl
    | rec_ fs =>
      unfold KD.wf at hw
      unfold KD.dep at hd
      obtain ⟨a', b', e⟩ := dueF_loop (n := n) (st := st) fs [] (.tup [.str tRecord, .tup (kpvs fs)]) .un .un (fun p hp => ih st p.2 (kwfs_mem hw.2 hp) (by have := kdeps_mem hp; omega)) hw.1.1 (fun _ _ => rfl) (by have := hw.1.2; simp; omega)
      rw [List.nil_append] at e
      unfold KD.pv KD.emp
      simp only [tRecord] at e ⊢
      refine step_nx (by simp only [evSs, evS, evE, evEs, evO_none, evO_some, evIt, bind_ok, bind_exc, bind_bad, flow_ok, flow_exc, flow_bad, then_nx, then_ct, then_ret, then_exc, res_ok, res_exc, cr_ret, cr_nx, cr_exc, then_nil, then_tail, cr_tail, fixB, prim, ixL0, ixT0, ixT1, ixT2, ixT3, eq_ii, eq_ss, tq_cc, tq_cn, tq_nc, tq_nn, Nat.reduceBEq, Int.reduceBEq, Bool.true_and, Bool.false_and, bt_not, bf_not, wd, de_scr, de_tup, de_lst, de_dic, de_str, List.getElem?_cons_zero, List.getElem?_cons_succ, List.set_cons_zero, List.set_cons_succ, Option.bind_some, Option.map_some]; rfl) ?_
      refine step_nx (by simp only [evSs, evS, evE, evEs, evO_none, evO_some, evIt, bind_ok, bind_exc, bind_bad, flow_ok, flow_exc, flow_bad, then_nx, then_ct, then_ret, then_exc, res_ok, res_exc, cr_ret, cr_nx, cr_exc, then_nil, then_tail, cr_tail, fixB, prim, ixL0, ixT0, ixT1, ixT2, ixT3, eq_ii, eq_ss, tq_cc, tq_cn, tq_nc, tq_nn, Nat.reduceBEq, Int.reduceBEq, Bool.true_and, Bool.false_and, bt_not, bf_not, wd, de_scr, de_tup, de_lst, de_dic, de_str, List.getElem?_cons_zero, List.getElem?_cons_succ, List.set_cons_zero, List.set_cons_succ, Option.bind_some, Option.map_some]; rfl) ?_
      refine step_ret (ρ' := [.fz (.tup [.str tRecord, .tup (kpvs fs)]), .un, a', b']) ?_
      simp only [evSs, evS, evE, evEs, evO_none, evO_some, evIt, bind_ok, bind_exc, bind_bad, flow_ok, flow_exc, flow_bad, then_nx, then_ct, then_ret, then_exc, res_ok, res_exc, cr_ret, cr_nx, cr_exc, then_nil, then_tail, cr_tail, fixB, prim, ixL0, ixT0, ixT1, ixT2, ixT3, eq_ii, eq_ss, tq_cc, tq_cn, tq_nc, tq_nn, Nat.reduceBEq, Int.reduceBEq, Bool.true_and, Bool.false_and, bt_not, bf_not, wd, de_scr, de_tup, de_lst, de_dic, de_str, List.getElem?_cons_zero, List.getElem?_cons_succ, List.set_cons_zero, List.set_cons_succ, Option.bind_some, Option.map_some, unzipD, puts, isCont, if_true, seqOf, tRecord, e]
    | tree k =>
      unfold KD.wf at hw
      unfold KD.dep at hd
      have h := ih st k hw (by omega)
      unfold KD.pv KD.emp tTree
      (repeat (first | refine step_nx (by simp only [evSs, evS, evE, evEs, evO_none, evO_some, evIt, bind_ok, bind_exc, bind_bad, flow_ok, flow_exc, flow_bad, then_nx, then_ct, then_ret, then_exc, res_ok, res_exc, cr_ret, cr_nx, cr_exc, then_nil, then_tail, cr_tail, fixB, prim, ixL0, ixT0, ixT1, ixT2, ixT3, eq_ii, eq_ss, tq_cc, tq_cn, tq_nc, tq_nn, Nat.reduceBEq, Int.reduceBEq, Bool.true_and, Bool.false_and, bt_not, bf_not, wd, de_scr, de_tup, de_lst, de_dic, de_str, List.getElem?_cons_zero, List.getElem?_cons_succ, List.set_cons_zero, List.set_cons_succ, Option.bind_some, Option.map_some, h]; rfl) ?_ | refine step_ret (by simp only [evSs, evS, evE, evEs, evO_none, evO_some, evIt, bind_ok, bind_exc, bind_bad, flow_ok, flow_exc, flow_bad, then_nx, then_ct, then_ret, then_exc, res_ok, res_exc, cr_ret, cr_nx, cr_exc, then_nil, then_tail, cr_tail, fixB, prim, ixL0, ixT0, ixT1, ixT2, ixT3, eq_ii, eq_ss, tq_cc, tq_cn, tq_nc, tq_nn, Nat.reduceBEq, Int.reduceBEq, Bool.true_and, Bool.false_and, bt_not, bf_not, wd, de_scr, de_tup, de_lst, de_dic, de_str, List.getElem?_cons_zero, List.getElem?_cons_succ, List.set_cons_zero, List.set_cons_succ, Option.bind_some, Option.map_some, h]; rfl)))
    | eith fs =>
      cases fs with
      | nil => exact absurd rfl hw.1.2.2
      | cons p r =>
        obtain ⟨m, k⟩ := p
        have hw2 := hw.2
        unfold KD.dep at hd
        have h := ih st k (kwfs_mem hw2 (p := (m, k)) List.mem_cons_self) (by have := kdeps_mem (fs := (m, k) :: r) (p := (m, k)) List.mem_cons_self; simp only at this; omega)
        unfold KD.pv KD.emp kpvs tEither kemp1
        (repeat (first | refine step_nx (by simp only [evSs, evS, evE, evEs, evO_none, evO_some, evIt, bind_ok, bind_exc, bind_bad, flow_ok, flow_exc, flow_bad, then_nx, then_ct, then_ret, then_exc, res_ok, res_exc, cr_ret, cr_nx, cr_exc, then_nil, then_tail, cr_tail, fixB, prim, ixL0, ixT0, ixT1, ixT2, ixT3, eq_ii, eq_ss, tq_cc, tq_cn, tq_nc, tq_nn, Nat.reduceBEq, Int.reduceBEq, Bool.true_and, Bool.false_and, bt_not, bf_not, wd, de_scr, de_tup, de_lst, de_dic, de_str, List.getElem?_cons_zero, List.getElem?_cons_succ, List.set_cons_zero, List.set_cons_succ, Option.bind_some, Option.map_some, h]; rfl) ?_ | refine step_ret (by simp only [evSs, evS, evE, evEs, evO_none, evO_some, evIt, bind_ok, bind_exc, bind_bad, flow_ok, flow_exc, flow_bad, then_nx, then_ct, then_ret, then_exc, res_ok, res_exc, cr_ret, cr_nx, cr_exc, then_nil, then_tail, cr_tail, fixB, prim, ixL0, ixT0, ixT1, ixT2, ixT3, eq_ii, eq_ss, tq_cc, tq_cn, tq_nc, tq_nn, Nat.reduceBEq, Int.reduceBEq, Bool.true_and, Bool.false_and, bt_not, bf_not, wd, de_scr, de_tup, de_lst, de_dic, de_str, List.getElem?_cons_zero, List.getElem?_cons_succ, List.set_cons_zero, List.set_cons_succ, Option.bind_some, Option.map_some, h]; rfl)))
end
end PB

end
section
set_option Elab.async false
set_option linter.all false
set_option maxRecDepth 100000
set_option exponentiation.threshold 10000
namespace PB
open PySem L2
/-! ### _law_alike, of the empty values -/
section
variable {P : Prog} [ND P] [H_l_alike P]
theorem alikeF_loop {n : Nat} {st : Sto} {d : List (K2 × PV)} {K : PV} {s5 s6 s7 : Slot} : ∀ (fs : KF) (a b : Slot), (∀ p ∈ fs, callF P n (.f i_l_alike) [p.2.pv, p.2.emp, p.2.emp] st = .ok (.bl true) st) → (∀ p ∈ fs, look (.s p.1) d = some p.2.emp) →
    ∃ a' b', loopF (.two 4 3) (evSs P (callF P n) b1_l_alike) (kpvs fs) [.fz K, .fz (.dic d), .fz (.dic d), a, b, s5, s6, s7] st = .nx [.fz K, .fz (.dic d), .fz (.dic d), a', b', s5, s6, s7] st
  | [], a, b, _, _ => ⟨a, b, by unfold kpvs; rw [loopF_nil]⟩
  | (m, k) :: r, a, b, ih, hf => by
    obtain ⟨a', b', e⟩ := alikeF_loop r (.fz k.pv) (.fz (.str m)) (fun p h => ih p (List.mem_cons_of_mem _ h)) (fun p h => hf p (List.mem_cons_of_mem _ h))
    refine ⟨a', b', ?_⟩
    have hk := ih (m, k) List.mem_cons_self
    have hn := hf (m, k) List.mem_cons_self
    have h1 : evSs P (callF P n) b1_l_alike [.fz K, .fz (.dic d), .fz (.dic d), .fz k.pv, .fz (.str m), s5, s6, s7] st = .nx [.fz K, .fz (.dic d), .fz (.dic d), .fz k.pv, .fz (.str m), s5, s6, s7] st := by
      simp [b1_l_alike, evSs, evS, evE, evEs, evO_none, evO_some, evIt, bind_ok, bind_exc, bind_bad, flow_ok, flow_exc, flow_bad, then_nx, then_ct, then_ret, then_exc, res_ok, res_exc, cr_ret, cr_nx, cr_exc, then_nil, then_tail, cr_tail, fixB, prim, startE, ixOp, pIx, ixN, eqOp, dp, eqv, deepL, PB.de, wd, inOp, notOp, keyOf, hn, hk]
    unfold kpvs
    rw [loopF_nx rfl h1, e]
/-- the kinds under the name m -/
theorem pickC {n : Nat} {st : Sto} {m : Tx} {K D E2 : PV} {s3 s4 s6 s7 : Slot} : ∀ (fs : KF) (acc : List PV) (s : Slot), acc.length + fs.length ≤ 1000 → ∃ ys s', loopC (.one 5) [5] (evO P (callF P n) o3_l_alike) (evE P (callF P n) e4_l_alike) (kpvs fs) acc [.fz K, .fz D, .fz (.tup [.str m, E2]), s3, s4, s, s6, s7] st = .ok (.lst (acc ++ ys)) [.fz K, .fz D, .fz (.tup [.str m, E2]), s3, s4, s', s6, s7] st
  | [], acc, s, _ => ⟨[], s, by unfold kpvs; rw [loopC_nil, List.append_nil]⟩
  | (x, k) :: r, acc, s, hl => by
    rw [List.length_cons] at hl
    have hlim : acc.length < lim := by unfold lim; omega
    unfold kpvs
    by_cases e : x = m
    · subst e
      obtain ⟨ys, s', h⟩ := pickC (n := n) (st := st) (m := x) (K := K) (D := D) (E2 := E2) (s3 := s3) (s4 := s4) (s6 := s6) (s7 := s7) r (acc ++ [k.pv]) (.fz (.tup [.str x, k.pv])) (by rw [List.length_append]; simp; omega)
      refine ⟨k.pv :: ys, s', ?_⟩
      have h1 : evO P (callF P n) o3_l_alike [.fz K, .fz D, .fz (.tup [.str x, E2]), s3, s4, .fz (.tup [.str x, k.pv]), s6, s7] st = .ok (.bl true) [.fz K, .fz D, .fz (.tup [.str x, E2]), s3, s4, .fz (.tup [.str x, k.pv]), s6, s7] st := by
        simp [o3_l_alike, evSs, evS, evE, evEs, evO_none, evO_some, evIt, bind_ok, bind_exc, bind_bad, flow_ok, flow_exc, flow_bad, then_nx, then_ct, then_ret, then_exc, res_ok, res_exc, cr_ret, cr_nx, cr_exc, then_nil, then_tail, cr_tail, fixB, prim, startE, ixOp, pIx, ixN, eqOp, dp, eqv, deepL, PB.de, wd]
      have h2 : evE P (callF P n) e4_l_alike [.fz K, .fz D, .fz (.tup [.str x, E2]), s3, s4, .fz (.tup [.str x, k.pv]), s6, s7] st = .ok k.pv [.fz K, .fz D, .fz (.tup [.str x, E2]), s3, s4, .fz (.tup [.str x, k.pv]), s6, s7] st := by
        simp [e4_l_alike, evSs, evS, evE, evEs, evO_none, evO_some, evIt, bind_ok, bind_exc, bind_bad, flow_ok, flow_exc, flow_bad, then_nx, then_ct, then_ret, then_exc, res_ok, res_exc, cr_ret, cr_nx, cr_exc, then_nil, then_tail, cr_tail, fixB, prim, startE, ixOp, pIx, ixN, eqOp, dp, eqv, deepL, PB.de, wd]
      rw [loopC_yes rfl h1 h2 hlim, h, List.append_assoc]
      rfl
    · obtain ⟨ys, s', h⟩ := pickC (n := n) (st := st) (m := m) (K := K) (D := D) (E2 := E2) (s3 := s3) (s4 := s4) (s6 := s6) (s7 := s7) r acc (.fz (.tup [.str x, k.pv])) (by omega)
      refine ⟨ys, s', ?_⟩
      have h1 : evO P (callF P n) o3_l_alike [.fz K, .fz D, .fz (.tup [.str m, E2]), s3, s4, .fz (.tup [.str x, k.pv]), s6, s7] st = .ok (.bl false) [.fz K, .fz D, .fz (.tup [.str m, E2]), s3, s4, .fz (.tup [.str x, k.pv]), s6, s7] st := by
        simp [o3_l_alike, evSs, evS, evE, evEs, evO_none, evO_some, evIt, bind_ok, bind_exc, bind_bad, flow_ok, flow_exc, flow_bad, then_nx, then_ct, then_ret, then_exc, res_ok, res_exc, cr_ret, cr_nx, cr_exc, then_nil, then_tail, cr_tail, fixB, prim, startE, ixOp, pIx, ixN, eqOp, dp, eqv, deepL, PB.de, wd, e]
      rw [loopC_no rfl h1, h]
theorem alike_ok : ∀ (n : Nat) (st : Sto) (k : KD), k.wf → k.dep < n → callF P n (.f i_l_alike) [k.pv, k.emp, k.emp] st = .ok (.bl true) st := by
  intro n
  induction n with
  | zero => intro st k _ hd; omega
  | succ n ih =>
    intro st k hw hd
    rw [call_l_alike]
    cases k with
    | num => unfold KD.pv KD.emp; rfl
    | word => unfold KD.pv KD.emp; rfl
    | rows key by_ fs =>
      unfold KD.pv KD.emp
      simp [b_l_alike, evSs, evS, evE, evEs, evO_none, evO_some, evIt, bind_ok, bind_exc, bind_bad, flow_ok, flow_exc, flow_bad, then_nx, then_ct, then_ret, then_exc, res_ok, res_exc, cr_ret, cr_nx, cr_exc, then_nil, then_tail, cr_tail, fixB, prim, startE, ixOp, pIx, ixN, eqOp, dp, eqv, deepL, PB.de, wd, tRows, plainV, isTy, lenOp, zipP, loopC_nil, bAll, boolsOf, blank, unblank]
    | rec_ fs =>
      have hw2 := hw.2
      unfold KD.dep at hd
      obtain ⟨a', b', e⟩ := alikeF_loop (n := n) (st := st) (d := kemps fs) (K := .tup [.str tRecord, .tup (kpvs fs)]) (s5 := .un) (s6 := .un) (s7 := .un) fs .un .un (fun p hp => ih st p.2 (kwfs_mem hw2 hp) (by have := kdeps_mem hp; omega)) (fun p h => kemps_look hw.1.1 h)
      unfold KD.pv KD.emp
      simp only [tRecord] at e ⊢
      simp [b_l_alike, evSs, evS, evE, evEs, evO_none, evO_some, evIt, bind_ok, bind_exc, bind_bad, flow_ok, flow_exc, flow_bad, then_nx, then_ct, then_ret, then_exc, res_ok, res_exc, cr_ret, cr_nx, cr_exc, then_nil, then_tail, cr_tail, fixB, prim, startE, ixOp, pIx, ixN, eqOp, dp, eqv, deepL, PB.de, wd, plainV, isTy, lenOp, seqOf, e, kemps_len, kpvs_len]
    | tree k =>
      unfold KD.wf at hw
      unfold KD.dep at hd
      have h := ih st k hw (by omega)
      unfold KD.pv KD.emp
      simp [b_l_alike, evSs, evS, evE, evEs, evO_none, evO_some, evIt, bind_ok, bind_exc, bind_bad, flow_ok, flow_exc, flow_bad, then_nx, then_ct, then_ret, then_exc, res_ok, res_exc, cr_ret, cr_nx, cr_exc, then_nil, then_tail, cr_tail, fixB, prim, startE, ixOp, pIx, ixN, eqOp, dp, eqv, deepL, PB.de, wd, tTree, h, plainV, isTy, lenOp, zipP, loopC_nil, bAll, boolsOf, blank, unblank]
    | eith fs =>
      cases fs with
      | nil => exact absurd rfl hw.1.2.2
      | cons p r =>
        obtain ⟨m, k⟩ := p
        have hw1 := hw.1
        have hw2 := hw.2
        unfold KD.dep at hd
        have h := ih st k (kwfs_mem hw2 (p := (m, k)) List.mem_cons_self) (by have := kdeps_mem (fs := (m, k) :: r) (p := (m, k)) List.mem_cons_self; simp only at this; omega)
        have h1 : evO P (callF P n) o3_l_alike [.fz (.tup [.str tEither, .tup (.tup [.str m, k.pv] :: kpvs r)]), .fz (.tup [.str m, k.emp]), .fz (.tup [.str m, k.emp]), .un, .un, .fz (.tup [.str m, k.pv]), .un, .un] st = .ok (.bl true) [.fz (.tup [.str tEither, .tup (.tup [.str m, k.pv] :: kpvs r)]), .fz (.tup [.str m, k.emp]), .fz (.tup [.str m, k.emp]), .un, .un, .fz (.tup [.str m, k.pv]), .un, .un] st := by
          simp [o3_l_alike, evSs, evS, evE, evEs, evO_none, evO_some, evIt, bind_ok, bind_exc, bind_bad, flow_ok, flow_exc, flow_bad, then_nx, then_ct, then_ret, then_exc, res_ok, res_exc, cr_ret, cr_nx, cr_exc, then_nil, then_tail, cr_tail, fixB, prim, startE, ixOp, pIx, ixN, eqOp, dp, eqv, deepL, PB.de, wd]
        have h2 : evE P (callF P n) e4_l_alike [.fz (.tup [.str tEither, .tup (.tup [.str m, k.pv] :: kpvs r)]), .fz (.tup [.str m, k.emp]), .fz (.tup [.str m, k.emp]), .un, .un, .fz (.tup [.str m, k.pv]), .un, .un] st = .ok k.pv [.fz (.tup [.str tEither, .tup (.tup [.str m, k.pv] :: kpvs r)]), .fz (.tup [.str m, k.emp]), .fz (.tup [.str m, k.emp]), .un, .un, .fz (.tup [.str m, k.pv]), .un, .un] st := by
          simp [e4_l_alike, evSs, evS, evE, evEs, evO_none, evO_some, evIt, bind_ok, bind_exc, bind_bad, flow_ok, flow_exc, flow_bad, then_nx, then_ct, then_ret, then_exc, res_ok, res_exc, cr_ret, cr_nx, cr_exc, then_nil, then_tail, cr_tail, fixB, prim, startE, ixOp, pIx, ixN, eqOp, dp, eqv, deepL, PB.de, wd]
        obtain ⟨ys, s', h3⟩ := pickC (P := P) (n := n) (st := st) (m := m) (K := .tup [.str tEither, .tup (.tup [.str m, k.pv] :: kpvs r)]) (D := .tup [.str m, k.emp]) (E2 := k.emp) (s3 := .un) (s4 := .un) (s6 := .un) (s7 := .un) r [k.pv] (.fz (.tup [.str m, k.pv])) (by have := hw1.2.1; rw [List.length_cons] at this; simp; omega)
        have h4 : loopC (.one 5) [5] (evO P (callF P n) o3_l_alike) (evE P (callF P n) e4_l_alike) (.tup [.str m, k.pv] :: kpvs r) [] [.fz (.tup [.str tEither, .tup (.tup [.str m, k.pv] :: kpvs r)]), .fz (.tup [.str m, k.emp]), .fz (.tup [.str m, k.emp]), .un, .un, .un, .un, .un] st = .ok (.lst (k.pv :: ys)) [.fz (.tup [.str tEither, .tup (.tup [.str m, k.pv] :: kpvs r)]), .fz (.tup [.str m, k.emp]), .fz (.tup [.str m, k.emp]), .un, .un, s', .un, .un] st := by
          rw [loopC_yes rfl h1 h2 (by decide)]
          exact h3
        have h5 : (0 : Int) < (ys.length : Int) + 1 := by omega
        unfold KD.pv KD.emp kpvs kemp1
        simp only [tEither] at h4 ⊢
        simp [b_l_alike, evSs, evS, evE, evEs, evO_none, evO_some, evIt, bind_ok, bind_exc, bind_bad, flow_ok, flow_exc, flow_bad, then_nx, then_ct, then_ret, then_exc, res_ok, res_exc, cr_ret, cr_nx, cr_exc, then_nil, then_tail, cr_tail, fixB, prim, startE, ixOp, pIx, ixN, eqOp, dp, eqv, deepL, PB.de, wd, plainV, isTy, lenOp, seqOf, h4, unblank, h5, h]
end
/-! ### misfit, of the empty values -/
section
variable {P : Prog} [ND P] [H_kind_at P] [H_is_whole P] [H_record_misfit P] [H_rows_misfit P] [H_tree_misfit P] [H_either_misfit P] [H_misfit P]
theorem recM1_loop {n : Nat} {st : Sto} {d : List (K2 × PV)} {K : PV} {s4 : Slot} : ∀ (fs : KF) (a b : Slot), (∀ p ∈ fs, look (.s p.1) d = some p.2.emp) →
    ∃ a' b', loopF (.two 2 3) (evSs P (callF P n) b1_record_misfit) (kpvs fs) [.fz K, .fz (.dic d), a, b, s4] st = .nx [.fz K, .fz (.dic d), a', b', s4] st
  | [], a, b, _ => ⟨a, b, by unfold kpvs; rw [loopF_nil]⟩
  | (m, k) :: r, a, b, hf => by
    obtain ⟨a', b', e⟩ := recM1_loop (n := n) (st := st) (K := K) (s4 := s4) r (.fz (.str m)) (.fz k.pv) (fun p h => hf p (List.mem_cons_of_mem _ h))
    refine ⟨a', b', ?_⟩
    have hn := hf (m, k) List.mem_cons_self
    have h1 : evSs P (callF P n) b1_record_misfit [.fz K, .fz (.dic d), .fz (.str m), .fz k.pv, s4] st = .nx [.fz K, .fz (.dic d), .fz (.str m), .fz k.pv, s4] st := by
      simp [b1_record_misfit, evSs, evS, evE, evEs, evO_none, evO_some, evIt, bind_ok, bind_exc, bind_bad, flow_ok, flow_exc, flow_bad, then_nx, then_ct, then_ret, then_exc, res_ok, res_exc, cr_ret, cr_nx, cr_exc, then_nil, then_tail, cr_tail, fixB, prim, startE, ixOp, pIx, ixN, eqOp, dp, eqv, deepL, PB.de, wd, inOp, notOp, keyOf, hn]
    unfold kpvs
    rw [loopF_nx rfl h1, e]
theorem recM2_loop {n : Nat} {st : Sto} {d : List (K2 × PV)} {K : PV} : ∀ (fs : KF) (a b s4 : Slot), (∀ p ∈ fs, callF P n (.f i_misfit) [p.2.pv, p.2.emp] st = .ok .non st) → (∀ p ∈ fs, look (.s p.1) d = some p.2.emp) →
    ∃ a' b' s4', loopF (.two 2 3) (evSs P (callF P n) b2_record_misfit) (kpvs fs) [.fz K, .fz (.dic d), a, b, s4] st = .nx [.fz K, .fz (.dic d), a', b', s4'] st
  | [], a, b, s4, _, _ => ⟨a, b, s4, by unfold kpvs; rw [loopF_nil]⟩
  | (m, k) :: r, a, b, s4, ih, hf => by
    obtain ⟨a', b', s4', e⟩ := recM2_loop (K := K) r (.fz (.str m)) (.fz k.pv) (.fz .non) (fun p h => ih p (List.mem_cons_of_mem _ h)) (fun p h => hf p (List.mem_cons_of_mem _ h))
    refine ⟨a', b', s4', ?_⟩
    have hn := hf (m, k) List.mem_cons_self
    have hk := ih (m, k) List.mem_cons_self
    have h1 : evSs P (callF P n) b2_record_misfit [.fz K, .fz (.dic d), .fz (.str m), .fz k.pv, s4] st = .nx [.fz K, .fz (.dic d), .fz (.str m), .fz k.pv, .fz .non] st := by
      simp [b2_record_misfit, evSs, evS, evE, evEs, evO_none, evO_some, evIt, bind_ok, bind_exc, bind_bad, flow_ok, flow_exc, flow_bad, then_nx, then_ct, then_ret, then_exc, res_ok, res_exc, cr_ret, cr_nx, cr_exc, then_nil, then_tail, cr_tail, fixB, prim, startE, ixOp, pIx, ixN, eqOp, dp, eqv, deepL, PB.de, wd, keyOf, hn, hk, isNonB]
    unfold kpvs
    rw [loopF_nx rfl h1, e]
theorem kindat1_ok {n : Nat} {st : Sto} {m : Tx} {k : KD} {r : KF} : callF P (n + 1) (.f i_kind_at) [.tup (.tup [.str m, k.pv] :: kpvs r), .str m] st = .ok k.pv st := by
  rw [call_kind_at]
  have h1 : evSs P (callF P n) b1_kind_at [.fz (.tup (.tup [.str m, k.pv] :: kpvs r)), .fz (.str m), .fz (.str m), .fz k.pv] st = .ret k.pv [.fz (.tup (.tup [.str m, k.pv] :: kpvs r)), .fz (.str m), .fz (.str m), .fz k.pv] st := by
    simp [b1_kind_at, evSs, evS, evE, evEs, evO_none, evO_some, evIt, bind_ok, bind_exc, bind_bad, flow_ok, flow_exc, flow_bad, then_nx, then_ct, then_ret, then_exc, res_ok, res_exc, cr_ret, cr_nx, cr_exc, then_nil, then_tail, cr_tail, fixB, prim, startE, ixOp, pIx, ixN, eqOp, dp, eqv, deepL, PB.de, wd]
  have h2 : loopF (.two 2 3) (evSs P (callF P n) b1_kind_at) (.tup [.str m, k.pv] :: kpvs r) [.fz (.tup (.tup [.str m, k.pv] :: kpvs r)), .fz (.str m), .un, .un] st = .ret k.pv [.fz (.tup (.tup [.str m, k.pv] :: kpvs r)), .fz (.str m), .fz (.str m), .fz k.pv] st := loopF_ret rfl h1
  simp [b_kind_at, evSs, evS, evE, evEs, evO_none, evO_some, evIt, bind_ok, bind_exc, bind_bad, flow_ok, flow_exc, flow_bad, then_nx, then_ct, then_ret, then_exc, res_ok, res_exc, cr_ret, cr_nx, cr_exc, then_nil, then_tail, cr_tail, fixB, prim, startE, ixOp, pIx, ixN, eqOp, dp, eqv, deepL, PB.de, wd, seqOf, h2]
theorem whole0 {n : Nat} {st : Sto} : callF P (n + 1) (.f i_is_whole) [.int 0] st = .ok (.bl true) st := by
  rw [call_is_whole]
  rfl
theorem misfit0_ok : ∀ (n : Nat) (st : Sto) (k : KD), k.wf → 2 * k.dep + 1 < n → callF P n (.f i_misfit) [k.pv, k.emp] st = .ok .non st := by
  intro n
  induction n using Nat.strongRecOn with
  | ind n ih =>
    intro st k hw hd
    match n, hd, ih with
    | n + 2, hd, ih =>
      rw [call_misfit]
      cases k with
      | num =>
        unfold KD.pv KD.emp
        have := whole0 (P := P) (n := n) (st := st)
        simp [b_misfit, evSs, evS, evE, evEs, evO_none, evO_some, evIt, bind_ok, bind_exc, bind_bad, flow_ok, flow_exc, flow_bad, then_nx, then_ct, then_ret, then_exc, res_ok, res_exc, cr_ret, cr_nx, cr_exc, then_nil, then_tail, cr_tail, fixB, prim, startE, ixOp, pIx, ixN, eqOp, dp, eqv, deepL, PB.de, wd, tNumber, this]
      | word => unfold KD.pv KD.emp; rfl
      | rows key by_ fs =>
        have h : callF P (n + 1) (.f i_rows_misfit) [.tup [.str tRows, .str key, .str by_, .tup (kpvs fs)], .lst []] st = .ok .non st := by
          rw [call_rows_misfit]
          simp [b_rows_misfit, evSs, evS, evE, evEs, evO_none, evO_some, evIt, bind_ok, bind_exc, bind_bad, flow_ok, flow_exc, flow_bad, then_nx, then_ct, then_ret, then_exc, res_ok, res_exc, cr_ret, cr_nx, cr_exc, then_nil, then_tail, cr_tail, fixB, prim, startE, ixOp, pIx, ixN, eqOp, dp, eqv, deepL, PB.de, wd, plainV, isTy, unzipD, puts, isCont, enumFrom, loopF_nil]
        unfold KD.pv KD.emp
        simp only [tRows] at h ⊢
        simp [b_misfit, evSs, evS, evE, evEs, evO_none, evO_some, evIt, bind_ok, bind_exc, bind_bad, flow_ok, flow_exc, flow_bad, then_nx, then_ct, then_ret, then_exc, res_ok, res_exc, cr_ret, cr_nx, cr_exc, then_nil, then_tail, cr_tail, fixB, prim, startE, ixOp, pIx, ixN, eqOp, dp, eqv, deepL, PB.de, wd, h]
      | rec_ fs =>
        have hw2 := hw.2
        unfold KD.dep at hd
        obtain ⟨a, b, e1⟩ := recM1_loop (P := P) (n := n) (st := st) (d := kemps fs) (K := .tup (kpvs fs)) (s4 := .un) fs .un .un (fun p h => kemps_look hw.1.1 h)
        obtain ⟨a2, b2, c2, e2⟩ := recM2_loop (P := P) (n := n) (st := st) (d := kemps fs) (K := .tup (kpvs fs)) fs a b .un (fun p hp => ih n (by omega) st p.2 (kwfs_mem hw2 hp) (by have := kdeps_mem hp; omega)) (fun p h => kemps_look hw.1.1 h)
        have h : callF P (n + 1) (.f i_record_misfit) [.tup (kpvs fs), .dic (kemps fs)] st = .ok .non st := by
          rw [call_record_misfit]
          simp [b_record_misfit, evSs, evS, evE, evEs, evO_none, evO_some, evIt, bind_ok, bind_exc, bind_bad, flow_ok, flow_exc, flow_bad, then_nx, then_ct, then_ret, then_exc, res_ok, res_exc, cr_ret, cr_nx, cr_exc, then_nil, then_tail, cr_tail, fixB, prim, startE, ixOp, pIx, ixN, eqOp, dp, eqv, deepL, PB.de, wd, plainV, isTy, lenOp, kemps_len, kpvs_len, seqOf, e1, e2]
        unfold KD.pv KD.emp
        simp [b_misfit, evSs, evS, evE, evEs, evO_none, evO_some, evIt, bind_ok, bind_exc, bind_bad, flow_ok, flow_exc, flow_bad, then_nx, then_ct, then_ret, then_exc, res_ok, res_exc, cr_ret, cr_nx, cr_exc, then_nil, then_tail, cr_tail, fixB, prim, startE, ixOp, pIx, ixN, eqOp, dp, eqv, deepL, PB.de, wd, tRecord, h]
      | tree k =>
        unfold KD.wf at hw
        unfold KD.dep at hd
        have hk := ih n (by omega) st k hw (by omega)
        have h : callF P (n + 1) (.f i_tree_misfit) [.tup [.str tTree, k.pv], .tup [k.emp, .lst []]] st = .ok .non st := by
          rw [call_tree_misfit]
          simp [b_tree_misfit, evSs, evS, evE, evEs, evO_none, evO_some, evIt, bind_ok, bind_exc, bind_bad, flow_ok, flow_exc, flow_bad, then_nx, then_ct, then_ret, then_exc, res_ok, res_exc, cr_ret, cr_nx, cr_exc, then_nil, then_tail, cr_tail, fixB, prim, startE, ixOp, pIx, ixN, eqOp, dp, eqv, deepL, PB.de, wd, plainV, isTy, lenOp, hk, isNonB, enumFrom, loopF_nil]
        unfold KD.pv KD.emp
        simp only [tTree] at h ⊢
        simp [b_misfit, evSs, evS, evE, evEs, evO_none, evO_some, evIt, bind_ok, bind_exc, bind_bad, flow_ok, flow_exc, flow_bad, then_nx, then_ct, then_ret, then_exc, res_ok, res_exc, cr_ret, cr_nx, cr_exc, then_nil, then_tail, cr_tail, fixB, prim, startE, ixOp, pIx, ixN, eqOp, dp, eqv, deepL, PB.de, wd, h]
      | eith fs =>
        cases fs with
        | nil => exact absurd rfl hw.1.2.2
        | cons p r =>
          obtain ⟨m, k⟩ := p
          have hw2 := hw.2
          unfold KD.dep at hd
          have hk := ih n (by omega) st k (kwfs_mem hw2 (p := (m, k)) List.mem_cons_self) (by have := kdeps_mem (fs := (m, k) :: r) (p := (m, k)) List.mem_cons_self; simp only at this; omega)
          match n, hd, hk with
          | n + 1, hd, hk =>
            have ka := kindat1_ok (P := P) (n := n) (st := st) (m := m) (k := k) (r := r)
            have h : callF P (n + 1 + 1) (.f i_either_misfit) [.tup [.str tEither, .tup (.tup [.str m, k.pv] :: kpvs r)], .tup [.str m, k.emp]] st = .ok .non st := by
              rw [call_either_misfit]
              simp [b_either_misfit, evSs, evS, evE, evEs, evO_none, evO_some, evIt, bind_ok, bind_exc, bind_bad, flow_ok, flow_exc, flow_bad, then_nx, then_ct, then_ret, then_exc, res_ok, res_exc, cr_ret, cr_nx, cr_exc, then_nil, then_tail, cr_tail, fixB, prim, startE, ixOp, pIx, ixN, eqOp, dp, eqv, deepL, PB.de, wd, plainV, isTy, lenOp, ka, kd_ne_non, hk, isNonB_non]
            unfold KD.pv KD.emp kpvs kemp1
            simp only [tEither] at h ⊢
            simp [b_misfit, evSs, evS, evE, evEs, evO_none, evO_some, evIt, bind_ok, bind_exc, bind_bad, flow_ok, flow_exc, flow_bad, then_nx, then_ct, then_ret, then_exc, res_ok, res_exc, cr_ret, cr_nx, cr_exc, then_nil, then_tail, cr_tail, fixB, prim, startE, ixOp, pIx, ixN, eqOp, dp, eqv, deepL, PB.de, wd, h]
end
end PB

end
section
set_option Elab.async false
set_option linter.all false
set_option maxRecDepth 100000
set_option exponentiation.threshold 10000
namespace PB
open PySem L2
theorem cutL_le {α : Type} (xs : List α) (lo hi : Option Int) : (cutL xs lo hi).length ≤ xs.length := by
  unfold cutL
  rw [List.length_take, List.length_drop]
  omega
section
variable {P : Prog} [ND P] [H_l_next P] [H_l_names P] [H_l_plain P] [H_l_fields P] [H_l_rows_kind P] [H_l_kind P] [H_empty P] [H_empty_record P] [H_l_due P] [H_l_alike P] [H_kind_at P] [H_is_whole P] [H_record_misfit P] [H_rows_misfit P] [H_tree_misfit P] [H_either_misfit P] [H_misfit P] [H_law_k01 P]
theorem k01_loop {ns : List Int} : ∀ (xs : List PV) (c : Int) (s2 s3 s4 : Slot), 0 ≤ c → c + 2000 * xs.length < 2 ^ 64 →
    ∃ s2' s3' s4' st', loopF (.one 2) (evSs P (callF P 199) b1_law_k01) xs [.fz (.scr ns), .fz (.ref 0), s2, s3, s4] [cell c] = .nx [.fz (.scr ns), .fz (.ref 0), s2', s3', s4'] st'
  | [], c, s2, s3, s4, _, _ => ⟨s2, s3, s4, [cell c], loopF_nil⟩
  | x :: xs, c, s2, s3, s4, h0, h1 => by
    rw [List.length_cons] at h1
    obtain ⟨k, c', w, dk, l1, l2, hk⟩ := kind_ok (P := P) (a := 0) (ns := ns) 3 190 [cell c] c rfl h0 (by show c + 10 * (10 * (10 * 2)) < _; omega)
    have hk : callF P 199 (.f i_l_kind) [.scr ns, .ref 0, .int 3] [cell c] = .ok k.pv [cell c'] := hk
    have he := empty_ok (P := P) 199 [cell c'] k w (by omega)
    have hd := due_ok (P := P) 199 [cell c'] k w (by omega)
    have ha := alike_ok (P := P) 199 [cell c'] k w (by omega)
    have hm := misfit0_ok (P := P) 199 [cell c'] k w (by omega)
    have l2 : c' ≤ c + 10 * (10 * (10 * 2)) := l2
    obtain ⟨s2', s3', s4', st', e⟩ := k01_loop xs c' (.fz x) (.fz k.pv) (.fz k.emp) (by omega) (by omega)
    refine ⟨s2', s3', s4', st', ?_⟩
    have h2 : evSs P (callF P 199) b1_law_k01 [.fz (.scr ns), .fz (.ref 0), .fz x, s3, s4] [cell c] = .nx [.fz (.scr ns), .fz (.ref 0), .fz x, .fz k.pv, .fz k.emp] [cell c'] := by
      unfold b1_law_k01
      (repeat (first | exact stp_nil | refine stp_nx (by simp only [evSs, evS, evE, evEs, evO_none, evO_some, evIt, bind_ok, bind_exc, bind_bad, flow_ok, flow_exc, flow_bad, then_nx, then_ct, then_ret, then_exc, res_ok, res_exc, cr_ret, cr_nx, cr_exc, then_nil, then_tail, cr_tail, fixB, prim, ixL0, ixT0, ixT1, ixT2, ixT3, eq_ii, eq_ss, tq_cc, tq_cn, tq_nc, tq_nn, Nat.reduceBEq, Int.reduceBEq, Bool.true_and, Bool.false_and, bt_not, bf_not, wd, de_scr, de_tup, de_lst, de_dic, de_str, List.getElem?_cons_zero, List.getElem?_cons_succ, List.set_cons_zero, List.set_cons_succ, Option.bind_some, Option.map_some, hk, he, hd, ha, hm, isNonB_non]; rfl) ?_ | refine stp_ret (by simp only [evSs, evS, evE, evEs, evO_none, evO_some, evIt, bind_ok, bind_exc, bind_bad, flow_ok, flow_exc, flow_bad, then_nx, then_ct, then_ret, then_exc, res_ok, res_exc, cr_ret, cr_nx, cr_exc, then_nil, then_tail, cr_tail, fixB, prim, ixL0, ixT0, ixT1, ixT2, ixT3, eq_ii, eq_ss, tq_cc, tq_cn, tq_nc, tq_nn, Nat.reduceBEq, Int.reduceBEq, Bool.true_and, Bool.false_and, bt_not, bf_not, wd, de_scr, de_tup, de_lst, de_dic, de_str, List.getElem?_cons_zero, List.getElem?_cons_succ, List.set_cons_zero, List.set_cons_succ, Option.bind_some, Option.map_some, hk, he, hd, ha, hm, isNonB_non]; rfl)))
    rw [loopF_nx rfl h2, e]
theorem pure_k01 (ns : List Int) (hn : ns.length ≤ 63) : ∃ st, callF P 200 (.f i_law_k01) [.scr ns] [] = .ok (.bl true) st := by
  have hl := cutL_le ns none (some 60)
  have hs : slc none (some 60) (.scr ns) = some (.lst ((cutL ns none (some 60)).map .int)) := rfl
  have hlen : lenOp (.lst ((cutL ns none (some 60)).map .int)) = some (.int ((cutL ns none (some 60)).length : Int)) := by
    show some (PV.int ((List.map PV.int (cutL ns none (some 60))).length : Int)) = _
    rw [List.length_map]
  generalize cutL ns none (some 60) = q at hl hs hlen
  have dv : fdivOp (.int (q.length : Int)) (.int 20) = some (.int ((q.length : Int) / 20)) := div_ii (by decide) (by decide)
  obtain ⟨j, hj⟩ : ∃ j : Nat, 1 + (q.length : Int) / 20 = j := ⟨(1 + (q.length : Int) / 20).toNat, by omega⟩
  have ad : addOp (.int 1) (.int ((q.length : Int) / 20)) = some (.int (j : Int)) := by rw [add_ii, hj]
  obtain ⟨s2', s3', s4', st', e⟩ := k01_loop (P := P) (ns := ns) (rngL 0 (j : Int)) 0 .un .un .un (by decide) (by
    have : (rngL 0 (j : Int)).length = j := by rw [rng0]; simp
    rw [this]; omega)
  refine ⟨st', ?_⟩
  rw [call_law_k01]
  refine step_nx (by simp only [evSs, evS, evE, evEs, evO_none, evO_some, evIt, bind_ok, bind_exc, bind_bad, flow_ok, flow_exc, flow_bad, then_nx, then_ct, then_ret, then_exc, res_ok, res_exc, cr_ret, cr_nx, cr_exc, then_nil, then_tail, cr_tail, fixB, prim, ixL0, ixT0, ixT1, ixT2, ixT3, eq_ii, eq_ss, tq_cc, tq_cn, tq_nc, tq_nn, Nat.reduceBEq, Int.reduceBEq, Bool.true_and, Bool.false_and, bt_not, bf_not, wd, de_scr, de_tup, de_lst, de_dic, de_str, List.getElem?_cons_zero, List.getElem?_cons_succ, List.set_cons_zero, List.set_cons_succ, Option.bind_some, Option.map_some, isCont, if_true, List.nil_append, List.length_nil]; rfl) ?_
  refine step_nx (for_step (evIt_rng1 (n := (j : Int)) (by simp only [evSs, evS, evE, evEs, evO_none, evO_some, evIt, bind_ok, bind_exc, bind_bad, flow_ok, flow_exc, flow_bad, then_nx, then_ct, then_ret, then_exc, res_ok, res_exc, cr_ret, cr_nx, cr_exc, then_nil, then_tail, cr_tail, fixB, prim, ixL0, ixT0, ixT1, ixT2, ixT3, eq_ii, eq_ss, tq_cc, tq_cn, tq_nc, tq_nn, Nat.reduceBEq, Int.reduceBEq, Bool.true_and, Bool.false_and, bt_not, bf_not, wd, de_scr, de_tup, de_lst, de_dic, de_str, List.getElem?_cons_zero, List.getElem?_cons_succ, List.set_cons_zero, List.set_cons_succ, Option.bind_some, Option.map_some, sl1, hs, hlen, dv, ad]) (small_nat (by omega))) e) ?_
  (repeat (first | refine step_nx (by simp only [evSs, evS, evE, evEs, evO_none, evO_some, evIt, bind_ok, bind_exc, bind_bad, flow_ok, flow_exc, flow_bad, then_nx, then_ct, then_ret, then_exc, res_ok, res_exc, cr_ret, cr_nx, cr_exc, then_nil, then_tail, cr_tail, fixB, prim, ixL0, ixT0, ixT1, ixT2, ixT3, eq_ii, eq_ss, tq_cc, tq_cn, tq_nc, tq_nn, Nat.reduceBEq, Int.reduceBEq, Bool.true_and, Bool.false_and, bt_not, bf_not, wd, de_scr, de_tup, de_lst, de_dic, de_str, List.getElem?_cons_zero, List.getElem?_cons_succ, List.set_cons_zero, List.set_cons_succ, Option.bind_some, Option.map_some]; rfl) ?_ | refine step_ret (by simp only [evSs, evS, evE, evEs, evO_none, evO_some, evIt, bind_ok, bind_exc, bind_bad, flow_ok, flow_exc, flow_bad, then_nx, then_ct, then_ret, then_exc, res_ok, res_exc, cr_ret, cr_nx, cr_exc, then_nil, then_tail, cr_tail, fixB, prim, ixL0, ixT0, ixT1, ixT2, ixT3, eq_ii, eq_ss, tq_cc, tq_cn, tq_nc, tq_nn, Nat.reduceBEq, Int.reduceBEq, Bool.true_and, Bool.false_and, bt_not, bf_not, wd, de_scr, de_tup, de_lst, de_dic, de_str, List.getElem?_cons_zero, List.getElem?_cons_succ, List.set_cons_zero, List.set_cons_succ, Option.bind_some, Option.map_some]; rfl)))
end
end PB

end
set_option Elab.async false
set_option linter.all false
set_option maxRecDepth 100000
set_option exponentiation.threshold 10000
namespace PB.k01
open PySem L2
abbrev PR : Program := PySem.Challenge.pw_putback_k01_empty_values
def dd (i : Nat) : He.DefD := match PR.main.body[i]? with
  | some (.FunctionDef n a b _ _ _ sc _ _ _) => ⟨(n, none), n, n, a, b, sc, [], []⟩
  | _ => ⟨("", none), "", "", ⟨[], [], none, [], [], none, []⟩, [], ⟨.function, [], false, false, []⟩, [], []⟩
def fil : FnI := ⟨f_l_next, dd 13, n_l_next⟩
def fns : List FnI := [⟨f_kind_at, dd 1, n_kind_at⟩, ⟨f_is_whole, dd 3, n_is_whole⟩, ⟨f_rank, dd 4, n_rank⟩, ⟨f_record_misfit, dd 5, n_record_misfit⟩, ⟨f_rows_misfit, dd 6, n_rows_misfit⟩, ⟨f_tree_misfit, dd 7, n_tree_misfit⟩, ⟨f_either_misfit, dd 8, n_either_misfit⟩, ⟨f_misfit, dd 9, n_misfit⟩, ⟨f_empty, dd 10, n_empty⟩, ⟨f_empty_record, dd 11, n_empty_record⟩, ⟨f_l_next, dd 13, n_l_next⟩, ⟨f_l_names, dd 14, n_l_names⟩, ⟨f_l_plain, dd 15, n_l_plain⟩, ⟨f_l_fields, dd 16, n_l_fields⟩, ⟨f_l_rows_kind, dd 17, n_l_rows_kind⟩, ⟨f_l_kind, dd 18, n_l_kind⟩, ⟨f_l_alike, dd 19, n_l_alike⟩, ⟨f_l_due, dd 20, n_l_due⟩, ⟨f_law_k01, dd 21, n_law_k01⟩]
def gls : List (Str × GK) := [("kind_at", .fn i_kind_at), ("is_whole", .fn i_is_whole), ("rank", .fn i_rank), ("record_misfit", .fn i_record_misfit), ("rows_misfit", .fn i_rows_misfit), ("tree_misfit", .fn i_tree_misfit), ("either_misfit", .fn i_either_misfit), ("misfit", .fn i_misfit), ("empty", .fn i_empty), ("empty_record", .fn i_empty_record), ("_law_next", .fn i_l_next), ("_law_names", .fn i_l_names), ("_law_plain", .fn i_l_plain), ("_law_fields", .fn i_l_fields), ("_law_rows_kind", .fn i_l_rows_kind), ("_law_kind", .fn i_l_kind), ("_law_alike", .fn i_l_alike), ("_law_due", .fn i_l_due), ("law", .fn i_law_k01)]
def L : LawT := { fs := fns, gl := gls }
instance : ND L.P := ⟨no_dfl rfl⟩
instance : H_kind_at L.P := ⟨rfl⟩
instance : H_is_whole L.P := ⟨rfl⟩
instance : H_rank L.P := ⟨rfl⟩
instance : H_record_misfit L.P := ⟨rfl⟩
instance : H_rows_misfit L.P := ⟨rfl⟩
instance : H_tree_misfit L.P := ⟨rfl⟩
instance : H_either_misfit L.P := ⟨rfl⟩
instance : H_misfit L.P := ⟨rfl⟩
instance : H_empty L.P := ⟨rfl⟩
instance : H_empty_record L.P := ⟨rfl⟩
instance : H_l_next L.P := ⟨rfl⟩
instance : H_l_names L.P := ⟨rfl⟩
instance : H_l_plain L.P := ⟨rfl⟩
instance : H_l_fields L.P := ⟨rfl⟩
instance : H_l_rows_kind L.P := ⟨rfl⟩
instance : H_l_kind L.P := ⟨rfl⟩
instance : H_l_alike L.P := ⟨rfl⟩
instance : H_l_due L.P := ⟨rfl⟩
instance : H_law_k01 L.P := ⟨rfl⟩
/-! ### the head's run -/
abbrev R : PySem.W.OpenRow := PySem.W.OpenLaw.row PySem.Challenge.rw_putback_k01_empty_values
abbrev hk : PySem.W.Hook := He.hookD 6 L.fa L.fn
def ob (s : PySem.W.SharedT) : He.AlD := He.obsDG 6 L.fa L.fn (HandSHeadRun.getT s)
theorem obE (s : PySem.W.SharedT) : ob s = hk.obs s.abs := He.obsDG_eq (HandSHeadRun.getT_eq s)
def loo : List Str := (["kind_at", "is_whole", "rank", "record_misfit", "rows_misfit", "tree_misfit", "either_misfit", "misfit", "empty", "empty_record", "_law_next", "_law_names", "_law_plain", "_law_fields", "_law_rows_kind", "_law_kind", "_law_alike", "_law_due"] : List Str)
theorem hrun (w : World) : HandSHeadRun.RunEq R (PySem.W.view R.prog [21]) hk ob 20000 loo w := by
  intro os
  kernel_rfl
theorem okL : L.ok = true := by kernel_rfl
end PB.k01
open PySem PySem.W PySem.Calls PyProof.Rows
set_option maxRecDepth 100000 in
theorem PySem.Challenge.cw_putback_k01_empty_values_holds : PySem.Challenge.rw_putback_k01_empty_values.Holds := by
  w_on; o_law
  refine HandSHeadRun.head_any (r := OpenLaw.row PySem.Challenge.rw_putback_k01_empty_values) (q := view PB.k01.R.prog [21]) (H := PB.k01.hk) (ob := PB.k01.ob) (M := 20000) (loose := PB.k01.loo) (d := HandSHeadRun.topDef PB.k01.R.prog 21) (kwd := []) PB.k01.obE
    (by kernel_rfl) (fun s => by kernel_rfl) PB.k01.hrun (by kernel_rfl) (by kernel_rfl) (by kernel_rfl) (by rfl) (by first | assumption | decide +kernel) (by decide +kernel) ⟨rfl, rfl, rfl, rfl, rfl, by decide +kernel⟩ ?hw ?hc
  case hw => w_witness2
  case hc =>
    exact PB.law_walk (l := PySem.Challenge.rw_putback_k01_empty_values) (L := PB.k01.L) (n := 200) (m := PB.i_law_k01) (i := ⟨PB.f_law_k01, PB.k01.dd 21, PB.n_law_k01⟩) (x := "_law_script") PB.k01.okL (by rfl) (by kernel_rfl) (by kernel_rfl) (by kernel_rfl) rfl (by kernel_rfl) ⟨rfl, by decide, by decide⟩ PB.pure_k01

