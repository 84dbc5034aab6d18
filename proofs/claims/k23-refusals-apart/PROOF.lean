import PyProof.Rows.All
import Wide.All
import OpenK.AllK
import Wide.FinOn
import KE.KStateDown
import PySem.Str
import HandS.ForMost
import HandS.Wide
import HandS.TupAny
import HandS.Deep
import HandS.Lambda
import KE.KDictKeyed
import HandS.ExcInit
import HandS.ExcValue
import HandS.TupMul
import HandS.Style
import HandS.Flow
import HandS.DictComp
import HandS.IsInst
import HandS.More
import HandS.TupLen
import HandS.Text
import KE.IntTextLaws
import HandS.WordsExc
import HandS.Conv
import HandS.SortInts
import HandS.Codes
import HandS.RaiseMore
import PyProof.Rows.SortShellAny
import HandS.Remove
import HandS.SetFor
import HandS.SortKw
import KE.SortKeyHeap
import HandS.Iter
import KE.GoesEnum
import HandS.Zip
import HandS.TryOnly
import HandS.HeadWalk
import HandS.TryMany
import HandS.ExcIs
import HandS.ExcField
import KE.KExcIs
import HandS.Ends
import HandS.Words
import HandS.Defaults
import HandS.Head0
import HandS.Head1
import HandS.Head2
import HandS.HeadEnd
import HandS.HeadHook1
import HandS.HeadHook2
import HandS.HeadHook3
import HandS.HeadHook4
import HandS.EndTab
import HandS.NestedK
import PySem.Challenge.RW_ledpast_k23_refusals_apart
set_option linter.all false
set_option linter.all false
set_option maxRecDepth 100000
namespace MP
inductive D where
  | non | bl (b : Bool) | int (i : Int) | str (x : List Nat) | tup (xs : List D) | ref (a : Nat)
  /-- the script: a list of ints that is only read -/
  | scr (l : List Int)
  deriving Repr, Inhabited
inductive Ob where
  | lst (l : List D)
  /-- a dict with keys that are ints and texts; one with keys that are tuples -/
  | dF (l : List (D × D)) | dT (l : List (D × D))
  /-- a dict that is walked just now: read, never written -/
  | dL (l : List (D × D))
  /-- an instance: its class, its fields -/
  | ins (c : Nat) (l : List (Nat × D))
  /-- an exception held as a value: its class, its line if it keeps one; one whose __init__ runs -/
  | exc (c : Nat) (o : Option D) | exn (c : Nat)
  deriving Inhabited
abbrev Sto := Nat → Option Ob
abbrev Env := List (Option D)
def upd (μ : Sto) (a : Nat) (o : Ob) : Sto := fun b => if b = a then some o else μ b

inductive BOp where
  | add | sub | mul | fdiv | mod | pow
  deriving DecidableEq, Repr
inductive COp where
  | eq | ne | lt | le | gt | ge | isin | notin | is | isnot
  deriving DecidableEq, Repr
inductive Ty where
  | int | bool | tuple | str
  deriving DecidableEq, Repr
inductive Prim where
  | len | abs | min2 | max2 | min1 | max1 | int | str | list | tuple | dict | sorted | all
  | append | pop | popAt | dpop | dpop1 | get | insert | remove | index | count | extend | join | split
  deriving DecidableEq, Repr
inductive IK where
  | any | range | enum | zip
  deriving DecidableEq, Repr
inductive P where
  | v (i : Nat) | nil | cons (a b : P)
  deriving DecidableEq, Repr
inductive E where
  | var (i : Nat)
  | cn | cb (b : Bool) | ci (i : Int) | cs (x : List Nat) | cst (k : Nat)
  | nil | cons (e r : E)
  | tup (a : E) | lst (a : E) | dnew | dict (a : E)
  | bin (o : BOp) (a b : E) | neg (a : E)
  | cmp (o : COp) (a b : E) | cmp2 (o p : COp) (a b c : E)
  | and (a b : E) | or (a b : E) | not (a : E)
  | idx (a i : E) | part (a : E) | slc (a lo hi : E) | rev (a : E)
  | call (f : Nat) (a : E) | new (c f : Nat) (a : E) | meth (m : Nat) (o a : E)
  | prim (p : Prim) (a : E) | bm (p : Prim) (o a : E) | isi (a : E) (t : Ty) | attr (o : E) (f : Nat)
  | comp (elt : E) (p : P) (k : IK) (src cond : E) (own : List Nat)
  | skey (a : E) | tru (a : E)
  /-- list(range(..)), tuple(range(..)); a value, or a new dict in the place of one that is None or empty -/
  | rng (t : Bool) (a : E) | orD (a : E)
  /-- an exception made, its class without or with an own __init__; the base's __init__; isinstance of an exception held, by its class; its line -/
  | mkE (c : Nat) (a : E) | mkN (c f : Nat) (a : E) | vei (a : E) | isx (a : E) (bs : List (Nat × Bool)) | lin (a : E)
  deriving DecidableEq, Repr
inductive St where
  | nop | seq (a b : St)
  | set (p : P) (e : E) | setL (p : P) (e : E) | setIdx (o i e : E) | setAttr (o : E) (f : Nat) (e : E)
  | augVar (i : Nat) (e : E) | augAttr (o : E) (f : Nat) (e : E)
  | expr (e : E) | ret (e : E) | ite (c : E) (a b : St)
  | for (p : P) (k : IK) (src : E) (body : St) | while (c : E) (body : St)
  /-- a loop over the keys of the dict that a name holds -/
  | forD (p : P) (i : Nat) (body : St)
  | raise (c : Nat) (a : E)
  /-- a try and its clauses: a class's number, the slot of the name (or one past all), the suite, the clauses behind -/
  | tri (b h : St) | hd (c i : Nat) (s r : St)
  /-- the line of an exception whose __init__ runs -/
  | setLn (o e : E)
  deriving DecidableEq, Repr

def D.ok : Nat → D → Bool
  | 0, _ => false
  | n + 1, .tup xs => xs.all (D.ok n)
  | _, .ref _ => false
  | _, .scr _ => false
  | _, .str x => x.all fun c => decide (c < 1114112)
  | _, _ => true
def b2i (b : Bool) : Int := if b then 1 else 0
mutual
/-- == of data without addresses -/
def D.eqb : D → D → Bool
  | .non, .non => true
  | .bl a, .bl b => a == b
  | .bl a, .int b => b2i a == b
  | .int a, .bl b => a == b2i b
  | .int a, .int b => a == b
  | .str a, .str b => a == b
  | .tup a, .tup b => D.eqbs a b
  | _, _ => false
def D.eqbs : List D → List D → Bool
  | [], [] => true
  | x :: xs, y :: ys => D.eqb x y && D.eqbs xs ys
  | _, _ => false
end
def ixN (n : Nat) (i : Int) : Option Nat :=
  if 0 ≤ i then (if i < n then some i.toNat else none) else if -(n : Int) ≤ i then some (i + n).toNat else none
def getI {α : Type} (l : List α) (i : Int) : Option α := match ixN l.length i with
  | some j => l[j]?
  | none => none
def sIx (n d : Nat) : Option Int → Nat
  | none => d
  | some v => if v < 0 then (v + (n : Int)).toNat else min v.toNat n
def sliceL {α : Type} (l : List α) (lo hi : Option Int) : List α := (l.drop (sIx l.length 0 lo)).take (sIx l.length l.length hi - sIx l.length 0 lo)
def optI : D → Option (Option Int)
  | .non => some none
  | .int i => some (some i)
  | _ => none
def sizeMax : Nat := 16777216
def Small (i : Int) : Prop := i.natAbs < 10 ^ 250
def powOk (i j : Int) : Bool := decide (0 ≤ j ∧ j ≤ 250 ∧ i.natAbs < 1000000)
def isFlat : D → Bool
  | .int _ => true
  | .str _ => true
  | _ => false
def isKey : Nat → D → Bool
  | 0, _ => false
  | _, .non => true
  | _, .int _ => true
  | _, .str _ => true
  | n + 1, .tup xs => xs.all (isKey n)
  | _, _ => false
def isFl : D → Bool
  | .non => true
  | .bl _ => true
  | .int _ => true
  | .str _ => true
  | _ => false
def isTupKey : D → Bool
  | .tup xs => isKey 7 (.tup xs)
  | _ => false
def dget : List (D × D) → D → Option D
  | [], _ => none
  | (k, v) :: r, x => if D.eqb k x then some v else dget r x
def dput (l : List (D × D)) (x y : D) : List (D × D) :=
  if l.any (fun p => D.eqb p.1 x) = true then l.map (fun p => if D.eqb p.1 x = true then (p.1, y) else p) else l ++ [(x, y)]
def ddel (l : List (D × D)) (x : D) : List (D × D) := l.filter fun p => !D.eqb p.1 x
def pairUp : List D → Option (List (D × D))
  | [] => some []
  | k :: v :: r => (pairUp r).map ((k, v) :: ·)
  | _ => none
def dputs (l : List (D × D)) : List (D × D) → List (D × D)
  | [] => l
  | (k, v) :: r => dputs (dput l k v) r
def lookF : List (Nat × D) → Nat → Option D
  | [], _ => none
  | (k, v) :: r, x => if Nat.beq k x then some v else lookF r x
def putF : List (Nat × D) → Nat → D → List (Nat × D)
  | [], x, y => [(x, y)]
  | (k, v) :: r, x, y => if Nat.beq k x then (k, y) :: r else (k, v) :: putF r x y
def strLt : List Nat → List Nat → Bool
  | _, [] => false
  | [], _ :: _ => true
  | a :: r, b :: q => decide (a < b) || (a == b && strLt r q)
def allB : List D → Option Bool
  | [] => some true
  | .bl b :: r => (allB r).map (b && ·)
  | _ => none
def intsD : List D → Option (List Int)
  | [] => some []
  | .int i :: r => (intsD r).map (i :: ·)
  | _ => none
def strsD : List D → Option (List (List Nat))
  | [] => some []
  | .str i :: r => (strsD r).map (i :: ·)
  | _ => none
def firstAt (l : List D) (x : D) : Option Nat := l.findIdx? (fun y => D.eqb y x)

def optP {α : Type} (o : Option α) (k : α → Prop) : Prop := match o with
  | some x => k x
  | none => False
def br (d : D) (A B : Prop) : Prop := match d with
  | .bl b => (b = true → A) ∧ (b = false → B)
  | _ => False
abbrev EX := Nat → List D → Sto → Prop
abbrev Fn := List D → Sto → (D → Sto → Prop) → EX → Prop
structure Ctx where
  fn : Nat → Fn
  mt : Nat → Nat → Option Nat
  fl : Nat → Nat → Bool
  cst : Nat → Option D
def new (μ : Sto) (o : Ob) (Q : D → Sto → Prop) : Prop := ∀ a, μ a = none → Q (.ref a) (upd μ a o)
def tup1 : List (D × D) → Option (D × D)
  | [(k, v)] => if isTupKey k = true then some (k, v) else none
  | _ => none
def dictP (l : List (D × D)) (μ : Sto) (Q : D → Sto → Prop) : Prop := match tup1 l with
  | some p => new μ (.dT [p]) Q
  | none => l.length ≤ 15 ∧ l.all (fun p => isFlat p.1) = true ∧ new μ (.dF (dputs [] l)) Q
def insP (x : D) (μ : Sto) (k : Nat → Nat → List (Nat × D) → Prop) : Prop := match x with
  | .ref p => match μ p with
    | some (.ins c l) => k p c l
    | _ => False
  | _ => False
def rdL (μ : Sto) (a : Nat) (k : List D → Prop) : Prop := match μ a with
  | some (.lst l) => k l
  | _ => False
inductive W where
  | non | bl (b : Bool) | int (i : Int) | str (x : List Nat) | tup (xs : List W) | lst (xs : List W)
def binP (o : BOp) (x y : D) (μ : Sto) (Q : D → Sto → Prop) : Prop := match o, x, y with
  | .add, .int i, .int j => Q (.int (i + j)) μ
  | .add, .str i, .str j => i.length + j.length ≤ sizeMax ∧ Q (.str (i ++ j)) μ
  | .add, .tup i, .tup j => i.length + j.length ≤ sizeMax ∧ Q (.tup (i ++ j)) μ
  | .add, .ref a, .ref b => rdL μ a fun i => rdL μ b fun j => i.length + j.length ≤ sizeMax ∧ new μ (.lst (i ++ j)) Q
  | .sub, .int i, .int j => Q (.int (i - j)) μ
  | .mul, .int i, .int j => Small i ∧ Small j ∧ Q (.int (i * j)) μ
  | .mul, .str i, .int j => 0 ≤ j ∧ j ≤ 100000 ∧ i.length * j.toNat ≤ 100000 ∧ Q (.str (List.replicate j.toNat i).flatten) μ
  | .mul, .ref a, .int j => rdL μ a fun l => 0 ≤ j ∧ j ≤ sizeMax ∧ l.length * j.toNat ≤ sizeMax ∧ new μ (.lst (List.replicate j.toNat l).flatten) Q
  | .mul, .tup l, .int j => l ≠ [] ∧ 0 ≤ j ∧ j ≤ 1000 ∧ l.length ≤ 1000 ∧ Q (.tup (List.replicate j.toNat l).flatten) μ
  | .fdiv, .int i, .int j => 0 < j ∧ Small j ∧ Q (.int (i / j)) μ
  | .mod, .int i, .int j => 0 < j ∧ Q (.int (i % j)) μ
  | .pow, .int i, .int j => powOk i j = true ∧ Q (.int (i ^ j.toNat)) μ
  | _, _, _ => False
mutual
/-- the data d, its lists looked up -/
def isW (μ : Sto) : W → D → Prop
  | .non, d => d = .non
  | .bl b, d => d = .bl b
  | .int i, d => d = .int i
  | .str x, d => d = .str x
  | .tup xs, d => ∃ ds, d = .tup ds ∧ isWs μ xs ds
  | .lst xs, d => ∃ a ds, d = .ref a ∧ μ a = some (.lst ds) ∧ isWs μ xs ds
def isWs (μ : Sto) : List W → List D → Prop
  | [], ds => ds = []
  | x :: xs, ds => ∃ d r, ds = d :: r ∧ isW μ x d ∧ isWs μ xs r
end
mutual
def W.eqb : W → W → Bool
  | .non, .non => true
  | .bl a, .bl b => a == b
  | .bl a, .int b => b2i a == b
  | .int a, .bl b => a == b2i b
  | .int a, .int b => a == b
  | .str a, .str b => a == b
  | .tup a, .tup b => W.eqbs a b
  | .lst a, .lst b => W.eqbs a b
  | _, _ => false
def W.eqbs : List W → List W → Bool
  | [], [] => true
  | x :: xs, y :: ys => W.eqb x y && W.eqbs xs ys
  | _, _ => false
end
def W.ok : Nat → W → Bool
  | 0, _ => false
  | n + 1, .tup xs => xs.all (W.ok n)
  | n + 1, .lst xs => xs.all (W.ok n)
  | _, .str x => x.all fun c => decide (c < 1114112)
  | _, _ => true
def eqDK (x y : D) (μ : Sto) (k : Bool → Prop) : Prop := ∃ a b l, x = .ref a ∧ y = .ref b ∧ μ a = some (.dF l) ∧ μ b = some (.dF l) ∧ (l.map (·.1)).Nodup ∧ l.all (fun p => isFl p.2) = true ∧ k true
def eqLN (x y : D) (μ : Sto) (k : Bool → Prop) : Prop := ∃ a b l m, x = .ref a ∧ y = .ref b ∧ μ a = some (.lst l) ∧ μ b = some (.lst m) ∧ l.length ≠ m.length ∧ k false
def eqP (x y : D) (μ : Sto) (k : Bool → Prop) : Prop := match isFl x && isFl y with
  | true => k (D.eqb x y)
  | false => (D.ok 60 x = true ∧ D.ok 60 y = true ∧ k (D.eqb x y)) ∨ (∃ a b, isW μ a x ∧ isW μ b y ∧ W.ok 60 a = true ∧ W.ok 60 b = true ∧ k (W.eqb a b)) ∨ eqDK x y μ k ∨ eqLN x y μ k
def inP (x y : D) (μ : Sto) (k : Bool → Prop) : Prop := match x, y with
  | .str i, .str j => (∃ c, i = [c] ∧ k (j.contains c))
  | x, .tup l => isFl x = true ∧ l.all isFl = true ∧ k (l.any fun y => D.eqb y x)
  | x, .ref a => match μ a with
    | some (.lst l) => D.ok 60 x = true ∧ l.all (D.ok 60) = true ∧ k (l.any fun y => D.eqb y x)
    | some (.dF l) => (isFlat x = true ∧ k (dget l x).isSome) ∨ (l = [] ∧ isTupKey x = true ∧ k false)
    | some (.dT l) => isTupKey x = true ∧ k (dget l x).isSome
    | _ => False
  | _, _ => False
def truP (x : D) (μ : Sto) (k : Bool → Prop) : Prop := match x with
  | .bl b => k b
  | .tup l => k (!l.isEmpty)
  | .ref p => match μ p with
    | some (.lst l) => k (!l.isEmpty)
    | some (.dF l) => k (!l.isEmpty)
    | _ => False
  | _ => False
def isNon : D → Bool
  | .non => true
  | _ => false
def cmpP (o : COp) (x y : D) (μ : Sto) (k : Bool → Prop) : Prop := match o, x, y with
  | .eq, x, y => eqP x y μ k
  | .ne, x, y => eqP x y μ fun b => k (!b)
  | .lt, .int i, .int j => k (decide (i < j))
  | .le, .int i, .int j => k (decide (i ≤ j))
  | .gt, .int i, .int j => k (decide (j < i))
  | .ge, .int i, .int j => k (decide (j ≤ i))
  | .lt, .str i, .str j => k (strLt i j)
  | .isin, x, y => inP x y μ k
  | .notin, x, y => inP x y μ fun b => k (!b)
  | .is, x, .non => k (isNon x)
  | .isnot, x, .non => k (!isNon x)
  | .is, .bl c, .bl b => k (c == b)
  | .isnot, .bl c, .bl b => k (!(c == b))
  | _, _, _ => False
def idxP (x i : D) (μ : Sto) (Q : D → Prop) : Prop := match x, i with
  | .scr l, .int i => optP (getI l i) fun n => Q (.int n)
  | .tup l, .int i => optP (getI l i) Q
  | .str l, .int i => l.length ≤ sizeMax ∧ optP (getI l i) fun c => Q (.str [c])
  | .ref a, k => match μ a, k with
    | some (.lst l), .int i => optP (getI l i) Q
    | some (.dF l), k => isFlat k = true ∧ optP (dget l k) Q
    | some (.dT l), k => isTupKey k = true ∧ optP (dget l k) Q
    | some (.dL l), k => isFlat k = true ∧ optP (dget l k) Q
    | _, _ => False
  | _, _ => False
def slc2P (x : D) (i j : Option Int) (μ : Sto) (Q : D → Sto → Prop) : Prop := match x with
  | .tup l => Q (.tup (sliceL l i j)) μ
  | .str l => l.length ≤ sizeMax ∧ Q (.str (sliceL l i j)) μ
  | .ref a => rdL μ a fun l => new μ (.lst (sliceL l i j)) Q
  | _ => False
def setIdxP (x i y : D) (μ : Sto) (Q : Sto → Prop) : Prop := match x with
  | .ref a => match μ a, i with
    | some (.lst l), .int i => optP (ixN l.length i) fun j => Q (upd μ a (.lst (l.set j y)))
    | some (.dF l), k => (isFlat k = true ∧ l.length < sizeMax ∧ Q (upd μ a (.dF (dput l k y)))) ∨ (l = [] ∧ isTupKey k = true ∧ Q (upd μ a (.dT [(k, y)])))
    | some (.dT l), k => isTupKey k = true ∧ l.length < sizeMax ∧ Q (upd μ a (.dT (dput l k y)))
    | _, _ => False
  | _ => False
def isiP (d : D) (t : Ty) : Bool := match d, t with
  | .int _, .int => true
  | .bl _, .int => true
  | .bl _, .bool => true
  | .tup _, .tuple => true
  | .str _, .str => true
  | _, _ => false
def lstOrD : Ob → Bool
  | .lst _ => true
  | .dF _ => true
  | _ => false
def isiOk (d : D) (μ : Sto) : Prop := match d with
  | .scr _ => False
  | .ref a => ((μ a).map lstOrD) = some true
  | _ => True
def itemsP (d : D) (μ : Sto) (k : List D → (Sto → Prop) → Prop) : Prop := match d with
  | .tup l => k l fun _ => True
  | .str l => k (l.map fun c => .str [c]) fun _ => True
  | .scr l => k (l.map D.int) fun _ => True
  | .ref a => rdL μ a fun l => k l fun μ' => μ' a = some (.lst l)
  | _ => False
def rangeL (lo : Int) (n : Nat) (c : Int) : List D := (List.range n).map fun (i : Nat) => .int (lo + (i : Int) * c)
def enumL : Nat → List D → List D
  | _, [] => []
  | i, d :: r => .tup [.int i, d] :: enumL (i + 1) r
def inB (i : Int) : Prop := -1000000000 ≤ i ∧ i ≤ 1000000000
def intK (d : D) (k : Int → Prop) : Prop := match d with
  | .int n => inB n ∧ k n
  | _ => False
def rangeP (ds : List D) (k : List D → (Sto → Prop) → Prop) : Prop := match ds with
  | [a] => intK a fun n => k (rangeL 0 n.toNat 1) fun _ => True
  | [a, b] => intK a fun a => intK b fun b => k (rangeL a (b - a).toNat 1) fun _ => True
  | [a, b, c] => intK a fun a => intK b fun b => intK c fun c => c = -1 ∧ k (rangeL a (a - b).toNat (-1)) fun _ => True
  | _ => False
def zipL : List D → List D → List D
  | x :: l, y :: m => .tup [x, y] :: zipL l m
  | _, _ => []
def zipP (ds : List D) (μ : Sto) (k : List D → (Sto → Prop) → Prop) : Prop := match ds with
  | [.tup l, .tup m] => k (zipL l m) fun _ => True
  | [.ref a, .ref b] => rdL μ a fun l => rdL μ b fun m => k (zipL l m) fun μ' => μ' a = some (.lst l) ∧ μ' b = some (.lst m)
  | _ => False
def iterP (kd : IK) (ds : List D) (μ : Sto) (k : List D → (Sto → Prop) → Prop) : Prop := match kd with
  | .any => match ds with
    | [d] => itemsP d μ k
    | _ => False
  | .range => rangeP ds k
  | .enum => match ds with
    | [.ref a] => rdL μ a fun l => k (enumL 0 l) fun μ' => μ' a = some (.lst l)
    | [.tup l] => k (enumL 0 l) fun _ => True
    | _ => False
  | .zip => zipP ds μ k
def leD : D → D → Prop
  | .int i, .int j => i ≤ j
  | .str i, .str j => strLt j i = false
  | _, _ => False
def isInt : D → Bool
  | .int _ => true
  | _ => false
def isStr : D → Bool
  | .str _ => true
  | _ => false
def keyLe : D → D → Prop
  | .tup (x :: _), .tup (y :: _) => leD x y
  | _, _ => False
def hasStrKey : D → Bool
  | .tup (.str _ :: _) => true
  | _ => false
def joinS (sep : List Nat) : List (List Nat) → List Nat
  | [] => []
  | [x] => x
  | x :: y :: r => x ++ sep ++ joinS sep (y :: r)
def seqP (d : D) (μ : Sto) (k : List D → Prop) : Prop := match d with
  | .tup l => k l
  | .ref a => rdL μ a k
  | _ => False
def lenO : Ob → Option Nat
  | .lst l => some l.length
  | .dF l => some l.length
  | .dT l => some l.length
  | _ => none
def lenP (d : D) (μ : Sto) (Q : D → Sto → Prop) : Prop := match d with
  | .tup l => Q (.int l.length) μ
  | .scr l => Q (.int l.length) μ
  | .str l => l.length ≤ sizeMax ∧ Q (.int l.length) μ
  | .ref a => optP ((μ a).bind lenO) fun n => Q (.int n) μ
  | _ => False
def absP (d : D) (μ : Sto) (Q : D → Sto → Prop) : Prop := match d with
  | .int i => Q (.int (if i < 0 then -i else i)) μ
  | _ => False
def min2P (d e : D) (μ : Sto) (Q : D → Sto → Prop) : Prop := match d, e with
  | .int i, .int j => Q (.int (min i j)) μ
  | _, _ => False
def max2P (d e : D) (μ : Sto) (Q : D → Sto → Prop) : Prop := match d, e with
  | .int i, .int j => Q (.int (max i j)) μ
  | _, _ => False
def rdR (d : D) (μ : Sto) (k : Nat → List D → Prop) : Prop := match d with
  | .ref a => rdL μ a (k a)
  | _ => False
def digV (x : List Nat) : Nat := x.foldl (fun n c => n * 10 + (c - 48)) 0
def allDig (x : List Nat) : Bool := !x.isEmpty && x.all fun c => decide (48 ≤ c) && decide (c ≤ 57)
def numT (x : List Nat) : Option Int := if allDig x = true then some (digV x) else match x with
  | 45 :: r => if allDig r = true then some (-(digV r : Int)) else none
  | _ => none
def intP (d : D) (μ : Sto) (Q : D → Sto → Prop) : Prop := match d with
  | .int i => Q (.int i) μ
  | .bl b => Q (.int (b2i b)) μ
  | .str x => x.length ≤ 600 ∧ optP (numT x) fun n => Q (.int n) μ
  | _ => False
def rdD (d : D) (μ : Sto) (k : Nat → List (D × D) → Prop) : Prop := match d with
  | .ref a => match μ a with
    | some (.dF l) => k a l
    | _ => False
  | _ => False
def rdG (d : D) (μ : Sto) (k : Nat → List (D × D) → Prop) : Prop := match d with
  | .ref a => match μ a with
    | some (.dF l) => k a l
    | some (.dL l) => k a l
    | _ => False
  | _ => False
def arg1 (ds : List D) (k : D → Prop) : Prop := match ds with
  | [d] => k d
  | _ => False
def arg2 (ds : List D) (k : D → D → Prop) : Prop := match ds with
  | [d, e] => k d e
  | _ => False
def arg3 (ds : List D) (k : D → D → D → Prop) : Prop := match ds with
  | [d, e, f] => k d e f
  | _ => False
def strK (d : D) (k : List Nat → Prop) : Prop := match d with
  | .str x => k x
  | _ => False
def intO (d : D) (k : Int → Prop) : Prop := match d with
  | .int n => k n
  | _ => False
def natO (d : D) (k : Nat → Prop) : Prop := match d with
  | .int n => 0 ≤ n ∧ n < 1000000000 ∧ k n.toNat
  | _ => False
def ownO : Ob → Option (List D)
  | .lst l => some l
  | .dF l => some (l.map (·.1))
  | _ => none
def ownK (d : D) (μ : Sto) (k : List D → Prop) : Prop := match d with
  | .ref a => optP ((μ a).bind ownO) k
  | _ => False
def lstK (d : D) (μ : Sto) (k : List D → Prop) : Prop := match d with
  | .tup l => k l
  | .ref a => optP ((μ a).bind ownO) k
  | _ => False
def leB : D → D → Bool
  | .int i, .int j => decide (i ≤ j)
  | .str i, .str j => !strLt j i
  | _, _ => false
def insD (x : D) : List D → List D
  | [] => [x]
  | y :: r => if leB x y = true then x :: y :: r else y :: insD x r
def sortD : List D → List D
  | [] => []
  | x :: r => insD x (sortD r)
def sortable (l : List D) : Bool := l.all isInt || l.all isStr
def figs : Nat → Nat → List Nat
  | 0, _ => []
  | k + 1, n => if n < 10 then [48 + n] else figs k (n / 10) ++ [48 + n % 10]
def natS (n : Nat) : List Nat := figs (n + 1) n
def intS (i : Int) : List Nat := if i < 0 then 45 :: natS i.natAbs else natS i.natAbs
def splitOk (sep : List Nat) (parts : List (List Nat)) : Bool := match sep with
  | [] => false
  | s :: S => (s :: S).all (fun c => decide (c < 256)) && !parts.isEmpty && parts.all fun p => !p.contains s
def joinFits (sep : List Nat) (zs : List (List Nat)) : Bool := decide ((zs.map (·.length)).sum + zs.length * sep.length ≤ sizeMax)
def primP (p : Prim) (ds : List D) (μ : Sto) (Q : D → Sto → Prop) : Prop := match p with
  | .len => arg1 ds fun d => lenP d μ Q
  | .abs => arg1 ds fun d => absP d μ Q
  | .min2 => arg2 ds fun d e => min2P d e μ Q
  | .max2 => arg2 ds fun d e => max2P d e μ Q
  | .min1 => arg1 ds fun d => rdR d μ fun _ l => optP (intsD l) fun ns => 0 < ns.length ∧ ∀ m, m ∈ ns → (∀ x ∈ ns, m ≤ x) → Q (.int m) μ
  | .max1 => arg1 ds fun d => rdR d μ fun _ l => optP (intsD l) fun ns => 0 < ns.length ∧ ∀ m, m ∈ ns → (∀ x ∈ ns, x ≤ m) → Q (.int m) μ
  | .int => arg1 ds fun d => intP d μ Q
  | .list => arg1 ds fun d => lstK d μ fun l => new μ (.lst l) Q
  | .tuple => arg1 ds fun d => seqP d μ fun l => Q (.tup l) μ
  | .all => arg1 ds fun d => rdR d μ fun _ l => optP (allB l) fun b => Q (.bl b) μ
  | .append => arg2 ds fun o d => rdR o μ fun a l => l.length < sizeMax ∧ Q .non (upd μ a (.lst (l ++ [d])))
  | .pop => arg1 ds fun o => rdR o μ fun a l => optP l.getLast? fun d => Q d (upd μ a (.lst l.dropLast))
  | .get => arg3 ds fun o k x => rdG o μ fun _ l => isFlat k = true ∧ Q ((dget l k).getD x) μ
  | .dpop => arg3 ds fun o k x => rdD o μ fun a l => isFlat k = true ∧ Q ((dget l k).getD x) (upd μ a (.dF (ddel l k)))
  | .dpop1 => arg2 ds fun o k => rdD o μ fun a l => isFlat k = true ∧ optP (dget l k) fun d => Q d (upd μ a (.dF (ddel l k)))
  | .dict => arg1 ds fun d => rdD d μ fun _ l => new μ (.dF l) Q
  | .sorted => arg1 ds fun d => ownK d μ fun l => sortable l = true ∧ new μ (.lst (sortD l)) Q
  | .str => arg1 ds fun d => match d with
    | .str x => Q (.str x) μ
    | .int i => i.natAbs < 2 ^ 1900 ∧ Q (.str (intS i)) μ
    | .non => Q (.str [78, 111, 110, 101]) μ
    | _ => False
  | .join => arg2 ds fun s d => strK s fun sep => seqP d μ fun l => optP (strsD l) fun zs => joinFits sep zs = true ∧ Q (.str (joinS sep zs)) μ
  | .split => arg2 ds fun o d => strK o fun x => strK d fun sep => ∃ parts, x = joinS sep parts ∧ splitOk sep parts = true ∧ x.length + 2 ≤ sizeMax ∧ new μ (.lst (parts.map D.str)) Q
  | .extend => arg2 ds fun o d => rdR o μ fun a l => seqP d μ fun m => l.length + m.length ≤ sizeMax ∧ Q .non (upd μ a (.lst (l ++ m)))
  | .insert => arg3 ds fun o i d => rdR o μ fun a l => natO i fun n => l.length < sizeMax ∧ Q .non (upd μ a (.lst (l.take n ++ [d] ++ l.drop n)))
  | .popAt => arg2 ds fun o i => rdR o μ fun a l => natO i fun n => optP l[n]? fun d => Q d (upd μ a (.lst (l.eraseIdx n)))
  | .remove => arg2 ds fun o x => rdR o μ fun a l => intO x fun n => optP (intsD l) fun ns => n ∈ ns ∧ Q .non (upd μ a (.lst ((ns.erase n).map D.int)))
  | .count => arg2 ds fun o x => rdR o μ fun _ l => D.ok 60 x = true ∧ l.all (D.ok 60) = true ∧ Q (.int (l.countP fun y => D.eqb y x : Nat)) μ
  | .index => arg2 ds fun o x => rdR o μ fun _ l => D.ok 60 x = true ∧ l.all (D.ok 60) = true ∧ optP (firstAt l x) fun j => Q (.int j) μ

def recvP (p : Prim) (x : D) (μ : Sto) : Prop := match p with
  | .join => isStr x = true
  | .split => isStr x = true
  | .get => rdG x μ fun _ _ => True
  | .dpop1 => rdD x μ fun _ _ => True
  | .dpop => rdD x μ fun _ _ => True
  | _ => rdR x μ fun _ _ => True
def rngD (ds : List D) (k : Int → Nat → Prop) : Prop := match ds with
  | [a] => intK a fun n => n ≤ 1000000 ∧ k 0 n.toNat
  | [a, b] => intK a fun a => intK b fun b => b - a ≤ 1000000 ∧ k a (b - a).toNat
  | _ => False
def orDP (x : D) (μ : Sto) (Q : D → Sto → Prop) : Prop := match x with
  | .non => new μ (.dF []) Q
  | .ref p => match μ p with
    | some (.dF l) => if l.isEmpty = true then new μ (.dF []) Q else Q (.ref p) μ
    | _ => False
  | _ => False
def getV (ρ : Env) (i : Nat) : Option D := match ρ[i]? with
  | some (some d) => some d
  | _ => none
def wipe (ρ : Env) : List Nat → Env
  | [] => ρ
  | v :: vs => (wipe ρ vs).set v none
def matP : P → D → Env → Option Env
  | .v i, d, ρ => some (ρ.set i (some d))
  | .nil, .tup [], ρ => some ρ
  | .cons p q, .tup (d :: r), ρ => match matP p d ρ with
    | some ρ' => matP q (.tup r) ρ'
    | none => none
  | _, _, _ => none
section
variable (G : Ctx)
def compP (chk : Sto → Prop) (turn : D → Sto → (Option D → Sto → Prop) → Prop) (K : List D → Sto → Prop) : List D → List D → Sto → Prop
  | [], acc, μ => chk μ ∧ K acc μ
  | d :: r, acc, μ => chk μ ∧ turn d μ fun o μ1 => match o with
    | some x => acc.length < sizeMax ∧ compP chk turn K r (acc ++ [x]) μ1
    | none => compP chk turn K r acc μ1
def excP (x : D) (μ : Sto) (K : Nat → Option D → Prop) : Prop := match x with
  | .ref p => match μ p with
    | some (.exc c o) => K c o
    | _ => False
  | _ => False
def exnP (x : D) (μ : Sto) (K : Nat → Nat → Prop) : Prop := match x with
  | .ref p => match μ p with
    | some (.exn c) => K p c
    | _ => False
  | _ => False
mutual
def wpE : E → Env → Sto → (D → Sto → Prop) → EX → Prop
  | .var i, ρ, μ, Q, _ => optP (getV ρ i) fun d => Q d μ
  | .cn, _, μ, Q, _ => Q .non μ
  | .cb b, _, μ, Q, _ => Q (.bl b) μ
  | .ci i, _, μ, Q, _ => Q (.int i) μ
  | .cs x, _, μ, Q, _ => Q (.str x) μ
  | .cst k, _, μ, Q, _ => optP (G.cst k) fun d => Q d μ
  | .tup a, ρ, μ, Q, X => wpA a ρ μ (fun ds μ1 => Q (.tup ds) μ1) X
  | .lst a, ρ, μ, Q, X => wpA a ρ μ (fun ds μ1 => new μ1 (.lst ds) Q) X
  | .dnew, _, μ, Q, _ => new μ (.dF []) Q
  | .dict a, ρ, μ, Q, X => wpA a ρ μ (fun ds μ1 => optP (pairUp ds) fun l => dictP l μ1 Q) X
  | .bin o a b, ρ, μ, Q, X => wpE a ρ μ (fun x μ1 => wpE b ρ μ1 (fun y μ2 => binP o x y μ2 Q) X) X
  | .neg a, ρ, μ, Q, X => wpE a ρ μ (fun x μ1 => match x with | .int i => Q (.int (-i)) μ1 | _ => False) X
  | .cmp o a b, ρ, μ, Q, X => wpE a ρ μ (fun x μ1 => wpE b ρ μ1 (fun y μ2 => cmpP o x y μ2 fun c => Q (.bl c) μ2) X) X
  | .cmp2 o p a b c, ρ, μ, Q, X => wpE a ρ μ (fun x μ1 => wpE b ρ μ1 (fun y μ2 => cmpP o x y μ2 fun k => br (.bl k) (wpE c ρ μ2 (fun z μ3 => cmpP p y z μ3 fun k' => Q (.bl k') μ3) X) (Q (.bl false) μ2)) X) X
  | .and a b, ρ, μ, Q, X => wpE a ρ μ (fun x μ1 => br x (wpE b ρ μ1 (fun y μ2 => match y with | .bl c => Q (.bl c) μ2 | _ => False) X) (Q (.bl false) μ1)) X
  | .or a b, ρ, μ, Q, X => wpE a ρ μ (fun x μ1 => br x (Q (.bl true) μ1) (wpE b ρ μ1 (fun y μ2 => match y with | .bl c => Q (.bl c) μ2 | _ => False) X)) X
  | .not a, ρ, μ, Q, X => wpE a ρ μ (fun x μ1 => match x with | .bl b => Q (.bl (!b)) μ1 | _ => False) X
  | .idx a i, ρ, μ, Q, X => wpE a ρ μ (fun x μ1 => wpE i ρ μ1 (fun y μ2 => idxP x y μ2 fun d => Q d μ2) X) X
  | .part a, ρ, μ, Q, X => wpE a ρ μ (fun x μ1 => match x with | .int i => Q (.int i) μ1 | _ => False) X
  | .slc a lo hi, ρ, μ, Q, X => wpE a ρ μ (fun x μ1 => wpE lo ρ μ1 (fun y μ2 => optP (optI y) fun i => wpE hi ρ μ2 (fun z μ3 => optP (optI z) fun j => slc2P x i j μ3 Q) X) X) X
  | .rev a, ρ, μ, Q, X => wpE a ρ μ (fun x μ1 => match x with
      | .tup l => Q (.tup l.reverse) μ1
      | .ref p => rdL μ1 p fun l => new μ1 (.lst l.reverse) Q
      | _ => False) X
  | .call f a, ρ, μ, Q, X => wpA a ρ μ (fun ds μ1 => G.fn f ds μ1 Q X) X
  | .new c f a, ρ, μ, Q, X => wpA a ρ μ (fun ds μ1 => ∀ p, μ1 p = none → G.fn f (.ref p :: ds) (upd μ1 p (.ins c [])) (fun d μ2 => d = .non ∧ Q (.ref p) μ2) X) X
  | .meth m o a, ρ, μ, Q, X => wpE o ρ μ (fun x μ1 => insP x μ1 fun p c l => lookF l m = none ∧ optP (G.mt c m) fun f => wpA a ρ μ1 (fun ds μ2 => G.fn f (.ref p :: ds) μ2 Q X) X) X
  | .prim p a, ρ, μ, Q, X => wpA a ρ μ (fun ds μ1 => primP p ds μ1 Q) X
  | .bm p o a, ρ, μ, Q, X => wpE o ρ μ (fun x μ1 => recvP p x μ1 ∧ wpA a ρ μ1 (fun ds μ2 => primP p (x :: ds) μ2 Q) X) X
  | .isi a t, ρ, μ, Q, X => wpE a ρ μ (fun x μ1 => isiOk x μ1 ∧ Q (.bl (isiP x t)) μ1) X
  | .attr o f, ρ, μ, Q, X => wpE o ρ μ (fun x μ1 => insP x μ1 fun _ c l => G.fl c f = true ∧ optP (lookF l f) fun d => Q d μ1) X
  | .comp elt p k src cond own, ρ, μ, Q, X => wpA src ρ μ (fun ds μ1 => iterP k ds μ1 fun l chk =>
      compP chk (fun d μ2 K => optP (matP p d (wipe ρ own)) fun ρ' => wpE cond ρ' μ2 (fun c μ3 => br c (wpE elt ρ' μ3 (fun y μ4 => K (some y) μ4) fun _ _ _ => False) (K none μ3)) fun _ _ _ => False) (fun acc μ2 => new μ2 (.lst acc) Q) l [] μ1) X
  | .skey a, ρ, μ, Q, X => wpE a ρ μ (fun x μ1 => rdR x μ1 fun _ l => l.all hasStrKey = true ∧ ∀ ys, ys.Perm l → ys.Pairwise keyLe → new μ1 (.lst ys) Q) X
  | .tru a, ρ, μ, Q, X => wpE a ρ μ (fun x μ1 => truP x μ1 fun b => Q (.bl b) μ1) X
  | .rng t a, ρ, μ, Q, X => wpA a ρ μ (fun ds μ1 => rngD ds fun lo n => match t with
    | true => Q (.tup (rangeL lo n 1)) μ1
    | false => new μ1 (.lst (rangeL lo n 1)) Q) X
  | .orD a, ρ, μ, Q, X => wpE a ρ μ (fun x μ1 => orDP x μ1 Q) X
  | .mkE c a, ρ, μ, Q, X => wpE a ρ μ (fun _ μ1 => new μ1 (.exc c none) Q) X
  | .mkN c f a, ρ, μ, Q, X => wpA a ρ μ (fun ds μ1 => ∀ p, μ1 p = none → G.fn f (.ref p :: ds) (upd μ1 p (.exn c)) (fun d μ2 => d = .non ∧ Q (.ref p) μ2) X) X
  | .vei a, ρ, μ, Q, X => wpA a ρ μ (fun ds μ1 => match ds with | x :: _ => exnP x μ1 fun _ _ => Q .non μ1 | [] => False) X
  | .isx a bs, ρ, μ, Q, X => wpE a ρ μ (fun x μ1 => excP x μ1 fun c _ => optP (bs.lookup c) fun b => Q (.bl b) μ1) X
  | .lin a, ρ, μ, Q, X => wpE a ρ μ (fun x μ1 => excP x μ1 fun _ o => optP o fun d => Q d μ1) X
  | .nil, _, _, _, _ => False
  | .cons _ _, _, _, _, _ => False
def wpA : E → Env → Sto → (List D → Sto → Prop) → EX → Prop
  | .nil, _, μ, Q, _ => Q [] μ
  | .cons e r, ρ, μ, Q, X => wpE e ρ μ (fun x μ1 => wpA r ρ μ1 (fun xs μ2 => Q (x :: xs) μ2) X) X
  | _, _, _, _, _ => False
end
structure Post where
  nx : Env → Sto → Prop
  rt : D → Sto → Prop
  ex : EX
def forP (chk : Sto → Prop) (turn : D → Env → Sto → (Env → Sto → Prop) → Prop) (K : Env → Sto → Prop) : List D → Env → Sto → Prop
  | [], ρ, μ => chk μ ∧ K ρ μ
  | d :: r, ρ, μ => chk μ ∧ turn d ρ μ (forP chk turn K r)
mutual
def wpS : St → Env → Sto → Post → Prop
  | .nop, ρ, μ, R => R.nx ρ μ
  | .seq a b, ρ, μ, R => wpS a ρ μ ⟨fun ρ1 μ1 => wpS b ρ1 μ1 R, R.rt, R.ex⟩
  | .set p e, ρ, μ, R => wpE G e ρ μ (fun d μ1 => optP (matP p d ρ) fun ρ1 => R.nx ρ1 μ1) R.ex
  | .setL p e, ρ, μ, R => wpE G e ρ μ (fun d μ1 => rdR d μ1 fun _ l => optP (matP p (.tup l) ρ) fun ρ1 => R.nx ρ1 μ1) R.ex
  | .setIdx o i e, ρ, μ, R => wpE G e ρ μ (fun y μ1 => wpE G o ρ μ1 (fun x μ2 => wpE G i ρ μ2 (fun k μ3 => setIdxP x k y μ3 (R.nx ρ)) R.ex) R.ex) R.ex
  | .setAttr o f e, ρ, μ, R => wpE G e ρ μ (fun y μ1 => wpE G o ρ μ1 (fun x μ2 => insP x μ2 fun p c l => G.fl c f = true ∧ l.length < 1000 ∧ R.nx ρ (upd μ2 p (.ins c (putF l f y)))) R.ex) R.ex
  | .augVar i e, ρ, μ, R => optP (getV ρ i) fun x => wpE G e ρ μ (fun y μ1 => match x, y with
      | .int m, .int n => R.nx (ρ.set i (some (.int (m + n)))) μ1
      | _, _ => False) R.ex
  | .augAttr o f e, ρ, μ, R => wpE G o ρ μ (fun x μ1 => insP x μ1 fun p c l => G.fl c f = true ∧ optP (lookF l f) fun v => wpE G e ρ μ1 (fun y μ2 => insP (.ref p) μ2 fun _ c' l' => c' = c ∧ match v, y with
      | .int m, .int n => l'.length < 1000 ∧ R.nx ρ (upd μ2 p (.ins c (putF l' f (.int (m + n)))))
      | _, _ => False) R.ex) R.ex
  | .expr e, ρ, μ, R => wpE G e ρ μ (fun _ μ1 => R.nx ρ μ1) R.ex
  | .ret e, ρ, μ, R => wpE G e ρ μ R.rt R.ex
  | .ite c a b, ρ, μ, R => wpE G c ρ μ (fun d μ1 => br d (wpS a ρ μ1 R) (wpS b ρ μ1 R)) R.ex
  | .for p k src body, ρ, μ, R => wpA G src ρ μ (fun ds μ1 => iterP k ds μ1 fun l chk =>
      forP chk (fun d ρ1 μ2 K => optP (matP p d ρ1) fun ρ2 => wpS body ρ2 μ2 ⟨K, R.rt, R.ex⟩) R.nx l ρ μ1) R.ex
  | .forD p i body, ρ, μ, R => optP (getV ρ i) fun d => rdD d μ fun a l =>
      forP (fun μ' => μ' a = some (.dL l)) (fun d ρ1 μ2 K => optP (matP p d ρ1) fun ρ2 => wpS body ρ2 μ2 ⟨K, fun v μ' => μ' a = some (.dL l) ∧ R.rt v (upd μ' a (.dF l)), R.ex⟩)
        (fun ρ1 μ1 => μ1 a = some (.dL l) ∧ R.nx ρ1 (upd μ1 a (.dF l))) (l.map (·.1)) ρ (upd μ a (.dL l))
  | .while c body, ρ, μ, R => ∃ V : Nat → Env → Sto → Prop, (∃ m, V m ρ μ) ∧ ∀ m ρ1 μ1, V m ρ1 μ1 →
      wpE G c ρ1 μ1 (fun d μ2 => br d (wpS body ρ1 μ2 ⟨fun ρ2 μ3 => ∃ m', m' < m ∧ V m' ρ2 μ3, R.rt, R.ex⟩) (R.nx ρ1 μ2)) R.ex
  | .raise c a, ρ, μ, R => wpA G a ρ μ (fun ds μ1 => R.ex c ds μ1) R.ex
  | .tri b h, ρ, μ, R => wpS b ρ μ ⟨R.nx, R.rt, fun c ds μ1 => wpH h c ds ρ μ1 R⟩
  | .hd _ _ _ _, _, _, _ => False
  | .setLn o e, ρ, μ, R => wpE G e ρ μ (fun y μ1 => wpE G o ρ μ1 (fun x μ2 => exnP x μ2 fun p c => R.nx ρ (upd μ2 p (.exc c (some y)))) R.ex) R.ex
/-- what is let out of a try's body, at its clauses: the name's slot holds what it was made of -/
def wpH : St → Nat → List D → Env → Sto → Post → Prop
  | .hd k i s r, c, ds, ρ, μ, R => (c = k → wpS s (ρ.set i ds.head?) μ ⟨fun ρ1 μ1 => R.nx (ρ1.set i none) μ1, R.rt, fun _ _ _ => False⟩) ∧ (c ≠ k → wpH r c ds ρ μ R)
  | _, c, ds, _, μ, R => R.ex c ds μ
end
end
structure FD where
  np : Nat
  ns : Nat
  body : St
  deriving DecidableEq, Repr
def runF (G : Ctx) (f : FD) : Fn := fun ds μ Q X => ds.length = f.np ∧ wpS G f.body (ds.map some ++ List.replicate (f.ns - f.np) none) μ ⟨fun _ μ1 => Q .non μ1, Q, X⟩
end MP

set_option linter.all false
set_option maxRecDepth 100000
set_option maxHeartbeats 1000000
set_option Elab.async false
namespace MP
section
variable {μ : Sto} {Q Q' : D → Sto → Prop} {k k' : D → Prop}
abbrev LeQ (Q Q' : D → Sto → Prop) : Prop := ∀ d μ, Q d μ → Q' d μ
abbrev LeX (X X' : EX) : Prop := ∀ c ds μ, X c ds μ → X' c ds μ
def MonoF (F : Fn) : Prop := ∀ {ds μ Q Q' X X'}, LeQ Q Q' → LeX X X' → F ds μ Q X → F ds μ Q' X'
def Mono (G : Ctx) : Prop := ∀ f, MonoF (G.fn f)
theorem m_opt {α : Type} {o : Option α} {k k' : α → Prop} (h : ∀ x, k x → k' x) (q : optP o k) : optP o k' := by
  cases o with
  | none => exact q
  | some x => exact h x q
theorem m_br {d : D} {A B A' B' : Prop} (h1 : A → A') (h2 : B → B') (q : br d A B) : br d A' B' := by
  cases d <;> first | exact q.elim | exact ⟨fun z => h1 (q.1 z), fun z => h2 (q.2 z)⟩
theorem m_new {o : Ob} (h : LeQ Q Q') (q : new μ o Q) : new μ o Q' := fun a ha => h _ _ (q a ha)
theorem m_ins {x : D} {k k' : Nat → Nat → List (Nat × D) → Prop} (h : ∀ p c l, k p c l → k' p c l) (q : insP x μ k) : insP x μ k' := by
  cases x <;> first | exact q.elim | skip
  rename_i p
  unfold insP at q ⊢
  cases e : μ p with
  | none => simp only [e] at q
  | some o =>
    simp only [e] at q ⊢
    cases o <;> first | exact q.elim | exact h _ _ _ q
theorem m_rdL {a : Nat} {k k' : List D → Prop} (h : ∀ l, k l → k' l) (q : rdL μ a k) : rdL μ a k' := by
  unfold rdL at q ⊢
  cases e : μ a with
  | none => simp only [e] at q
  | some o =>
    simp only [e] at q ⊢
    cases o <;> first | exact q.elim | exact h _ q
theorem m_bin {o : BOp} {x y : D} (h : LeQ Q Q') (q : binP o x y μ Q) : binP o x y μ Q' := by
  cases o <;> cases x <;> first
    | exact (show False from q).elim
    | (cases y <;> first
      | exact (show False from q).elim
      | exact h _ _ q
      | exact ⟨q.1, h _ _ q.2⟩
      | exact ⟨q.1, q.2.1, h _ _ q.2.2⟩
      | exact ⟨q.1, q.2.1, q.2.2.1, h _ _ q.2.2.2⟩
      | exact ⟨q.1, q.2.1, q.2.2.1, q.2.2.2.1, h _ _ q.2.2.2.2⟩
      | exact m_rdL (fun i q => m_rdL (fun j q => ⟨q.1, m_new h q.2⟩) q) q
      | exact m_rdL (fun i q => ⟨q.1, q.2.1, q.2.2.1, m_new h q.2.2.2⟩) q)
theorem m_dictP {l : List (D × D)} (h : LeQ Q Q') (q : dictP l μ Q) : dictP l μ Q' := by
  unfold dictP at q ⊢
  split at q
  · exact m_new h q
  · exact ⟨q.1, q.2.1, m_new h q.2.2⟩
theorem m_eq {x y : D} {k k' : Bool → Prop} (h : ∀ b, k b → k' b) (q : eqP x y μ k) : eqP x y μ k' := by
  unfold eqP at q ⊢
  split
  · rename_i e; simp only [e] at q; exact h _ q
  · rename_i e
    simp only [e] at q
    rcases q with ⟨a, b, q⟩ | ⟨a, b, h1, h2, h3, h4, q⟩ | ⟨a, b, l, h1, h2, h3, h4, h5, h6, q⟩ | ⟨a, b, l, m, h1, h2, h3, h4, h5, q⟩
    · exact .inl ⟨a, b, h _ q⟩
    · exact .inr (.inl ⟨a, b, h1, h2, h3, h4, h _ q⟩)
    · exact .inr (.inr (.inl ⟨a, b, l, h1, h2, h3, h4, h5, h6, h _ q⟩))
    · exact .inr (.inr (.inr ⟨a, b, l, m, h1, h2, h3, h4, h5, h _ q⟩))
theorem m_tru {x : D} {k k' : Bool → Prop} (h : ∀ b, k b → k' b) (q : truP x μ k) : truP x μ k' := by
  have gen : ∀ o : Option Ob, (match o with
    | some (.lst l) => k (!l.isEmpty)
    | some (.dF l) => k (!l.isEmpty)
    | _ => False) → (match o with
    | some (.lst l) => k' (!l.isEmpty)
    | some (.dF l) => k' (!l.isEmpty)
    | _ => False) := fun o q => by
    cases o with
    | none => exact q
    | some o => cases o <;> first | exact h _ q | exact q
  cases x <;> first | exact (show False from q).elim | exact h _ q | exact gen _ q
theorem m_inR {x : D} {a : Nat} {k k' : Bool → Prop} (h : ∀ b, k b → k' b) (q : inP x (.ref a) μ k) : inP x (.ref a) μ k' := by
  have gen : ∀ o : Option Ob, (match o with
    | some (.lst l) => D.ok 60 x = true ∧ l.all (D.ok 60) = true ∧ k (l.any fun y => D.eqb y x)
    | some (.dF l) => (isFlat x = true ∧ k (dget l x).isSome) ∨ (l = [] ∧ isTupKey x = true ∧ k false)
    | some (.dT l) => isTupKey x = true ∧ k (dget l x).isSome
    | _ => False) → (match o with
    | some (.lst l) => D.ok 60 x = true ∧ l.all (D.ok 60) = true ∧ k' (l.any fun y => D.eqb y x)
    | some (.dF l) => (isFlat x = true ∧ k' (dget l x).isSome) ∨ (l = [] ∧ isTupKey x = true ∧ k' false)
    | some (.dT l) => isTupKey x = true ∧ k' (dget l x).isSome
    | _ => False) := fun o q => by
    cases o with
    | none => exact q
    | some o => cases o with
      | lst l => exact ⟨q.1, q.2.1, h _ q.2.2⟩
      | dF l => exact q.imp (fun q => ⟨q.1, h _ q.2⟩) fun q => ⟨q.1, q.2.1, h _ q.2.2⟩
      | dT l => exact ⟨q.1, h _ q.2⟩
      | _ => exact q
  have q' : (match μ a with
    | some (.lst l) => D.ok 60 x = true ∧ l.all (D.ok 60) = true ∧ k (l.any fun y => D.eqb y x)
    | some (.dF l) => (isFlat x = true ∧ k (dget l x).isSome) ∨ (l = [] ∧ isTupKey x = true ∧ k false)
    | some (.dT l) => isTupKey x = true ∧ k (dget l x).isSome
    | _ => False) := by cases x <;> exact q
  have := gen _ q'
  cases x <;> exact this
theorem m_in {x y : D} {k k' : Bool → Prop} (h : ∀ b, k b → k' b) (q : inP x y μ k) : inP x y μ k' := by
  cases y with
  | ref a => exact m_inR h q
  | tup l => cases x <;> exact ⟨q.1, q.2.1, h _ q.2.2⟩
  | str j => cases x <;> first | exact (show False from q).elim | (obtain ⟨c, e, q⟩ := q; exact ⟨c, e, h _ q⟩)
  | _ => cases x <;> exact (show False from q).elim
theorem m_cmp {o : COp} {x y : D} {k k' : Bool → Prop} (h : ∀ b, k b → k' b) (q : cmpP o x y μ k) : cmpP o x y μ k' := by
  cases o with
  | eq => exact m_eq h (show eqP x y μ k from q)
  | ne => exact m_eq (fun b => h _) (show eqP x y μ (fun b => k (!b)) from q)
  | isin => exact m_in h (show inP x y μ k from q)
  | notin => exact m_in (fun b => h _) (show inP x y μ (fun b => k (!b)) from q)
  | is => cases y <;> cases x <;> first | exact h _ q | exact (show False from q).elim
  | isnot => cases y <;> cases x <;> first | exact h _ q | exact (show False from q).elim
  | _ => cases x <;> cases y <;> first | exact h _ q | exact (show False from q).elim
theorem m_idx {x i : D} (h : ∀ d, k d → k' d) (q : idxP x i μ k) : idxP x i μ k' := by
  have gen : ∀ (o : Option Ob) (i : D), (match o, i with
    | some (.lst l), .int i => optP (getI l i) k
    | some (.dF l), j => isFlat j = true ∧ optP (dget l j) k
    | some (.dT l), j => isTupKey j = true ∧ optP (dget l j) k
    | some (.dL l), j => isFlat j = true ∧ optP (dget l j) k
    | _, _ => False) → (match o, i with
    | some (.lst l), .int i => optP (getI l i) k'
    | some (.dF l), j => isFlat j = true ∧ optP (dget l j) k'
    | some (.dT l), j => isTupKey j = true ∧ optP (dget l j) k'
    | some (.dL l), j => isFlat j = true ∧ optP (dget l j) k'
    | _, _ => False) := fun o i q => by
    cases o with
    | none => cases i <;> exact q
    | some o => cases o with
      | lst l => cases i <;> first | exact m_opt h q | exact q
      | dF l => exact ⟨q.1, m_opt h q.2⟩
      | dT l => exact ⟨q.1, m_opt h q.2⟩
      | dL l => exact ⟨q.1, m_opt h q.2⟩
      | _ => cases i <;> exact q
  cases x with
  | ref a => exact gen _ _ q
  | scr l => cases i <;> first | exact m_opt (fun n => h _) q | exact (show False from q).elim
  | tup l => cases i <;> first | exact m_opt h q | exact (show False from q).elim
  | str l => cases i <;> first | exact ⟨q.1, m_opt (fun n => h _) q.2⟩ | exact (show False from q).elim
  | _ => cases i <;> exact (show False from q).elim
theorem m_slc {x : D} {i j : Option Int} (h : LeQ Q Q') (q : slc2P x i j μ Q) : slc2P x i j μ Q' := by
  cases x <;> first | exact (show False from q).elim | exact h _ _ q | exact ⟨q.1, h _ _ q.2⟩ | exact m_rdL (fun l q => m_new h q) q
theorem m_setIdx {x i y : D} {k k' : Sto → Prop} (h : ∀ μ, k μ → k' μ) (q : setIdxP x i y μ k) : setIdxP x i y μ k' := by
  cases x <;> first | exact (show False from q).elim | skip
  rename_i a
  have gen : ∀ (o : Option Ob) (i : D), (match o, i with
    | some (.lst l), .int i => optP (ixN l.length i) fun j => k (upd μ a (.lst (l.set j y)))
    | some (.dF l), j => (isFlat j = true ∧ l.length < sizeMax ∧ k (upd μ a (.dF (dput l j y)))) ∨ (l = [] ∧ isTupKey j = true ∧ k (upd μ a (.dT [(j, y)])))
    | some (.dT l), j => isTupKey j = true ∧ l.length < sizeMax ∧ k (upd μ a (.dT (dput l j y)))
    | _, _ => False) → (match o, i with
    | some (.lst l), .int i => optP (ixN l.length i) fun j => k' (upd μ a (.lst (l.set j y)))
    | some (.dF l), j => (isFlat j = true ∧ l.length < sizeMax ∧ k' (upd μ a (.dF (dput l j y)))) ∨ (l = [] ∧ isTupKey j = true ∧ k' (upd μ a (.dT [(j, y)])))
    | some (.dT l), j => isTupKey j = true ∧ l.length < sizeMax ∧ k' (upd μ a (.dT (dput l j y)))
    | _, _ => False) := fun o i q => by
    cases o with
    | none => cases i <;> exact q
    | some o => cases o with
      | lst l => cases i <;> first | exact m_opt (fun n => h _) q | exact q
      | dF l => exact q.imp (fun q => ⟨q.1, q.2.1, h _ q.2.2⟩) fun q => ⟨q.1, q.2.1, h _ q.2.2⟩
      | dT l => exact ⟨q.1, q.2.1, h _ q.2.2⟩
      | _ => cases i <;> exact q
  exact gen _ _ q
theorem m_items {d : D} {k k' : List D → (Sto → Prop) → Prop} (h : ∀ l c, k l c → k' l c) (q : itemsP d μ k) : itemsP d μ k' := by
  cases d <;> first | exact (show False from q).elim | exact h _ _ q | exact m_rdL (fun l q => h _ _ q) q
theorem m_intK {d : D} {k k' : Int → Prop} (h : ∀ n, k n → k' n) (q : intK d k) : intK d k' := by
  cases d <;> first | exact (show False from q).elim | exact ⟨q.1, h _ q.2⟩
theorem m_iter {kd : IK} {ds : List D} {k k' : List D → (Sto → Prop) → Prop} (h : ∀ l c, k l c → k' l c) (q : iterP kd ds μ k) : iterP kd ds μ k' := by
  cases kd with
  | any => match ds, q with
    | [d], q => exact m_items h q
  | range => match ds, q with
    | [a], q => exact m_intK (fun n => h _ _) q
    | [a, b], q => exact m_intK (fun n q => m_intK (fun n => h _ _) q) q
    | [a, b, c], q => exact m_intK (fun n q => m_intK (fun n q => m_intK (fun n q => ⟨q.1, h _ _ q.2⟩) q) q) q
  | enum => match ds, q with
    | [.ref a], q => exact m_rdL (fun l q => h _ _ q) q
    | [.tup l], q => exact h _ _ q
  | zip => match ds, q with
    | [.tup l, .tup m], q => exact h _ _ q
    | [.ref a, .ref b], q => exact m_rdL (fun l q => m_rdL (fun m q => h _ _ q) q) q
theorem m_seq {d : D} {k k' : List D → Prop} (h : ∀ l, k l → k' l) (q : seqP d μ k) : seqP d μ k' := by
  cases d <;> first | exact (show False from q).elim | exact h _ q | exact m_rdL h q
theorem m_rdR {d : D} {k k' : Nat → List D → Prop} (h : ∀ a l, k a l → k' a l) (q : rdR d μ k) : rdR d μ k' := by
  cases d <;> first | exact (show False from q).elim | exact m_rdL (h _) q
theorem m_rdD {d : D} {k k' : Nat → List (D × D) → Prop} (h : ∀ a l, k a l → k' a l) (q : rdD d μ k) : rdD d μ k' := by
  cases d <;> first | exact (show False from q).elim | skip
  rename_i p
  unfold rdD at q ⊢
  cases e : μ p with
  | none => simp only [e] at q
  | some o =>
    simp only [e] at q ⊢
    cases o <;> first | exact q.elim | exact h _ _ q
theorem m_rdG {d : D} {k k' : Nat → List (D × D) → Prop} (h : ∀ a l, k a l → k' a l) (q : rdG d μ k) : rdG d μ k' := by
  cases d <;> first | exact (show False from q).elim | skip
  rename_i p
  unfold rdG at q ⊢
  cases e : μ p with
  | none => simp only [e] at q
  | some o =>
    simp only [e] at q ⊢
    cases o <;> first | exact q.elim | exact h _ _ q
theorem m_rngD {ds : List D} {k k' : Int → Nat → Prop} (h : ∀ i n, k i n → k' i n) (q : rngD ds k) : rngD ds k' := by
  match ds, q with
  | [a], q => exact m_intK (fun n q => ⟨q.1, h _ _ q.2⟩) q
  | [a, b], q => exact m_intK (fun n => m_intK (fun n q => ⟨q.1, h _ _ q.2⟩)) q
theorem m_orD {x : D} (h : LeQ Q Q') (q : orDP x μ Q) : orDP x μ Q' := by
  cases x <;> first | exact (show False from q).elim | exact m_new h q | skip
  rename_i p
  unfold orDP at q ⊢
  cases e : μ p with
  | none => simp only [e] at q
  | some o =>
    simp only [e] at q ⊢
    cases o <;> first | exact q.elim | skip
    simp only at q ⊢
    split
    · rename_i z; rw [if_pos z] at q; exact m_new h q
    · rename_i z; rw [if_neg z] at q; exact h _ _ q
theorem m_exc {x : D} {k k' : Nat → Option D → Prop} (h : ∀ c o, k c o → k' c o) (q : excP x μ k) : excP x μ k' := by
  cases x <;> first | exact (show False from q).elim | skip
  rename_i p
  unfold excP at q ⊢
  cases e : μ p with
  | none => simp only [e] at q
  | some o =>
    simp only [e] at q ⊢
    cases o <;> first | exact q.elim | exact h _ _ q
theorem m_exn {x : D} {k k' : Nat → Nat → Prop} (h : ∀ c o, k c o → k' c o) (q : exnP x μ k) : exnP x μ k' := by
  cases x <;> first | exact (show False from q).elim | skip
  rename_i p
  unfold exnP at q ⊢
  cases e : μ p with
  | none => simp only [e] at q
  | some o =>
    simp only [e] at q ⊢
    cases o <;> first | exact q.elim | exact h _ _ q
theorem m_arg1 {ds : List D} {k k' : D → Prop} (h : ∀ d, k d → k' d) (q : arg1 ds k) : arg1 ds k' := by
  match ds, q with
  | [d], q => exact h _ q
theorem m_arg2 {ds : List D} {k k' : D → D → Prop} (h : ∀ d e, k d e → k' d e) (q : arg2 ds k) : arg2 ds k' := by
  match ds, q with
  | [d, e], q => exact h _ _ q
theorem m_arg3 {ds : List D} {k k' : D → D → D → Prop} (h : ∀ d e f, k d e f → k' d e f) (q : arg3 ds k) : arg3 ds k' := by
  match ds, q with
  | [d, e, f], q => exact h _ _ _ q
theorem m_len {d : D} (h : LeQ Q Q') (q : lenP d μ Q) : lenP d μ Q' := by
  cases d <;> first | exact (show False from q).elim | exact h _ _ q | exact ⟨q.1, h _ _ q.2⟩ | exact m_opt (fun n => h _ _) q
theorem m_strK {d : D} {k k' : List Nat → Prop} (h : ∀ x, k x → k' x) (q : strK d k) : strK d k' := by
  cases d <;> first | exact (show False from q).elim | exact h _ q
theorem m_natO {d : D} {k k' : Nat → Prop} (h : ∀ x, k x → k' x) (q : natO d k) : natO d k' := by
  cases d <;> first | exact (show False from q).elim | exact ⟨q.1, q.2.1, h _ q.2.2⟩
theorem m_intO {d : D} {k k' : Int → Prop} (h : ∀ x, k x → k' x) (q : intO d k) : intO d k' := by
  cases d <;> first | exact (show False from q).elim | exact h _ q
theorem m_ownK {d : D} {k k' : List D → Prop} (h : ∀ x, k x → k' x) (q : ownK d μ k) : ownK d μ k' := by
  cases d <;> first | exact (show False from q).elim | exact m_opt h q
theorem m_lstK {d : D} {k k' : List D → Prop} (h : ∀ x, k x → k' x) (q : lstK d μ k) : lstK d μ k' := by
  cases d <;> first | exact (show False from q).elim | exact h _ q | exact m_opt h q
theorem m_prim {p : Prim} {ds : List D} (h : LeQ Q Q') (q : primP p ds μ Q) : primP p ds μ Q' := by
  cases p with
  | len => exact m_arg1 (fun d => m_len h) q
  | abs => exact m_arg1 (fun d q => by cases d <;> first | exact (show False from q).elim | exact h _ _ q) q
  | min2 => exact m_arg2 (fun d e q => by cases d <;> cases e <;> first | exact (show False from q).elim | exact h _ _ q) q
  | max2 => exact m_arg2 (fun d e q => by cases d <;> cases e <;> first | exact (show False from q).elim | exact h _ _ q) q
  | min1 => exact m_arg1 (fun d => m_rdR fun a l => m_opt fun ns q => ⟨q.1, fun m hm hx => h _ _ (q.2 m hm hx)⟩) q
  | max1 => exact m_arg1 (fun d => m_rdR fun a l => m_opt fun ns q => ⟨q.1, fun m hm hx => h _ _ (q.2 m hm hx)⟩) q
  | int => exact m_arg1 (fun d q => by cases d <;> first | exact (show False from q).elim | exact h _ _ q | exact ⟨q.1, m_opt (fun n => h _ _) q.2⟩) q
  | list => exact m_arg1 (fun d => m_lstK fun l => m_new h) q
  | tuple => exact m_arg1 (fun d => m_seq fun l => h _ _) q
  | all => exact m_arg1 (fun d => m_rdR fun a l => m_opt fun b => h _ _) q
  | append => exact m_arg2 (fun d e => m_rdR fun a l q => ⟨q.1, h _ _ q.2⟩) q
  | pop => exact m_arg1 (fun d => m_rdR fun a l => m_opt fun b => h _ _) q
  | get => exact m_arg3 (fun d e f => m_rdG fun a l q => ⟨q.1, h _ _ q.2⟩) q
  | dpop1 => exact m_arg2 (fun d e => m_rdD fun a l q => ⟨q.1, m_opt (fun b => h _ _) q.2⟩) q
  | dpop => exact m_arg3 (fun d e f => m_rdD fun a l q => ⟨q.1, h _ _ q.2⟩) q
  | dict => exact m_arg1 (fun d => m_rdD fun a l => m_new h) q
  | sorted => exact m_arg1 (fun d => m_ownK fun l q => ⟨q.1, m_new h q.2⟩) q
  | str => exact m_arg1 (fun d q => by cases d <;> first | exact (show False from q).elim | exact h _ _ q | exact ⟨q.1, h _ _ q.2⟩) q
  | join => exact m_arg2 (fun d e => m_strK fun x => m_seq fun l => m_opt fun z q => ⟨q.1, h _ _ q.2⟩) q
  | split => exact m_arg2 (fun d e => m_strK fun x => m_strK fun y ⟨ps, h1, h2, h3, h4⟩ => ⟨ps, h1, h2, h3, m_new h h4⟩) q
  | extend => exact m_arg2 (fun d e => m_rdR fun a l => m_seq fun m q => ⟨q.1, h _ _ q.2⟩) q
  | insert => exact m_arg3 (fun d e f => m_rdR fun a l => m_natO fun n q => ⟨q.1, h _ _ q.2⟩) q
  | popAt => exact m_arg2 (fun d e => m_rdR fun a l => m_natO fun n => m_opt fun x => h _ _) q
  | remove => exact m_arg2 (fun d e => m_rdR fun a l => m_intO fun n => m_opt fun ns q => ⟨q.1, h _ _ q.2⟩) q
  | count => exact m_arg2 (fun d e => m_rdR fun a l q => ⟨q.1, q.2.1, h _ _ q.2.2⟩) q
  | index => exact m_arg2 (fun d e => m_rdR fun a l q => ⟨q.1, q.2.1, m_opt (fun j => h _ _) q.2.2⟩) q
theorem m_comp {chk : Sto → Prop} {t t' : D → Sto → (Option D → Sto → Prop) → Prop} {K K' : List D → Sto → Prop} (ht : ∀ d μ k k', (∀ o μ, k o μ → k' o μ) → t d μ k → t' d μ k') (hk : ∀ l μ, K l μ → K' l μ) : ∀ {l acc μ}, compP chk t K l acc μ → compP chk t' K' l acc μ
  | [], acc, μ, q => ⟨q.1, hk _ _ q.2⟩
  | d :: r, acc, μ, q => ⟨q.1, ht _ _ _ _ (fun o μ q => by
      cases o with
      | none => exact m_comp ht hk q
      | some x => exact ⟨q.1, m_comp ht hk q.2⟩) q.2⟩
theorem m_for {chk : Sto → Prop} {t t' : D → Env → Sto → (Env → Sto → Prop) → Prop} {K K' : Env → Sto → Prop} (ht : ∀ d ρ μ k k', (∀ ρ μ, k ρ μ → k' ρ μ) → t d ρ μ k → t' d ρ μ k') (hk : ∀ ρ μ, K ρ μ → K' ρ μ) : ∀ {l ρ μ}, forP chk t K l ρ μ → forP chk t' K' l ρ μ
  | [], ρ, μ, q => ⟨q.1, hk _ _ q.2⟩
  | d :: r, ρ, μ, q => ⟨q.1, ht _ _ _ _ _ (fun ρ μ q => m_for ht hk q) q.2⟩
end
section
variable {G : Ctx} (hG : Mono G)
include hG
theorem m_EA : ∀ e : E, (∀ {ρ μ Q Q' X X'}, LeQ Q Q' → LeX X X' → wpE G e ρ μ Q X → wpE G e ρ μ Q' X') ∧ (∀ {ρ μ} {Q Q' : List D → Sto → Prop} {X X'}, (∀ l μ, Q l μ → Q' l μ) → LeX X X' → wpA G e ρ μ Q X → wpA G e ρ μ Q' X') := by
  intro e
  induction e with
  | var i => exact ⟨fun h hx q => m_opt (fun d => h _ _) q, fun h hx q => (show False from q).elim⟩
  | cn => exact ⟨fun h hx q => h _ _ q, fun h hx q => (show False from q).elim⟩
  | cb b => exact ⟨fun h hx q => h _ _ q, fun h hx q => (show False from q).elim⟩
  | ci b => exact ⟨fun h hx q => h _ _ q, fun h hx q => (show False from q).elim⟩
  | cs b => exact ⟨fun h hx q => h _ _ q, fun h hx q => (show False from q).elim⟩
  | cst b => exact ⟨fun h hx q => m_opt (fun d => h _ _) q, fun h hx q => (show False from q).elim⟩
  | nil => exact ⟨fun h hx q => (show False from q).elim, fun h hx q => h _ _ q⟩
  | cons a b ha hb => exact ⟨fun h hx q => (show False from q).elim, fun h hx q => ha.1 (fun x μ q => hb.2 (fun l μ q => h _ _ q) hx q) hx q⟩
  | tup a ha => exact ⟨fun h hx q => ha.2 (fun l μ q => h _ _ q) hx q, fun h hx q => (show False from q).elim⟩
  | lst a ha => exact ⟨fun h hx q => ha.2 (fun l μ q => m_new h q) hx q, fun h hx q => (show False from q).elim⟩
  | dnew => exact ⟨fun h hx q => m_new h q, fun h hx q => (show False from q).elim⟩
  | dict a ha => exact ⟨fun h hx q => ha.2 (fun l μ q => m_opt (fun l q => m_dictP h q) q) hx q, fun h hx q => (show False from q).elim⟩
  | bin o a b ha hb => exact ⟨fun h hx q => ha.1 (fun x μ q => hb.1 (fun y μ q => m_bin h q) hx q) hx q, fun h hx q => (show False from q).elim⟩
  | neg a ha => exact ⟨fun h hx q => ha.1 (fun x μ q => by cases x <;> first | exact q.elim | exact h _ _ q) hx q, fun h hx q => (show False from q).elim⟩
  | cmp o a b ha hb => exact ⟨fun h hx q => ha.1 (fun x μ q => hb.1 (fun y μ q => m_cmp (fun b => h _ _) q) hx q) hx q, fun h hx q => (show False from q).elim⟩
  | cmp2 o p a b c ha hb hc => exact ⟨fun h hx q => ha.1 (fun x μ q => hb.1 (fun y μ q => m_cmp (fun b q => m_br (fun q => hc.1 (fun z μ q => m_cmp (fun b => h _ _) q) hx q) (h _ _) q) q) hx q) hx q, fun h hx q => (show False from q).elim⟩
  | and a b ha hb => exact ⟨fun h hx q => ha.1 (fun x μ q => m_br (fun q => hb.1 (fun y μ q => by cases y <;> first | exact q.elim | exact h _ _ q) hx q) (h _ _) q) hx q, fun h hx q => (show False from q).elim⟩
  | or a b ha hb => exact ⟨fun h hx q => ha.1 (fun x μ q => m_br (h _ _) (fun q => hb.1 (fun y μ q => by cases y <;> first | exact q.elim | exact h _ _ q) hx q) q) hx q, fun h hx q => (show False from q).elim⟩
  | not a ha => exact ⟨fun h hx q => ha.1 (fun x μ q => by cases x <;> first | exact q.elim | exact h _ _ q) hx q, fun h hx q => (show False from q).elim⟩
  | idx a b ha hb => exact ⟨fun h hx q => ha.1 (fun x μ q => hb.1 (fun y μ q => m_idx (fun d => h _ _) q) hx q) hx q, fun h hx q => (show False from q).elim⟩
  | part a ha => exact ⟨fun h hx q => ha.1 (fun x μ q => by cases x <;> first | exact q.elim | exact h _ _ q) hx q, fun h hx q => (show False from q).elim⟩
  | slc a lo hi ha hl hh => exact ⟨fun h hx q => ha.1 (fun x μ q => hl.1 (fun y μ q => m_opt (fun i q => hh.1 (fun z μ q => m_opt (fun j q => m_slc h q) q) hx q) q) hx q) hx q, fun h hx q => (show False from q).elim⟩
  | rev a ha => exact ⟨fun h hx q => ha.1 (fun x μ q => by cases x <;> first | exact q.elim | exact h _ _ q | exact m_rdL (fun l => m_new h) q) hx q, fun h hx q => (show False from q).elim⟩
  | call f a ha => exact ⟨fun h hx q => ha.2 (fun l μ q => hG f h hx q) hx q, fun h hx q => (show False from q).elim⟩
  | new c f a ha => exact ⟨fun h hx q => ha.2 (fun l μ q p hp => hG f (fun d μ q => ⟨q.1, h _ _ q.2⟩) hx (q p hp)) hx q, fun h hx q => (show False from q).elim⟩
  | meth m o a ho ha => exact ⟨fun h hx q => ho.1 (fun x μ q => m_ins (fun p c l q => ⟨q.1, m_opt (fun f q => ha.2 (fun l μ q => hG f h hx q) hx q) q.2⟩) q) hx q, fun h hx q => (show False from q).elim⟩
  | prim p a ha => exact ⟨fun h hx q => ha.2 (fun l μ q => m_prim h q) hx q, fun h hx q => (show False from q).elim⟩
  | bm p o a ho ha => exact ⟨fun h hx q => ho.1 (fun x μ q => ⟨q.1, ha.2 (fun l μ q => m_prim h q) hx q.2⟩) hx q, fun h hx q => (show False from q).elim⟩
  | isi a t ha => exact ⟨fun h hx q => ha.1 (fun x μ q => ⟨q.1, h _ _ q.2⟩) hx q, fun h hx q => (show False from q).elim⟩
  | attr o f ho => exact ⟨fun h hx q => ho.1 (fun x μ q => m_ins (fun p c l q => ⟨q.1, m_opt (fun d => h _ _) q.2⟩) q) hx q, fun h hx q => (show False from q).elim⟩
  | comp elt p k src cond own he hs hc => exact ⟨fun h hx q => hs.2 (fun l μ q => m_iter (fun l c q => m_comp (fun d μ k k' hk q => m_opt (fun ρ q => hc.1 (fun b μ q => m_br (fun q => he.1 (fun y μ q => hk _ _ q) (fun _ _ _ z => z) q) (hk _ _) q) (fun _ _ _ z => z) q) q) (fun l μ q => m_new h q) q) q) hx q, fun h hx q => (show False from q).elim⟩
  | skey a ha => exact ⟨fun h hx q => ha.1 (fun x μ q => m_rdR (fun _ l q => ⟨q.1, fun ys h1 h2 => m_new h (q.2 ys h1 h2)⟩) q) hx q, fun h hx q => (show False from q).elim⟩
  | rng t a ha => exact ⟨fun h hx q => ha.2 (fun l μ q => m_rngD (fun lo n q => by cases t <;> first | exact h _ _ q | exact m_new h q) q) hx q, fun h hx q => (show False from q).elim⟩
  | orD a ha => exact ⟨fun h hx q => ha.1 (fun x μ q => m_orD h q) hx q, fun h hx q => (show False from q).elim⟩
  | mkE c a ha => exact ⟨fun h hx q => ha.1 (fun x μ q => m_new h q) hx q, fun h hx q => (show False from q).elim⟩
  | mkN c f a ha => exact ⟨fun h hx q => ha.2 (fun l μ q p hp => hG f (fun d μ q => ⟨q.1, h _ _ q.2⟩) hx (q p hp)) hx q, fun h hx q => (show False from q).elim⟩
  | vei a ha => exact ⟨fun h hx q => ha.2 (fun l μ q => by
      cases l with
      | nil => exact (show False from q).elim
      | cons x r => exact m_exn (fun _ _ => h _ _) q) hx q, fun h hx q => (show False from q).elim⟩
  | isx a bs ha => exact ⟨fun h hx q => ha.1 (fun x μ q => m_exc (fun c o q => m_opt (fun b => h _ _) q) q) hx q, fun h hx q => (show False from q).elim⟩
  | lin a ha => exact ⟨fun h hx q => ha.1 (fun x μ q => m_exc (fun c o q => m_opt (fun b => h _ _) q) q) hx q, fun h hx q => (show False from q).elim⟩
  | tru a ha => exact ⟨fun h hx q => ha.1 (fun x μ q => m_tru (fun b => h _ _) q) hx q, fun h hx q => (show False from q).elim⟩
theorem m_E {e : E} {ρ μ Q Q' X X'} (h : LeQ Q Q') (hx : LeX X X') (q : wpE G e ρ μ Q X) : wpE G e ρ μ Q' X' := (m_EA hG e).1 h hx q
theorem m_A {e : E} {ρ μ} {Q Q' : List D → Sto → Prop} {X X'} (h : ∀ l μ, Q l μ → Q' l μ) (hx : LeX X X') (q : wpA G e ρ μ Q X) : wpA G e ρ μ Q' X' := (m_EA hG e).2 h hx q
structure LeP (R R' : Post) : Prop where
  nx : ∀ ρ μ, R.nx ρ μ → R'.nx ρ μ
  rt : LeQ R.rt R'.rt
  ex : LeX R.ex R'.ex
theorem m_SH : ∀ s : St, (∀ {ρ μ R R'}, LeP R R' → wpS G s ρ μ R → wpS G s ρ μ R') ∧ ∀ {c ds ρ μ R R'}, LeP R R' → wpH G s c ds ρ μ R → wpH G s c ds ρ μ R' := by
  intro s
  induction s with
  | nop => exact ⟨fun h q => h.nx _ _ q, fun h q => h.ex _ _ _ q⟩
  | seq a b ha hb => exact ⟨fun {ρ μ R R'} h q => ha.1 (R := ⟨fun ρ1 μ1 => wpS G b ρ1 μ1 R, R.rt, R.ex⟩) (R' := ⟨fun ρ1 μ1 => wpS G b ρ1 μ1 R', R'.rt, R'.ex⟩) ⟨fun ρ μ q => hb.1 h q, h.rt, h.ex⟩ q, fun h q => h.ex _ _ _ q⟩
  | set p e => exact ⟨fun h q => m_E hG (fun d μ q => m_opt (fun ρ => h.nx _ _) q) h.ex q, fun h q => h.ex _ _ _ q⟩
  | setL p e => exact ⟨fun h q => m_E hG (fun d μ q => m_rdR (fun a l => m_opt fun ρ => h.nx _ _) q) h.ex q, fun h q => h.ex _ _ _ q⟩
  | setIdx o i e => exact ⟨fun h q => m_E hG (fun d μ q => m_E hG (fun d μ q => m_E hG (fun d μ q => m_setIdx (fun μ => h.nx _ _) q) h.ex q) h.ex q) h.ex q, fun h q => h.ex _ _ _ q⟩
  | setAttr o f e => exact ⟨fun h q => m_E hG (fun d μ q => m_E hG (fun d μ q => m_ins (fun p c l q => ⟨q.1, q.2.1, h.nx _ _ q.2.2⟩) q) h.ex q) h.ex q, fun h q => h.ex _ _ _ q⟩
  | augVar i e => exact ⟨fun h q => m_opt (fun x q => m_E hG (fun y μ q => by cases x <;> cases y <;> first | exact q.elim | exact h.nx _ _ q) h.ex q) q, fun h q => h.ex _ _ _ q⟩
  | augAttr o f e => exact ⟨fun h q => m_E hG (fun d μ q => m_ins (fun p c l q => ⟨q.1, m_opt (fun v q => m_E hG (fun y μ q => m_ins (fun p' c' l' q => ⟨q.1, by
      have q := q.2
      cases v <;> cases y <;> first | exact q.elim | exact ⟨q.1, h.nx _ _ q.2⟩⟩) q) h.ex q) q.2⟩) q) h.ex q, fun h q => h.ex _ _ _ q⟩
  | expr e => exact ⟨fun h q => m_E hG (fun d μ q => h.nx _ _ q) h.ex q, fun h q => h.ex _ _ _ q⟩
  | ret e => exact ⟨fun h q => m_E hG h.rt h.ex q, fun h q => h.ex _ _ _ q⟩
  | ite c a b ha hb => exact ⟨fun h q => m_E hG (fun d μ q => m_br (ha.1 h) (hb.1 h) q) h.ex q, fun h q => h.ex _ _ _ q⟩
  | «for» p k src body hb =>
    refine ⟨?_, fun h q => h.ex _ _ _ q⟩
    intro ρ μ R R' h q
    exact m_A hG (fun l μ q => m_iter (fun l c q => m_for (fun d ρ μ k k' hk q => m_opt (fun ρ q => hb.1 (R := ⟨k, R.rt, R.ex⟩) (R' := ⟨k', R'.rt, R'.ex⟩) ⟨hk, h.rt, h.ex⟩ q) q) h.nx q) q) h.ex q
  | forD p i body hb =>
    refine ⟨?_, fun h q => h.ex _ _ _ q⟩
    intro ρ μ R R' h q
    exact m_opt (fun d q => m_rdD (fun a l q => m_for (fun d ρ μ k k' hk q => m_opt (fun ρ q => hb.1 (R := ⟨k, _, _⟩) (R' := ⟨k', _, _⟩) ⟨hk, fun d μ q => ⟨q.1, h.rt _ _ q.2⟩, h.ex⟩ q) q) (fun ρ μ q => ⟨q.1, h.nx _ _ q.2⟩) q) q) q
  | «while» c body hb =>
    refine ⟨?_, fun h q => h.ex _ _ _ q⟩
    intro ρ μ R R' h q
    obtain ⟨V, v0, q⟩ := q
    exact ⟨V, v0, fun m ρ μ v => m_E hG (fun d μ q => m_br (fun q => hb.1 (R := ⟨_, R.rt, R.ex⟩) (R' := ⟨_, R'.rt, R'.ex⟩) ⟨fun _ _ z => z, h.rt, h.ex⟩ q) (h.nx _ _) q) h.ex (q m ρ μ v)⟩
  | raise c a => exact ⟨fun h q => m_A hG (fun l μ q => h.ex _ _ _ q) h.ex q, fun h q => h.ex _ _ _ q⟩
  | setLn o e => exact ⟨fun h q => m_E hG (fun d μ q => m_E hG (fun d μ q => m_exn (fun p c => h.nx _ _) q) h.ex q) h.ex q, fun h q => h.ex _ _ _ q⟩
  | tri b h hb hh => exact ⟨fun {ρ μ R R'} h1 q => hb.1 (R := ⟨R.nx, R.rt, fun c ds μ1 => wpH G h c ds ρ μ1 R⟩) (R' := ⟨R'.nx, R'.rt, fun c ds μ1 => wpH G h c ds ρ μ1 R'⟩) ⟨h1.nx, h1.rt, fun c ds μ q => hh.2 h1 q⟩ q, fun h q => h.ex _ _ _ q⟩
  | hd k i s r hs hr => exact ⟨fun _ q => q, fun {c ds ρ μ R R'} h q => ⟨fun e => hs.1 (R := ⟨fun ρ1 μ1 => R.nx (ρ1.set i none) μ1, R.rt, _⟩) (R' := ⟨fun ρ1 μ1 => R'.nx (ρ1.set i none) μ1, R'.rt, _⟩) ⟨fun ρ μ q => h.nx _ _ q, h.rt, fun _ _ _ z => z⟩ (q.1 e), fun e => hr.2 h (q.2 e)⟩⟩
theorem m_S (s : St) {ρ μ R R'} (h : LeP R R') (q : wpS G s ρ μ R) : wpS G s ρ μ R' := (m_SH hG s).1 h q
theorem m_run (f : FD) : MonoF (runF G f) := fun h hx q => ⟨q.1, m_S hG _ ⟨fun _ μ q => h _ _ q, h, hx⟩ q.2⟩
end
end MP

set_option linter.all false
set_option maxRecDepth 100000
set_option maxHeartbeats 1000000
set_option Elab.async false
namespace MP
local macro_rules
  | `(tactic| simp_wf) => `(tactic| simp only [wpE, wpA, optP, getV, matP, List.set, List.getElem?_cons_succ, List.getElem?_cons_zero, primP, arg1, arg2, arg3, binP, intP, absP, min2P, max2P])
variable {μ μ' μ1 μ2 : Sto} {a b p q : Nat} {l : List D} {i : Int} {x y d : D} {o : Ob} {ρ : Env}
theorem opt_some {α : Type} {x : α} {k : α → Prop} : optP (some x) k = k x := rfl
theorem idx_lst {Q : D → Prop} (h : μ a = some (.lst l)) (hx : getI l i = some x) (k : Q x) : idxP (.ref a) (.int i) μ Q := by
  unfold idxP
  simp only [h]
  rw [hx]; exact k
theorem setIdx_lst {j : Nat} {Q : Sto → Prop} (h : μ a = some (.lst l)) (hx : ixN l.length i = some j) (k : Q (upd μ a (.lst (l.set j y)))) : setIdxP (.ref a) (.int i) y μ Q := by
  unfold setIdxP
  simp only [h]
  rw [hx]; exact k
theorem up_same : upd μ a o a = some o := by unfold upd; rw [if_pos rfl]
theorem up_ne (h : b ≠ a) : upd μ a o b = μ b := by unfold upd; rw [if_neg h]
theorem opt_of {α : Type} {o : Option α} {x : α} {k : α → Prop} (h : o = some x) (q : k x) : optP o k := by rw [h]; exact q
theorem add_lst {m : List D} {Q : D → Sto → Prop} (h1 : μ a = some (.lst l)) (h2 : μ b = some (.lst m)) (hz : l.length + m.length ≤ 16777216) (q : ∀ p, μ p = none → Q (.ref p) (upd μ p (.lst (l ++ m)))) : binP .add (.ref a) (.ref b) μ Q := by
  show rdL μ a fun i => rdL μ b fun j => i.length + j.length ≤ sizeMax ∧ new μ (.lst (i ++ j)) Q
  unfold rdL
  simp only [h1, h2]
  exact ⟨hz, q⟩
theorem small_of (h : -(10 ^ 200) ≤ i) (h2 : i ≤ 10 ^ 200) : Small i := by
  unfold Small
  have : (10 : Nat) ^ 200 < 10 ^ 250 := Nat.pow_lt_pow_right (by decide) (by decide)
  omega
theorem ne_new (h : μ a = some o) (hn : μ b = none) : a ≠ b := fun z => by subst z; rw [h] at hn; cases hn
theorem up_old (h : μ a = some o) {o' : Ob} (hn : μ b = none) : upd μ b o' a = some o := by rw [up_ne (ne_new h hn)]; exact h
def Kept (S : Nat → Prop) (μ μ' : Sto) : Prop := ∀ q o, ¬ S q → μ q = some o → μ' q = some o
theorem Kept.refl {S : Nat → Prop} : Kept S μ μ := fun _ _ _ h => h
theorem Kept.trans {S : Nat → Prop} (h : Kept S μ μ1) (k : Kept S μ1 μ2) : Kept S μ μ2 := fun q o hs e => k q o hs (h q o hs e)
theorem Kept.new {S : Nat → Prop} (hn : μ a = none) : Kept S μ (upd μ a o) := fun q o' _ e => up_old e hn
theorem Kept.set {S : Nat → Prop} (hs : S a) : Kept S μ (upd μ a o) := fun q o' hq e => by rw [up_ne fun z => hq (by rw [z]; exact hs)]; exact e
theorem Kept.mono {S R : Nat → Prop} (h : Kept S μ μ') (m : ∀ q, S q → R q) : Kept R μ μ' := fun q o hq e => h q o (fun z => hq (m q z)) e
abbrev Kp (b : Nat) := Kept (· = b)
abbrev Kn := Kept fun _ => False
theorem Kept.loc {S : Nat → Prop} (hn : μ a = none) (k : Kept S μ μ') : Kept S μ (upd μ' a o) := fun q o' hq e => by rw [up_ne (ne_new e hn)]; exact k q o' hq e
theorem Kept.nw {S : Nat → Prop} (hn : μ' a = none) (k : Kept S μ μ') : Kept S μ (upd μ' a o) := fun q o' hq e => up_old (k q o' hq e) hn
theorem Kept.wr {S : Nat → Prop} (hs : S a) (k : Kept S μ μ') : Kept S μ (upd μ' a o) := k.trans (.set hs)
theorem Kept.none {S : Nat → Prop} (k : Kept S μ μ') (hs : ¬ S a) (h : μ' a = none) : μ a = none := by
  cases e : μ a with
  | none => rfl
  | some o => rw [k a o hs e] at h; cases h
theorem eqb_int {i j : Int} : D.eqb (.int i) (.int j) = decide (i = j) := by
  show (i == j) = _
  rw [Bool.eq_iff_iff]; simp
theorem eqb_str {i j : List Nat} : D.eqb (.str i) (.str j) = decide (i = j) := by
  show (i == j) = _
  rw [Bool.eq_iff_iff]; simp
abbrev NoX : EX := fun _ _ _ => False
theorem yes {A B : Prop} (h : A) : br (.bl true) A B := ⟨fun _ => h, fun z => nomatch z⟩
theorem nay {A B : Prop} (h : B) : br (.bl false) A B := ⟨fun z => (nomatch z), fun _ => h⟩
theorem leNo {X : EX} : LeX NoX X := fun _ _ _ z => z.elim
def augK (v y : D) (k : Int → Prop) : Prop := match v, y with
  | .int m, .int n => k (m + n)
  | _, _ => False
theorem augK_int {m n : Int} {k : Int → Prop} : augK (.int m) (.int n) k = k (m + n) := rfl
section
variable {G : Ctx} (hG : Mono G) {e c : E} {s s' : St} {Q : D → Sto → Prop} {R : Post} {X : EX}
include hG
theorem ev (P : D → Sto → Prop) (h : wpE G e ρ μ P NoX) (k : ∀ d μ1, P d μ1 → Q d μ1) : wpE G e ρ μ Q X := m_E hG k leNo h
abbrev Val (G : Ctx) (e : E) (ρ : Env) (μ : Sto) (v : D) : Prop := wpE G e ρ μ (fun d μ1 => d = v ∧ μ1 = μ) NoX
omit hG in
theorem vl {v : D} (h : wpE G e ρ μ (fun d μ1 => d = v ∧ μ1 = μ) NoX) : Val G e ρ μ v := h
omit hG in
omit hG in
omit hG in
omit hG in
omit hG in
theorem ws_set {p : P} {r : St} : wpS G (.seq (.set p e) r) ρ μ R = wpE G e ρ μ (fun d μ1 => optP (matP p d ρ) fun ρ1 => wpS G r ρ1 μ1 R) R.ex := rfl
omit hG in
theorem ws_set1 {p : P} : wpS G (.set p e) ρ μ R = wpE G e ρ μ (fun d μ1 => optP (matP p d ρ) fun ρ1 => R.nx ρ1 μ1) R.ex := rfl
omit hG in
theorem ws_ret : wpS G (.ret e) ρ μ R = wpE G e ρ μ R.rt R.ex := rfl
omit hG in
theorem ws_nop : wpS G .nop ρ μ R = R.nx ρ μ := rfl
omit hG in
theorem ws_exp {r : St} : wpS G (.seq (.expr e) r) ρ μ R = wpE G e ρ μ (fun _ μ1 => wpS G r ρ μ1 R) R.ex := rfl
omit hG in
theorem ws_exp1 : wpS G (.expr e) ρ μ R = wpE G e ρ μ (fun _ μ1 => R.nx ρ μ1) R.ex := rfl
omit hG in
theorem ws_sidx {o i : E} {r : St} : wpS G (.seq (.setIdx o i e) r) ρ μ R = wpE G e ρ μ (fun y μ1 => wpE G o ρ μ1 (fun x μ2 => wpE G i ρ μ2 (fun k μ3 => setIdxP x k y μ3 fun μ4 => wpS G r ρ μ4 R) R.ex) R.ex) R.ex := rfl
omit hG in
theorem ws_sidx1 {o i : E} : wpS G (.setIdx o i e) ρ μ R = wpE G e ρ μ (fun y μ1 => wpE G o ρ μ1 (fun x μ2 => wpE G i ρ μ2 (fun k μ3 => setIdxP x k y μ3 fun μ4 => R.nx ρ μ4) R.ex) R.ex) R.ex := rfl
omit hG in
theorem ws_satt {o : E} {f : Nat} {r : St} : wpS G (.seq (.setAttr o f e) r) ρ μ R = wpE G e ρ μ (fun y μ1 => wpE G o ρ μ1 (fun x μ2 => insP x μ2 fun p c l => G.fl c f = true ∧ l.length < 1000 ∧ wpS G r ρ (upd μ2 p (.ins c (putF l f y))) R) R.ex) R.ex := rfl
omit hG in
theorem ws_satt1 {o : E} {f : Nat} : wpS G (.setAttr o f e) ρ μ R = wpE G e ρ μ (fun y μ1 => wpE G o ρ μ1 (fun x μ2 => insP x μ2 fun p c l => G.fl c f = true ∧ l.length < 1000 ∧ R.nx ρ (upd μ2 p (.ins c (putF l f y)))) R.ex) R.ex := rfl
omit hG in
theorem ws_for {p : P} {kd : IK} {src : E} {body : St} : wpS G (.for p kd src body) ρ μ R = wpA G src ρ μ (fun ds μ1 => iterP kd ds μ1 fun l chk => forP chk (fun d ρ1 μ2 K => optP (matP p d ρ1) fun ρ2 => wpS G body ρ2 μ2 ⟨K, R.rt, R.ex⟩) R.nx l ρ μ1) R.ex := rfl
omit hG in
theorem ws_forS {p : P} {kd : IK} {src : E} {body r : St} : wpS G (.seq (.for p kd src body) r) ρ μ R = wpA G src ρ μ (fun ds μ1 => iterP kd ds μ1 fun l chk => forP chk (fun d ρ1 μ2 K => optP (matP p d ρ1) fun ρ2 => wpS G body ρ2 μ2 ⟨K, R.rt, R.ex⟩) (fun ρ1 μ1 => wpS G r ρ1 μ1 R) l ρ μ1) R.ex := rfl
omit hG in
theorem ws_aat1 {o : E} {f : Nat} : wpS G (.augAttr o f e) ρ μ R = wpE G o ρ μ (fun x μ1 => insP x μ1 fun p c l => G.fl c f = true ∧ optP (lookF l f) fun v => wpE G e ρ μ1 (fun y μ2 => insP (.ref p) μ2 fun _ c' l' => c' = c ∧ augK v y fun n => l'.length < 1000 ∧ R.nx ρ (upd μ2 p (.ins c (putF l' f (.int n))))) R.ex) R.ex := rfl
omit hG in
theorem ws_aat {o : E} {f : Nat} {r : St} : wpS G (.seq (.augAttr o f e) r) ρ μ R = wpE G o ρ μ (fun x μ1 => insP x μ1 fun p c l => G.fl c f = true ∧ optP (lookF l f) fun v => wpE G e ρ μ1 (fun y μ2 => insP (.ref p) μ2 fun _ c' l' => c' = c ∧ augK v y fun n => l'.length < 1000 ∧ wpS G r ρ (upd μ2 p (.ins c (putF l' f (.int n)))) R) R.ex) R.ex := rfl
omit hG in
theorem ws_avar1 {i : Nat} : wpS G (.augVar i e) ρ μ R = optP (getV ρ i) (fun x => wpE G e ρ μ (fun y μ1 => augK x y fun n => R.nx (ρ.set i (some (.int n))) μ1) R.ex) := rfl
omit hG in
theorem ws_avar {i : Nat} {r : St} : wpS G (.seq (.augVar i e) r) ρ μ R = optP (getV ρ i) (fun x => wpE G e ρ μ (fun y μ1 => augK x y fun n => wpS G r (ρ.set i (some (.int n))) μ1 R) R.ex) := rfl
end
section
variable {Q : D → Sto → Prop} {k : Bool → Prop} {kd : D → Prop} {j : Int} {s t : List Nat} {v w : D}
theorem b_add : binP .add (.int i) (.int j) μ Q = Q (.int (i + j)) μ := rfl
theorem b_addS : binP .add (.str s) (.str t) μ Q = (s.length + t.length ≤ sizeMax ∧ Q (.str (s ++ t)) μ) := rfl
theorem b_addT {m : List D} : binP .add (.tup l) (.tup m) μ Q = (l.length + m.length ≤ sizeMax ∧ Q (.tup (l ++ m)) μ) := rfl
theorem b_sub : binP .sub (.int i) (.int j) μ Q = Q (.int (i - j)) μ := rfl
theorem b_mul : binP .mul (.int i) (.int j) μ Q = (Small i ∧ Small j ∧ Q (.int (i * j)) μ) := rfl
theorem b_div : binP .fdiv (.int i) (.int j) μ Q = (0 < j ∧ Small j ∧ Q (.int (i / j)) μ) := rfl
theorem b_mod : binP .mod (.int i) (.int j) μ Q = (0 < j ∧ Q (.int (i % j)) μ) := rfl
theorem b_pow : binP .pow (.int i) (.int j) μ Q = (powOk i j = true ∧ Q (.int (i ^ j.toNat)) μ) := rfl
theorem gv_0 {r : Env} : getV (some x :: r) 0 = some x := rfl
theorem gv_s {r : Env} {z : Option D} {n : Nat} : getV (z :: r) (n + 1) = getV r n := rfl
theorem o_non : optI .non = some none := rfl
theorem o_int : optI (.int i) = some (some i) := rfl
theorem c_len : primP .len [x] μ Q = lenP x μ Q := rfl
theorem c_lenT : lenP (.tup l) μ Q = Q (.int l.length) μ := rfl
theorem c_int : primP .int [.int i] μ Q = Q (.int i) μ := rfl
theorem c_intB {b : Bool} : primP .int [.bl b] μ Q = Q (.int (b2i b)) μ := rfl
theorem c_abs : primP .abs [.int i] μ Q = Q (.int (if i < 0 then -i else i)) μ := rfl
theorem c_min : primP .min2 [.int i, .int j] μ Q = Q (.int (min i j)) μ := rfl
theorem c_max : primP .max2 [.int i, .int j] μ Q = Q (.int (max i j)) μ := rfl
theorem c_tupT : primP .tuple [.tup l] μ Q = Q (.tup l) μ := rfl
theorem c_eqI : cmpP .eq (.int i) (.int j) μ k = k (decide (i = j)) := by rw [← eqb_int]; rfl
theorem c_neI : cmpP .ne (.int i) (.int j) μ k = k (!decide (i = j)) := by rw [← eqb_int]; rfl
theorem c_eqS : cmpP .eq (.str s) (.str t) μ k = k (decide (s = t)) := by rw [← eqb_str]; rfl
theorem c_neS : cmpP .ne (.str s) (.str t) μ k = k (!decide (s = t)) := by rw [← eqb_str]; rfl
theorem c_lt : cmpP .lt (.int i) (.int j) μ k = k (decide (i < j)) := rfl
theorem c_le : cmpP .le (.int i) (.int j) μ k = k (decide (i ≤ j)) := rfl
theorem c_gt : cmpP .gt (.int i) (.int j) μ k = k (decide (j < i)) := rfl
theorem c_ge : cmpP .ge (.int i) (.int j) μ k = k (decide (j ≤ i)) := rfl
theorem c_is : cmpP .is x .non μ k = k (isNon x) := rfl
theorem c_isnot : cmpP .isnot x .non μ k = k (!isNon x) := rfl
theorem c_isB {b c : Bool} : cmpP .is (.bl c) (.bl b) μ k = k (c == b) := rfl
theorem c_isnotB {b c : Bool} : cmpP .isnot (.bl c) (.bl b) μ k = k (!(c == b)) := rfl
theorem c_idxT : idxP (.tup l) (.int i) μ kd = optP (getI l i) kd := rfl
theorem g_0 {α : Type} {a : α} {l : List α} : getI (a :: l) 0 = some a := by simp [getI, ixN]
theorem g_1 {α : Type} {a b : α} {l : List α} : getI (a :: b :: l) 1 = some b := by
  unfold getI ixN
  rw [if_pos (by decide), if_pos (by simp only [List.length_cons]; omega)]; rfl
theorem g_2 {α : Type} {a b c : α} {l : List α} : getI (a :: b :: c :: l) 2 = some c := by
  unfold getI ixN
  rw [if_pos (by decide), if_pos (by simp only [List.length_cons]; omega)]; rfl
theorem g_3 {α : Type} {a b c d : α} {l : List α} : getI (a :: b :: c :: d :: l) 3 = some d := by
  unfold getI ixN
  rw [if_pos (by decide), if_pos (by simp only [List.length_cons]; omega)]; rfl
theorem g_4 {α : Type} {a b c d e : α} {l : List α} : getI (a :: b :: c :: d :: e :: l) 4 = some e := by
  unfold getI ixN
  rw [if_pos (by decide), if_pos (by simp only [List.length_cons]; omega)]; rfl
theorem g_5 {α : Type} {a b c d e f : α} {l : List α} : getI (a :: b :: c :: d :: e :: f :: l) 5 = some f := by
  unfold getI ixN
  rw [if_pos (by decide), if_pos (by simp only [List.length_cons]; omega)]; rfl
theorem g_6 {α : Type} {a b c d e f g : α} {l : List α} : getI (a :: b :: c :: d :: e :: f :: g :: l) 6 = some g := by
  unfold getI ixN
  rw [if_pos (by decide), if_pos (by simp only [List.length_cons]; omega)]; rfl
theorem br_t {A B : Prop} : br (.bl true) A B = A := by unfold br; simp
theorem br_f {A B : Prop} : br (.bl false) A B = B := by unfold br; simp
theorem c_itA : iterP .any [x] μ = itemsP x μ := rfl
theorem c_itT {k : List D → (Sto → Prop) → Prop} : itemsP (.tup l) μ k = k l fun _ => True := rfl
theorem c_itS {k : List D → (Sto → Prop) → Prop} : itemsP (.scr ns) μ k = k (ns.map D.int) fun _ => True := rfl
end
theorem for_ix {chk : Sto → Prop} {turn : D → Env → Sto → (Env → Sto → Prop) → Prop} {K : Env → Sto → Prop} {l : List D} (I : Nat → Env → Sto → Prop) (hc : ∀ i ρ μ, I i ρ μ → chk μ)
    (ht : ∀ i d, l[i]? = some d → ∀ ρ μ K', I i ρ μ → (∀ ρ' μ', I (i + 1) ρ' μ' → K' ρ' μ') → turn d ρ μ K') (hk : ∀ ρ μ, I l.length ρ μ → K ρ μ) : ∀ {ρ μ}, I 0 ρ μ → forP chk turn K l ρ μ := by
  induction l generalizing I with
  | nil => exact fun h => ⟨hc _ _ _ h, hk _ _ h⟩
  | cons d r ih =>
    exact fun h => ⟨hc _ _ _ h, ht 0 d rfl _ _ _ h fun ρ' μ' h' => ih (fun i => I (i + 1)) (fun i => hc (i + 1)) (fun i d hd => ht (i + 1) d hd) hk h'⟩
def BagAt (μ : Sto) (b : Nat) : Prop := ∃ x y : Int, μ b = some (.lst [.int x, .int y]) ∧ 0 ≤ x ∧ 0 ≤ y ∧ y < 2147483647
theorem BagAt.keep {S : Nat → Prop} (h : BagAt μ b) (k : Kept S μ μ') (hs : ¬ S b) : BagAt μ' b := by
  obtain ⟨x, y, e, h⟩ := h
  exact ⟨x, y, k b _ hs e, h⟩
theorem BagAt.new (h : BagAt μ b) (hn : μ a = none) : BagAt (upd μ a o) b := by
  obtain ⟨x, y, e, h⟩ := h
  exact ⟨x, y, up_old e hn, h⟩
theorem BagAt.ne (h : BagAt μ b) (hn : μ a = none) : a ≠ b := by
  obtain ⟨x, y, e, _⟩ := h
  exact (ne_new e hn).symm
theorem BagAt.off (h : BagAt μ b) (ne : a ≠ b) : BagAt (upd μ a o) b := by
  obtain ⟨x, y, e, h⟩ := h
  exact ⟨x, y, by rw [up_ne (Ne.symm ne)]; exact e, h⟩
abbrev BagS (F : Fn) : Prop := ∀ {ns : List Int} {k : Int} {μ : Sto} {Q : D → Sto → Prop} {X : EX}, 0 ≤ k → k < 1000 → (∀ b μ', μ b = none → BagAt μ' b → Kn μ μ' → Q (.ref b) μ') → F [.scr ns, .int k] μ Q X
abbrev TakeS (F : Fn) : Prop := ∀ {b : Nat} {m : Int} {μ : Sto} {Q : D → Sto → Prop} {X : EX}, BagAt μ b → 0 < m → m < 10 ^ 100 → (∀ (r : Int) μ', 0 ≤ r → r < m → BagAt μ' b → Kp b μ μ' → Q (.int r) μ') → F [.ref b, .int m] μ Q X
end MP

set_option linter.all false
set_option maxRecDepth 100000
set_option maxHeartbeats 1000000
set_option Elab.async false
namespace MP
theorem strLt_dec : ∀ a b : List Nat, strLt a b = decide (a < b)
  | [], [] => by simp [strLt]
  | _ :: _, [] => by simp [strLt]
  | [], _ :: _ => by simp [strLt]
  | x :: a, y :: b => by
    unfold strLt
    rw [strLt_dec a b, Bool.eq_iff_iff]
    simp only [Bool.or_eq_true, Bool.and_eq_true, decide_eq_true_eq, beq_iff_eq, List.cons_lt_cons_iff]
theorem strLe_dec {a b : List Nat} : strLt b a = false ↔ a ≤ b := by
  rw [strLt_dec, decide_eq_false_iff_not]; exact List.not_lt
theorem uniq {α : Type} {le : α → α → Prop} (anti : ∀ a b, le a b → le b a → a = b) : ∀ {l m : List α}, l.Perm m → l.Pairwise le → m.Pairwise le → l = m
  | [], m, p, _, _ => (List.nil_perm.mp p).symm
  | a :: l, [], p, _, _ => by have := p.length_eq; simp at this
  | a :: l, b :: m, p, h1, h2 => by
    rw [List.pairwise_cons] at h1 h2
    have e : a = b := by
      have ha : a ∈ b :: m := p.mem_iff.mp (List.mem_cons_self ..)
      have hb : b ∈ a :: l := p.mem_iff.mpr (List.mem_cons_self ..)
      rcases List.mem_cons.mp ha with e | ha
      · exact e
      rcases List.mem_cons.mp hb with e | hb
      · exact e.symm
      exact anti _ _ (h1.1 b hb) (h2.1 a ha)
    subst e
    rw [uniq anti (List.Perm.cons_inv p) h1.2 h2.2]
theorem insD_perm {x : D} : ∀ {l : List D}, (insD x l).Perm (x :: l)
  | [] => .refl _
  | y :: r => by
    unfold insD
    split
    · exact .refl _
    · exact (List.Perm.cons y insD_perm).trans (.swap x y r)
theorem sortD_perm : ∀ {l : List D}, (sortD l).Perm l
  | [] => .refl _
  | x :: r => insD_perm.trans (.cons x sortD_perm)
def Ordered' (p : D → Bool) : Prop := (∀ a b, p a = true → p b = true → leB a b = false → leB b a = true) ∧ (∀ a b c, p a = true → p b = true → p c = true → leB a b = true → leB b c = true → leB a c = true) ∧ (∀ a b, p a = true → p b = true → leB a b = true → leB b a = true → a = b)
theorem ord_int : Ordered' isInt := by
  refine ⟨fun a b ha hb h => ?_, fun a b c ha hb hc h1 h2 => ?_, fun a b ha hb h1 h2 => ?_⟩
  · cases a <;> first | cases ha | skip
    cases b <;> first | cases hb | skip
    simp [leB] at h ⊢; omega
  · cases a <;> first | cases ha | skip
    cases b <;> first | cases hb | skip
    cases c <;> first | cases hc | skip
    simp [leB] at h1 h2 ⊢; omega
  · cases a <;> first | cases ha | skip
    cases b <;> first | cases hb | skip
    simp [leB] at h1 h2 ⊢; omega
theorem ord_str : Ordered' isStr := by
  refine ⟨fun a b ha hb h => ?_, fun a b c ha hb hc h1 h2 => ?_, fun a b ha hb h1 h2 => ?_⟩
  · cases a <;> first | cases ha | skip
    cases b <;> first | cases hb | skip
    simp only [leB, Bool.not_eq_false', Bool.not_eq_true', strLt_dec, decide_eq_true_eq, decide_eq_false_iff_not] at h ⊢
    exact List.lt_asymm h
  · cases a <;> first | cases ha | skip
    cases b <;> first | cases hb | skip
    cases c <;> first | cases hc | skip
    simp only [leB, Bool.not_eq_true', strLe_dec] at h1 h2 ⊢
    exact List.le_trans h1 h2
  · cases a <;> first | cases ha | skip
    cases b <;> first | cases hb | skip
    simp only [leB, Bool.not_eq_true', strLe_dec] at h1 h2
    rw [List.le_antisymm h1 h2]
theorem insD_pw {p : D → Bool} (O : Ordered' p) {x : D} (hx : p x = true) : ∀ {l : List D}, l.all p = true → l.Pairwise (fun a b => leB a b = true) → (insD x l).Pairwise (fun a b => leB a b = true)
  | [], _, _ => by simp [insD]
  | y :: r, ha, h => by
    rw [List.all_cons, Bool.and_eq_true] at ha
    rw [List.pairwise_cons] at h
    unfold insD
    split
    · rename_i e
      refine List.pairwise_cons.mpr ⟨fun z hz => ?_, List.pairwise_cons.mpr h⟩
      rcases List.mem_cons.mp hz with rfl | hz
      · exact e
      · exact O.2.1 _ _ _ hx ha.1 (List.all_eq_true.mp ha.2 z hz) e (h.1 z hz)
    · rename_i e
      refine List.pairwise_cons.mpr ⟨fun z hz => ?_, insD_pw O hx ha.2 h.2⟩
      rcases List.mem_cons.mp (insD_perm.mem_iff.mp hz) with rfl | hz
      · exact O.1 _ _ hx ha.1 (by simpa using e)
      · exact h.1 z hz
theorem sortD_pw {p : D → Bool} (O : Ordered' p) : ∀ {l : List D}, l.all p = true → (sortD l).Pairwise (fun a b => leB a b = true)
  | [], _ => .nil
  | x :: r, h => by
    rw [List.all_cons, Bool.and_eq_true] at h
    refine insD_pw O h.1 ?_ (sortD_pw O h.2)
    exact List.all_eq_true.mpr fun z hz => List.all_eq_true.mp h.2 z (sortD_perm.mem_iff.mp hz)
theorem sortD_of {p : D → Bool} (O : Ordered' p) {l m : List D} (hl : l.all p = true) (h : m.Perm l) (hs : m.Pairwise fun a b => leB a b = true) : m = sortD l := by
  have hm : m.all p = true := List.all_eq_true.mpr fun z hz => List.all_eq_true.mp hl z (h.mem_iff.mp hz)
  have h2 : (sortD l).all p = true := List.all_eq_true.mpr fun z hz => List.all_eq_true.mp hl z (sortD_perm.mem_iff.mp hz)
  refine uniq (le := fun a b => p a = true ∧ p b = true ∧ leB a b = true) (fun a b x y => O.2.2 a b x.1 x.2.1 x.2.2 y.2.2) (h.trans sortD_perm.symm) ?_ ?_
  · exact (List.pairwise_iff_forall_sublist.mpr fun {a b} s => ⟨List.all_eq_true.mp hm a (s.subset (by simp)), List.all_eq_true.mp hm b (s.subset (by simp)), List.pairwise_iff_forall_sublist.mp hs s⟩)
  · exact (List.pairwise_iff_forall_sublist.mpr fun {a b} s => ⟨List.all_eq_true.mp h2 a (s.subset (by simp)), List.all_eq_true.mp h2 b (s.subset (by simp)), List.pairwise_iff_forall_sublist.mp (sortD_pw O hl) s⟩)
theorem all_ints (ns : List Int) : (ns.map D.int).all isInt = true := by rw [List.all_eq_true]; intro x hx; obtain ⟨n, _, rfl⟩ := List.mem_map.mp hx; rfl
theorem all_strs (ns : List (List Nat)) : (ns.map D.str).all isStr = true := by rw [List.all_eq_true]; intro x hx; obtain ⟨n, _, rfl⟩ := List.mem_map.mp hx; rfl
theorem isInt_map : ∀ {l : List D}, l.all isInt = true → ∃ ns : List Int, l = ns.map D.int
  | [], _ => ⟨[], rfl⟩
  | x :: r, h => by
    rw [List.all_cons, Bool.and_eq_true] at h
    obtain ⟨ns, rfl⟩ := isInt_map h.2
    cases x <;> first | exact ⟨_ :: ns, rfl⟩ | (have := h.1; cases this)
theorem isStr_map : ∀ {l : List D}, l.all isStr = true → ∃ ns : List (List Nat), l = ns.map D.str
  | [], _ => ⟨[], rfl⟩
  | x :: r, h => by
    rw [List.all_cons, Bool.and_eq_true] at h
    obtain ⟨ns, rfl⟩ := isStr_map h.2
    cases x <;> first | exact ⟨_ :: ns, rfl⟩ | (have := h.1; cases this)
theorem sortD_ints {ns ms : List Int} (h : ms.Perm ns) (hs : ms.Pairwise (· ≤ ·)) : sortD (ns.map D.int) = ms.map D.int :=
  (sortD_of ord_int (all_ints ns) (h.map _) (List.pairwise_map.mpr (hs.imp fun h => by simpa [leB] using h))).symm
theorem sortD_strs {ns ms : List (List Nat)} (h : ms.Perm ns) (hs : ms.Pairwise fun a b => strLt b a = false) : sortD (ns.map D.str) = ms.map D.str :=
  (sortD_of ord_str (all_strs ns) (h.map _) (List.pairwise_map.mpr (hs.imp fun h => by simp only [leB, Bool.not_eq_true']; exact h))).symm
end MP

set_option linter.all false
set_option maxRecDepth 100000
set_option Elab.async false
namespace MP
open PySem PySem.Spec PyProof.Rows L2

abbrev toS (x : List Nat) : Str := ⟨x.toArray⟩
theorem toS_inj {x y : List Nat} (h : toS x = toS y) : x = y := by
  have := congrArg (fun z : Str => z.cps.toList) h
  simpa using this
theorem toS_cps (z : Str) : toS z.cps.toList = z := by cases z; simp [toS]
theorem sizeMax_eq : sizeMax = sizeLine := by rw [sizeLine_eq]; rfl

def FrzL (K : PySem.W.Frag) (H : Hp) (p : Addr) (vs : List V) : Prop := (∃ o, H p = some (.frz o (.lst vs))) ∨
    ∃ (o : Obj) (its : Array Value) (n : Nat), K.lookup p = some o ∧ o.cls = .type "list" ∧ o.dict = none ∧ o.data = .seq its n ∧ its.size ≤ sizeLine ∧ Vals vs its.toList
theorem FrzL.sq {K : PySem.W.Frag} {H : Hp} {p : Addr} {vs : List V} (h : FrzL K H p vs) : SqL K H p vs := h.elim (fun h => .inl (.inr h)) .inr
mutual
def RepV (K : PySem.W.Frag) (H : Hp) : D → V → Prop
  | .non, v => v = .non
  | .bl b, v => v = .bl b
  | .int i, v => v = .int i
  | .str x, v => v = .str (toS x)
  | .tup ds, v => ∃ p vs, v = .ref p ∧ SqT K H p vs ∧ RepVs K H ds vs
  | .scr l, v => ∃ p, v = .ref p ∧ FrzL K H p (l.map V.int)
  | .ref a, v => v = .ref a
def RepVs (K : PySem.W.Frag) (H : Hp) : List D → List V → Prop
  | [], vs => vs = []
  | d :: ds, vs => ∃ v r, vs = v :: r ∧ RepV K H d v ∧ RepVs K H ds r
end
mutual
def toNK : D → NestedKey
  | .int i => .num i
  | .str x => .text (toS x)
  | .tup ds => .tup (toNKs ds)
  | .non => .none
  | .bl _ => .none
  | .ref _ => .none
  | .scr _ => .none
def toNKs : List D → List NestedKey
  | [] => []
  | d :: ds => toNK d :: toNKs ds
end
structure Tab0 where
  fld : List Str
  cls : Nat → Addr
  nd : fld.Nodup
  /-- tables of code objects, each with the name that its code objects bear -/
  tabs : List (Addr × Str)
  /-- the exception classes, and whether their instances keep a line -/
  ecl : Nat → Addr := fun _ => 0
  exk : Nat → Option Bool := fun _ => none
abbrev Gh := Option (Nat × Addr × Option Addr)
structure Tab1 extends Tab0 where
  Z : EX := fun _ _ _ => False
  W : Nat → List D → Hp → Prop := fun _ _ _ => False
structure Tab extends Tab1 where
  S : L2.St → Prop := fun _ => True
  gh : Gh := none
abbrev Tab.off (T : Tab) : Tab := { T with Z := fun _ _ _ => False, W := fun _ _ _ => False, S := fun _ => True }
instance : Coe Tab1 Tab0 := ⟨Tab1.toTab0⟩
instance : Coe Tab Tab1 := ⟨Tab.toTab1⟩
instance : Coe Tab Tab0 := ⟨fun T => T.toTab1.toTab0⟩
abbrev IsObj (a : Addr) (o : Obj) : Heap → Prop := fun h => h.get? a = some o
def RepK (K : PySem.W.Frag) (H : Hp) : List (D × D) → List (Key × V) → Prop
  | [], l => l = []
  | (k, d) :: r, l => ∃ κ v q, l = (κ, v) :: q ∧ RepV K H k (kV κ) ∧ isFlat k = true ∧ RepV K H d v ∧ RepK K H r q
def RepF (K : PySem.W.Frag) (H : Hp) (fld : List Str) : List (Nat × D) → List (Str × V) → Prop
  | [], l => l = []
  | (k, d) :: r, l => ∃ x v q, l = (x, v) :: q ∧ fld[k]? = some x ∧ RepV K H d v ∧ RepF K H fld r q
def RepE (w : World) (K : PySem.W.Frag) (H : Hp) : List (D × D) → List DictEntry → Prop
  | [], l => l = []
  | (k, d) :: r, l => ∃ a v u q, l = ⟨(toNK k).hash w, .ref a, u⟩ :: q ∧ RepV K H k (.ref a) ∧ isTupKey k = true ∧ RepV K H d v ∧ RelV v u ∧ RepE w K H r q
structure Fr (H : Hp) (μ : Sto) (H' : Hp) (μ' : Sto) : Prop where
  out : ∀ a o, H a = some o → μ a = none → (∀ ps, o ≠ .tbl ps) → H' a = some o ∧ μ' a = none
  lk : ∀ a l u, H a = some u → μ a = some (.dL l) → H' a = some u ∧ μ' a = some (.dL l)
structure ExcI (K : PySem.W.Frag) (C : Addr) : Prop where
  cl : (PySem.W.clsIn K C).isSome = true
  ga : PySem.W.findIn K (.ref C) "__getattribute__" = some (some (.builtin "BaseException.__getattribute__"))
  gt : PySem.W.findIn K (.ref C) "__getattr__" = some none
  sb : PySem.W.subIn K (.ref C) (.type "BaseException") = some true
  ca : PySem.W.findIn K (.ref C) "__class__" = some (some (.builtin "object.__class__"))
  sp : PySem.W.specialIn K (.builtin "object.__class__") "__get__" = some (some (.builtin "getset_descriptor.__get__"))
  tk : PySem.W.takesIn K (.builtin "object.__class__") = some true
  ob : PySem.W.mroIn K C (.type "object") = some true
  hd : PySem.W.hasDictIn K C = true
  nl : PySem.W.findIn K (.ref C) "line" = some none
section
variable (w : World) (K : PySem.W.Frag) (T : Tab0)
def RepO (H : Hp) (a : Addr) : Ob → Prop
  | .lst l => ∃ vs, H a = some (.lst vs) ∧ RepVs K H l vs
  | .dF l => ∃ kvs, H a = some (.dK kvs) ∧ RepK K H l kvs
  | .dT l => ∃ o es ep, H a = some (.ext (IsObj a o)) ∧ o.ExactDict ∧ o.data = .dict es ep ∧ RepE w K H l es.toList ∧ (l.map fun p => toNK p.1).Nodup ∧ (a == sysModules) = false ∧ l.length ≤ sizeMax
  | .dL l => ∃ o kvs, H a = some (.frz o (.dK kvs)) ∧ RepK K H l kvs
  | .ins c l => ∃ dx fs, H a = some (.ins (T.cls c) dx fs) ∧ Cls K (T.cls c) ∧ RepF K H T.fld l fs
  | .exc c o => match o with
    | none => H a = some (ExO (.ref (T.ecl c)) a)
    | some d => ExcI K (T.ecl c) ∧ ∃ dx v, H a = some (exo a (T.ecl c) (some dx)) ∧ H dx = some (.xd [("line", v)]) ∧ RepV K H d v
  | .exn c => ExcI K (T.ecl c) ∧ OexC K (T.ecl c) ∧ H a = some (exo a (T.ecl c) none)
def TabM (H : Hp) (μ : Sto) (p : Addr × Str) : Prop := ∃ ps : Array Value, H p.1 = some (.tbl ps) ∧ TriplesOk ps.toList ∧ ∀ (pos : Pos) (cv : Value), PySem.codeAmong pos ps.toList = some cv → ∃ c, cv = .ref c ∧ H c = some (LamX.CodeO c p.2) ∧ μ c = none
structure RepH0 (H : Hp) (μ : Sto) : Prop where
  ob : ∀ a o, μ a = some o → RepO w K T H a o
  tb : ∀ p ∈ T.tabs, TabM H μ p
instance {H : Hp} {μ : Sto} : CoeFun (RepH0 w K T H μ) (fun _ => ∀ a o, μ a = some o → RepO w K T H a o) := ⟨RepH0.ob⟩
end
section
variable (w : World) (K : PySem.W.Frag) (T : Tab1)
structure RepH (H : Hp) (μ : Sto) : Prop extends RepH0 w K T.toTab0 H μ where
  up : ∀ H' μ', Fr H μ H' μ' → RepH0 w K T.toTab0 H' μ' → ∀ c ds, T.Z c ds μ' → T.W c ds H'
instance {H : Hp} {μ : Sto} : CoeFun (RepH w K T H μ) (fun _ => ∀ a o, μ a = some o → RepO w K T.toTab0 H a o) := ⟨fun h => h.ob⟩
end
section
variable (K : PySem.W.Frag) (T : Tab)
structure RepS0 (g : Gh) (H : Hp) (ρ : Env) (σ : L2.St) : Prop where
  len : ρ.length = σ.length
  val : ∀ (i : Nat) d, ρ[i]? = some (some d) → (∀ x, g = some x → i ≠ x.1) → ∃ v, σ[i]? = some (some v) ∧ RepV K H d v
  gs : ∀ i a o, g = some (i, a, o) → (i < σ.length → σ[i]? = some (some (.ref a))) ∧ ∀ x, o = some x → ∃ v d, H x = some (.xd [("line", v)]) ∧ (i < ρ.length → ρ[i]? = some (some d)) ∧ RepV K H d v
structure RepS (H : Hp) (ρ : Env) (σ : L2.St) : Prop extends RepS0 K T.gh H ρ σ where
  ok : T.S σ
end
def XD (K : PySem.W.Frag) (T : Tab0) (H : Hp) (c : Nat) (ds : List D) : Option Addr → Prop
  | none => T.exk c = some false
  | some x => T.exk c = some true ∧ ∃ v d, H x = some (.xd [("line", v)]) ∧ ds = [d] ∧ RepV K H d v
def Keeps (H H' : Hp) : Prop := (∀ p xs, H p = some (.tup xs) → H' p = some (.tup xs)) ∧ (∀ p o u, H p = some (.frz o u) → (∀ k, u ≠ .dK k) → H' p = some (.frz o u)) ∧ ∀ p fs, H p = some (.xd fs) → H' p = some (.xd fs)
section
variable {w : World} {K : PySem.W.Frag} {T : Tab0} {H H' H1 H2 : Hp} {μ μ' μ1 μ2 : Sto} {a p : Addr}
theorem Keeps.refl : Keeps H H := ⟨fun _ _ h => h, fun _ _ _ h _ => h, fun _ _ h => h⟩
theorem Keeps.trans (x : Keeps H H1) (y : Keeps H1 H2) : Keeps H H2 := ⟨fun p xs h => y.1 p xs (x.1 p xs h), fun p o u h n => y.2.1 p o u (x.2.1 p o u h n) n, fun p xs h => y.2.2 p xs (x.2.2 p xs h)⟩
theorem Keeps.rd {u : HO} (x : Keeps H H') (hu : (∃ xs, u = .tup xs)) (h : Rd H p u) : Rd H' p u := by
  obtain ⟨xs, rfl⟩ := hu
  rcases h with h | ⟨o, h⟩
  · exact .inl (x.1 _ _ h)
  · exact .inr ⟨o, x.2.1 _ _ _ h fun _ => HO.noConfusion⟩
theorem Keeps.sqT {vs : List V} (x : Keeps H H') (h : SqT K H p vs) : SqT K H' p vs := h.elim (fun h => .inl (x.rd ⟨_, rfl⟩ h)) .inr
theorem Keeps.frz {vs : List V} (x : Keeps H H') (h : FrzL K H p vs) : FrzL K H' p vs := h.elim (fun ⟨o, h⟩ => .inl ⟨o, x.2.1 _ _ _ h fun _ => HO.noConfusion⟩) .inr
mutual
theorem RepV.mono (x : Keeps H H') : ∀ {d : D} {v : V}, RepV K H d v → RepV K H' d v
  | .non, _, h => h
  | .bl _, _, h => h
  | .int _, _, h => h
  | .str _, _, h => h
  | .ref _, _, h => h
  | .scr _, _, ⟨p, e, h⟩ => ⟨p, e, x.frz h⟩
  | .tup ds, _, ⟨p, vs, e, h, r⟩ => ⟨p, vs, e, x.sqT h, RepVs.mono x r⟩
theorem RepVs.mono (x : Keeps H H') : ∀ {ds : List D} {vs : List V}, RepVs K H ds vs → RepVs K H' ds vs
  | [], _, h => h
  | _ :: _, _, ⟨v, r, e, h, q⟩ => ⟨v, r, e, RepV.mono x h, RepVs.mono x q⟩
end
theorem RepK.mono (x : Keeps H H') : ∀ {l : List (D × D)} {k : List (Key × V)}, RepK K H l k → RepK K H' l k
  | [], _, h => h
  | (_, _) :: _, _, ⟨κ, v, q, e, h1, h2, h3, h4⟩ => ⟨κ, v, q, e, h1.mono x, h2, h3.mono x, RepK.mono x h4⟩
theorem RepF.mono {fld : List Str} (x : Keeps H H') : ∀ {l : List (Nat × D)} {k : List (Str × V)}, RepF K H fld l k → RepF K H' fld l k
  | [], _, h => h
  | (_, _) :: _, _, ⟨y, v, q, e, h1, h3, h4⟩ => ⟨y, v, q, e, h1, h3.mono x, RepF.mono x h4⟩
theorem RepE.mono (x : Keeps H H') : ∀ {l : List (D × D)} {k : List DictEntry}, RepE w K H l k → RepE w K H' l k
  | [], _, h => h
  | (_, _) :: _, _, ⟨a, v, u, q, e, h1, h2, h3, h4, h5⟩ => ⟨a, v, u, q, e, h1.mono x, h2, h3.mono x, h4, RepE.mono x h5⟩
theorem RepO.at {o : Ob} (x : Keeps H H') (e : ∀ u, H a = some u → H' a = some u) (h : RepO w K T H a o) : RepO w K T H' a o := by
  cases o with
  | lst l => obtain ⟨vs, h1, h2⟩ := h; exact ⟨vs, e _ h1, h2.mono x⟩
  | dF l => obtain ⟨vs, h1, h2⟩ := h; exact ⟨vs, e _ h1, h2.mono x⟩
  | dT l => obtain ⟨o, es, ep, h1, h2, h3, h4, h5⟩ := h; exact ⟨o, es, ep, e _ h1, h2, h3, h4.mono x, h5⟩
  | dL l => obtain ⟨o, kvs, h1, h2⟩ := h; exact ⟨o, kvs, e _ h1, h2.mono x⟩
  | ins c l => obtain ⟨dx, fs, h1, hc, h2⟩ := h; exact ⟨dx, fs, e _ h1, hc, h2.mono x⟩
  | exc c o =>
    cases o with
    | none => exact e _ h
    | some d => obtain ⟨hc, dx, v, h1, h2, h3⟩ := h; exact ⟨hc, dx, v, e _ h1, x.2.2 _ _ h2, h3.mono x⟩
  | exn c => obtain ⟨hc, h0, h1⟩ := h; exact ⟨hc, h0, e _ h1⟩
theorem RepO.some {o : Ob} (h : RepO w K T H a o) : ∃ u, H a = some u ∧ (∀ xs, u ≠ .tup xs) ∧ (∀ o v, (∀ k, v ≠ .dK k) → u ≠ .frz o v) ∧ (∀ ps, u ≠ .tbl ps) ∧ ∀ fs, u ≠ .xd fs := by
  cases o with
  | lst l => obtain ⟨vs, h1, h2⟩ := h; exact ⟨_, h1, fun _ => HO.noConfusion, fun _ _ _ => HO.noConfusion, fun _ => HO.noConfusion, fun _ => HO.noConfusion⟩
  | dF l => obtain ⟨vs, h1, h2⟩ := h; exact ⟨_, h1, fun _ => HO.noConfusion, fun _ _ _ => HO.noConfusion, fun _ => HO.noConfusion, fun _ => HO.noConfusion⟩
  | dT l => obtain ⟨o, es, ep, h1, h2⟩ := h; exact ⟨_, h1, fun _ => HO.noConfusion, fun _ _ _ => HO.noConfusion, fun _ => HO.noConfusion, fun _ => HO.noConfusion⟩
  | dL l => obtain ⟨o, kvs, h1, h2⟩ := h; exact ⟨_, h1, fun _ => HO.noConfusion, fun _ _ n z => by cases z; exact n _ rfl, fun _ => HO.noConfusion, fun _ => HO.noConfusion⟩
  | ins c l => obtain ⟨dx, fs, h1, h2⟩ := h; exact ⟨_, h1, fun _ => HO.noConfusion, fun _ _ _ => HO.noConfusion, fun _ => HO.noConfusion, fun _ => HO.noConfusion⟩
  | exc c o =>
    cases o with
    | none => have h : H a = Option.some (ExO (.ref (T.ecl c)) a) := h; exact ⟨_, h, fun _ => HO.noConfusion, fun _ _ _ => HO.noConfusion, fun _ => HO.noConfusion, fun _ => HO.noConfusion⟩
    | some d => obtain ⟨_, dx, v, h1, h2⟩ := h; exact ⟨_, h1, fun _ => HO.noConfusion, fun _ _ _ => HO.noConfusion, fun _ => HO.noConfusion, fun _ => HO.noConfusion⟩
  | exn c => obtain ⟨_, _, h1⟩ := h; exact ⟨_, h1, fun _ => HO.noConfusion, fun _ _ _ => HO.noConfusion, fun _ => HO.noConfusion, fun _ => HO.noConfusion⟩
theorem RepH0.free (h : RepH0 w K T H μ) (e : H a = none) : μ a = none := by
  cases q : μ a with
  | none => rfl
  | some o =>
    obtain ⟨u, h1, _⟩ := (h a o q).some
    rw [e] at h1; cases h1
theorem RepH0.tup (h : RepH0 w K T H μ) {xs : List V} (e : H a = some (.tup xs)) : μ a = none := by
  cases q : μ a with
  | none => rfl
  | some o =>
    obtain ⟨u, h1, h2, _⟩ := (h a o q).some
    rw [e] at h1; cases h1
    exact absurd rfl (h2 xs)
theorem RepH0.frz (h : RepH0 w K T H μ) {o : Obj} {u : HO} (e : H a = some (.frz o u)) (n : ∀ k, u ≠ .dK k) : μ a = none := by
  cases q : μ a with
  | none => rfl
  | some o' =>
    obtain ⟨v, h1, _, h2, _⟩ := (h a o' q).some
    rw [e] at h1; cases h1
    exact absurd rfl (h2 o u n)
theorem RepH0.tbl (h : RepH0 w K T H μ) {ps : Array Value} (e : H a = some (.tbl ps)) : μ a = none := by
  cases q : μ a with
  | none => rfl
  | some o' =>
    obtain ⟨v, h1, _, _, h2, _⟩ := (h a o' q).some
    rw [e] at h1; cases h1
    exact absurd rfl (h2 ps)
theorem RepH0.xd (h : RepH0 w K T H μ) {fs : List (Str × V)} (e : H a = some (.xd fs)) : μ a = none := by
  cases q : μ a with
  | none => rfl
  | some o' =>
    obtain ⟨v, h1, _, _, _, h2⟩ := (h a o' q).some
    rw [e] at h1; cases h1
    exact absurd rfl (h2 fs)
theorem Fr.refl : Fr H μ H μ := ⟨fun _ _ h e _ => ⟨h, e⟩, fun _ _ _ h e => ⟨h, e⟩⟩
theorem Fr.trans (x : Fr H μ H1 μ1) (y : Fr H1 μ1 H2 μ2) : Fr H μ H2 μ2 := ⟨fun a o h e n => let ⟨h1, e1⟩ := x.out a o h e n; y.out a o h1 e1 n, fun a l u h e => let ⟨h1, e1⟩ := x.lk a l u h e; y.lk a l u h1 e1⟩
theorem Fr.keeps0 (x : Fr H μ H' μ') (h : RepH0 w K T H μ) : Keeps H H' := ⟨fun _ _ e => (x.out _ _ e (h.tup e) fun _ => HO.noConfusion).1, fun _ _ _ e n => (x.out _ _ e (h.frz e n) fun _ => HO.noConfusion).1, fun _ _ e => (x.out _ _ e (h.xd e) fun _ => HO.noConfusion).1⟩
theorem TabM.at {p : Addr × Str} (h : TabM H μ p) (e1 : ∀ ps, H p.1 = some (.tbl ps) → H' p.1 = some (.tbl ps)) (e2 : ∀ c, H c = some (LamX.CodeO c p.2) → μ c = none → H' c = some (LamX.CodeO c p.2) ∧ μ' c = none) : TabM H' μ' p := by
  obtain ⟨ps, h1, h2, h3⟩ := h
  refine ⟨ps, e1 _ h1, h2, fun pos cv hc => ?_⟩
  obtain ⟨c, c1, c2, c3⟩ := h3 pos cv hc
  obtain ⟨d1, d2⟩ := e2 c c2 c3
  exact ⟨c, c1, d1, d2⟩
theorem RepS0.mono {g : Gh} {ρ : Env} {σ : L2.St} (x : Keeps H H') (h : RepS0 K g H ρ σ) : RepS0 K g H' ρ σ := ⟨h.len, fun i d e n => let ⟨v, h1, h2⟩ := h.val i d e n; ⟨v, h1, h2.mono x⟩, fun i a o e => let ⟨h1, h2⟩ := h.gs i a o e; ⟨h1, fun y hy => let ⟨v, d, h3, h4, h5⟩ := h2 y hy; ⟨v, d, x.2.2 _ _ h3, h4, h5.mono x⟩⟩⟩
theorem RepS.mono {T : Tab} {ρ : Env} {σ : L2.St} (x : Keeps H H') (h : RepS K T H ρ σ) : RepS K T H' ρ σ := ⟨h.toRepS0.mono x, h.ok⟩
theorem RepS0.set {g : Gh} {ρ : Env} {σ : L2.St} {i : Nat} {d : D} {v : V} (h : RepS0 K g H ρ σ) (r : RepV K H d v) (n : ∀ x, g = some x → i ≠ x.1) : RepS0 K g H (ρ.set i (some d)) (σ.set i (some v)) := by
  refine ⟨by rw [List.length_set, List.length_set]; exact h.len, fun j d' e nj => ?_, fun j a o e => ?_⟩
  · by_cases hj : i = j
    · subst hj
      by_cases hi : i < ρ.length
      · rw [List.getElem?_set_self hi] at e
        cases e
        exact ⟨v, List.getElem?_set_self (by rw [← h.len]; exact hi), r⟩
      · rw [List.getElem?_eq_none (by rw [List.length_set]; omega)] at e; cases e
    · rw [List.getElem?_set_ne hj] at e
      rw [List.getElem?_set_ne hj]
      exact h.val j d' e nj
  · have hj : i ≠ j := n _ e
    obtain ⟨h1, h2⟩ := h.gs j a o e
    refine ⟨fun hl => by rw [List.getElem?_set_ne hj]; exact h1 (by simpa using hl), fun y hy => ?_⟩
    obtain ⟨v', d', h3, h4, h5⟩ := h2 y hy
    exact ⟨v', d', h3, fun hl => by rw [List.getElem?_set_ne hj]; exact h4 (by simpa using hl), h5⟩
theorem Keeps.upd {o : HO} (h1 : ∀ xs, H a ≠ some (.tup xs)) (h2 : ∀ o u, (∀ k, u ≠ .dK k) → H a ≠ some (.frz o u)) (h3 : ∀ fs, H a ≠ some (.xd fs)) : Keeps H (L2.upd H a o) :=
  ⟨fun p xs e => by
    have ne : p ≠ a := fun z => by subst z; exact h1 xs e
    rw [L2.upd_ne ne]; exact e, fun p o u e n => by
    have ne : p ≠ a := fun z => by subst z; exact h2 o u n e
    rw [L2.upd_ne ne]; exact e, fun p xs e => by
    have ne : p ≠ a := fun z => by subst z; exact h3 xs e
    rw [L2.upd_ne ne]; exact e⟩
theorem Keeps.new {o : HO} (e : H a = none) : Keeps H (L2.upd H a o) := .upd (fun _ h => by rw [e] at h; cases h) (fun _ _ _ h => by rw [e] at h; cases h) (fun _ h => by rw [e] at h; cases h)
theorem Keeps.wr0 {o : HO} {ob : Ob} (h : RepH0 w K T H μ) (e : μ a = some ob) : Keeps H (L2.upd H a o) := by
  obtain ⟨u, h1, h2, h3, _, h4⟩ := (h a ob e).some
  exact .upd (fun xs z => by rw [h1] at z; exact h2 xs (Option.some.inj z)) (fun o v n z => by rw [h1] at z; exact h3 o v n (Option.some.inj z)) (fun xs z => by rw [h1] at z; exact h4 xs (Option.some.inj z))
theorem upd_at {μ : Sto} {a : Nat} {o : Ob} : MP.upd μ a o a = some o := by unfold MP.upd; rw [if_pos rfl]
theorem upd_id {μ : Sto} {a : Nat} {o : Ob} (h : μ a = some o) : MP.upd μ a o = μ := by
  funext b; unfold MP.upd; split
  · rename_i e; subst e; exact h.symm
  · rfl
theorem upd_off {μ : Sto} {a b : Nat} {o : Ob} (h : b ≠ a) : MP.upd μ a o b = μ b := by unfold MP.upd; rw [if_neg h]
theorem ne_at {H : Hp} {a b : Addr} {o : HO} (h : H a = some o) (e : H b = none) : a ≠ b := fun z => by subst z; rw [e] at h; cases h
theorem ne_of_mu {μ : Sto} {a b : Addr} {ob : Ob} (h : μ a = none) (e : μ b = some ob) : a ≠ b := fun z => by subst z; rw [e] at h; cases h
theorem RepH0.newT {o : HO} (h : RepH0 w K T H μ) (e : H p = none) : RepH0 w K T (L2.upd H p o) μ := ⟨fun a ob q => by
  have ne : a ≠ p := fun z => by
    subst z
    rw [h.free e] at q; cases q
  exact (h a ob q).at (.new e) fun u hu => by rw [L2.upd_ne ne]; exact hu, fun p hp => (h.tb p hp).at (fun ps q => by rw [L2.upd_ne (ne_at q e)]; exact q) fun c q n => ⟨by rw [L2.upd_ne (ne_at q e)]; exact q, n⟩⟩
theorem Fr.newT {o : HO} (e : H p = none) : Fr H μ (L2.upd H p o) μ := ⟨fun a u h n _ => ⟨by rw [L2.upd_ne (ne_at h e)]; exact h, n⟩, fun a l u h n => ⟨by rw [L2.upd_ne (ne_at h e)]; exact h, n⟩⟩
theorem RepH0.newO {o : HO} {ob : Ob} (h : RepH0 w K T H μ) (e : H p = none) (r : RepO w K T (L2.upd H p o) p ob) : RepH0 w K T (L2.upd H p o) (MP.upd μ p ob) := ⟨fun a ob' q => by
  by_cases ha : a = p
  · subst ha
    rw [upd_at] at q; cases q
    exact r
  · rw [upd_off ha] at q
    exact (h a ob' q).at (.new e) fun u hu => by rw [L2.upd_ne ha]; exact hu, fun p hp => (h.tb p hp).at (fun ps q => by rw [L2.upd_ne (ne_at q e)]; exact q) fun c q n => ⟨by rw [L2.upd_ne (ne_at q e)]; exact q, by rw [upd_off (ne_at q e)]; exact n⟩⟩
theorem Fr.newO {o : HO} {ob : Ob} (e : H p = none) : Fr H μ (L2.upd H p o) (MP.upd μ p ob) := ⟨fun a u h n _ => ⟨by rw [L2.upd_ne (ne_at h e)]; exact h, by rw [upd_off (ne_at h e)]; exact n⟩, fun a l u h n => ⟨by rw [L2.upd_ne (ne_at h e)]; exact h, by rw [upd_off (ne_at h e)]; exact n⟩⟩
theorem RepH0.wr {o : HO} {ob ob' : Ob} (h : RepH0 w K T H μ) (e : μ a = some ob) (r : RepO w K T (L2.upd H a o) a ob') : RepH0 w K T (L2.upd H a o) (MP.upd μ a ob') := ⟨fun b ob'' q => by
  by_cases hb : b = a
  · subst hb
    rw [upd_at] at q; cases q
    exact r
  · rw [upd_off hb] at q
    exact (h b ob'' q).at (.wr0 h e) fun u hu => by rw [L2.upd_ne hb]; exact hu, fun p hp => (h.tb p hp).at (fun ps q => by rw [L2.upd_ne (ne_of_mu (h.tbl q) e)]; exact q) fun c q n => ⟨by rw [L2.upd_ne (ne_of_mu n e)]; exact q, by rw [upd_off (ne_of_mu n e)]; exact n⟩⟩
theorem Fr.wr {o : HO} {ob ob' : Ob} (e : μ a = some ob) (nl : ∀ l, ob ≠ .dL l := by intro _ z; cases z) : Fr H μ (L2.upd H a o) (MP.upd μ a ob') := ⟨fun b u h n _ => ⟨by rw [L2.upd_ne (ne_of_mu n e)]; exact h, by rw [upd_off (ne_of_mu n e)]; exact n⟩, fun b l u h n => by
  have ne : b ≠ a := fun z => by subst z; rw [e] at n; cases n; exact nl l rfl
  exact ⟨by rw [L2.upd_ne ne]; exact h, by rw [upd_off ne]; exact n⟩⟩
def Way (u : HO) : Prop := (∃ l, u = .lst l) ∨ ∃ l, u = .dK l
theorem Way.kp {u o : HO} (y : Way u) (e : H a = some u) : Keeps H (L2.upd H a o) := by
  rcases y with ⟨l, rfl⟩ | ⟨l, rfl⟩ <;> exact .upd (fun _ z => by rw [e] at z; cases z) (fun _ _ _ z => by rw [e] at z; cases z) (fun _ z => by rw [e] at z; cases z)
theorem Way.tb {u : HO} {ps : Array Value} (y : Way u) (e : H a = some u) (h : H p = some (.tbl ps)) : p ≠ a := fun z => by
  subst z; rw [e] at h; cases h
  rcases y with ⟨l, h⟩ | ⟨l, h⟩ <;> cases h
theorem Way.co {u : HO} {q : Str} (y : Way u) (e : H a = some u) (h : H p = some (LamX.CodeO p q)) : p ≠ a := fun z => by
  subst z; rw [e] at h; cases h
  rcases y with ⟨l, h⟩ | ⟨l, h⟩ <;> cases h
theorem RepH0.hid {u o : HO} (h : RepH0 w K T H μ) (y : Way u) (e : H a = some u) (n : μ a = none) : RepH0 w K T (L2.upd H a o) μ := ⟨fun b ob q => by
  have ne : b ≠ a := fun z => by subst z; rw [n] at q; cases q
  exact (h b ob q).at (y.kp e) fun v hv => by rw [L2.upd_ne ne]; exact hv, fun p hp => (h.tb p hp).at (fun ps q => by rw [L2.upd_ne (y.tb e q)]; exact q) fun c q m => ⟨by rw [L2.upd_ne (y.co e q)]; exact q, m⟩⟩
theorem RepH0.own {u : HO} {ob : Ob} (h : RepH0 w K T H μ) (y : Way u) (e : H a = some u) (r : RepO w K T H a ob) : RepH0 w K T H (MP.upd μ a ob) := ⟨fun b ob' q => by
  by_cases hb : b = a
  · subst hb
    rw [upd_at] at q; cases q
    exact r
  · rw [upd_off hb] at q
    exact h b ob' q, fun p hp => (h.tb p hp).at (fun ps q => q) fun c q m => ⟨q, by rw [upd_off (y.co e q)]; exact m⟩⟩
theorem RepVs.length : ∀ {ds : List D} {vs : List V}, RepVs K H ds vs → ds.length = vs.length
  | [], _, h => by rw [show _ = [] from h]; rfl
  | _ :: _, _, ⟨_, _, e, _, q⟩ => by rw [e, List.length_cons, List.length_cons, q.length]
theorem RepVs.append : ∀ {ds es : List D} {vs us : List V}, RepVs K H ds vs → RepVs K H es us → RepVs K H (ds ++ es) (vs ++ us)
  | [], _, _, _, h, q => by rw [show _ = [] from h]; exact q
  | _ :: _, _, _, _, ⟨v, r, e, h, t⟩, q => by subst e; exact ⟨v, _, rfl, h, t.append q⟩
theorem RepVs.get : ∀ {ds : List D} {vs : List V} {i : Nat} {d : D}, RepVs K H ds vs → ds[i]? = some d → ∃ v, vs[i]? = some v ∧ RepV K H d v
  | [], _, _, _, _, h => by simp at h
  | _ :: _, _, 0, _, ⟨v, r, e, h, t⟩, q => by subst e; simp at q; subst q; exact ⟨v, rfl, h⟩
  | _ :: _, _, i + 1, _, ⟨v, r, e, h, t⟩, q => by
    subst e
    obtain ⟨u, h1, h2⟩ := t.get (i := i) (by simpa using q)
    exact ⟨u, by simpa using h1, h2⟩
theorem RepVs.take : ∀ {ds : List D} {vs : List V} (n : Nat), RepVs K H ds vs → RepVs K H (ds.take n) (vs.take n)
  | [], _, n, h => by rw [show _ = [] from h]; simp [RepVs]
  | _ :: _, _, 0, _ => by simp [RepVs]
  | _ :: _, _, n + 1, ⟨v, r, e, h, t⟩ => by subst e; exact ⟨v, _, rfl, h, t.take n⟩
theorem RepVs.drop : ∀ {ds : List D} {vs : List V} (n : Nat), RepVs K H ds vs → RepVs K H (ds.drop n) (vs.drop n)
  | [], _, n, h => by rw [show _ = [] from h]; simp [RepVs]
  | _ :: _, _, 0, h => h
  | _ :: _, _, n + 1, ⟨v, r, e, h, t⟩ => by subst e; exact t.drop n
theorem RepVs.set {d : D} {v : V} (x : RepV K H d v) : ∀ {ds : List D} {vs : List V} (i : Nat), RepVs K H ds vs → RepVs K H (ds.set i d) (vs.set i v)
  | [], _, _, h => by rw [show _ = [] from h]; simp [RepVs]
  | _ :: _, _, 0, ⟨u, r, e, h, t⟩ => by subst e; exact ⟨v, _, rfl, x, t⟩
  | _ :: _, _, i + 1, ⟨u, r, e, h, t⟩ => by subst e; exact ⟨u, _, rfl, h, RepVs.set x i t⟩
theorem RepVs.one {d : D} {v : V} (x : RepV K H d v) : RepVs K H [d] [v] := ⟨v, [], rfl, x, rfl⟩
theorem RepVs.rep {ds : List D} {vs : List V} (h : RepVs K H ds vs) : ∀ k : Nat, RepVs K H (List.replicate k ds).flatten (List.replicate k vs).flatten
  | 0 => by simp [RepVs]
  | k + 1 => by rw [List.replicate_succ, List.replicate_succ, List.flatten_cons, List.flatten_cons]; exact h.append (RepVs.rep h k)
theorem RepVs.reverse : ∀ {ds : List D} {vs : List V}, RepVs K H ds vs → RepVs K H ds.reverse vs.reverse
  | [], _, h => by rw [show _ = [] from h]; simp [RepVs]
  | _ :: _, _, ⟨v, r, e, h, t⟩ => by subst e; rw [List.reverse_cons, List.reverse_cons]; exact t.reverse.append (.one h)
theorem RepVs.dropLast {ds : List D} {vs : List V} (h : RepVs K H ds vs) : RepVs K H ds.dropLast vs.dropLast := by
  rw [List.dropLast_eq_take, List.dropLast_eq_take, h.length]
  exact h.take _
theorem RepVs.nil_iff {ds : List D} {vs : List V} (h : RepVs K H ds vs) : vs = [] ↔ ds = [] := by
  have := h.length
  cases ds <;> cases vs <;> simp_all
theorem RepVs.intsD : ∀ {ds : List D} {vs : List V} {ns : List Int}, RepVs K H ds vs → MP.intsD ds = some ns → vs = ns.map V.int
  | [], _, _, h, e => by cases e; exact h
  | .int i :: r, _, ns, ⟨v, q, e, h, t⟩, z => by
    unfold MP.intsD at z
    cases y : MP.intsD r with
    | none => rw [y] at z; cases z
    | some ms =>
      rw [y] at z; cases z
      subst e
      rw [t.intsD y, show v = .int i from h]; rfl
  | .non :: _, _, _, _, e => by simp [MP.intsD] at e
  | .bl _ :: _, _, _, _, e => by simp [MP.intsD] at e
  | .str _ :: _, _, _, _, e => by simp [MP.intsD] at e
  | .tup _ :: _, _, _, _, e => by simp [MP.intsD] at e
  | .ref _ :: _, _, _, _, e => by simp [MP.intsD] at e
  | .scr _ :: _, _, _, _, e => by simp [MP.intsD] at e
theorem RepVs.of_ints : ∀ (ns : List Int), RepVs K H (ns.map D.int) (ns.map V.int)
  | [] => rfl
  | n :: ns => ⟨_, _, rfl, rfl, RepVs.of_ints ns⟩
end
section
variable {w : World} {K : PySem.W.Frag} {T : Tab1} {H H' H1 H2 : Hp} {μ μ' μ1 μ2 : Sto} {a p : Addr}
theorem Fr.keeps (x : Fr H μ H' μ') (h : RepH w K T H μ) : Keeps H H' := x.keeps0 h.toRepH0
theorem Keeps.wr {o : HO} {ob : Ob} (h : RepH w K T H μ) (e : μ a = some ob) : Keeps H (L2.upd H a o) := .wr0 h.toRepH0 e
theorem RepH.back (h : RepH w K T H μ) (f : Fr H μ H' μ') (r : RepH0 w K T H' μ') : RepH w K T H' μ' := ⟨r, fun _ _ g => h.up _ _ (f.trans g)⟩
theorem RepH.newT {o : HO} (h : RepH w K T H μ) (e : H p = none) : RepH w K T (L2.upd H p o) μ := h.back (.newT e) (h.toRepH0.newT e)
theorem RepH.newO {o : HO} {ob : Ob} (h : RepH w K T H μ) (e : H p = none) (r : RepO w K T (L2.upd H p o) p ob) : RepH w K T (L2.upd H p o) (MP.upd μ p ob) := h.back (.newO e) (h.toRepH0.newO e r)
theorem RepH.wr {o : HO} {ob ob' : Ob} (h : RepH w K T H μ) (e : μ a = some ob) (r : RepO w K T (L2.upd H a o) a ob') (nl : ∀ l, ob ≠ .dL l := by first | assumption | (intro _ z; cases z)) : RepH w K T (L2.upd H a o) (MP.upd μ a ob') := h.back (.wr e nl) (h.toRepH0.wr e r)
theorem RepH0.still {T : Tab} (h : RepH0 w K T H μ) : RepH w K T.off H μ := ⟨h, fun _ _ _ _ _ _ z => z.elim⟩
end
end MP

set_option linter.all false
set_option maxRecDepth 100000
set_option maxHeartbeats 1000000
set_option Elab.async false
namespace MP
open PySem PySem.Spec PyProof.Rows L2
theorem key_depth : ∀ {n : Nat} {k : D}, isKey n k = true → (toNK k).depth ≤ n
  | 0, _, h => by cases h
  | n + 1, .tup ds, h => by
    have h : ds.all (isKey n) = true := h
    have all : ∀ ds : List D, ds.all (isKey n) = true → NestedKey.depthAll (toNKs ds) ≤ n := by
      intro ds
      induction ds with
      | nil => intro _; exact Nat.zero_le _
      | cons d ds ih =>
        intro h
        rw [List.all_cons, Bool.and_eq_true] at h
        show max (toNK d).depth (NestedKey.depthAll (toNKs ds)) ≤ n
        exact Nat.max_le.mpr ⟨key_depth h.1, ih h.2⟩
    show NestedKey.depthAll (toNKs ds) + 1 ≤ n + 1
    exact Nat.succ_le_succ (all ds h)
  | n + 1, .non, _ => Nat.zero_le _
  | n + 1, .int _, _ => Nat.zero_le _
  | n + 1, .str _, _ => Nat.zero_le _
  | n + 1, .bl _, h => by cases h
  | n + 1, .ref _, h => by cases h
  | n + 1, .scr _, h => by cases h
theorem key_eqb : ∀ {n m : Nat} {k j : D}, isKey n k = true → isKey m j = true → D.eqb k j = (toNK k).beq (toNK j)
  | 0, _, _, _, h, _ => by cases h
  | _ + 1, 0, _, _, _, h => by cases h
  | n + 1, m + 1, k, j, hk, hj => by
    have all : ∀ ds es : List D, ds.all (isKey n) = true → es.all (isKey m) = true → D.eqbs ds es = NestedKey.beqAll (toNKs ds) (toNKs es) := by
      intro ds
      induction ds with
      | nil => intro es _ _; cases es <;> rfl
      | cons d ds ih =>
        intro es h1 h2
        cases es with
        | nil => rfl
        | cons e es =>
          rw [List.all_cons, Bool.and_eq_true] at h1 h2
          show (D.eqb d e && D.eqbs ds es) = ((toNK d).beq (toNK e) && NestedKey.beqAll (toNKs ds) (toNKs es))
          rw [key_eqb h1.1 h2.1, ih es h1.2 h2.2]
    cases k with
    | tup ds =>
      cases j with
      | tup es =>
        show D.eqbs ds es = NestedKey.beq (.tup (toNKs ds)) (.tup (toNKs es))
        rw [NestedKey.beq]
        exact all ds es hk hj
      | bl b => cases hj
      | ref b => cases hj
      | scr b => cases hj
      | _ => simp [D.eqb, toNK, NestedKey.beq]
    | non => cases j <;> first | (simp [D.eqb, toNK, NestedKey.beq]; done) | exact (Bool.noConfusion (show false = true from hj))
    | int i =>
      cases j with
      | int i' =>
        show (i == i') = NestedKey.beq (.num i) (.num i')
        rw [NestedKey.beq]
        by_cases e : i = i' <;> simp [e]
      | bl b => cases hj
      | ref b => cases hj
      | scr b => cases hj
      | _ => simp [D.eqb, toNK, NestedKey.beq]
    | str i =>
      cases j with
      | str i' =>
        show (i == i') = NestedKey.beq (.text (toS i)) (.text (toS i'))
        rw [NestedKey.beq]
        by_cases e : i = i'
        · simp [e]
        · have : ¬ toS i = toS i' := fun z => e (toS_inj z)
          simp [e, this]
      | bl b => cases hj
      | ref b => cases hj
      | scr b => cases hj
      | _ => simp [D.eqb, toNK, NestedKey.beq]
    | bl b => cases hk
    | ref b => cases hk
    | scr b => cases hk
theorem tkey_get {k : D} (h : isTupKey k = true) : isKey 7 k = true ∧ ∃ ds, k = .tup ds := by
  cases k with
  | tup ds => exact ⟨h, ds, rfl⟩
  | _ => cases h
theorem tkey_eqb {k j : D} (h1 : isTupKey k = true) (h2 : isTupKey j = true) : D.eqb k j = decide (toNK k = toNK j) := by
  rw [key_eqb (tkey_get h1).1 (tkey_get h2).1, NestedKey.decide_eq]
section
variable {X : Cx} {T : Tab} {H : Hp} {μ : Sto} {pins : List (Addr × Obj)} {σ : L2.St} {s : Shared}
theorem key_is (I : Inv X pins σ H s) : ∀ {n : Nat} {k : D} {v : V} {u : Value}, isKey n k = true → RepV X.K H k v → L2.RelV v u → NestedIs s.heap (toNK k) u
  | 0, _, _, _, h, _, _ => by cases h
  | n + 1, .tup ds, v, u, h, r, ru => by
    have h : ds.all (isKey n) = true := h
    have all : ∀ (ds : List D) (vs : List V) (us : List Value), ds.all (isKey n) = true → RepVs X.K H ds vs → Vals vs us → NestedAll s.heap (toNKs ds) us := by
      intro ds
      induction ds with
      | nil =>
        intro vs us _ r1 r2
        rw [show vs = [] from r1] at r2
        cases r2
        exact .nil
      | cons d ds ih =>
        intro vs us h r1 r2
        rw [List.all_cons, Bool.and_eq_true] at h
        obtain ⟨v, q, rfl, h1, h2⟩ := r1
        cases r2 with
        | cons r3 r4 => exact .cons (key_is I h.1 h1 r3) (ih _ _ h.2 h2 r4)
    obtain ⟨p, vs, rfl, st, rl⟩ := r
    cases ru
    obtain ⟨its, r2, ⟨o, e, hc, m, hd⟩, _⟩ := I.tuple st
    exact .tup e hc hd (by simpa using all ds vs its h rl r2)
  | n + 1, .non, v, u, _, r, ru => by cases r; cases ru; exact .none
  | n + 1, .int i, v, u, _, r, ru => by cases r; obtain ⟨t, rfl⟩ := ru; exact .int i t
  | n + 1, .str x, v, u, _, r, ru => by cases r; obtain ⟨t, rfl⟩ := ru; exact .text _ t
  | n + 1, .bl _, _, _, h, _, _ => by cases h
  | n + 1, .ref _, _, _, h, _, _ => by cases h
  | n + 1, .scr _, _, _, h, _, _ => by cases h
abbrev NKd (X : Cx) := nestedKind X.prog X.w
theorem tkey_is (I : Inv X pins σ H s) {k : D} {a : Addr} (h : isTupKey k = true) (r : RepV X.K H k (.ref a)) : (NKd X).is s.heap (toNK k) a :=
  ⟨key_is I (tkey_get h).1 r rfl, Nat.le_succ_of_le (key_depth (tkey_get h).1)⟩
def RepX (K : PySem.W.Frag) (H : Hp) : List (D × D) → List (NestedKey × Addr × Value) → Prop
  | [], xs => xs = []
  | (k, d) :: r, xs => ∃ a v u q, xs = (toNK k, a, u) :: q ∧ RepV K H k (.ref a) ∧ isTupKey k = true ∧ RepV K H d v ∧ L2.RelV v u ∧ RepX K H r q
theorem RepX.of {P : Program} {w : World} {K : PySem.W.Frag} : ∀ {l : List (D × D)} {es : List DictEntry}, RepE w K H l es → ∃ xs, RepX K H l xs ∧ es = xs.map (entryOfKey (nestedKind P w))
  | [], es, h => ⟨[], rfl, h⟩
  | (k, d) :: r, es, ⟨a, v, u, q, e, h1, h2, h3, h4, h5⟩ => by
    obtain ⟨xs, h6, rfl⟩ := RepX.of (P := P) h5
    exact ⟨(toNK k, a, u) :: xs, ⟨a, v, u, xs, rfl, h1, h2, h3, h4, h6⟩, e⟩
theorem RepX.to {P : Program} {w : World} {K : PySem.W.Frag} : ∀ {l : List (D × D)} {xs : List (NestedKey × Addr × Value)}, RepX K H l xs → RepE w K H l (xs.map (entryOfKey (nestedKind P w)))
  | [], xs, h => by rw [show xs = [] from h]; rfl
  | (k, d) :: r, xs, ⟨a, v, u, q, e, h1, h2, h3, h4, h5⟩ => by
    subst e
    exact ⟨a, v, u, _, rfl, h1, h2, h3, h4, RepX.to h5⟩
theorem RepX.keys {K : PySem.W.Frag} : ∀ {l : List (D × D)} {xs : List (NestedKey × Addr × Value)}, RepX K H l xs → xs.map (·.1) = l.map fun p => toNK p.1
  | [], xs, h => by rw [show xs = [] from h]; rfl
  | (k, d) :: r, xs, ⟨a, v, u, q, e, h1, h2, h3, h4, h5⟩ => by
    subst e
    rw [List.map_cons, List.map_cons, RepX.keys h5]
theorem RepX.length {K : PySem.W.Frag} {l : List (D × D)} {xs : List (NestedKey × Addr × Value)} (h : RepX K H l xs) : xs.length = l.length := by
  have := congrArg List.length h.keys
  simpa using this
theorem RepX.is (I : Inv X pins σ H s) : ∀ {l : List (D × D)} {xs : List (NestedKey × Addr × Value)}, RepX X.K H l xs → ∀ x ∈ xs, (NKd X).is s.heap x.1 x.2.1
  | [], xs, h => by rw [show xs = [] from h]; exact fun _ z => by cases z
  | (k, d) :: r, xs, ⟨a, v, u, q, e, h1, h2, h3, h4, h5⟩ => by
    subst e
    intro x hx
    rcases List.mem_cons.mp hx with rfl | hx
    · exact tkey_is I h2 h1
    · exact RepX.is I h5 x hx
theorem RepX.look {K : PySem.W.Frag} {k : D} (hk : isTupKey k = true) : ∀ {l : List (D × D)} {xs : List (NestedKey × Addr × Value)}, RepX K H l xs → match dget l k with
    | some d => ∃ p v, atKey xs (toNK k) = some p ∧ RepV K H d v ∧ L2.RelV v p.2
    | none => atKey xs (toNK k) = none
  | [], xs, h => by rw [show xs = [] from h]; rfl
  | (j, d) :: r, xs, ⟨a, v, u, q, e, h1, h2, h3, h4, h5⟩ => by
    subst e
    have ee := tkey_eqb h2 hk
    unfold dget atKey
    rw [List.find?_cons, ee]
    by_cases c : toNK j = toNK k
    · simp only [c, decide_true, if_true]
      exact ⟨(a, u), v, rfl, h3, h4⟩
    · simp only [c, decide_false, Bool.false_eq_true, if_false]
      exact RepX.look hk h5
theorem RepX.mono {K : PySem.W.Frag} {H' : Hp} (x : Keeps H H') : ∀ {l : List (D × D)} {xs : List (NestedKey × Addr × Value)}, RepX K H l xs → RepX K H' l xs
  | [], xs, h => h
  | (_, _) :: _, _, ⟨a, v, u, q, e, h1, h2, h3, h4, h5⟩ => ⟨a, v, u, q, e, h1.mono x, h2, h3.mono x, h4, RepX.mono x h5⟩
theorem RepX.app {K : PySem.W.Frag} {k d : D} {a : Addr} {v : V} {u : Value} (h1 : RepV K H k (.ref a)) (h2 : isTupKey k = true) (h3 : RepV K H d v) (h4 : L2.RelV v u) : ∀ {l : List (D × D)} {xs : List (NestedKey × Addr × Value)}, RepX K H l xs → RepX K H (l ++ [(k, d)]) (xs ++ [(toNK k, a, u)])
  | [], xs, h => by rw [show xs = [] from h]; exact ⟨a, v, u, [], rfl, h1, h2, h3, h4, rfl⟩
  | (_, _) :: _, _, ⟨b, v', u', q, e, g1, g2, g3, g4, g5⟩ => by subst e; exact ⟨b, v', u', _, rfl, g1, g2, g3, g4, RepX.app h1 h2 h3 h4 g5⟩
theorem RepX.rep {K : PySem.W.Frag} {k d : D} {v : V} {u : Value} (h2 : isTupKey k = true) (h3 : RepV K H d v) (h4 : L2.RelV v u) : ∀ {l : List (D × D)} {xs : List (NestedKey × Addr × Value)}, RepX K H l xs → RepX K H (l.map fun p => if D.eqb p.1 k = true then (p.1, d) else p) (xs.map (putAt (toNK k) u))
  | [], xs, h => by rw [show xs = [] from h]; rfl
  | (j, e0) :: _, _, ⟨b, v', u', q, e, g1, g2, g3, g4, g5⟩ => by
    subst e
    rw [List.map_cons, List.map_cons]
    have ee := tkey_eqb g2 h2
    have ih := RepX.rep h2 h3 h4 g5
    by_cases c : toNK j = toNK k
    · have e1 : D.eqb j k = true := by rw [ee]; exact decide_eq_true c
      rw [if_pos e1]
      refine ⟨b, v, u, _, ?_, g1, g2, h3, h4, ih⟩
      unfold putAt
      rw [if_pos c]
    · have e1 : ¬ D.eqb j k = true := by rw [ee, decide_eq_false c]; decide
      rw [if_neg e1]
      refine ⟨b, v', u', _, ?_, g1, g2, g3, g4, ih⟩
      unfold putAt
      rw [if_neg c]
theorem any_dget {k : D} : ∀ {l : List (D × D)}, (l.any fun p => D.eqb p.1 k) = (dget l k).isSome
  | [] => rfl
  | (j, d) :: r => by
    unfold dget
    rw [List.any_cons]
    cases e : D.eqb j k with
    | true => rfl
    | false => rw [if_neg (by decide), ← any_dget (k := k) (l := r)]; rfl
theorem RepX.put {K : PySem.W.Frag} {k d : D} {a : Addr} {v : V} {u : Value} (h1 : RepV K H k (.ref a)) (h2 : isTupKey k = true) (h3 : RepV K H d v) (h4 : L2.RelV v u) {l : List (D × D)} {xs : List (NestedKey × Addr × Value)} (h : RepX K H l xs) : RepX K H (dput l k d) (storedH xs (toNK k) a u) := by
  have lk := h.look h2
  unfold dput
  rw [any_dget]
  cases e : dget l k with
  | none =>
    rw [e] at lk
    rw [storedH_new lk]
    exact h.app h1 h2 h3 h4
  | some d' =>
    rw [e] at lk
    obtain ⟨p, _, e2, _⟩ := lk
    rw [storedH_old e2]
    exact h.rep h2 h3 h4
theorem dput_len {k d : D} {l : List (D × D)} : (dput l k d).length ≤ l.length + 1 := by
  unfold dput
  split <;> simp
theorem dT_of (I : Inv X pins σ H s) (rh : RepH X.w X.K T H μ) {a : Nat} {l : List (D × D)} (e : μ a = some (.dT l)) : ∃ xs, s.heap.DictOfH (NKd X) a xs ∧ RepX X.K H l xs ∧ (a == sysModules) = false ∧ l.length ≤ sizeMax ∧ Mut (H a) := by
  obtain ⟨o, es, ep, h1, h2, h3, h4, h5, h6, h7⟩ := rh a _ e
  obtain ⟨xs, h8, h9⟩ := RepX.of (P := X.prog) h4
  obtain ⟨g, _⟩ := I.hok a _ h1
  exact ⟨xs, ⟨o, es, ep, g, h2, h3, h9, h8.is I, by rw [h8.keys]; exact h5⟩, h8, h6, h7, by rw [h1]; exact True.intro⟩
theorem dF_nil (I : Inv X pins σ H s) (rh : RepH X.w X.K T H μ) {a : Nat} (e : μ a = some (.dF [])) : s.heap.DictOfH (NKd X) a [] ∧ (a == sysModules) = false ∧ Mut (H a) := by
  obtain ⟨kvs, h1, h2⟩ := rh a _ e
  rw [show kvs = [] from h2] at h1
  obtain ⟨_, h3, vs, rel, o, es, ep, h4, h5, h6, h7⟩ := I.hok a _ h1
  cases rel
  refine ⟨⟨o, es, ep, h4, h5, h6, ?_, fun _ z => (by cases z), List.nodup_nil⟩, h3, by rw [h1]; exact True.intro⟩
  obtain ⟨_, h8, _⟩ := h7
  have := h8.length
  cases q : es.toList with
  | nil => rfl
  | cons e es => rw [q] at this; simp at this
theorem dT_wr (I : Inv X pins σ H s) (rh : RepH X.w X.K T H μ) {a : Nat} {ob : Ob} {l : List (D × D)} {xs : List (NestedKey × Addr × Value)} {h' : Heap} {tk : Nat} (e : μ a = some ob) (nl : ∀ l, ob ≠ .dL l) (mu : Mut (H a)) (hs : (a == sysModules) = false) (hz : l.length ≤ sizeMax)
    (hx : RepX X.K H l xs) (hd : h'.DictOfH (NKd X) a xs) (sb : Heap.SameBut a s.heap h') : ∃ H', Inv X pins σ H' { s with heap := h', toks := tk } ∧ RepH X.w X.K T H' (MP.upd μ a (.dT l)) ∧ Fr H μ H' (MP.upd μ a (.dT l)) := by
  obtain ⟨o, es, ep, h1, h2, h3, h4, h5, h6⟩ := hd
  refine ⟨L2.upd H a (.ext (IsObj a o)), I.write mu (.inl rfl) (fun b u hb q => (sb.2 b hb).trans q) ⟨o, h1⟩ ⟨h1, ⟨o, h1⟩, fun _ _ p st => st _ p⟩, rh.wr e (ob' := .dT l) ?_ nl, Fr.wr e nl⟩
  refine ⟨o, es, ep, L2.upd_same, h2, h3, ?_, by rw [← hx.keys]; exact h6, hs, hz⟩
  rw [h4]
  exact (hx.mono (.wr rh e)).to
end
end MP

set_option linter.all false
set_option maxRecDepth 100000
set_option maxHeartbeats 4000000
set_option Elab.async false
namespace MP
open PySem PySem.Spec PyProof.Rows L2
theorem tuple_mul1 (l : Addr) (items : Array Value) (n : Nat) (dd : Option Addr) (sl : Array (Option Value)) (u : Tok) :
    Meets (Builtin.«tuple.__mul__» ⟨[.ref l, .int 1 u], []⟩) (fun _ R s => s.heap.get? l = some { cls := .type "tuple", dict := dd, data := .seq items n, slots := sl } ∧
      R (.ok (.ret (Value.ref l))) s) :=
  .of_wp fun prog w A R s h => by
    obtain ⟨hp, g, d, tk, os⟩ := s
    obtain ⟨hl, h⟩ := h
    have f1 := AutoSeq1.idx_int
    have c1 : (items.isEmpty || (1 : Int) == 1) = true := by rw [show ((1 : Int) == 1) = true from rfl, Bool.or_true]
    wp_walk using wpAny_loadPart' hl
    repeat (first
      | (refine wpAny_ite_false (decide_eq_false (by decide)) ?_; wp_walk using wpAny_loadPart' hl)
      | (refine wpAny_ite_true (decide_eq_true c1) ?_; wp_walk using wpAny_loadPart' hl))
    exact ⟨_, rfl, h⟩
theorem tuple_mul0 (l : Addr) (items : Array Value) (n : Nat) (dd : Option Addr) (sl : Array (Option Value)) (u : Tok) (c : items.isEmpty = false) :
    Meets (Builtin.«tuple.__mul__» ⟨[.ref l, .int 0 u], []⟩) (fun _ R s => s.heap.get? l = some { cls := .type "tuple", dict := dd, data := .seq items n, slots := sl } ∧
      R (.ok (.ret (Value.ref s.heap.objs.size))) { s with heap := s.heap.push { cls := Value.type "tuple", data := Data.seq #[] }, toks := s.toks }) :=
  .of_wp fun prog w A R s h => by
    obtain ⟨hp, g, d, tk, os⟩ := s
    obtain ⟨hl, h⟩ := h
    have f1 := AutoSeq1.idx_int
    have c1 : (items.isEmpty || (0 : Int) == 1) = false := by rw [c]; rfl
    have c2 : (decide ((0 : Int) ≤ 0) || items.isEmpty) = true := rfl
    wp_walk using wpAny_loadPart' hl
    repeat (first
      | (refine wpAny_ite_false (decide_eq_false (by rw [c1]; exact Bool.false_ne_true)) ?_; wp_walk using wpAny_loadPart' hl)
      | (refine wpAny_ite_false (decide_eq_false (by decide)) ?_; wp_walk using wpAny_loadPart' hl)
      | (refine wpAny_ite_true (decide_eq_true c2) ?_; wp_walk using wpAny_loadPart' hl))
    exact ⟨_, rfl, h⟩
def rRepTX (K : PySem.W.Frag) : R2 := fun x y H Q => ∃ l k xs, x = .ref l ∧ y = .int k ∧ SqT K H l xs ∧ xs ≠ [] ∧ ((k = 0 ∧ ∀ p, H p = none → Q (.ref p) (L2.upd H p (.tup []))) ∨ (k = 1 ∧ Q (.ref l) H) ∨
  (2 ≤ k ∧ k ≤ 1000 ∧ xs.length ≤ 1000 ∧ ∀ p, H p = none → Q (.ref p) (L2.upd H p (.tup (List.replicate k.toNat xs).flatten))))
theorem op_repTX {X : Cx} : OpR X (binaryOp .Mult) (rRepTX X.K) := by
  intro pins s σ H x y v u Q I rx ry h
  obtain ⟨l, k, xs, rfl, rfl, hT, hne, hq⟩ := h
  rcases hq with ⟨rfl, q⟩ | ⟨rfl, q⟩ | ⟨h1, h2, hz, q⟩
  · cases rx
    obtain ⟨t, rfl⟩ := ry
    obtain ⟨its, r, ⟨⟨cls, dd, data, sl⟩, ho, hc, n, hd⟩, hs⟩ := I.tuple hT
    simp only at hc hd
    subst hc hd
    have hi : its.toArray.isEmpty = false := by
      cases its with
      | nil => exact absurd (List.eq_nil_of_length_eq_zero r.length) hne
      | cons a b => rfl
    refine wpAny_binaryOp_repeat_ref (T := "tuple") (U := "int") (by decide) ⟨_, ho, rfl⟩ (fun s' => typeIs_int s' 0 t) noFill_tuple_mul F.fills_int_mul F.slot_int_rmul repeat_tuple F.slot_int_index.lookup
      (call_meets F.slot_int_rmul (typeIs_int s 0 t) F.entry_int_rmul (F.args_int_rmul_2 _ _) (int_rmul_tuple 0 t l its.toArray n dd sl)
        ⟨ho, rfl, ⟨_, ho, rfl⟩, call_meets F.slot_tuple_mul ⟨_, ho, rfl⟩ F.entry_tuple_mul (F.args_tuple_mul_2 _ _) (tuple_mul0 l its.toArray n dd sl t hi) ⟨ho, ?_⟩⟩)
    refine ⟨.ref s.heap.objs.size, _, I.laid (t' := s.toks) (o := .tup []) (fun b ob q => Heap.get?_push_of_some _ q) (Nat.le_refl _) ?_, rfl, q _ (I.hok.fresh (Nat.le_refl _))⟩
    exact ⟨by show 0 ≤ sizeLine; exact Nat.zero_le _, [], .nil, IsTup.new _ _⟩
  · cases rx
    obtain ⟨t, rfl⟩ := ry
    obtain ⟨its, r, ⟨⟨cls, dd, data, sl⟩, ho, hc, n, hd⟩, hs⟩ := I.tuple hT
    simp only at hc hd
    subst hc hd
    refine wpAny_binaryOp_repeat_ref (T := "tuple") (U := "int") (by decide) ⟨_, ho, rfl⟩ (fun s' => typeIs_int s' 1 t) noFill_tuple_mul F.fills_int_mul F.slot_int_rmul repeat_tuple F.slot_int_index.lookup
      (call_meets F.slot_int_rmul (typeIs_int s 1 t) F.entry_int_rmul (F.args_int_rmul_2 _ _) (int_rmul_tuple 1 t l its.toArray n dd sl)
        ⟨ho, rfl, ⟨_, ho, rfl⟩, call_meets F.slot_tuple_mul ⟨_, ho, rfl⟩ F.entry_tuple_mul (F.args_tuple_mul_2 _ _) (tuple_mul1 l its.toArray n dd sl t) ⟨ho, ?_⟩⟩)
    exact ⟨.ref l, H, I, rfl, q⟩
  · exact op_repT pins s σ H _ _ v u Q I rx ry ⟨l, k, xs, rfl, rfl, hT, hne, h1, h2, hz, q⟩
end MP

set_option linter.all false
set_option maxRecDepth 100000
set_option maxHeartbeats 1000000
set_option Elab.async false
namespace MP
open PySem PySem.Spec PyProof.Rows L2

abbrev XF : EX := fun _ _ _ => False
def alen : E → Nat
  | .cons _ r => alen r + 1
  | _ => 0
section
variable (X : Cx) (T : Tab)
variable (G : Ctx)
def Pst (H : Hp) (μ : Sto) (Q : D → Sto → Prop) (Q' : VK) : Prop := ∀ d v H' μ', RepV X.K H' d v → RepH X.w X.K T H' μ' → Fr H μ H' μ' → Q d μ' → Q' v H'
def PstB (H : Hp) (μ : Sto) (Q : Bool → Sto → Prop) (Q' : Bool → Hp → Prop) : Prop := ∀ b H' μ', RepH X.w X.K T H' μ' → Fr H μ H' μ' → Q b μ' → Q' b H'
def PstA (n : Nat) (H : Hp) (μ : Sto) (Q : List D → Sto → Prop) (Q' : List V → Hp → Prop) : Prop := ∀ ds vs H' μ', RepVs X.K H' ds vs → RepH X.w X.K T H' μ' → Fr H μ H' μ' → ds.length = n → Q ds μ' → Q' vs H'
def tE (c : E) : TE := fun σ H Q' => ∃ ρ μ Q, RepS X.K T H ρ σ ∧ RepH X.w X.K T H μ ∧ wpE G c ρ μ Q T.Z ∧ Pst X T H μ Q Q'
def tA (c : E) : TA := fun σ H Q' => ∃ ρ μ Q, RepS X.K T H ρ σ ∧ RepH X.w X.K T H μ ∧ wpA G c ρ μ Q T.Z ∧ PstA X T (alen c) H μ Q Q'
def isB (d : D) (k : Bool → Prop) : Prop := match d with
  | .bl b => k b
  | _ => False
def tB (c : E) : TT := fun σ H Q' => ∃ ρ μ Q, RepS X.K T H ρ σ ∧ RepH X.w X.K T H μ ∧ wpE G c ρ μ (fun d μ1 => isB d fun b => Q b μ1) T.Z ∧ PstB X T H μ Q Q'
end
section
variable {X : Cx} {T : Tab} {G : Ctx} {H H' H1 : Hp} {μ μ' μ1 : Sto} {Q : D → Sto → Prop} {Q' : VK} {σ : L2.St} {ρ : Env}
theorem _root_.L2.PE.imp {e : Expr} {t t' : TE} (h : PE X e t) (i : ∀ σ H Q, t' σ H Q → t σ H Q) : PE X e t' := ⟨fun pins s σ H Q I hw => h.run pins s σ H Q I (i σ H Q hw)⟩
theorem _root_.L2.PT.imp {e : Expr} {t t' : TT} (h : PT X e t) (i : ∀ σ H Q, t' σ H Q → t σ H Q) : PT X e t' := ⟨fun pins s σ H Q I hw => h.run pins s σ H Q I (i σ H Q hw)⟩
theorem _root_.L2.PW.imp {e : Expr} {t t' : TT} (h : PW X e t) (i : ∀ σ H Q, t' σ H Q → t σ H Q) : PW X e t' := ⟨fun wh pins s σ H Q I hw => h.run wh pins s σ H Q I (i σ H Q hw)⟩
theorem _root_.L2.PA.imp {e : List Expr} {t t' : TA} (h : PA X e t) (i : ∀ σ H Q, t' σ H Q → t σ H Q) : PA X e t' := ⟨fun pos pins s σ H Q I hw => h.run pos pins s σ H Q I (i σ H Q hw)⟩
theorem Pst.step (p : Pst X T H μ Q Q') (f : Fr H μ H1 μ1) : Pst X T H1 μ1 Q Q' := fun d v H' μ' r h g q => p d v H' μ' r h (f.trans g) q
theorem Pst.val (p : Pst X T H μ Q Q') (h : RepH X.w X.K T H μ) {d : D} {v : V} (r : RepV X.K H d v) (q : Q d μ) : Q' v H := p d v H μ r h .refl q
theorem Pst.int (p : Pst X T H μ Q Q') (h : RepH X.w X.K T H μ) {i : Int} (q : Q (.int i) μ) : Q' (.int i) H := p.val h (d := .int i) rfl q
theorem Pst.bl (p : Pst X T H μ Q Q') (h : RepH X.w X.K T H μ) {i : Bool} (q : Q (.bl i) μ) : Q' (.bl i) H := p.val h (d := .bl i) rfl q
theorem Pst.non (p : Pst X T H μ Q Q') (h : RepH X.w X.K T H μ) (q : Q .non μ) : Q' .non H := p.val h (d := .non) rfl q
theorem Pst.str (p : Pst X T H μ Q Q') (h : RepH X.w X.K T H μ) {x : List Nat} (q : Q (.str x) μ) : Q' (.str (toS x)) H := p.val h (d := .str x) rfl q
theorem Pst.tup (p : Pst X T H μ Q Q') (h : RepH X.w X.K T H μ) {ds : List D} {vs : List V} (r : RepVs X.K H ds vs) (q : Q (.tup ds) μ) : ∀ a, H a = none → Q' (.ref a) (L2.upd H a (.tup vs)) := fun a e =>
  p _ _ _ _ (show RepV X.K _ (.tup ds) _ from ⟨a, vs, rfl, SqT.of L2.upd_same, r.mono (.new e)⟩) (h.newT e) (Fr.newT e) q
theorem Pst.lst (p : Pst X T H μ Q Q') (h : RepH X.w X.K T H μ) {ds : List D} {vs : List V} (r : RepVs X.K H ds vs) (q : new μ (.lst ds) Q) : ∀ a, H a = none → Q' (.ref a) (L2.upd H a (.lst vs)) := fun a e =>
  p (.ref a) _ _ _ rfl (h.newO e (ob := .lst ds) ⟨vs, L2.upd_same, r.mono (.new e)⟩) (Fr.newO e) (q a (h.free e))
theorem rdL_get {a : Nat} {k : List D → Prop} (h : rdL μ a k) : ∃ l, μ a = some (.lst l) ∧ k l := by
  unfold rdL at h
  cases e : μ a with
  | none => rw [e] at h; exact h.elim
  | some o =>
    rw [e] at h
    cases o with
    | lst l => exact ⟨l, rfl, h⟩
    | _ => exact h.elim
theorem optP_get {α : Type} {o : Option α} {k : α → Prop} (h : optP o k) : ∃ x, o = some x ∧ k x := by
  cases o with
  | none => exact h.elim
  | some x => exact ⟨x, rfl, h⟩

theorem e_var {i : Nat} {x : Str} {pos : Pos} (hN : X.N[i]? = some x) (hv : Vis X.env.scope x) (hd : (x == ("__debug__" : Str)) = false) (hcd : (x == ("__classdict__" : Str)) = false) (hn : ∀ y, T.gh = some y → i ≠ y.1) : PE X (.Name x pos) (tE X T G (.var i)) :=
  (pe_var hN hv hd hcd).imp fun σ H Q' ⟨ρ, μ, Q, rs, rh, hw, p⟩ => by
    obtain ⟨d, e, q⟩ := optP_get (show optP (getV ρ i) fun d => Q d μ from hw)
    have e' : ρ[i]? = some (some d) := by
      unfold getV at e
      split at e
      · rename_i d' e2; cases e; exact e2
      · cases e
    obtain ⟨v, h1, h2⟩ := rs.val i d e' hn
    exact ⟨v, h1, p.val rh h2 q⟩
theorem e_non {j pos} : PE X (.Constant .none j pos) (tE X T G .cn) := pe_non.imp fun σ H Q' ⟨ρ, μ, Q, rs, rh, hw, p⟩ => p.non rh hw
theorem e_bl {b j pos} : PE X (.Constant (.bool b) j pos) (tE X T G (.cb b)) := pe_bl.imp fun σ H Q' ⟨ρ, μ, Q, rs, rh, hw, p⟩ => p.bl rh hw
theorem e_int {i j pos} : PE X (.Constant (.int i) j pos) (tE X T G (.ci i)) := pe_int.imp fun σ H Q' ⟨ρ, μ, Q, rs, rh, hw, p⟩ => p.int rh hw
theorem e_str {x : Str} {j pos} : PE X (.Constant (.str x) j pos) (tE X T G (.cs x.cps.toList)) := pe_str.imp fun σ H Q' ⟨ρ, μ, Q, rs, rh, hw, p⟩ => by
  have := p.str rh (x := x.cps.toList) hw
  rw [toS_cps] at this
  exact this
theorem e_cst {x : Str} {pos : Pos} {k : Nat} {d : D} {v : V} {u : Value} (hg : Gl X x) (hm : X.mg x = some u) (r : RelV v u) (hd : (x == ("__debug__" : Str)) = false) (hk : G.cst k = some d) (rd : ∀ H, RepV X.K H d v) : PE X (.Name x pos) (tE X T G (.cst k)) :=
  (pe_glob hg hm r hd).imp fun σ H Q' ⟨ρ, μ, Q, rs, rh, hw, p⟩ => by
    have hw : optP (G.cst k) fun d => Q d μ := hw
    rw [hk] at hw
    exact p.val rh (rd H) hw

theorem a_nil : PA X [] (tA X T G .nil) := pa_nil.imp fun σ H Q' ⟨ρ, μ, Q, rs, rh, hw, p⟩ => p [] [] H μ rfl rh .refl rfl hw
theorem a_cons {e : Expr} {es : List Expr} {c r : E} (ha : PE X e (tE X T G c)) (hr : PA X es (tA X T G r)) (hs : starEach (e :: es) X.env = (false, eval e X.env) :: starEach es X.env) : PA X (e :: es) (tA X T G (.cons c r)) :=
  (pa_cons ha hr hs).imp fun σ H Q' ⟨ρ, μ, Q, rs, rh, hw, p⟩ =>
    ⟨ρ, μ, _, rs, rh, hw, fun d v H1 μ1 rv rh1 f1 q1 => ⟨ρ, μ1, _, rs.mono (f1.keeps rh), rh1, q1, fun ds vs H2 μ2 rvs rh2 f2 hl q2 =>
      p (d :: ds) (v :: vs) H2 μ2 ⟨v, vs, rfl, rv.mono (f2.keeps rh1), rvs⟩ rh2 (f1.trans f2) (congrArg (· + 1) hl) q2⟩⟩
theorem e_tup {es : List Expr} {c : E} {k : Nat} {pos : Pos} (h : PA X es (tA X T G c)) (hz : alen c ≤ sizeMax) : PE X (.Tuple es k pos) (tE X T G (.tup c)) :=
  (pe_tup h).imp fun σ H Q' ⟨ρ, μ, Q, rs, rh, hw, p⟩ =>
    ⟨ρ, μ, fun ds μ1 => Q (.tup ds) μ1, rs, rh, hw, fun ds vs H1 μ1 rv rh1 f1 hl q1 => ⟨by rw [← rv.length, hl, ← sizeMax_eq]; exact hz, (p.step f1).tup rh1 rv q1⟩⟩
theorem e_lst {es : List Expr} {c : E} {pos : Pos} (h : PA X es (tA X T G c)) (hz : alen c ≤ sizeMax) : PE X (.List es pos) (tE X T G (.lst c)) :=
  (pe_lst h).imp fun σ H Q' ⟨ρ, μ, Q, rs, rh, hw, p⟩ =>
    ⟨ρ, μ, fun ds μ1 => new μ1 (.lst ds) Q, rs, rh, hw, fun ds vs H1 μ1 rv rh1 f1 hl q1 => ⟨by rw [← rv.length, hl, ← sizeMax_eq]; exact hz, (p.step f1).lst rh1 rv q1⟩⟩
def rB (X : Cx) (T : Tab) (o : BOp) : R2 := fun x y H Q' => ∃ dx dy μ Q, RepV X.K H dx x ∧ RepV X.K H dy y ∧ RepH X.w X.K T H μ ∧ binP o dx dy μ Q ∧ Pst X T H μ Q Q'
theorem e_bin {a b : Expr} {op : Operator} {o : BOp} {ca cb : E} {pos : Pos} (ho : OpR X (binaryOp op) (rB X T o)) (ha : PE X a (tE X T G ca)) (hb : PE X b (tE X T G cb)) : PE X (.BinOp a op b pos) (tE X T G (.bin o ca cb)) :=
  (pe_op ho ha hb).imp fun σ H Q' ⟨ρ, μ, Q, rs, rh, hw, p⟩ =>
    ⟨ρ, μ, _, rs, rh, hw, fun x vx H1 μ1 rx rh1 f1 q1 => ⟨ρ, μ1, _, rs.mono (f1.keeps rh), rh1, q1, fun y vy H2 μ2 ry rh2 f2 q2 =>
      ⟨x, y, μ2, Q, rx.mono (f2.keeps rh1), ry, rh2, q2, p.step (f1.trans f2)⟩⟩⟩
theorem Small.mul {i j : Int} (a : Small i) (b : Small j) : CMulW i j := by
  have h : (10 : Nat) ^ 250 ≤ 2 ^ 1000 := by
    have : (10 : Nat) ^ 250 ≤ (2 ^ 4) ^ 250 := Nat.pow_le_pow_left (by decide) _
    rw [← Nat.pow_mul] at this
    exact this
  exact wide_mul (Nat.lt_of_lt_of_le a h) (Nat.lt_of_lt_of_le b h) (by decide) (by decide) (by decide)
theorem Small.div {j : Int} (h0 : 0 < j) (b : Small j) : CDivW 0 j := by
  have h : (10 : Nat) ^ 250 ≤ 2 ^ 1000 := by
    have : (10 : Nat) ^ 250 ≤ (2 ^ 4) ^ 250 := Nat.pow_le_pow_left (by decide) _
    rw [← Nat.pow_mul] at this
    exact this
  exact wide_div h0 (Nat.lt_of_lt_of_le b h) (by decide) (by decide)
theorem sqT_of {H : Hp} {p : Addr} {vs : List V} {ds : List D} {K : PySem.W.Frag} (h : SqT K H p vs) (r : RepVs K H ds vs) : RepV K H (.tup ds) (.ref p) := ⟨p, vs, rfl, h, r⟩
theorem op_bin_add : OpR X (binaryOp .Add) (rB X T .add) := by
  intro pins s σ H x y v u Q' I rx ry ⟨dx, dy, μ, Q, hx, hy, rh, hb, p⟩
  cases dx with
  | int i =>
    cases dy with
    | int j =>
      cases hx; cases hy
      exact op_add pins s σ H _ _ v u Q' I rx ry ⟨i, j, rfl, rfl, p.int rh hb⟩
    | _ => exact hb.elim
  | str i =>
    cases dy with
    | str j =>
      cases hx; cases hy
      obtain ⟨hz, q⟩ := hb
      refine op_add_str pins s σ H _ _ v u Q' I rx ry ⟨_, _, rfl, rfl, ?_, ?_⟩
      · show i.toArray.size + j.toArray.size ≤ sizeLine
        rw [← sizeMax_eq]; simpa using hz
      · have := p.str rh q
        have e : toS i ++ toS j = toS (i ++ j) := by
          show (⟨i.toArray ++ j.toArray⟩ : Str) = ⟨(i ++ j).toArray⟩
          simp
        rw [e]; exact this
    | _ => exact hb.elim
  | tup i =>
    cases dy with
    | tup j =>
      obtain ⟨pa, xs, rfl, sa, ra⟩ := hx
      obtain ⟨pb, ys, rfl, sb, rb⟩ := hy
      obtain ⟨hz, q⟩ := hb
      refine op_catA pins s σ H _ _ v u Q' I rx ry ⟨pa, pb, xs, ys, rfl, rfl, sa, sb, by rw [← ra.length, ← rb.length, ← sizeMax_eq]; exact hz, fun e => ?_, fun e1 e2 => ?_, fun _ _ => p.tup rh (ra.append rb) q⟩
      · have : i = [] := ra.nil_iff.mp e
        subst this
        exact p.val rh (sqT_of sb rb) q
      · have : j = [] := rb.nil_iff.mp e2
        subst this
        rw [List.append_nil] at q
        exact p.val rh (sqT_of sa ra) q
    | _ => exact hb.elim
  | ref a =>
    cases dy with
    | ref b =>
      cases hx; cases hy
      obtain ⟨l, e1, hb⟩ := rdL_get hb
      obtain ⟨m, e2, hz, q⟩ := rdL_get hb
      obtain ⟨vs, h1, r1⟩ := rh a _ e1
      obtain ⟨us, h2, r2⟩ := rh b _ e2
      exact op_cat pins s σ H _ _ v u Q' I rx ry ⟨a, b, vs, us, rfl, rfl, h1, h2, by rw [← r1.length, ← r2.length, ← sizeMax_eq]; exact hz, p.lst rh (r1.append r2) q⟩
    | _ => exact hb.elim
  | _ => exact hb.elim
theorem op_bin_sub : OpR X (binaryOp .Sub) (rB X T .sub) := by
  intro pins s σ H x y v u Q' I rx ry ⟨dx, dy, μ, Q, hx, hy, rh, hb, p⟩
  cases dx with
  | int i =>
    cases dy with
    | int j =>
      cases hx; cases hy
      exact op_sub pins s σ H _ _ v u Q' I rx ry ⟨i, j, rfl, rfl, p.int rh hb⟩
    | _ => exact hb.elim
  | _ => exact hb.elim
theorem fold_str (x : List Nat) : ∀ (n : Nat) (acc : Array Nat), (List.replicate n x.toArray).foldl (· ++ ·) acc = (acc.toList ++ (List.replicate n x).flatten).toArray
  | 0, acc => by simp
  | n + 1, acc => by
    rw [List.replicate_succ, List.foldl_cons, fold_str x n, List.replicate_succ, List.flatten_cons]
    simp
theorem mul_str_run {i : List Nat} {j : Int} (h0 : 0 ≤ j) (h1 : j ≤ 100000) (h2 : i.length * j.toNat ≤ 100000) {pins : List (Addr × Obj)} {s : Shared} {v u : Value} {σ : L2.St} {H : Hp} {Q' : VK} (I : L2.Inv X pins σ H s) (rx : L2.RelV (.str (toS i)) v) (ry : L2.RelV (.int j) u)
    (q : Q' (.str (toS (List.replicate j.toNat i).flatten)) H) : wpAny (model X.prog X.w) X.A (binaryOp .Mult v u) (EP X pins σ Q') X.xe s := by
  obtain ⟨t, rfl⟩ := rx
  obtain ⟨t', rfl⟩ := ry
  have el : (toS i).length = i.length := by show i.toArray.size = _; simp
  have hl : ∀ n : Nat, n ≤ 100000 → PySem.Builtin.Str.tooLong n = false := fun n hn => decide_eq_false (by rw [sizeLine_eq]; omega)
  refine PySem.P.mul_str (by rw [decide_eq_false (by omega), decide_eq_false (by omega)]; rfl) (fun g1 g2 => ?_) (fun g1 g2 => by rw [el]; exact hl _ h2) ?_
  · rw [el]
    have h3 : (i.length : Int) * j ≤ 100000 := by
      have e : (i.length : Int) * j = ((i.length * j.toNat : Nat) : Int) := by rw [Int.natCast_mul, Int.toNat_of_nonneg h0]
      rw [e]; omega
    exact Int.not_lt.mpr ((Int.le_ediv_iff_mul_le (by omega)).mpr (by omega))
  · by_cases g1 : j < 1
    · rw [if_pos g1]
      have : j = 0 := by omega
      subst this
      exact ⟨by decide, .str _, H, I.tok _, ⟨_, rfl⟩, q⟩
    · rw [if_neg g1]
      by_cases g2 : (j == 1 || (toS i).length == 0) = true
      · rw [if_pos g2]
        refine ⟨.str (toS i), H, I, ⟨_, rfl⟩, ?_⟩
        have e : (List.replicate j.toNat i).flatten = i := by
          rw [Bool.or_eq_true, beq_iff_eq, beq_iff_eq, el] at g2
          rcases g2 with g2 | g2
          · subst g2; simp
          · have := List.eq_nil_of_length_eq_zero g2; subst this; simp
        rw [e] at q; exact q
      · rw [if_neg g2]
        have e : (⟨(List.replicate j.toNat (toS i).cps).foldl (· ++ ·) #[]⟩ : Str) = toS (List.replicate j.toNat i).flatten := by
          rw [show (toS i).cps = i.toArray from rfl, fold_str]
          simp
        rw [e]
        refine ⟨?_, .str _, H, I.tok _, ⟨_, rfl⟩, q⟩
        have e2 : (toS (List.replicate j.toNat i).flatten).length = i.length * j.toNat := by
          show ((List.replicate j.toNat i).flatten).toArray.size = _
          simp [Nat.mul_comm]
        rw [e2, sizeLine_eq]; omega
theorem op_bin_mul : OpR X (binaryOp .Mult) (rB X T .mul) := by
  intro pins s σ H x y v u Q' I rx ry ⟨dx, dy, μ, Q, hx, hy, rh, hb, p⟩
  cases dx with
  | int i =>
    cases dy with
    | int j =>
      cases hx; cases hy
      obtain ⟨h1, h2, q⟩ := hb
      exact op_mulW pins s σ H _ _ v u Q' I rx ry ⟨i, j, rfl, rfl, h1.mul h2, p.int rh q⟩
    | _ => exact hb.elim
  | ref a =>
    cases dy with
    | int j =>
      cases hx; cases hy
      obtain ⟨l, e1, h0, h1, h2, q⟩ := rdL_get hb
      obtain ⟨vs, h3, r1⟩ := rh a _ e1
      refine op_rep pins s σ H _ _ v u Q' I rx ry ⟨a, j, vs, rfl, rfl, h3, by omega, ?_, by rw [← r1.length, ← sizeMax_eq]; exact h2, p.lst rh (r1.rep _) q⟩
      have : (sizeMax : Int) < 2 ^ 63 := by unfold sizeMax; decide
      omega
    | _ => exact hb.elim
  | tup l =>
    cases dy with
    | int j =>
      cases hy
      obtain ⟨a, vs, rfl, st, r1⟩ := hx
      obtain ⟨hn, h0, h1, h2, q⟩ := hb
      have vn : vs ≠ [] := fun z => by
        subst z
        exact hn (List.eq_nil_of_length_eq_zero r1.length)
      have hl : vs.length = l.length := r1.length.symm
      refine op_repTX pins s σ H _ _ v u Q' I rx ry ⟨a, j, vs, rfl, rfl, st, vn, ?_⟩
      by_cases j0 : j = 0
      · subst j0
        exact .inl ⟨rfl, p.tup rh (ds := []) (vs := []) rfl q⟩
      by_cases j1 : j = 1
      · subst j1
        refine .inr (.inl ⟨rfl, ?_⟩)
        have e : (List.replicate (1 : Int).toNat l).flatten = l := by simp
        rw [e] at q
        exact p.val rh (d := .tup l) ⟨a, vs, rfl, st, r1⟩ q
      · exact .inr (.inr ⟨by omega, h1, by omega, p.tup rh (r1.rep _) q⟩)
    | _ => exact hb.elim
  | str i =>
    cases dy with
    | int j =>
      cases hx; cases hy
      exact mul_str_run hb.1 hb.2.1 hb.2.2.1 I rx ry (p.str rh hb.2.2.2)
    | _ => exact hb.elim
  | _ => cases dy <;> exact hb.elim
theorem op_bin_fdiv : OpR X (binaryOp .FloorDiv) (rB X T .fdiv) := by
  intro pins s σ H x y v u Q' I rx ry ⟨dx, dy, μ, Q, hx, hy, rh, hb, p⟩
  cases dx with
  | int i =>
    cases dy with
    | int j =>
      cases hx; cases hy
      obtain ⟨h1, h2, q⟩ := hb
      exact op_fdivW pins s σ H _ _ v u Q' I rx ry ⟨i, j, rfl, rfl, Small.div h1 h2, p.int rh q⟩
    | _ => exact hb.elim
  | _ => exact hb.elim
theorem op_bin_mod : OpR X (binaryOp .Mod) (rB X T .mod) := by
  intro pins s σ H x y v u Q' I rx ry ⟨dx, dy, μ, Q, hx, hy, rh, hb, p⟩
  cases dx with
  | int i =>
    cases dy with
    | int j =>
      cases hx; cases hy
      obtain ⟨h1, q⟩ := hb
      exact op_mod pins s σ H _ _ v u Q' I rx ry ⟨i, j, rfl, rfl, h1, p.int rh q⟩
    | _ => exact hb.elim
  | _ => exact hb.elim
theorem op_bin_pow : OpR X (binaryOp .Pow) (rB X T .pow) := by
  intro pins s σ H x y v u Q' I rx ry ⟨dx, dy, μ, Q, hx, hy, rh, hb, p⟩
  cases dx with
  | int i =>
    cases dy with
    | int j =>
      cases hx; cases hy
      obtain ⟨h1, q⟩ := hb
      have h1 := of_decide_eq_true h1
      exact op_pow pins s σ H _ _ v u Q' I rx ry ⟨i, j, rfl, rfl, ⟨by omega, by omega, by omega⟩, p.int rh q⟩
    | _ => exact hb.elim
  | _ => exact hb.elim
def trOp : Operator → Option BOp
  | .Add => some .add
  | .Sub => some .sub
  | .Mult => some .mul
  | .FloorDiv => some .fdiv
  | .Mod => some .mod
  | .Pow => some .pow
  | _ => none
theorem op_bin {op : Operator} {o : BOp} (h : trOp op = some o) : OpR X (binaryOp op) (rB X T o) := by
  cases op with
  | Add => cases h; exact op_bin_add
  | Sub => cases h; exact op_bin_sub
  | Mult => cases h; exact op_bin_mul
  | FloorDiv => cases h; exact op_bin_fdiv
  | Mod => cases h; exact op_bin_mod
  | Pow => cases h; exact op_bin_pow
  | _ => cases h
theorem e_neg {a : Expr} {ca : E} {pos : Pos} (ha : PE X a (tE X T G ca)) : PE X (.UnaryOp .USub a pos) (tE X T G (.neg ca)) :=
  (pe_un un_neg ha).imp fun σ H Q' ⟨ρ, μ, Q, rs, rh, hw, p⟩ =>
    ⟨ρ, μ, _, rs, rh, hw, fun x vx H1 μ1 rx rh1 f1 q1 => by
      cases x with
      | int i =>
        cases rx
        exact ⟨i, rfl, (p.step f1).int rh1 q1⟩
      | _ => exact q1.elim⟩

mutual
def toPy : D → PyData
  | .non => .none
  | .bl b => .bool b
  | .int i => .int i
  | .str x => .str (toS x)
  | .tup ds => .tuple (toPys ds)
  | .ref _ => .none
  | .scr _ => .none
def toPys : List D → List PyData
  | [] => []
  | d :: ds => toPy d :: toPys ds
end
mutual
def wPy : W → PyData
  | .non => .none
  | .bl b => .bool b
  | .int i => .int i
  | .str x => .str (toS x)
  | .tup ds => .tuple (wPys ds)
  | .lst ds => .list (wPys ds)
def wPys : List W → List PyData
  | [] => []
  | d :: ds => wPy d :: wPys ds
end
theorem strOk_of {x : List Nat} (h : (x.all fun c => decide (c < 1114112)) = true) : PyData.canLay0 (.str (toS x)) = true := by
  show (toS x).cps.all (· < 0x110000) = true
  rw [← Array.all_toList]
  simpa using h
mutual
theorem ok_lay : ∀ {n : Nat} {d : D}, D.ok n d = true → (toPy d).canLay0 = true ∧ (toPy d).depth ≤ n
  | 0, _, h => by simp [D.ok] at h
  | n + 1, .non, _ => ⟨rfl, Nat.zero_le _⟩
  | n + 1, .bl _, _ => ⟨rfl, Nat.zero_le _⟩
  | n + 1, .int _, _ => ⟨rfl, Nat.zero_le _⟩
  | n + 1, .str x, h => ⟨strOk_of (by simpa [D.ok] using h), Nat.zero_le _⟩
  | n + 1, .ref _, h => by simp [D.ok] at h
  | n + 1, .scr _, h => by simp [D.ok] at h
  | n + 1, .tup ds, h => by
    have h : ds.all (D.ok n) = true := by simpa [D.ok] using h
    obtain ⟨h1, h2⟩ := ok_lays h
    refine ⟨by simpa [toPy, PyData.canLay0] using h1, ?_⟩
    simp only [toPy, PyData.depth]
    omega
theorem ok_lays : ∀ {n : Nat} {ds : List D}, ds.all (D.ok n) = true → PyData.canLayAll0 (toPys ds) = true ∧ PyData.depthAll (toPys ds) ≤ n
  | _, [], _ => ⟨rfl, Nat.zero_le _⟩
  | n, d :: ds, h => by
    rw [List.all_cons, Bool.and_eq_true] at h
    obtain ⟨h1, h2⟩ := ok_lay h.1
    obtain ⟨h3, h4⟩ := ok_lays h.2
    refine ⟨by simp only [toPys, PyData.canLayAll0, h1, h3]; rfl, ?_⟩
    simp only [toPys, PyData.depthAll]
    omega
end
mutual
theorem wok_lay : ∀ {n : Nat} {d : W}, W.ok n d = true → (wPy d).canLay0 = true ∧ (wPy d).depth ≤ n
  | 0, _, h => by simp [W.ok] at h
  | n + 1, .non, _ => ⟨rfl, Nat.zero_le _⟩
  | n + 1, .bl _, _ => ⟨rfl, Nat.zero_le _⟩
  | n + 1, .int _, _ => ⟨rfl, Nat.zero_le _⟩
  | n + 1, .str x, h => ⟨strOk_of (by simpa [W.ok] using h), Nat.zero_le _⟩
  | n + 1, .tup ds, h => by
    have h : ds.all (W.ok n) = true := by simpa [W.ok] using h
    obtain ⟨h1, h2⟩ := wok_lays h
    refine ⟨by simpa [wPy, PyData.canLay0] using h1, ?_⟩
    simp only [wPy, PyData.depth]
    omega
  | n + 1, .lst ds, h => by
    have h : ds.all (W.ok n) = true := by simpa [W.ok] using h
    obtain ⟨h1, h2⟩ := wok_lays h
    refine ⟨by simpa [wPy, PyData.canLay0] using h1, ?_⟩
    simp only [wPy, PyData.depth]
    omega
theorem wok_lays : ∀ {n : Nat} {ds : List W}, ds.all (W.ok n) = true → PyData.canLayAll0 (wPys ds) = true ∧ PyData.depthAll (wPys ds) ≤ n
  | _, [], _ => ⟨rfl, Nat.zero_le _⟩
  | n, d :: ds, h => by
    rw [List.all_cons, Bool.and_eq_true] at h
    obtain ⟨h1, h2⟩ := wok_lay h.1
    obtain ⟨h3, h4⟩ := wok_lays h.2
    refine ⟨by simp only [wPys, PyData.canLayAll0, h1, h3]; rfl, ?_⟩
    simp only [wPys, PyData.depthAll]
    omega
end
theorem shaped_of {d : PyData} (h : d.canLay0 = true ∧ d.depth ≤ 60) : SeqAt.shaped d = true := by
  show (d.canLay0 && decide (d.depth ≤ 64)) = true
  rw [Bool.and_eq_true]
  exact ⟨h.1, decide_eq_true (by omega)⟩
theorem shaped_list {ds : List D} (h : ds.all (D.ok 60) = true) : SeqAt.shaped (.list (toPys ds)) = true := by
  obtain ⟨h1, h2⟩ := ok_lays h
  show (PyData.canLay0 (.list (toPys ds)) && decide (PyData.depth (.list (toPys ds)) ≤ 64)) = true
  rw [Bool.and_eq_true]
  refine ⟨by simpa [PyData.canLay0] using h1, decide_eq_true ?_⟩
  simp only [PyData.depth]
  omega
mutual
theorem rep_dp {K : PySem.W.Frag} {H : Hp} : ∀ {n : Nat} {d : D} {v : V}, D.ok n d = true → RepV K H d v → Dp K H v (toPy d)
  | 0, _, _, h, _ => by simp [D.ok] at h
  | n + 1, .non, _, _, r => by cases r; exact .non
  | n + 1, .bl b, _, _, r => by cases r; exact .bl b
  | n + 1, .int i, _, _, r => by cases r; exact .int i
  | n + 1, .str x, _, _, r => by cases r; exact .str _
  | n + 1, .ref _, _, h, _ => by simp [D.ok] at h
  | n + 1, .scr _, _, h, _ => by simp [D.ok] at h
  | n + 1, .tup ds, _, h, ⟨p, vs, e, s, r⟩ => by
    subst e
    exact .tup s (rep_dps (n := n) (by simpa [D.ok] using h) r)
theorem rep_dps {K : PySem.W.Frag} {H : Hp} : ∀ {n : Nat} {ds : List D} {vs : List V}, ds.all (D.ok n) = true → RepVs K H ds vs → DpAll K H vs (toPys ds)
  | _, [], _, _, r => by rw [show _ = [] from r]; exact .nil
  | n, d :: ds, _, h, ⟨v, q, e, r, t⟩ => by
    subst e
    rw [List.all_cons, Bool.and_eq_true] at h
    exact .cons (rep_dp h.1 r) (rep_dps h.2 t)
end
mutual
theorem w_dp {X : Cx} {T : Tab} {H : Hp} {μ : Sto} (rh : RepH X.w X.K T H μ) : ∀ {a : W} {d : D} {v : V}, isW μ a d → RepV X.K H d v → Dp X.K H v (wPy a)
  | .non, _, _, h, r => by cases h; cases r; exact .non
  | .bl _, _, _, h, r => by cases h; cases r; exact .bl _
  | .int _, _, _, h, r => by cases h; cases r; exact .int _
  | .str _, _, _, h, r => by cases h; cases r; exact .str _
  | .tup xs, _, _, h, r => by
    obtain ⟨ds, e, h⟩ := h
    subst e
    obtain ⟨p, vs, e, s, r⟩ := r
    subst e
    exact .tup s (w_dps rh h r)
  | .lst xs, _, _, h, r => by
    obtain ⟨a, ds, e, m, h⟩ := h
    subst e
    cases r
    obtain ⟨vs, s, r⟩ := rh _ _ m
    exact .lst (SqL.of s) (w_dps rh h r)
theorem w_dps {X : Cx} {T : Tab} {H : Hp} {μ : Sto} (rh : RepH X.w X.K T H μ) : ∀ {as : List W} {ds : List D} {vs : List V}, isWs μ as ds → RepVs X.K H ds vs → DpAll X.K H vs (wPys as)
  | [], _, _, h, r => by cases h; rw [show _ = [] from r]; exact .nil
  | a :: as, _, _, h, r => by
    obtain ⟨d, q, e, h1, h2⟩ := h
    subst e
    obtain ⟨v, vq, e, r1, r2⟩ := r
    subst e
    exact .cons (w_dp rh h1 r1) (w_dps rh h2 r2)
end
theorem toS_beq (a b : List Nat) : (toS a == toS b) = (a == b) := by
  rw [Bool.eq_iff_iff]
  simp only [beq_iff_eq]
  exact ⟨toS_inj, fun h => by rw [h]⟩
mutual
theorem eqv_eqb : ∀ {n : Nat} {a b : D}, D.ok n a = true → D.ok n b = true → PyData.eqv (toPy a) (toPy b) = D.eqb a b
  | 0, _, _, h, _ => by simp [D.ok] at h
  | n + 1, .non, b, _, h => by cases b <;> first | rfl | simp [D.ok] at h
  | n + 1, .bl x, b, _, h => by cases b <;> first | rfl | simp [D.ok] at h
  | n + 1, .int x, b, _, h => by cases b <;> first | rfl | simp [D.ok] at h
  | n + 1, .str x, b, _, h => by
    cases b with
    | str y => exact toS_beq x y
    | ref _ => simp [D.ok] at h
    | scr _ => simp [D.ok] at h
    | _ => rfl
  | n + 1, .ref _, _, h, _ => by simp [D.ok] at h
  | n + 1, .scr _, _, h, _ => by simp [D.ok] at h
  | n + 1, .tup xs, b, h1, h => by
    cases b with
    | tup ys =>
      show PyData.eqvAll (toPys xs) (toPys ys) = D.eqbs xs ys
      exact eqvs_eqbs (n := n) (by simpa [D.ok] using h1) (by simpa [D.ok] using h)
    | ref _ => simp [D.ok] at h
    | scr _ => simp [D.ok] at h
    | _ => rfl
theorem eqvs_eqbs : ∀ {n : Nat} {a b : List D}, a.all (D.ok n) = true → b.all (D.ok n) = true → PyData.eqvAll (toPys a) (toPys b) = D.eqbs a b
  | _, [], [], _, _ => rfl
  | _, [], _ :: _, _, _ => rfl
  | _, _ :: _, [], _, _ => rfl
  | n, x :: xs, y :: ys, h1, h2 => by
    rw [List.all_cons, Bool.and_eq_true] at h1 h2
    show (PyData.eqv (toPy x) (toPy y) && PyData.eqvAll (toPys xs) (toPys ys)) = (D.eqb x y && D.eqbs xs ys)
    rw [eqv_eqb h1.1 h2.1, eqvs_eqbs h1.2 h2.2]
end
mutual
theorem weqv_eqb : ∀ {a b : W}, PyData.eqv (wPy a) (wPy b) = W.eqb a b
  | .non, b => by cases b <;> rfl
  | .bl x, b => by cases b <;> rfl
  | .int x, b => by cases b <;> rfl
  | .str x, b => by
    cases b with
    | str y => exact toS_beq x y
    | _ => rfl
  | .tup xs, b => by
    cases b with
    | tup ys => exact weqvs_eqbs
    | _ => rfl
  | .lst xs, b => by
    cases b with
    | lst ys => exact weqvs_eqbs
    | _ => rfl
theorem weqvs_eqbs : ∀ {a b : List W}, PyData.eqvAll (wPys a) (wPys b) = W.eqbs a b
  | [], [] => rfl
  | [], _ :: _ => rfl
  | _ :: _, [] => rfl
  | x :: xs, y :: ys => by
    show (PyData.eqv (wPy x) (wPy y) && PyData.eqvAll (wPys xs) (wPys ys)) = (W.eqb x y && W.eqbs xs ys)
    rw [weqv_eqb, weqvs_eqbs]
end
theorem any_eqv {n : Nat} {x : D} (hx : D.ok n x = true) : ∀ {l : List D}, l.all (D.ok n) = true → ((toPys l).any fun z => PyData.eqv z (toPy x)) = l.any fun y => D.eqb y x
  | [], _ => rfl
  | y :: l, h => by
    rw [List.all_cons, Bool.and_eq_true] at h
    show (PyData.eqv (toPy y) (toPy x) || _) = (D.eqb y x || _)
    rw [eqv_eqb h.1 hx, any_eqv hx h.2]
def rC (X : Cx) (T : Tab) (o : COp) : R2 := fun x y H Q' => ∃ dx dy μ, ∃ k : Bool → Prop, RepV X.K H dx x ∧ RepV X.K H dy y ∧ RepH X.w X.K T H μ ∧ cmpP o dx dy μ k ∧ ∀ b, k b → Q' (.bl b) H
theorem flat_v {K : PySem.W.Frag} {H : Hp} {d : D} {v : V} (h : isFl d = true) (r : RepV K H d v) : flatV v = true := by
  cases d with
  | non => cases r; rfl
  | bl _ => cases r; rfl
  | int _ => cases r; rfl
  | str _ => cases r; rfl
  | _ => cases h
theorem flat_vs {K : PySem.W.Frag} {H : Hp} : ∀ {ds : List D} {vs : List V}, ds.all isFl = true → RepVs K H ds vs → vs.all flatV = true
  | [], _, _, r => by rw [show _ = [] from r]; rfl
  | d :: ds, _, h, ⟨v, q, e, r, t⟩ => by
    subst e
    rw [List.all_cons, Bool.and_eq_true] at h
    rw [List.all_cons, flat_v h.1 r, flat_vs h.2 t]; rfl
theorem flat_eq {K : PySem.W.Frag} {H : Hp} {a b : D} {x y : V} (ha : isFl a = true) (hb : isFl b = true) (ra : RepV K H a x) (rb : RepV K H b y) : eqV x y = D.eqb a b := by
  cases a with
  | str i =>
    cases b with
    | str j => cases ra; cases rb; exact toS_beq i j
    | tup _ => cases hb
    | ref _ => cases hb
    | scr _ => cases hb
    | _ => cases ra; cases rb; rfl
  | tup _ => cases ha
  | ref _ => cases ha
  | scr _ => cases ha
  | _ =>
    cases b with
    | tup _ => cases hb
    | ref _ => cases hb
    | scr _ => cases hb
    | _ => cases ra; cases rb; rfl
theorem flat_in {K : PySem.W.Frag} {H : Hp} {x : D} {v : V} (hx : isFl x = true) (rx : RepV K H x v) : ∀ {l : List D} {vs : List V}, l.all isFl = true → RepVs K H l vs → inV v vs = l.any fun y => D.eqb y x
  | [], _, _, r => by rw [show _ = [] from r]; rfl
  | d :: ds, _, h, ⟨u, q, e, r, t⟩ => by
    subst e
    rw [List.all_cons, Bool.and_eq_true] at h
    show (eqV u v || inV v q) = (D.eqb d x || _)
    rw [flat_eq h.1 hx r rx, flat_in hx rx h.2 t]
variable {v u : Value} {x y : V} {pins : List (Addr × Obj)} {s : Shared} {dx dy : D} {k : Bool → Prop}
theorem kV_inj {κ κ' : Key} (h : kV κ = kV κ') : κ = κ' := by
  cases κ <;> cases κ' <;> first | (injection h with e; rw [e]) | cases h
theorem flat_fun {K : PySem.W.Frag} {H : Hp} {d : D} {x y : V} (h : isFl d = true) (r : RepV K H d x) (q : RepV K H d y) : x = y := by
  cases d with
  | non => cases r; cases q; rfl
  | bl _ => cases r; cases q; rfl
  | int _ => cases r; cases q; rfl
  | str _ => cases r; cases q; rfl
  | _ => cases h
theorem flat_isFl {d : D} (h : isFlat d = true) : isFl d = true := by cases d <;> first | rfl | cases h
theorem flat_key {K : PySem.W.Frag} {H : Hp} {d e : D} {x : V} (h : isFlat d = true) (h' : isFlat e = true) (r : RepV K H d x) (q : RepV K H e x) : d = e := by
  cases d with
  | int i => cases e with
    | int j =>
      have r : x = .int i := r
      have q : x = .int j := q
      rw [r] at q; injection q with q; rw [q]
    | str j =>
      have r : x = .int i := r
      have q : x = .str _ := q
      rw [r] at q; cases q
    | _ => cases h'
  | str i => cases e with
    | int j =>
      have r : x = .str _ := r
      have q : x = .int j := q
      rw [r] at q; cases q
    | str j =>
      have r : x = .str (toS i) := r
      have q : x = .str (toS j) := q
      rw [r] at q; injection q with q; rw [toS_inj q]
    | _ => cases h'
  | _ => cases h
theorem repK_fun {K : PySem.W.Frag} {H : Hp} : ∀ {l : List (D × D)} {ks ls : List (Key × V)}, l.all (fun p => isFl p.2) = true → RepK K H l ks → RepK K H l ls → ks = ls
  | [], _, _, _, r, q => by rw [show _ = [] from r, show _ = [] from q]
  | (k, d) :: l, _, _, h, ⟨κ, v, ks, e, r1, f, r2, r3⟩, ⟨κ', v', ls, e', q1, _, q2, q3⟩ => by
    rw [List.all_cons, Bool.and_eq_true] at h
    rw [e, e', kV_inj (flat_fun (flat_isFl f) r1 q1), flat_fun h.1 r2 q2, repK_fun h.2 r3 q3]
theorem repK_mem {K : PySem.W.Frag} {H : Hp} : ∀ {l : List (D × D)} {ks : List (Key × V)}, RepK K H l ks → ∀ κ ∈ ks.map (·.1), ∃ k ∈ l.map (·.1), isFlat k = true ∧ RepV K H k (kV κ)
  | [], _, r, κ, h => by rw [show _ = [] from r] at h; cases h
  | (k, d) :: l, _, ⟨κ', v, ks, e, r1, f, r2, r3⟩, κ, h => by
    rw [e, List.map_cons] at h
    rcases List.mem_cons.mp h with e1 | h
    · exact ⟨k, List.mem_cons_self, f, by rw [e1]; exact r1⟩
    · obtain ⟨k', h1, h2⟩ := repK_mem r3 κ h
      exact ⟨k', List.mem_cons_of_mem _ h1, h2⟩
theorem repK_nd {K : PySem.W.Frag} {H : Hp} : ∀ {l : List (D × D)} {ks : List (Key × V)}, RepK K H l ks → (l.map (·.1)).Nodup → (ks.map (·.1)).Nodup
  | [], _, r, _ => by rw [show _ = [] from r]; exact List.nodup_nil
  | (k, d) :: l, _, ⟨κ', v, ks, e, r1, f, r2, r3⟩, nd => by
    rw [e]
    rw [List.map_cons, List.nodup_cons] at nd ⊢
    refine ⟨fun h => ?_, repK_nd r3 nd.2⟩
    obtain ⟨k', h1, h2, h3⟩ := repK_mem r3 κ' h
    rw [flat_key f h2 r1 h3] at nd
    exact nd.1 h1
theorem repK_flat {K : PySem.W.Frag} {H : Hp} : ∀ {l : List (D × D)} {ks : List (Key × V)}, l.all (fun p => isFl p.2) = true → RepK K H l ks → ∀ p ∈ ks, flatB p.2 = true
  | [], _, _, r, p, h => by rw [show _ = [] from r] at h; cases h
  | (k, d) :: l, _, hf, ⟨κ', v, ks, e, r1, f, r2, r3⟩, p, h => by
    rw [List.all_cons, Bool.and_eq_true] at hf
    rw [e] at h
    rcases List.mem_cons.mp h with e1 | h
    · rw [e1]
      show flatB v = true
      have h1 := hf.1
      cases d with
      | non => rw [show v = .non from r2]; rfl
      | bl _ => rw [show v = .bl _ from r2]; rfl
      | int _ => rw [show v = .int _ from r2]; rfl
      | str _ => rw [show v = .str _ from r2]; rfl
      | _ => cases h1
    · exact repK_flat hf.2 r3 p h
theorem eq_run (hu : X.A.units + 64 < cLine) (I : Inv X pins σ H s) (rx : RelV x v) (ry : RelV y u) (hx : RepV X.K H dx x) (hy : RepV X.K H dy y) (rh : RepH X.w X.K T H μ) (h : eqP dx dy μ k) :
    (∀ Q', (∀ b, k b → Q' (.bl b) H) → wpAny (model X.prog X.w) X.A (compareOp .Eq v u) (EP X pins σ Q') X.xe s) ∧ ∀ Q', (∀ b, k b → Q' (.bl (!b)) H) → wpAny (model X.prog X.w) X.A (compareOp .NotEq v u) (EP X pins σ Q') X.xe s := by
  have deep : ∀ {d e : PyData}, Dp X.K H x d → Dp X.K H y e → SeqAt.shaped d = true → SeqAt.shaped e = true → k (PyData.eqv d e) →
      (∀ Q', (∀ b, k b → Q' (.bl b) H) → wpAny (model X.prog X.w) X.A (compareOp .Eq v u) (EP X pins σ Q') X.xe s) ∧ ∀ Q', (∀ b, k b → Q' (.bl (!b)) H) → wpAny (model X.prog X.w) X.A (compareOp .NotEq v u) (EP X pins σ Q') X.xe s :=
    fun h1 h2 h3 h4 q => ⟨fun Q' w => op_eqD hu pins s σ H _ _ v u Q' I rx ry ⟨_, _, h1, h2, h3, h4, w _ q⟩, fun Q' w => op_neD hu pins s σ H _ _ v u Q' I rx ry ⟨_, _, h1, h2, h3, h4, w _ q⟩⟩
  have flat : scal x y = true → k (decide (x = y)) →
      (∀ Q', (∀ b, k b → Q' (.bl b) H) → wpAny (model X.prog X.w) X.A (compareOp .Eq v u) (EP X pins σ Q') X.xe s) ∧ ∀ Q', (∀ b, k b → Q' (.bl (!b)) H) → wpAny (model X.prog X.w) X.A (compareOp .NotEq v u) (EP X pins σ Q') X.xe s :=
    fun h1 q => ⟨fun Q' w => op_eq pins s σ H _ _ v u Q' I rx ry ⟨h1, w _ q⟩, fun Q' w => op_ne pins s σ H _ _ v u Q' I rx ry ⟨h1, w _ q⟩⟩
  unfold eqP at h
  cases hf : isFl dx && isFl dy with
  | true =>
    rw [hf] at h
    have h : k (D.eqb dx dy) := h
    rw [Bool.and_eq_true] at hf
    cases dx with
    | non => cases dy with
      | non => cases hx; cases hy; exact flat rfl h
      | bl _ => cases hx; cases hy; exact flat rfl h
      | int _ => cases hx; cases hy; exact flat rfl h
      | str _ => cases hx; cases hy; exact flat rfl h
      | _ => cases hf.2
    | bl a => cases dy with
      | non => cases hx; cases hy; exact flat rfl h
      | bl b => cases hx; cases hy; exact flat rfl (by rw [dec_bl]; exact h)
      | int b => cases hx; cases hy; exact deep (.bl a) (.int b) rfl rfl h
      | str _ => cases hx; cases hy; exact flat rfl h
      | _ => cases hf.2
    | int a => cases dy with
      | non => cases hx; cases hy; exact flat rfl h
      | bl b => cases hx; cases hy; exact deep (.int a) (.bl b) rfl rfl h
      | int b => cases hx; cases hy; exact flat rfl (by rw [dec_int]; exact h)
      | str _ => cases hx; cases hy; exact flat rfl h
      | _ => cases hf.2
    | str a => cases dy with
      | non => cases hx; cases hy; exact flat rfl h
      | bl b => cases hx; cases hy; exact flat rfl h
      | int b => cases hx; cases hy; exact flat rfl h
      | str b => cases hx; cases hy; exact flat rfl (by rw [dec_str, toS_beq]; exact h)
      | _ => cases hf.2
    | _ => cases hf.1
  | false =>
    rw [hf] at h
    rcases h with ⟨h1, h2, q⟩ | ⟨a, b, h1, h2, h3, h4, q⟩ | ⟨a, b, l, rfl, rfl, ha, hb, nd, fl, q⟩ | ⟨a, b, l, m, rfl, rfl, ha, hb, hne, q⟩
    · exact deep (rep_dp h1 hx) (rep_dp h2 hy) (shaped_of (ok_lay h1)) (shaped_of (ok_lay h2)) (by rw [eqv_eqb h1 h2]; exact q)
    · exact deep (w_dp rh h1 hx) (w_dp rh h2 hy) (shaped_of (wok_lay h3)) (shaped_of (wok_lay h4)) (by rw [weqv_eqb]; exact q)
    · obtain ⟨ks, e1, r1⟩ := rh a _ ha
      obtain ⟨ls, e2, r2⟩ := rh b _ hb
      obtain rfl := repK_fun fl r1 r2
      obtain rfl : x = .ref a := hx
      obtain rfl : y = .ref b := hy
      have go : ∀ p ∈ ks, valV ks p.1 = some p.2 ∧ flatB p.2 = true := fun p hp => ⟨val_nodup (repK_nd r1 nd) p hp, repK_flat fl r1 p hp⟩
      exact ⟨fun Q' w => op_eq_dictA (by omega) pins s σ H _ _ v u Q' I rx ry ⟨a, b, ks, ks, rfl, rfl, e1, e2, rfl, go, w _ q⟩, fun Q' w => op_ne_dictA (by omega) pins s σ H _ _ v u Q' I rx ry ⟨a, b, ks, ks, rfl, rfl, e1, e2, rfl, go, w _ q⟩⟩
    · obtain ⟨vs, e1, r1⟩ := rh a _ ha
      obtain ⟨us, e2, r2⟩ := rh b _ hb
      obtain rfl : x = .ref a := hx
      obtain rfl : y = .ref b := hy
      obtain rfl : v = Value.ref a := rx
      obtain rfl : u = Value.ref b := ry
      obtain ⟨is1, v1, p1, _⟩ := I.list (SqL.of e1)
      obtain ⟨is2, v2, p2, _⟩ := I.list (SqL.of e2)
      have hsz : (is1.toArray.size != is2.toArray.size) = true := by
        rw [bne_iff_ne, List.size_toArray, List.size_toArray, ← v1.length, ← v2.length, ← r1.length, ← r2.length]
        exact hne
      exact ⟨fun Q' w => SeqAt.RcAt.lists_lengths p1.isList p2.isList hsz (by omega) X.prog X.w _ _ ⟨.bl false, H, I, rfl, w _ q⟩, fun Q' w => SeqAt.RcNeAt.lists_lengths p1.isList p2.isList hsz (by omega) X.prog X.w _ _ ⟨.bl true, H, I, rfl, w _ q⟩⟩
end
end MP

set_option linter.all false
set_option maxRecDepth 100000
set_option maxHeartbeats 1000000
set_option Elab.async false
namespace MP
open PySem PySem.Spec PyProof.Rows L2
theorem strLt_eq : ∀ a b : List Nat, strLt a b = decide (a < b)
  | [], [] => by simp [strLt]
  | _ :: _, [] => by simp [strLt]
  | [], _ :: _ => by simp [strLt]
  | x :: a, y :: b => by
    unfold strLt
    rw [strLt_eq a b, Bool.eq_iff_iff]
    simp only [Bool.or_eq_true, Bool.and_eq_true, decide_eq_true_eq, beq_iff_eq, List.cons_lt_cons_iff]
def kOf : D → Key
  | .int i => .inl i
  | .str x => .inr (toS x)
  | _ => .inl 0
theorem kOf_v {K : PySem.W.Frag} {H : Hp} {d : D} {v : V} (h : isFlat d = true) (r : RepV K H d v) : v = kV (kOf d) := by
  cases d with
  | int _ => cases r; rfl
  | str _ => cases r; rfl
  | _ => cases h
theorem kOf_inj {a b : D} (ha : isFlat a = true) (hb : isFlat b = true) : decide (kOf a = kOf b) = D.eqb a b := by
  cases a with
  | int i =>
    cases b with
    | int j => show decide ((Sum.inl i : Key) = Sum.inl j) = _; rw [key_ll]; rfl
    | str j => exact key_lr i _
    | _ => cases hb
  | str i =>
    cases b with
    | int j => exact key_rl _ j
    | str j => show decide ((Sum.inr (toS i) : Key) = Sum.inr (toS j)) = _; rw [key_rr]; exact (show decide (toS i = toS j) = (i == j) by rw [← toS_beq]; rfl)
    | _ => cases hb
  | _ => cases ha
section
variable {K : PySem.W.Frag} {H : Hp}
theorem RepK.key {k d : D} {l : List (D × D)} {kvs : List (Key × V)} : RepK K H ((k, d) :: l) kvs → ∃ v q, kvs = (kOf k, v) :: q ∧ isFlat k = true ∧ RepV K H d v ∧ RepK K H l q := fun ⟨κ, v, q, e, h1, h2, h3, h4⟩ =>
  ⟨v, q, by rw [e, kV_inj (kOf_v h2 h1)], h2, h3, h4⟩
theorem RepK.val : ∀ {l : List (D × D)} {kvs : List (Key × V)} {x : D}, RepK K H l kvs → isFlat x = true → match dget l x with
    | some d => ∃ v, valV kvs (kOf x) = some v ∧ RepV K H d v
    | none => valV kvs (kOf x) = none
  | [], _, _, h, _ => by rw [show _ = [] from h]; exact valV_nil
  | (k, d) :: l, _, x, h, hx => by
    obtain ⟨v, q, rfl, h2, h3, h4⟩ := h.key
    have e := kOf_inj h2 hx
    unfold dget
    by_cases hk : D.eqb k x = true
    · rw [if_pos hk]
      rw [hk] at e
      exact ⟨v, valV_pos (of_decide_eq_true e), h3⟩
    · rw [if_neg hk]
      have hk : D.eqb k x = false := by simpa using hk
      rw [hk] at e
      rw [valV_neg (p := (kOf k, v)) (of_decide_eq_false e)]
      exact RepK.val h4 hx
theorem RepK.some {l : List (D × D)} {kvs : List (Key × V)} {x d : D} (h : RepK K H l kvs) (hx : isFlat x = true) (e : dget l x = some d) : ∃ v, valV kvs (kOf x) = some v ∧ RepV K H d v := by
  have := h.val hx
  rw [e] at this
  exact this
theorem RepK.isSome {l : List (D × D)} {kvs : List (Key × V)} {x : D} (h : RepK K H l kvs) (hx : isFlat x = true) : (valV kvs (kOf x)).isSome = (dget l x).isSome := by
  have := h.val hx
  cases e : dget l x with
  | none => rw [e] at this; rw [this]; rfl
  | some d => rw [e] at this; obtain ⟨v, h1, _⟩ := this; rw [h1]; rfl
theorem RepK.length : ∀ {l : List (D × D)} {kvs : List (Key × V)}, RepK K H l kvs → l.length = kvs.length
  | [], _, h => by rw [show _ = [] from h]; rfl
  | (k, d) :: l, _, h => by obtain ⟨v, q, rfl, _, _, h4⟩ := h.key; rw [List.length_cons, List.length_cons, h4.length]
theorem RepK.any : ∀ {l : List (D × D)} {kvs : List (Key × V)} {x : D}, RepK K H l kvs → isFlat x = true → (kvs.any fun kv => decide (kv.1 = kOf x)) = l.any fun p => D.eqb p.1 x
  | [], _, _, h, _ => by rw [show _ = [] from h]; rfl
  | (k, d) :: l, _, x, h, hx => by
    obtain ⟨v, q, rfl, h2, _, h4⟩ := h.key
    rw [List.any_cons, List.any_cons, RepK.any h4 hx, kOf_inj h2 hx]
theorem RepK.one {k d : D} {v : V} (hk : isFlat k = true) (r : RepV K H d v) : RepK K H [(k, d)] [(kOf k, v)] := by
  refine ⟨_, _, _, rfl, ?_, hk, r, rfl⟩
  cases k with
  | int _ => rfl
  | str _ => rfl
  | _ => cases hk
theorem RepK.append : ∀ {l m : List (D × D)} {ks js : List (Key × V)}, RepK K H l ks → RepK K H m js → RepK K H (l ++ m) (ks ++ js)
  | [], _, _, _, h, q => by rw [show _ = [] from h]; exact q
  | (k, d) :: l, _, _, _, ⟨κ, v, q, e, h1, h2, h3, h4⟩, hm => by subst e; exact ⟨κ, v, _, rfl, h1, h2, h3, h4.append hm⟩
theorem RepK.mapPut {x y : D} {v : V} (hx : isFlat x = true) (rv : RepV K H y v) : ∀ {l : List (D × D)} {kvs : List (Key × V)}, RepK K H l kvs →
    RepK K H (l.map fun p => if D.eqb p.1 x = true then (p.1, y) else p) (kvs.map fun kv => if kv.1 = kOf x then (kv.1, v) else kv)
  | [], _, h => by rw [show _ = [] from h]; rfl
  | (k, d) :: l, _, h => by
    obtain ⟨u, q, rfl, h2, h3, h4⟩ := h.key
    obtain ⟨κ, _, _, e0, hk, _⟩ := h
    have ek : κ = kOf k := by cases e0; rfl
    subst ek
    have e := kOf_inj h2 hx
    rw [List.map_cons, List.map_cons]
    by_cases hk2 : D.eqb k x = true
    · rw [hk2] at e
      rw [if_pos hk2, if_pos (of_decide_eq_true e)]
      exact ⟨_, _, _, rfl, hk, h2, rv, RepK.mapPut hx rv h4⟩
    · have hk3 : D.eqb k x = false := by simpa using hk2
      rw [hk3] at e
      rw [if_neg hk2, if_neg (of_decide_eq_false e)]
      exact ⟨_, _, _, rfl, hk, h2, h3, RepK.mapPut hx rv h4⟩
theorem RepK.put {l : List (D × D)} {kvs : List (Key × V)} {x y : D} {v : V} (h : RepK K H l kvs) (hx : isFlat x = true) (rv : RepV K H y v) : RepK K H (dput l x y) (putK kvs (kOf x) v) := by
  unfold dput putK
  rw [h.any hx]
  split
  · exact h.mapPut hx rv
  · exact h.append (.one hx rv)
end
section
variable {X : Cx} {T : Tab} {G : Ctx} {H H' H1 : Hp} {μ μ' μ1 : Sto} {Q : D → Sto → Prop} {Q' : VK} {σ : L2.St} {ρ : Env}
variable {v u : Value} {x y : V} {pins : List (Addr × Obj)} {s : Shared} {dx dy : D} {k : Bool → Prop}
theorem in_tupk (hu : X.A.units + 65 < cLine) (I : Inv X pins σ H s) (rx : RelV x v) (hx : RepV X.K H dx x) (hk : isTupKey dx = true) {a : Nat} {xs : List (NestedKey × Addr × Value)} (dd : s.heap.DictOfH (NKd X) a xs) (hs : (a == sysModules) = false) {b : Bool} (hb : (atKey xs (toNK dx)).isSome = b) (q : k b) :
    (∀ Q', (∀ b, k b → Q' (.bl b) H) → wpAny (model X.prog X.w) X.A (compareOp .In v (.ref a)) (EP X pins σ Q') X.xe s) ∧ ∀ Q', (∀ b, k b → Q' (.bl (!b)) H) → wpAny (model X.prog X.w) X.A (compareOp .NotIn v (.ref a)) (EP X pins σ Q') X.xe s := by
  obtain ⟨hk7, ds, e⟩ := tkey_get hk
  have hx' : RepV X.K H (.tup ds) x := by rw [← e]; exact hx
  obtain ⟨p, vs, rfl, st, rl⟩ := hx'
  cases rx
  have hu' : (NKd X).room X.A.in1 := by show X.A.units + 1 + 8 < cLine; omega
  have key := tkey_is I hk hx
  exact ⟨fun Q' w => wpAny_in_heap hu' key hs dd ⟨.bl _, H, I.tok _, rfl, by rw [hb]; exact w _ q⟩, fun Q' w => PyProof.Rows.wpAny_notIn_heap hu' key hs dd ⟨.bl _, H, I.tok _, rfl, by rw [hb]; exact w _ q⟩⟩
theorem in_run (hu : X.A.units + 65 < cLine) (I : Inv X pins σ H s) (rx : RelV x v) (ry : RelV y u) (hx : RepV X.K H dx x) (hy : RepV X.K H dy y) (rh : RepH X.w X.K T H μ) (h : inP dx dy μ k) :
    (∀ Q', (∀ b, k b → Q' (.bl b) H) → wpAny (model X.prog X.w) X.A (compareOp .In v u) (EP X pins σ Q') X.xe s) ∧ ∀ Q', (∀ b, k b → Q' (.bl (!b)) H) → wpAny (model X.prog X.w) X.A (compareOp .NotIn v u) (EP X pins σ Q') X.xe s := by
  cases dy with
  | str j =>
    cases dx with
    | str i =>
      obtain ⟨c, e, q⟩ := h
      subst e
      cases hx; cases hy
      have e : decide (c ∈ (toS j).cps.toList) = j.contains c := by
        rw [Bool.eq_iff_iff]; simp
      exact ⟨fun Q' w => op_in_sign pins s σ H _ _ v u Q' I rx ry ⟨c, toS j, rfl, rfl, by rw [e]; exact w _ q⟩, fun Q' w => op_notIn_sign pins s σ H _ _ v u Q' I rx ry ⟨c, toS j, rfl, rfl, by rw [e]; exact w _ q⟩⟩
    | _ => exact h.elim
  | tup l =>
    have h : isFl dx = true ∧ l.all isFl = true ∧ k (l.any fun y => D.eqb y dx) := by
      cases dx <;> exact h
    obtain ⟨h1, h2, q⟩ := h
    obtain ⟨p, vs, rfl, st, rl⟩ := hy
    have e := flat_in h1 hx h2 rl
    refine ⟨fun Q' w => op_in_seq pins s σ H _ _ v u Q' I rx ry ⟨p, vs, rfl, .inr st, flat_v h1 hx, flat_vs h2 rl, ?_⟩, fun Q' w => op_notIn_seq pins s σ H _ _ v u Q' I rx ry ⟨p, vs, rfl, .inr st, flat_v h1 hx, flat_vs h2 rl, ?_⟩⟩
    · show Q' (.bl (inV x vs)) H
      rw [e]; exact w _ q
    · show Q' (.bl (!inV x vs)) H
      rw [e]; exact w _ q
  | ref a =>
    cases hy
    have h : (match μ a with
      | some (.lst l) => D.ok 60 dx = true ∧ l.all (D.ok 60) = true ∧ k (l.any fun y => D.eqb y dx)
      | some (.dF l) => (isFlat dx = true ∧ k (dget l dx).isSome) ∨ (l = [] ∧ isTupKey dx = true ∧ k false)
      | some (.dT l) => isTupKey dx = true ∧ k (dget l dx).isSome
      | _ => False) := by
      cases dx <;> exact h
    cases e : μ a with
    | none => rw [e] at h; exact h.elim
    | some o =>
      rw [e] at h
      cases o with
      | lst l =>
        obtain ⟨h1, h2, q⟩ := h
        obtain ⟨vs, hs, rl⟩ := rh a _ e
        have e2 := any_eqv h1 h2
        refine ⟨fun Q' w => op_inD hu pins s σ H _ _ v u Q' I rx ry ⟨_, _, rep_dp h1 hx, .lst (SqL.of hs) (rep_dps h2 rl), shaped_of (ok_lay h1), shaped_list h2, ?_⟩, fun Q' w => op_notInD hu pins s σ H _ _ v u Q' I rx ry ⟨_, _, rep_dp h1 hx, .lst (SqL.of hs) (rep_dps h2 rl), shaped_of (ok_lay h1), shaped_list h2, ?_⟩⟩
        · rw [e2]; exact w _ q
        · rw [e2]; exact w _ q
      | dF l =>
        rcases h with ⟨h1, q⟩ | ⟨rfl, h1, q⟩
        · obtain ⟨kvs, hs, rk⟩ := rh a _ e
          have ex := kOf_v h1 hx
          subst ex
          have e3 := rk.isSome h1
          cases ry
          refine ⟨fun Q' w => d_in (by omega) I (DGet.k (k := kOf dx) hs) rx fun s' I' => ⟨.bl _, H, I', rfl, ?_⟩, fun Q' w => d_notIn (by omega) I (DGet.k (k := kOf dx) hs) rx fun s' I' => ⟨.bl _, H, I', rfl, ?_⟩⟩
          · rw [e3]; exact w _ q
          · rw [e3]; exact w _ q
        · cases ry
          obtain ⟨dd, hs, _⟩ := dF_nil I rh e
          exact in_tupk hu I rx hx h1 dd hs rfl q
      | dT l =>
        cases ry
        obtain ⟨h1, q⟩ := h
        obtain ⟨xs, dd, hx2, hs, _⟩ := dT_of I rh e
        refine in_tupk hu I rx hx h1 dd hs ?_ q
        have lk := hx2.look h1
        cases e5 : dget l dx with
        | none => rw [e5] at lk; rw [lk]; rfl
        | some d => rw [e5] at lk; obtain ⟨p, _, e6, _⟩ := lk; rw [e6]; rfl
      | _ => exact h.elim
  | _ => cases dx <;> exact h.elim
theorem isNon_v {K : PySem.W.Frag} {d : D} {v : V} (h : RepV K H d v) : decide (v = .non) = isNon d := by
  cases d with
  | tup _ => obtain ⟨p, vs, e, _⟩ := h; subst e; rfl
  | scr _ => obtain ⟨p, e, _⟩ := h; subst e; rfl
  | _ => cases h; rfl
def trCmp : CmpOp → Option COp
  | .Eq => some .eq
  | .NotEq => some .ne
  | .Lt => some .lt
  | .LtE => some .le
  | .Gt => some .gt
  | .GtE => some .ge
  | .Is => some .is
  | .IsNot => some .isnot
  | .In => some .isin
  | .NotIn => some .notin
theorem op_cmp (hu : X.A.units + 65 < cLine) {op : CmpOp} {o : COp} (ht : trCmp op = some o) : OpR X (compareOp op) (rC X T o) := by
  intro pins s σ H x y v u Q' I rx ry ⟨dx, dy, μ, k, hx, hy, rh, h, w⟩
  cases op with
  | Eq => cases ht; exact (eq_run (by omega) I rx ry hx hy rh h).1 Q' w
  | NotEq => cases ht; exact (eq_run (k := fun b => k (!b)) (by omega) I rx ry hx hy rh h).2 Q' fun b hb => w _ hb
  | In => cases ht; exact (in_run hu I rx ry hx hy rh h).1 Q' w
  | NotIn => cases ht; exact (in_run (k := fun b => k (!b)) hu I rx ry hx hy rh h).2 Q' fun b hb => w _ hb
  | Lt =>
    cases ht
    cases dx with
    | int i =>
      cases dy with
      | int j => cases hx; cases hy; exact op_lt pins s σ H _ _ v u Q' I rx ry ⟨i, j, rfl, rfl, w _ h⟩
      | _ => exact h.elim
    | str i =>
      cases dy with
      | str j =>
        cases hx; cases hy
        refine op_lt_str pins s σ H _ _ v u Q' I rx ry ⟨_, _, rfl, rfl, ?_⟩
        have : k (strLt i j) := h
        rw [strLt_eq] at this
        simpa using w _ this
      | _ => exact h.elim
    | _ => exact h.elim
  | LtE =>
    cases ht
    cases dx with
    | int i =>
      cases dy with
      | int j => cases hx; cases hy; exact op_le pins s σ H _ _ v u Q' I rx ry ⟨i, j, rfl, rfl, w _ h⟩
      | _ => exact h.elim
    | _ => exact h.elim
  | Gt =>
    cases ht
    cases dx with
    | int i =>
      cases dy with
      | int j => cases hx; cases hy; exact op_gt pins s σ H _ _ v u Q' I rx ry ⟨i, j, rfl, rfl, w _ h⟩
      | _ => exact h.elim
    | _ => exact h.elim
  | GtE =>
    cases ht
    cases dx with
    | int i =>
      cases dy with
      | int j => cases hx; cases hy; exact op_ge pins s σ H _ _ v u Q' I rx ry ⟨i, j, rfl, rfl, w _ h⟩
      | _ => exact h.elim
    | _ => exact h.elim
  | Is =>
    cases ht
    cases dy with
    | non =>
      cases hy
      have h : k (isNon dx) := by cases dx <;> exact h
      refine op_isN pins s σ H _ _ v u Q' I rx ry ⟨rfl, ?_⟩
      rw [isNon_v hx]; exact w _ h
    | bl b =>
      cases hy
      cases dx with
      | bl c =>
        cases hx
        refine op_isBl pins s σ H _ _ v u Q' I rx ry ⟨c, b, rfl, rfl, ?_⟩
        have e : decide (c = b) = (c == b) := by rw [Bool.beq_eq_decide_eq]
        rw [e]; exact w _ h
      | _ => exact h.elim
    | _ => cases dx <;> exact h.elim
  | IsNot =>
    cases ht
    cases dy with
    | non =>
      cases hy
      have h : k (!isNon dx) := by cases dx <;> exact h
      refine op_notN pins s σ H _ _ v u Q' I rx ry ⟨rfl, ?_⟩
      rw [isNon_v hx]; exact w _ h
    | bl b =>
      cases hy
      cases dx with
      | bl c =>
        cases hx
        refine op_notBl pins s σ H _ _ v u Q' I rx ry ⟨c, b, rfl, rfl, ?_⟩
        have e : decide (c = b) = (c == b) := by rw [Bool.beq_eq_decide_eq]
        rw [e]; exact w _ h
      | _ => exact h.elim
    | _ => cases dx <;> exact h.elim
theorem e_cmp (hu : X.A.units + 65 < cLine) {op : CmpOp} {o : COp} {a b : Expr} {ca cb : E} {pos : Pos} (ht : trCmp op = some o) (ha : PE X a (tE X T G ca)) (hb : PE X b (tE X T G cb)) (hm : behindInMarks op b = false) : PE X (.Compare a [op] [b] pos) (tE X T G (.cmp o ca cb)) :=
  (pe_cmpR (op_cmp (T := T) hu ht) ha hb hm).imp fun σ H Q' ⟨ρ, μ, Q, rs, rh, hw, p⟩ =>
    ⟨ρ, μ, _, rs, rh, hw, fun x vx H1 μ1 rx rh1 f1 q1 => ⟨ρ, μ1, _, rs.mono (f1.keeps rh), rh1, q1, fun y vy H2 μ2 ry rh2 f2 q2 =>
      ⟨x, y, μ2, _, rx.mono (f2.keeps rh1), ry, rh2, q2, fun b hb => (p.step (f1.trans f2)).bl rh2 hb⟩⟩⟩
theorem t_cmp (hu : X.A.units + 65 < cLine) {op : CmpOp} {o : COp} {a b : Expr} {ca cb : E} {pos : Pos} (ht : trCmp op = some o) (ha : PE X a (tE X T G ca)) (hb : PE X b (tE X T G cb)) (hm : behindInMarks op b = false) : PT X (.Compare a [op] [b] pos) (tB X T G (.cmp o ca cb)) :=
  (pt_cmpR (op_cmp (T := T) hu ht) ha hb hm).imp fun σ H Q' ⟨ρ, μ, Q, rs, rh, hw, p⟩ =>
    ⟨ρ, μ, _, rs, rh, hw, fun x vx H1 μ1 rx rh1 f1 q1 => ⟨ρ, μ1, _, rs.mono (f1.keeps rh), rh1, q1, fun y vy H2 μ2 ry rh2 f2 q2 =>
      ⟨x, y, μ2, _, rx.mono (f2.keeps rh1), ry, rh2, q2, fun b hb => ⟨b, rfl, p b H2 μ2 rh2 (f1.trans f2) hb⟩⟩⟩⟩
theorem br_get {d : D} {A B : Prop} (h : br d A B) : ∃ b, d = .bl b ∧ (b = true → A) ∧ (b = false → B) := by
  cases d with
  | bl b => exact ⟨b, rfl, h⟩
  | _ => exact h.elim
theorem isB_get {d : D} {k : Bool → Prop} (h : isB d k) : ∃ b, d = .bl b ∧ k b := by
  cases d with
  | bl b => exact ⟨b, rfl, h⟩
  | _ => exact h.elim
theorem e_cmp2 (hu : X.A.units + 65 < cLine) {op op' : CmpOp} {o o' : COp} {a b c : Expr} {ca cb cc : E} {pos : Pos} (ht : trCmp op = some o) (ht' : trCmp op' = some o') (ha : PE X a (tE X T G ca)) (hb : PE X b (tE X T G cb)) (hc : PE X c (tE X T G cc))
    (hm : lastMarks [op, op'] [b, c] = false) : PE X (.Compare a [op, op'] [b, c] pos) (tE X T G (.cmp2 o o' ca cb cc)) :=
  (pe_chain (op_cmp (T := T) hu ht) (op_cmp (T := T) hu ht') ha hb hc hm).imp fun σ H Q' ⟨ρ, μ, Q, rs, rh, hw, p⟩ =>
    ⟨ρ, μ, _, rs, rh, hw, fun x vx H1 μ1 rx rh1 f1 q1 => ⟨ρ, μ1, _, rs.mono (f1.keeps rh), rh1, q1, fun y vy H2 μ2 ry rh2 f2 q2 =>
      ⟨x, y, μ2, _, rx.mono (f2.keeps rh1), ry, rh2, q2, fun b hb => ⟨b, rfl, by
        obtain ⟨h1, h2⟩ := hb
        cases b with
        | true =>
          rw [if_pos rfl]
          exact ⟨ρ, μ2, _, rs.mono ((f1.trans f2).keeps rh), rh2, h1 rfl, fun z vz H3 μ3 rz rh3 f3 q3 => ⟨y, z, μ3, _, ry.mono (f3.keeps rh2), rz, rh3, q3, fun b hb => (p.step ((f1.trans f2).trans f3)).bl rh3 hb⟩⟩
        | false =>
          rw [if_neg (by decide)]
          exact (p.step (f1.trans f2)).bl rh2 (h2 rfl)⟩⟩⟩⟩
theorem t_cmp2 (hu : X.A.units + 65 < cLine) {op op' : CmpOp} {o o' : COp} {a b c : Expr} {ca cb cc : E} {pos : Pos} (ht : trCmp op = some o) (ht' : trCmp op' = some o') (ha : PE X a (tE X T G ca)) (hb : PE X b (tE X T G cb)) (hc : PE X c (tE X T G cc))
    (hm : lastMarks [op, op'] [b, c] = false) : PT X (.Compare a [op, op'] [b, c] pos) (tB X T G (.cmp2 o o' ca cb cc)) :=
  (pt_chain (op_cmp (T := T) hu ht) (op_cmp (T := T) hu ht') ha hb hc hm).imp fun σ H Q' ⟨ρ, μ, Q, rs, rh, hw, p⟩ =>
    ⟨ρ, μ, _, rs, rh, hw, fun x vx H1 μ1 rx rh1 f1 q1 => ⟨ρ, μ1, _, rs.mono (f1.keeps rh), rh1, q1, fun y vy H2 μ2 ry rh2 f2 q2 =>
      ⟨x, y, μ2, _, rx.mono (f2.keeps rh1), ry, rh2, q2, fun b hb => ⟨b, rfl, by
        obtain ⟨h1, h2⟩ := hb
        cases b with
        | true =>
          rw [if_pos rfl]
          exact ⟨ρ, μ2, _, rs.mono ((f1.trans f2).keeps rh), rh2, h1 rfl, fun z vz H3 μ3 rz rh3 f3 q3 => ⟨y, z, μ3, _, ry.mono (f3.keeps rh2), rz, rh3, q3, fun b hb => ⟨b, rfl, p b H3 μ3 rh3 ((f1.trans f2).trans f3) hb⟩⟩⟩
        | false =>
          rw [if_neg (by decide)]
          exact ⟨false, rfl, p false H2 μ2 rh2 (f1.trans f2) (h2 rfl)⟩⟩⟩⟩⟩
theorem t_val {e : Expr} {c : E} (h : PE X e (tE X T G c)) (he : ∀ whole, isTrue e X.env whole = (do let v ← whole; standAt e.pos; holding [v] (truthy v))) : PT X e (tB X T G c) :=
  (pt_val h he).imp fun σ H Q' ⟨ρ, μ, Q, rs, rh, hw, p⟩ =>
    ⟨ρ, μ, _, rs, rh, hw, fun x vx H1 μ1 rx rh1 f1 q1 => by
      obtain ⟨b, e, q⟩ := isB_get q1
      subst e
      exact ⟨b, rx, p b H1 μ1 rh1 f1 q⟩⟩
theorem t_not {a : Expr} {ca : E} {pos : Pos} (ha : PT X a (tB X T G ca)) : PT X (.UnaryOp .Not a pos) (tB X T G (.not ca)) :=
  (pt_not ha).imp fun σ H Q' ⟨ρ, μ, Q, rs, rh, hw, p⟩ => ⟨ρ, μ, fun b μ1 => Q (!b) μ1, rs, rh, hw, fun b H1 μ1 rh1 f1 q1 => p _ H1 μ1 rh1 f1 q1⟩
theorem tru_get {d : D} {v : V} {H : Hp} {μ : Sto} {k : Bool → Prop} (rh : RepH X.w X.K T H μ) (r : RepV X.K H d v) (h : truP d μ k) : ∃ b, TruV X.K v H b ∧ k b := by
  have emp : ∀ {ds : List D} {vs : List V}, RepVs X.K H ds vs → (!vs.isEmpty) = !ds.isEmpty := fun {ds vs} r => by
    cases ds with
    | nil => rw [show vs = [] from r]; rfl
    | cons d ds => obtain ⟨v, q, e, _⟩ := r; rw [e]; rfl
  cases d with
  | bl b => cases r; exact ⟨b, rfl, h⟩
  | tup ds =>
    obtain ⟨p, vs, e, hs, rs⟩ := r
    subst e
    exact ⟨!ds.isEmpty, .inr (.inl ⟨vs, hs, (emp rs).symm⟩), h⟩
  | ref a =>
    cases r
    unfold truP at h
    cases e : μ a with
    | none => simp only [e] at h
    | some o =>
      simp only [e] at h
      cases o with
      | lst l =>
        obtain ⟨vs, e1, r1⟩ := rh a _ e
        exact ⟨!l.isEmpty, .inl ⟨vs, .inl (.inl e1), (emp r1).symm⟩, h⟩
      | dF l =>
        obtain ⟨kvs, e1, r1⟩ := rh a _ e
        refine ⟨!l.isEmpty, .inr (.inr ⟨kvs, e1, ?_⟩), h⟩
        cases l with
        | nil => rw [show kvs = [] from r1]; rfl
        | cons d ds => obtain ⟨κ, v, q, e, _⟩ := r1; rw [e]; rfl
      | _ => exact h.elim
  | _ => exact (show False from h).elim
theorem t_tru {a : Expr} {ca : E} (ha : PE X a (tE X T G ca)) (he : ∀ whole, isTrue a X.env whole = (do let v ← whole; standAt a.pos; holding [v] (truthy v))) : PT X a (tB X T G (.tru ca)) :=
  (pt_truth ha he).imp fun σ H Q' ⟨ρ, μ, Q, rs, rh, hw, p⟩ => ⟨ρ, μ, _, rs, rh, hw, fun x vx H1 μ1 rx rh1 f1 q1 => by
    obtain ⟨b, hb, q⟩ := tru_get rh1 rx q1
    exact ⟨b, hb, p b H1 μ1 rh1 f1 q⟩⟩
theorem e_notT {a : Expr} {ca : E} {pos : Pos} (ha : PE X a (tE X T G ca)) : PE X (.UnaryOp .Not a pos) (tE X T G (.not (.tru ca))) :=
  (pe_notT ha).imp fun σ H Q' ⟨ρ, μ, Q, rs, rh, hw, p⟩ => ⟨ρ, μ, _, rs, rh, hw, fun x vx H1 μ1 rx rh1 f1 q1 => by
    obtain ⟨b, hb, q⟩ := tru_get rh1 rx q1
    exact ⟨b, hb, (p.step f1).bl rh1 q⟩⟩
theorem e_not {a : Expr} {ca : E} {pos : Pos} (ha : PE X a (tE X T G ca)) : PE X (.UnaryOp .Not a pos) (tE X T G (.not ca)) :=
  (pe_not ha).imp fun σ H Q' ⟨ρ, μ, Q, rs, rh, hw, p⟩ => ⟨ρ, μ, _, rs, rh, hw, fun x vx H1 μ1 rx rh1 f1 q1 => by
    cases x with
    | bl b => exact ⟨b, rx, (p.step f1).bl rh1 q1⟩
    | _ => exact q1.elim⟩
theorem w_and {a b : Expr} {rest : List Expr} {ca cb : E} {pos : Pos} (ha : PT X a (tB X T G ca)) (hb : PW X (.BoolOp .And (b :: rest) pos) (tB X T G cb)) : PW X (.BoolOp .And (a :: b :: rest) pos) (tB X T G (.and ca cb)) :=
  (pw_and ha hb).imp fun σ H Q' ⟨ρ, μ, Q, rs, rh, hw, p⟩ =>
    ⟨ρ, μ, _, rs, rh, hw, fun b H1 μ1 rh1 f1 q1 => by
      obtain ⟨h1, h2⟩ := q1
      cases b with
      | true =>
        rw [if_pos rfl]
        exact ⟨ρ, μ1, Q, rs.mono (f1.keeps rh), rh1, h1 rfl, fun b H2 μ2 rh2 f2 q2 => p b H2 μ2 rh2 (f1.trans f2) q2⟩
      | false =>
        rw [if_neg (by decide)]
        exact p false H1 μ1 rh1 f1 (h2 rfl)⟩
theorem w_or {a b : Expr} {rest : List Expr} {ca cb : E} {pos : Pos} (ha : PT X a (tB X T G ca)) (hb : PW X (.BoolOp .Or (b :: rest) pos) (tB X T G cb)) : PW X (.BoolOp .Or (a :: b :: rest) pos) (tB X T G (.or ca cb)) :=
  (pw_or ha hb).imp fun σ H Q' ⟨ρ, μ, Q, rs, rh, hw, p⟩ =>
    ⟨ρ, μ, _, rs, rh, hw, fun b H1 μ1 rh1 f1 q1 => by
      obtain ⟨h1, h2⟩ := q1
      cases b with
      | true =>
        rw [if_pos rfl]
        exact p true H1 μ1 rh1 f1 (h1 rfl)
      | false =>
        rw [if_neg (by decide)]
        exact ⟨ρ, μ1, Q, rs.mono (f1.keeps rh), rh1, h2 rfl, fun b H2 μ2 rh2 f2 q2 => p b H2 μ2 rh2 (f1.trans f2) q2⟩⟩
theorem e_and {a b : Expr} {rest : List Expr} {ca cb : E} {pos : Pos} (ha : PE X a (tE X T G ca)) (hb : PE X (.BoolOp .And (b :: rest) pos) (tE X T G cb)) : PE X (.BoolOp .And (a :: b :: rest) pos) (tE X T G (.and ca cb)) :=
  (pe_and ha hb).imp fun σ H Q' ⟨ρ, μ, Q, rs, rh, hw, p⟩ =>
    ⟨ρ, μ, _, rs, rh, hw, fun x vx H1 μ1 rx rh1 f1 q1 => by
      obtain ⟨b, e, h1, h2⟩ := br_get q1
      subst e
      refine ⟨b, rx, ?_⟩
      cases b with
      | true =>
        rw [if_pos rfl]
        exact ⟨ρ, μ1, _, rs.mono (f1.keeps rh), rh1, h1 rfl, fun y vy H2 μ2 ry rh2 f2 q2 => by
          cases y with
          | bl c => exact (p.step (f1.trans f2)) (.bl c) _ _ _ ry rh2 .refl q2
          | _ => exact q2.elim⟩
      | false =>
        rw [if_neg (by decide)]
        exact (p.step f1).bl rh1 (h2 rfl)⟩
theorem e_or {a b : Expr} {rest : List Expr} {ca cb : E} {pos : Pos} (ha : PE X a (tE X T G ca)) (hb : PE X (.BoolOp .Or (b :: rest) pos) (tE X T G cb)) : PE X (.BoolOp .Or (a :: b :: rest) pos) (tE X T G (.or ca cb)) :=
  (pe_or ha hb).imp fun σ H Q' ⟨ρ, μ, Q, rs, rh, hw, p⟩ =>
    ⟨ρ, μ, _, rs, rh, hw, fun x vx H1 μ1 rx rh1 f1 q1 => by
      obtain ⟨b, e, h1, h2⟩ := br_get q1
      subst e
      refine ⟨b, rx, ?_⟩
      cases b with
      | true =>
        rw [if_pos rfl]
        exact (p.step f1).bl rh1 (h1 rfl)
      | false =>
        rw [if_neg (by decide)]
        exact ⟨ρ, μ1, _, rs.mono (f1.keeps rh), rh1, h2 rfl, fun y vy H2 μ2 ry rh2 f2 q2 => by
          cases y with
          | bl c => exact (p.step (f1.trans f2)) (.bl c) _ _ _ ry rh2 .refl q2
          | _ => exact q2.elim⟩⟩
def rIxD (X : Cx) (T : Tab) : R2 := fun x y H Q' => ∃ dx dy μ Q, RepV X.K H dx x ∧ RepV X.K H dy y ∧ RepH X.w X.K T H μ ∧ idxP dx dy μ (fun d => Q d μ) ∧ Pst X T H μ Q Q'
theorem ixN_eq (n : Nat) (i : Int) : MP.ixN n i = L2.ixN n i := rfl
theorem RepVs.at {K : PySem.W.Frag} {l : List D} {vs : List V} {i : Int} {d : D} (r : RepVs K H l vs) (h : getI l i = some d) : ∃ v, atI vs i = some v ∧ RepV K H d v := by
  unfold getI at h
  unfold atI
  rw [← r.length, ← ixN_eq]
  cases e : MP.ixN l.length i with
  | none => rw [e] at h; cases h
  | some j =>
    rw [e] at h
    exact r.get h
theorem ix_run (hu : X.A.units + 65 < cLine) : IxR X (rIxD X T) := by
  intro value slice pins s σ H x y v u Q' I rx ry ⟨dx, dy, μ, Q, hx, hy, rh, h, p⟩ hs
  cases dx with
  | tup l =>
    cases dy with
    | int i =>
      cases hy
      obtain ⟨q, vs, rfl, st, rl⟩ := hx
      obtain ⟨d, e, h⟩ := optP_get h
      obtain ⟨z, h1, h2⟩ := rl.at e
      exact ix_tup value slice pins s σ H _ _ v u Q' I rx ry ⟨q, vs, i, z, rfl, rfl, st, h1, p.val rh h2 h⟩ hs
    | _ => exact h.elim
  | str l =>
    cases dy with
    | int i =>
      cases hx; cases hy
      obtain ⟨hz, h⟩ := h
      obtain ⟨c, e, h⟩ := optP_get h
      refine ix_str value slice pins s σ H _ _ v u Q' I rx ry ⟨toS l, i, c, rfl, rfl, ?_, ?_, p.str rh (x := [c]) h⟩ hs
      · show l.toArray.size ≤ sizeLine
        rw [← sizeMax_eq]; simpa using hz
      · show atI l.toArray.toList i = some c
        rw [List.toList_toArray]
        unfold getI at e
        unfold atI
        rw [← ixN_eq]
        cases e2 : MP.ixN l.length i with
        | none => rw [e2] at e; cases e
        | some j => rw [e2] at e; exact e
    | _ => exact h.elim
  | scr l =>
    cases dy with
    | int i =>
      cases hy
      obtain ⟨q, rfl, fz⟩ := hx
      obtain ⟨d, e, h⟩ := optP_get h
      refine ix_list value slice pins s σ H _ _ v u Q' I rx ry ⟨q, _, i, .int d, rfl, rfl, fz.sq, ?_, p.int rh h⟩ hs
      unfold getI at e
      unfold atI
      rw [List.length_map, ← ixN_eq]
      cases e2 : MP.ixN l.length i with
      | none => rw [e2] at e; cases e
      | some j =>
        rw [e2] at e
        have e : l[j]? = some d := e
        show (l.map V.int)[j]? = some (V.int d)
        rw [List.getElem?_map, e]; rfl
    | _ => exact h.elim
  | ref a =>
    cases hx
    cases e : μ a with
    | none => cases dy <;> simp [idxP, e] at h
    | some o =>
      cases o with
      | lst l =>
        obtain ⟨vs, hs1, rl⟩ := rh a _ e
        cases dy with
        | int i =>
          cases hy
          have h : optP (getI l i) (fun d => Q d μ) := by simpa [idxP, e] using h
          obtain ⟨d, e3, h⟩ := optP_get h
          obtain ⟨z, h1, h2⟩ := rl.at e3
          exact ix_list value slice pins s σ H _ _ v u Q' I rx ry ⟨a, vs, i, z, rfl, rfl, SqL.of hs1, h1, p.val rh h2 h⟩ hs
        | _ => simp [idxP, e] at h
      | dF l =>
        obtain ⟨kvs, hs1, rk⟩ := rh a _ e
        have h : isFlat dy = true ∧ optP (dget l dy) (fun d => Q d μ) := by
          cases dy <;> simpa [idxP, e] using h
        obtain ⟨h1, h⟩ := h
        obtain ⟨d, e3, h⟩ := optP_get h
        obtain ⟨z, h4, h5⟩ := rk.some h1 e3
        have ex := kOf_v h1 hy
        subst ex
        cases rx
        have g : DGet H a (kV (kOf dy)) (some z) := by rw [← h4]; exact DGet.k hs1
        exact PyProof.Rows.tail_any (dict_typeIs I g) PySem.F.slot_dict_getitem.lookup (d_getItem (by omega) I g ry fun w' s3 I3 rw' => ⟨z, H, I3, rw', p.val rh h5 h⟩) hs
      | dL l =>
        obtain ⟨od, kvs, hs1, rk⟩ := rh a _ e
        have h : isFlat dy = true ∧ optP (dget l dy) (fun d => Q d μ) := by
          cases dy <;> simpa [idxP, e] using h
        obtain ⟨h1, h⟩ := h
        obtain ⟨d, e3, h⟩ := optP_get h
        obtain ⟨z, h4, h5⟩ := rk.some h1 e3
        have ex := kOf_v h1 hy
        subst ex
        cases rx
        have g : DGet H a (kV (kOf dy)) (some z) := by rw [← h4]; exact .inl ⟨kvs, _, .inr ⟨od, hs1⟩, rfl, rfl⟩
        exact PyProof.Rows.tail_any (dict_typeIs I g) PySem.F.slot_dict_getitem.lookup (d_getItem (by omega) I g ry fun w' s3 I3 rw' => ⟨z, H, I3, rw', p.val rh h5 h⟩) hs
      | dT l =>
        have h : isTupKey dy = true ∧ optP (dget l dy) (fun d => Q d μ) := by
          cases dy <;> simpa [idxP, e] using h
        obtain ⟨h1, h⟩ := h
        obtain ⟨d, e3, h⟩ := optP_get h
        obtain ⟨xs, dd, hx2, hss, _⟩ := dT_of I rh e
        have lk := hx2.look h1
        rw [e3] at lk
        obtain ⟨q, z, e4, h4, h5⟩ := lk
        obtain ⟨hk7, ds, ed⟩ := tkey_get h1
        have hy' : RepV X.K H (.tup ds) y := by rw [← ed]; exact hy
        obtain ⟨t, vs, rfl, st, rl⟩ := hy'
        cases rx; cases ry
        have hu' : (NKd X).room X.A.in1 := by show X.A.units + 1 + 8 < cLine; omega
        exact PyProof.Rows.tail_any dd.typeIs PySem.F.slot_dict_getitem.lookup (wpAny_getItem_heap hu' (tkey_is I h1 hy) dd e4 ⟨z, H, I.tok _, h5, p.val rh h4 h⟩) hs
      | _ => cases dy <;> simp [idxP, e] at h
  | _ => cases dy <;> exact h.elim
theorem e_idx (hu : X.A.units + 65 < cLine) {a i : Expr} {ca ci : E} {pos : Pos} (ha : PE X a (tE X T G ca)) (hi : PE X i (tE X T G ci)) (hs : PlainIx i) : PE X (.Subscript a i pos) (tE X T G (.idx ca ci)) :=
  (pe_ix (ix_run (T := T) hu) ha hi hs).imp fun σ H Q' ⟨ρ, μ, Q, rs, rh, hw, p⟩ =>
    ⟨ρ, μ, _, rs, rh, hw, fun x vx H1 μ1 rx rh1 f1 q1 => ⟨ρ, μ1, _, rs.mono (f1.keeps rh), rh1, q1, fun y vy H2 μ2 ry rh2 f2 q2 =>
      ⟨x, y, μ2, Q, rx.mono (f2.keeps rh1), ry, rh2, q2, p.step (f1.trans f2)⟩⟩⟩
end
end MP

set_option linter.all false
set_option maxRecDepth 100000
set_option maxHeartbeats 1000000
set_option Elab.async false
namespace MP
open PySem PySem.Spec PyProof.Rows L2
section
variable {X : Cx} {T : Tab} {G : Ctx} {H H' H1 : Hp} {μ μ' μ1 : Sto} {Q : D → Sto → Prop} {Q' : VK} {σ : L2.St} {ρ : Env}
def tyO : Ob → String
  | .dF _ => "dict"
  | _ => "list"
def tyN (d : D) (μ : Sto) : String := match d with
  | .non => "NoneType"
  | .bl _ => "bool"
  | .int _ => "int"
  | .str _ => "str"
  | .tup _ => "tuple"
  | .ref a => ((μ a).map tyO).getD "list"
  | .scr _ => "list"
def trTy : Ty → String
  | .int => "int"
  | .bool => "bool"
  | .tuple => "tuple"
  | .str => "str"
theorem isiOk_ref {a : Nat} (h : isiOk (.ref a) μ) : (∃ l, μ a = some (.lst l)) ∨ ∃ l, μ a = some (.dF l) := by
  have h : ((μ a).map lstOrD) = some true := h
  cases e : μ a with
  | none => rw [e] at h; cases h
  | some o =>
    rw [e] at h
    cases o with
    | lst l => exact .inl ⟨l, rfl⟩
    | dF l => exact .inr ⟨l, rfl⟩
    | dT l => cases h
    | dL l => cases h
    | ins c l => cases h
    | exc c o => cases h
    | exn c => cases h
theorem tyX_of {d : D} {v : V} (rh : RepH X.w X.K T H μ) (r : RepV X.K H d v) (h : isiOk d μ) : TyX X.K H v (.type (tyN d μ)) := by
  cases d with
  | non => cases r; exact .base .non
  | bl b => cases r; exact .base (.bl b)
  | int i => cases r; exact .base (.int i)
  | str x => cases r; exact .base (.str _)
  | tup ds =>
    obtain ⟨p, vs, rfl, st, _⟩ := r
    rcases st with (st | ⟨o, st⟩) | ⟨o, its, n, hk, hc, _⟩
    · exact .base (.tup st)
    · exact .fTuple st
    · exact .kTuple hk hc
  | ref a =>
    cases r
    rcases isiOk_ref h with ⟨l, e⟩ | ⟨l, e⟩
    · obtain ⟨vs, hs, _⟩ := rh a _ e
      have : tyN (.ref a) μ = "list" := by show ((μ a).map tyO).getD "list" = _; rw [e]; rfl
      rw [this]
      exact .base (.lst hs)
    · obtain ⟨vs, hs, _⟩ := rh a _ e
      have : tyN (.ref a) μ = "dict" := by show ((μ a).map tyO).getD "list" = _; rw [e]; rfl
      rw [this]
      exact .base (.dK hs)
  | scr l => exact h.elim
def tyPs (s : String) (t : Ty) : Bool := match s, t with
  | "int", .int => true
  | "bool", .int => true
  | "bool", .bool => true
  | "tuple", .tuple => true
  | "str", .str => true
  | _, _ => false
theorem kit_s : ∀ s ∈ ["NoneType", "bool", "int", "str", "tuple", "list", "dict"], ∀ t ∈ [Ty.int, .bool, .tuple, .str], kitB s (trTy t) = some (tyPs s t) := by decide +kernel
theorem ty_mem (t : Ty) : t ∈ [Ty.int, .bool, .tuple, .str] := by cases t <;> simp
theorem kit_d {d : D} (t : Ty) (h : isiOk d μ) : kitB (tyN d μ) (trTy t) = some (isiP d t) := by
  have key : ∀ s, s ∈ ["NoneType", "bool", "int", "str", "tuple", "list", "dict"] → tyN d μ = s → tyPs s t = isiP d t → kitB (tyN d μ) (trTy t) = some (isiP d t) := fun s hs e1 e2 => by
    rw [e1, kit_s s hs t (ty_mem t), e2]
  cases d with
  | ref a =>
    rcases isiOk_ref h with ⟨l, e⟩ | ⟨l, e⟩
    · exact key "list" (by simp) (by show ((μ a).map tyO).getD "list" = _; rw [e]; rfl) (by cases t <;> rfl)
    · exact key "dict" (by simp) (by show ((μ a).map tyO).getD "list" = _; rw [e]; rfl) (by cases t <;> rfl)
  | scr l => exact h.elim
  | non => exact key "NoneType" (by simp) rfl (by cases t <;> rfl)
  | bl _ => exact key "bool" (by simp) rfl (by cases t <;> rfl)
  | int _ => exact key "int" (by simp) rfl (by cases t <;> rfl)
  | str _ => exact key "str" (by simp) rfl (by cases t <;> rfl)
  | tup _ => exact key "tuple" (by simp) rfl (by cases t <;> rfl)
theorem e_isi {a : Expr} {ca : E} {t : Ty} {p p2 pos : Pos} (hg : Gl X "isinstance") (hm : X.mg "isinstance" = none) (hg2 : Gl X (trTy t)) (hm2 : X.mg (trTy t) = none) (ha : PE X a (tE X T G ca))
    (he : ∀ es, starEach (a :: es) X.env = (false, eval a X.env) :: starEach es X.env) : PE X (.Call (.Name "isinstance" p) [a, .Name (trTy t) p2] [] pos) (tE X T G (.isi ca t)) := by
  have hb : PE X (.Name (trTy t) p2) (tC (.ty (trTy t))) := by
    cases t with
    | int => exact pe_bltn hg2 hm2 boot_int rfl
    | bool => exact pe_bltn hg2 hm2 boot_bool rfl
    | tuple => exact pe_bltn hg2 hm2 boot_tuple rfl
    | str => exact pe_bltn hg2 hm2 boot_str rfl
  refine (pe_callB call_isi hg hm boot_isinstance (pa_cons ha (pa_cons hb pa_nil) (he _)) (he := he _) (hpl := rfl)).imp fun σ H Q' ⟨ρ, μ, Q, rs, rh, hw, p⟩ => ?_
  refine ⟨ρ, μ, _, rs, rh, hw, fun x vx H1 μ1 rx rh1 f1 q1 => ?_⟩
  obtain ⟨h1, q⟩ := q1
  exact ⟨vx, .ty (trTy t), _, _, isiP x t, rfl, .ty _, tyX_of rh1 rx h1, kit_ty (kit_d t h1), (p.step f1).bl rh1 q⟩
def rP (X : Cx) (T : Tab) (p : Prim) : List V → Hp → VK → Prop := fun vs H Q' => ∃ ds μ Q, RepVs X.K H ds vs ∧ RepH X.w X.K T H μ ∧ primP p ds μ Q ∧ Pst X T H μ Q Q'
theorem e_primB {id : String} {x : Str} {e : Expr} {es : List Expr} {c : E} {p : Prim} {pp pos : Pos} (hc : CallR X (.builtin id) (rP X T p)) (hg : Gl X x) (hm : X.mg x = none) (hv : bootBuiltins x = some (.builtin id)) (ha : PA X (e :: es) (tA X T G c)) (hn : x ≠ "__name__") (hdb : (x == ("__debug__" : Str)) = false)
    (he : starEach (e :: es) X.env = (false, eval e X.env) :: starEach es X.env) (hpl : (backTo pos (starEach es X.env)).any (·.1) = false) : PE X (.Call (.Name x pp) (e :: es) [] pos) (tE X T G (.prim p c)) :=
  (pe_callB hc hg hm hv ha hn hdb he hpl).imp fun σ H Q' ⟨ρ, μ, Q, rs, rh, hw, p⟩ => ⟨ρ, μ, _, rs, rh, hw, fun ds vs H1 μ1 rv rh1 f1 _ q1 => ⟨ds, μ1, Q, rv, rh1, q1, p.step f1⟩⟩
theorem e_primT {id : String} {x : Str} {e : Expr} {es : List Expr} {c : E} {p : Prim} {pp pos : Pos} (hc : CallR X (.type id) (rP X T p)) (hg : Gl X x) (hm : X.mg x = none) (hv : bootBuiltins x = some (.type id)) (ha : PA X (e :: es) (tA X T G c)) (hn : x ≠ "__name__") (hdb : (x == ("__debug__" : Str)) = false)
    (he : starEach (e :: es) X.env = (false, eval e X.env) :: starEach es X.env) (hpl : (backTo pos (starEach es X.env)).any (·.1) = false) : PE X (.Call (.Name x pp) (e :: es) [] pos) (tE X T G (.prim p c)) :=
  (pe_callTy hc hg hm hv ha hn hdb he hpl).imp fun σ H Q' ⟨ρ, μ, Q, rs, rh, hw, p⟩ => ⟨ρ, μ, _, rs, rh, hw, fun ds vs H1 μ1 rv rh1 f1 _ q1 => ⟨ds, μ1, Q, rv, rh1, q1, p.step f1⟩⟩
theorem RepVs.get1 {K : PySem.W.Frag} {d : D} {vs : List V} (h : RepVs K H [d] vs) : ∃ v, vs = [v] ∧ RepV K H d v := by
  obtain ⟨v, r, e, h1, h2⟩ := h
  cases h2
  exact ⟨v, e, h1⟩
theorem RepVs.get2 {K : PySem.W.Frag} {d e : D} {vs : List V} (h : RepVs K H [d, e] vs) : ∃ v u, vs = [v, u] ∧ RepV K H d v ∧ RepV K H e u := by
  obtain ⟨v, r, e, h1, h2⟩ := h
  subst e
  obtain ⟨u, rfl, h3⟩ := RepVs.get1 h2
  exact ⟨v, u, rfl, h1, h3⟩
theorem RepVs.get3 {K : PySem.W.Frag} {d e f : D} {vs : List V} (h : RepVs K H [d, e, f] vs) : ∃ v u w, vs = [v, u, w] ∧ RepV K H d v ∧ RepV K H e u ∧ RepV K H f w := by
  obtain ⟨v, r, e, h1, h2⟩ := h
  subst e
  obtain ⟨u, w, rfl, h3, h4⟩ := RepVs.get2 h2
  exact ⟨v, u, w, rfl, h1, h3, h4⟩
theorem seq_get {d : D} {v : V} {k : List D → Prop} (rh : RepH X.w X.K T H μ) (r : RepV X.K H d v) (h : seqP d μ k) : ∃ l p vs, k l ∧ v = .ref p ∧ (SqL X.K H p vs ∧ (∃ a, d = .ref a) ∨ SqT X.K H p vs ∧ d = .tup l) ∧ RepVs X.K H l vs := by
  cases d with
  | tup l =>
    obtain ⟨p, vs, rfl, st, rl⟩ := r
    exact ⟨l, p, vs, h, rfl, .inr ⟨st, rfl⟩, rl⟩
  | ref a =>
    cases r
    obtain ⟨l, e, h⟩ := rdL_get h
    obtain ⟨vs, hs, rl⟩ := rh a _ e
    exact ⟨l, a, vs, h, rfl, .inl ⟨SqL.of hs, a, rfl⟩, rl⟩
  | _ => exact h.elim
theorem arg1_get {ds : List D} {k : D → Prop} (h : arg1 ds k) : ∃ d, ds = [d] ∧ k d := by
  match ds, h with
  | [d], h => exact ⟨d, rfl, h⟩
theorem arg2_get {ds : List D} {k : D → D → Prop} (h : arg2 ds k) : ∃ d e, ds = [d, e] ∧ k d e := by
  match ds, h with
  | [d, e], h => exact ⟨d, e, rfl, h⟩
theorem arg3_get {ds : List D} {k : D → D → D → Prop} (h : arg3 ds k) : ∃ d e f, ds = [d, e, f] ∧ k d e f := by
  match ds, h with
  | [d, e, f], h => exact ⟨d, e, f, rfl, h⟩
theorem rdR_get {d : D} {k : Nat → List D → Prop} (h : rdR d μ k) : ∃ a l, d = .ref a ∧ μ a = some (.lst l) ∧ k a l := by
  cases d with
  | ref a => obtain ⟨l, e, h⟩ := rdL_get h; exact ⟨a, l, rfl, e, h⟩
  | _ => exact h.elim
theorem rdG_get {d : D} {k : Nat → List (D × D) → Prop} (h : rdG d μ k) : ∃ a l, d = .ref a ∧ (μ a = some (.dF l) ∨ μ a = some (.dL l)) ∧ k a l := by
  cases d with
  | ref a =>
    unfold rdG at h
    cases e : μ a with
    | none => simp only [e] at h
    | some o =>
      simp only [e] at h
      cases o with
      | dF l => exact ⟨a, l, rfl, .inl e, h⟩
      | dL l => exact ⟨a, l, rfl, .inr e, h⟩
      | _ => exact h.elim
  | _ => exact h.elim
theorem rdD_get {d : D} {k : Nat → List (D × D) → Prop} (h : rdD d μ k) : ∃ a l, d = .ref a ∧ μ a = some (.dF l) ∧ k a l := by
  cases d with
  | ref a =>
    unfold rdD at h
    cases e : μ a with
    | none => simp only [e] at h
    | some o =>
      simp only [e] at h
      cases o with
      | dF l => exact ⟨a, l, rfl, e, h⟩
      | _ => exact h.elim
  | _ => exact h.elim
theorem p_len : CallR X (.builtin "len") (rP X T .len) := by
  intro pins s σ H xs us Q' I r ⟨ds, μ, Q, rv, rh, h, p⟩
  obtain ⟨d, rfl, h⟩ := arg1_get h
  replace rv := rv.get1
  obtain ⟨v, rfl, rv⟩ := rv
  cases d with
  | tup l =>
    obtain ⟨q, vs, rfl, st, rl⟩ := rv
    exact call_len_seq pins s σ H _ us Q' I r ⟨q, vs, rfl, .inr st, by rw [← rl.length]; exact p.int rh h⟩
  | scr l =>
    obtain ⟨q, rfl, fz⟩ := rv
    exact call_len_seq pins s σ H _ us Q' I r ⟨q, _, rfl, .inl fz.sq, by rw [List.length_map]; exact p.int rh h⟩
  | str l =>
    cases rv
    obtain ⟨hz, h⟩ := h
    refine call_len_str pins s σ H _ us Q' I r ⟨toS l, rfl, ?_, ?_⟩
    · show l.toArray.size ≤ sizeLine
      rw [← sizeMax_eq]; simpa using hz
    · have e : (toS l).length = l.length := by show l.toArray.size = _; simp
      rw [e]; exact p.int rh h
  | ref a =>
    cases rv
    obtain ⟨n, e, h⟩ := optP_get h
    obtain ⟨o, e0, e2⟩ := Option.bind_eq_some_iff.mp e
    clear e
    have e := e0
    cases o with
    | lst l =>
      cases e2
      obtain ⟨vs, hs, rl⟩ := rh a _ e
      exact call_len_seq pins s σ H _ us Q' I r ⟨a, vs, rfl, .inl (SqL.of hs), by rw [← rl.length]; exact p.int rh h⟩
    | dF l =>
      cases e2
      obtain ⟨kvs, hs, rk⟩ := rh a _ e
      cases r with
      | cons r0 rr =>
        cases rr
        cases r0
        refine d_len I (.inl hs) fun t s' I' => ⟨.int kvs.length, H, I', ⟨t, rfl⟩, ?_⟩
        rw [← rk.length]; exact p.int rh h
    | dL l => cases e2
    | dT l =>
      cases e2
      obtain ⟨xs, dd, hx, hs, hz, _⟩ := dT_of I rh e
      cases r with
      | cons r0 rr =>
        cases rr
        cases r0
        have hl := hx.length
        have : (sizeMax : Int) < 2 ^ 63 := by unfold sizeMax; decide
        refine call_len_dictH hs dd (by omega) ⟨.int xs.length, H, I.tok _, ⟨_, rfl⟩, ?_⟩
        rw [hl]; exact p.int rh h
    | ins c l => cases e2
    | exc c o => cases e2
    | exn c => cases e2
  | non => exact h.elim
  | bl _ => exact h.elim
  | int _ => exact h.elim
theorem p_abs : CallR X (.builtin "abs") (rP X T .abs) := by
  intro pins s σ H xs us Q' I r ⟨ds, μ, Q, rv, rh, h, p⟩
  obtain ⟨d, rfl, h⟩ := arg1_get h
  replace rv := rv.get1
  obtain ⟨v, rfl, rv⟩ := rv
  cases d with
  | int i =>
    cases rv
    exact call_abs pins s σ H _ us Q' I r ⟨i, rfl, p.int rh h⟩
  | _ => exact h.elim
theorem p_min2 (hc : X.calm = true) : CallR X (.builtin "min") (rP X T .min2) := by
  intro pins s σ H xs us Q' I r ⟨ds, μ, Q, rv, rh, h, p⟩
  obtain ⟨d, e, rfl, h⟩ := arg2_get h
  replace rv := rv.get2
  obtain ⟨v, u, rfl, rv, ru⟩ := rv
  cases d with
  | int i =>
    cases e with
    | int j =>
      cases rv; cases ru
      refine call_min2 hc pins s σ H _ us Q' I r ⟨i, j, rfl, ?_⟩
      have e : (if j < i then j else i) = min i j := by split <;> omega
      rw [e]; exact p.int rh h
    | _ => exact h.elim
  | _ => exact h.elim
theorem p_max2 (hc : X.calm = true) : CallR X (.builtin "max") (rP X T .max2) := by
  intro pins s σ H xs us Q' I r ⟨ds, μ, Q, rv, rh, h, p⟩
  obtain ⟨d, e, rfl, h⟩ := arg2_get h
  replace rv := rv.get2
  obtain ⟨v, u, rfl, rv, ru⟩ := rv
  cases d with
  | int i =>
    cases e with
    | int j =>
      cases rv; cases ru
      refine call_max2 hc pins s σ H _ us Q' I r ⟨i, j, rfl, ?_⟩
      have e : (if j > i then j else i) = max i j := by split <;> omega
      rw [e]; exact p.int rh h
    | _ => exact h.elim
  | _ => exact h.elim
theorem allDig_ok {x : List Nat} (h : allDig x = true) : NumText.AllDigits x ∧ x ≠ [] := by
  unfold allDig at h
  rw [Bool.and_eq_true, List.all_eq_true] at h
  refine ⟨fun c hc => ?_, fun e => by rw [e] at h; cases h.1⟩
  have := h.2 c hc
  rw [Bool.and_eq_true, decide_eq_true_eq, decide_eq_true_eq] at this
  exact this
theorem numT_ok {x : List Nat} {n : Int} (hl : x.length ≤ 600) (h : numT x = some n) : intText? (toS x) = some n := by
  have lx : (toS x).length = x.length := by simp [toS, Str.length]
  have cx : (toS x).cps.toList = x := by simp [toS]
  unfold numT at h
  split at h
  · rename_i hd
    obtain ⟨h1, h2⟩ := allDig_ok hd
    cases h
    have := PySem.intText_digits (x := toS x) (by rw [cx]; exact h1) (by rw [cx]; exact h2) (by omega)
    rw [cx] at this; exact this
  · split at h
    · rename_i r _
      split at h
      · rename_i hd
        obtain ⟨h1, h2⟩ := allDig_ok hd
        cases h
        exact PySem.intText_neg cx h1 h2 (by omega)
      · cases h
    · cases h
theorem p_int : CallR X (.type "int") (rP X T .int) := by
  intro pins s σ H xs us Q' I r ⟨ds, μ, Q, rv, rh, h, p⟩
  obtain ⟨d, rfl, h⟩ := arg1_get h
  replace rv := rv.get1
  obtain ⟨v, rfl, rv⟩ := rv
  cases d with
  | int i => cases rv; exact call_int1 pins s σ H _ us Q' I r (.inl ⟨i, rfl, p.int rh h⟩)
  | bl b => cases rv; exact call_int1 pins s σ H _ us Q' I r (.inr ⟨b, rfl, p.int rh h⟩)
  | str x =>
    cases rv
    obtain ⟨hl, h⟩ := h
    cases e : numT x with
    | none => rw [e] at h; exact h.elim
    | some n =>
      rw [e] at h
      have lx : (toS x).length = x.length := by simp [toS, Str.length]
      exact call_int_str pins s σ H _ us Q' I r ⟨_, n, rfl, numT_ok hl e, by omega, p.int rh h⟩
  | _ => exact h.elim
theorem p_tuple : CallR X (.type "tuple") (rP X T .tuple) := by
  intro pins s σ H xs us Q' I r ⟨ds, μ, Q, rv, rh, h, p⟩
  obtain ⟨d, rfl, h⟩ := arg1_get h
  replace rv := rv.get1
  obtain ⟨v, rfl, rv⟩ := rv
  obtain ⟨l, a, vs, h, rfl, ho, rl⟩ := seq_get rh rv h
  refine call_tuple_of pins s σ H _ us Q' I r ⟨a, vs, rfl, ?_⟩
  rcases ho with ⟨h1, _⟩ | ⟨h1, e⟩
  · exact .inl ⟨h1, p.tup rh rl h⟩
  · subst e
    exact .inr ⟨h1, p.val rh rv h⟩
theorem bls_of : ∀ {ds : List D} {vs : List V} {b : Bool}, RepVs X.K H ds vs → allB ds = some b → ∃ bs : List Bool, vs = bs.map V.bl ∧ bs.all id = b
  | [], _, _, h, e => by rw [show _ = [] from h]; cases e; exact ⟨[], rfl, rfl⟩
  | .bl b :: r, _, _, ⟨v, q, e, h, t⟩, z => by
    unfold allB at z
    cases y : allB r with
    | none => rw [y] at z; cases z
    | some c =>
      rw [y] at z; cases z
      obtain ⟨bs, h1, h2⟩ := bls_of t y
      subst e
      cases h
      exact ⟨b :: bs, by rw [h1]; rfl, by rw [List.all_cons, h2]; rfl⟩
  | .non :: _, _, _, _, e => by simp [allB] at e
  | .int _ :: _, _, _, _, e => by simp [allB] at e
  | .str _ :: _, _, _, _, e => by simp [allB] at e
  | .tup _ :: _, _, _, _, e => by simp [allB] at e
  | .ref _ :: _, _, _, _, e => by simp [allB] at e
  | .scr _ :: _, _, _, _, e => by simp [allB] at e
theorem p_all (hc : X.calm = true) : CallR X (.builtin "all") (rP X T .all) := by
  intro pins s σ H xs us Q' I r ⟨ds, μ, Q, rv, rh, h, p⟩
  obtain ⟨d, rfl, h⟩ := arg1_get h
  replace rv := rv.get1
  obtain ⟨v, rfl, rv⟩ := rv
  obtain ⟨a, l, rfl, e, h⟩ := rdR_get h
  cases rv
  obtain ⟨b, e2, h⟩ := optP_get h
  obtain ⟨vs, hs, rl⟩ := rh a _ e
  obtain ⟨bs, e3, e4⟩ := bls_of rl e2
  subst e3 e4
  exact cr_all hc pins s σ H _ us Q' I r ⟨a, bs, rfl, SqL.of hs, p.bl rh h⟩
theorem p_max1 (hc : X.calm = true) : CallR X (.builtin "max") (rP X T .max1) := by
  intro pins s σ H xs us Q' I r ⟨ds, μ, Q, rv, rh, h, p⟩
  obtain ⟨d, rfl, h⟩ := arg1_get h
  replace rv := rv.get1
  obtain ⟨v, rfl, rv⟩ := rv
  obtain ⟨a, l, rfl, e, h⟩ := rdR_get h
  cases rv
  obtain ⟨ns, e2, h0, h⟩ := optP_get h
  obtain ⟨vs, hs, rl⟩ := rh a _ e
  have e3 := rl.intsD e2
  subst e3
  exact cr_max hc pins s σ H _ us Q' I r ⟨a, ns, rfl, SqL.of hs, h0, fun m h1 h2 => p.int rh (h m h1 h2)⟩
theorem p_min1 (hc : X.calm = true) : CallR X (.builtin "min") (rP X T .min1) := by
  intro pins s σ H xs us Q' I r ⟨ds, μ, Q, rv, rh, h, p⟩
  obtain ⟨d, rfl, h⟩ := arg1_get h
  replace rv := rv.get1
  obtain ⟨v, rfl, rv⟩ := rv
  obtain ⟨a, l, rfl, e, h⟩ := rdR_get h
  cases rv
  obtain ⟨ns, e2, h0, h⟩ := optP_get h
  obtain ⟨vs, hs, rl⟩ := rh a _ e
  have e3 := rl.intsD e2
  subst e3
  exact cr_min hc pins s σ H _ us Q' I r ⟨a, ns, rfl, SqL.of hs, h0, fun m h1 h2 => p.int rh (h m h1 h2)⟩
end
end MP

set_option linter.all false
set_option maxRecDepth 100000
set_option maxHeartbeats 1000000
set_option Elab.async false
namespace MP
open PySem PySem.Spec PyProof.Rows L2
def XF1 (X : Cx) (W : WX) (u : Value) (s' : Shared) : Prop := ∃ (a : Addr) (B : Heap) (sI : Shared) (pins : List (Addr × Obj)) (σ : L2.St) (H : Hp) (cls : Value) (d : Option Addr), u = .ref a ∧ Inv X pins σ H sI ∧
  (∀ b o, sI.heap.get? b = some o → b ∉ frs X.stack → B.get? b = some o) ∧ sI.heap.UpToSlots s'.heap ∧ HandSPX.FlyingZ B X.stack a (Zc cls d) s'.heap ∧ H a = none ∧ s'.os = sI.os ∧ AllBare s'.gens ∧ W cls d σ H
def Takes1 (X : Cx) (W : WX) : Prop := ∀ u s', XF1 X W u s' → X.xe u s'
theorem takes1 {X : Cx} {W : WX} (t : Takes X W) : Takes1 X W := fun u s' ⟨a, B, sI, pins, σ, H, cls, d, e, I, nb, up, fl, r⟩ => t u s' ⟨a, B, sI, pins, σ, H, cls, d, e, I, nb, up, .inr (.inl fl), r⟩
theorem XF1.of_call {X : Cx} {W : WX} {E : XK} {pins : List (Addr × Obj)} {σ : L2.St} {H : Hp} {s s' : Shared} {u : Value} (I : Inv X pins σ H s) (hW : ∀ cls d H', E cls d H' → W cls d σ H') (c : L2.CX X.prog X.w X.stack H s E u s') : XF1 X W u s' := by
  obtain ⟨a, B, sI, pins', σ', H', cls, d, rfl, I', nb, up, sky, r⟩ := XE.of_call I hW c
  refine ⟨a, B, sI, pins', σ', H', cls, d, rfl, I', nb, up, ?_, r⟩
  obtain ⟨a2, B2, H2, cls2, d2, e2, ⟨_, _, _, o2, v2, T2, oT, t2, he, _, hd, h1, _, _, hT, hdT, h3⟩, _⟩ := c
  cases e2
  rcases sky with ⟨_, _, _, o1, v1, he1, _, hd1, h11⟩ | fl | ⟨_, _, _, o1, v1, T1, oT1, t1, he1, _, hd1, h11, _, _, hT1, hdT1, h31⟩
  · rw [he] at he1; cases he1
    rw [hd] at hd1; cases hd1
    rw [h1] at h11; cases h11
  · exact fl
  · rw [he] at he1; cases he1
    rw [hd] at hd1; cases hd1
    rw [h1] at h11; cases h11
    rw [hT] at hT1; cases hT1
    rw [hdT] at hdT1; cases hdT1
    rw [h3] at h31; cases h31
theorem passAt1 {X : Cx} {W : WX} (tk : Takes1 X W) (σ : L2.St) : PassesAt (L2.CX X.prog X.w) X σ (WE W σ) := fun _ _ _ e s' I c => tk e s' (XF1.of_call I (fun _ _ _ h => h) c)
theorem takes1_no {X : Cx} : Takes1 X (fun _ _ _ _ => False) := fun _ _ x => by
  obtain ⟨_, _, _, _, _, _, _, _, _, _, _, _, _, _, _, _, z⟩ := x
  exact z.elim
section
variable {X : Cx} {T : Tab} {G : Ctx} {H H' H1 : Hp} {μ μ' μ1 : Sto} {Q : D → Sto → Prop} {Q' : VK} {σ : L2.St} {ρ : Env}
def spF (w : World) (K : PySem.W.Frag) (T : Tab0) (G : Ctx) (f n : Nat) : Sp := fun vs H Q' E => vs.length = n ∧ ∃ ds μ Q Z, RepVs K H ds vs ∧ RepH0 w K T H μ ∧ G.fn f ds μ Q Z ∧
  (∀ d v H' μ', RepV K H' d v → RepH0 w K T H' μ' → Fr H μ H' μ' → Q d μ' → Q' v H') ∧
  ∀ c cs o H' μ', RepH0 w K T H' μ' → Fr H μ H' μ' → Z c cs μ' → XD K T H' c cs o → E (.ref (T.ecl c)) o H'
structure FnI (P : Program) (w : World) (K : PySem.W.Frag) (mg : Str → Option Value) (base : Heap) (T : Tab0) (G : Ctx) (k f : Nat) (fA : Addr) (fd : FuncData) (ps : List Str) : Prop where
  ok : FnOk P w K mg base (L2.CX P w) k fA fd ps (spF w K T G f ps.length)
  bd : Binds K fd ps []
  kp : PySem.W.keepIn K (.ref fA) = true
abbrev FnX (X : Cx) := FnI X.prog X.w X.K X.mg X.base
def Tk (X : Cx) (T : Tab) : Prop := ∃ W : WX, Takes1 X W ∧ ∀ c ds o σ H, T.S σ → T.W c ds H → XD X.K T H c ds o → W (.ref (T.ecl c)) o σ H
theorem tk_off {X : Cx} {T : Tab} : Tk X T.off := ⟨_, takes1_no, fun _ _ _ _ _ _ z => z.elim⟩
variable {k f : Nat} {fA : Addr} {fd : FuncData} {ps : List Str}
theorem sp_of {n : Nat} {ds : List D} {vs : List V} {Q' : VK} {W : WX} (hW : ∀ c ds o H, T.W c ds H → XD X.K T H c ds o → W (.ref (T.ecl c)) o σ H) (rv : RepVs X.K H ds vs) (rh : RepH X.w X.K T H μ) (hl : ds.length = n) (h : G.fn f ds μ Q T.Z) (p : Pst X T H μ Q Q') : spF X.w X.K T G f n vs H Q' (WE W σ) :=
  ⟨by rw [← rv.length]; exact hl, ds, μ, Q, T.Z, rv, rh.toRepH0, h, fun d v H' μ' rv' rh' f' q' => p d v H' μ' rv' (rh.back f' rh') f' q', fun c cs o H' μ' rh' f' z x => hW c cs o H' (rh.up H' μ' f' rh' c cs z) x⟩
theorem e_call (F : FnX X T G k f fA fd ps) (tk : Tk X T) (hr : Room k X.A) {x : Str} {e : Expr} {es : List Expr} {c : E} {p pos : Pos} (hg : Gl X x) (hm : X.mg x = some (.ref fA)) (ha : PA X (e :: es) (tA X T G c)) (hl : alen c = ps.length) (hdb : (x == ("__debug__" : Str)) = false)
    (he : starEach (e :: es) X.env = (false, eval e X.env) :: starEach es X.env) (hpl : (backTo pos (starEach es X.env)).any (·.1) = false) : PE X (.Call (.Name x p) (e :: es) [] pos) (tE X T G (.call f c)) := by
  obtain ⟨W, tk, hW⟩ := tk
  exact (pe_callS F.ok hr hg hm F.kp F.bd (fun σ => passAt1 tk σ) ha hdb he hpl).imp fun σ H Q' ⟨ρ, μ, Q, rs, rh, hw, p⟩ =>
    ⟨ρ, μ, _, rs, rh, hw, fun ds vs H1 μ1 rv rh1 f1 hn q1 => sp_of (fun c ds o H => hW c ds o σ H rs.ok) rv rh1 (hn.trans hl) q1 (p.step f1)⟩
theorem pe_call0S {CX : CXT} {E : L2.St → XK} {sp : Sp} (F : FnOk X.prog X.w X.K X.mg X.base CX k fA fd ps sp) (hr : Room k X.A) {x : Str} {p pos : Pos} (hg : Gl X x) (hm : X.mg x = some (.ref fA)) (hk : PySem.W.keepIn X.K (.ref fA) = true) (hb : Binds X.K fd ps []) (hx : ∀ σ, PassesAt CX X σ (E σ))
    (hdb : (x == ("__debug__" : Str)) = false) : PE X (.Call (.Name x p) [] [] pos) (fun σ H Q => sp [] H Q (E σ)) := by
  refine ⟨fun pins s σ H Q I h => ?_⟩
  refine wpAny_Call_Name_kw (ld_glob I hg hm ?_ hdb)
  exact PySem.W.callWith_K0 I.kIn hk (run_fnS (us := []) F hr hb (hx σ) I .nil h)
theorem e_call0 (F : FnX X T G k f fA fd ps) (tk : Tk X T) (hr : Room k X.A) {x : Str} {p pos : Pos} (hg : Gl X x) (hm : X.mg x = some (.ref fA)) (hl : 0 = ps.length) (hdb : (x == ("__debug__" : Str)) = false) : PE X (.Call (.Name x p) [] [] pos) (tE X T G (.call f .nil)) := by
  obtain ⟨W, tk, hW⟩ := tk
  exact (pe_call0S F.ok hr hg hm F.kp F.bd (fun σ => passAt1 tk σ) hdb).imp fun σ H Q' ⟨ρ, μ, Q, rs, rh, hw, p⟩ =>
    sp_of (fun c ds o H => hW c ds o σ H rs.ok) (ds := []) (vs := []) rfl rh hl hw p
theorem insP_get {x : D} {k : Nat → Nat → List (Nat × D) → Prop} (h : insP x μ k) : ∃ p c l, x = .ref p ∧ μ p = some (.ins c l) ∧ k p c l := by
  cases x with
  | ref p =>
    unfold insP at h
    cases e : μ p with
    | none => simp only [e] at h
    | some o =>
      simp only [e] at h
      cases o with
      | ins c l => exact ⟨p, c, l, rfl, e, h⟩
      | _ => exact h.elim
  | _ => exact h.elim
theorem fld_ne {fld : List Str} (nd : fld.Nodup) {i j : Nat} {x y : Str} (hi : fld[i]? = some x) (hj : fld[j]? = some y) : (y == x) = Nat.beq j i := by
  rw [Bool.eq_iff_iff]
  constructor
  · intro e
    have e : y = x := by simpa using e
    subst e
    have := nodup_ix nd hi hj
    subst this
    exact Nat.beq_refl _
  · intro e
    have e := Nat.eq_of_beq_eq_true e
    subst e
    rw [hi] at hj; cases hj
    simp
theorem RepF.look {fld : List Str} {K : PySem.W.Frag} {H : Hp} (nd : fld.Nodup) {i : Nat} {x : Str} (hi : fld[i]? = some x) : ∀ {l : List (Nat × D)} {fs : List (Str × V)}, RepF K H fld l fs → match lookF l i with
    | some d => ∃ v, fs.lookup x = some v ∧ RepV K H d v
    | none => fs.lookup x = none
  | [], _, h => by rw [show _ = [] from h]; rfl
  | (j, d) :: l, _, ⟨y, v, q, e, h1, h2, h3⟩ => by
    subst e
    have hb := fld_ne nd h1 hi
    unfold lookF
    cases hj : Nat.beq j i with
    | true =>
      have e := Nat.eq_of_beq_eq_true hj
      subst e
      rw [h1] at hi; cases hi
      rw [if_pos rfl]
      exact ⟨v, by simp [List.lookup_cons], h2⟩
    | false =>
      rw [if_neg (by decide)]
      have hb2 : (x == y) = false := by
        rw [hb]
        cases hq : Nat.beq i j with
        | false => rfl
        | true =>
          have e := Nat.eq_of_beq_eq_true hq
          subst e
          rw [Nat.beq_refl] at hj; cases hj
      rw [List.lookup_cons, hb2]
      exact RepF.look nd hi h3
theorem RepF.get {fld : List Str} {K : PySem.W.Frag} {H : Hp} (nd : fld.Nodup) {i : Nat} {x : Str} (hi : fld[i]? = some x) {l : List (Nat × D)} {fs : List (Str × V)} {d : D} (r : RepF K H fld l fs) (e : lookF l i = some d) : ∃ v, fs.lookup x = some v ∧ RepV K H d v := by
  have := r.look nd hi
  rw [e] at this
  exact this
theorem RepF.no {fld : List Str} {K : PySem.W.Frag} {H : Hp} (nd : fld.Nodup) {i : Nat} {x : Str} (hi : fld[i]? = some x) {l : List (Nat × D)} {fs : List (Str × V)} (r : RepF K H fld l fs) (e : lookF l i = none) : fs.lookup x = none := by
  have := r.look nd hi
  rw [e] at this
  exact this
theorem RepF.length {fld : List Str} {K : PySem.W.Frag} {H : Hp} : ∀ {l : List (Nat × D)} {fs : List (Str × V)}, RepF K H fld l fs → l.length = fs.length
  | [], _, h => by rw [show _ = [] from h]; rfl
  | (j, d) :: l, _, ⟨y, v, q, e, h1, h2, h3⟩ => by subst e; rw [List.length_cons, List.length_cons, h3.length]
theorem RepF.put {fld : List Str} {K : PySem.W.Frag} {H : Hp} (nd : fld.Nodup) {i : Nat} {x : Str} (hi : fld[i]? = some x) {d : D} {v : V} (rv : RepV K H d v) : ∀ {l : List (Nat × D)} {fs : List (Str × V)}, RepF K H fld l fs → RepF K H fld (MP.putF l i d) (L2.putF x v fs)
  | [], _, h => by rw [show _ = [] from h]; exact ⟨x, v, [], rfl, hi, rv, rfl⟩
  | (j, d') :: l, _, ⟨y, u, q, e, h1, h2, h3⟩ => by
    subst e
    have hb := fld_ne nd hi h1
    unfold MP.putF
    show RepF K H fld _ (L2.putF x v ((y, u) :: q))
    unfold L2.putF
    cases hj : Nat.beq j i with
    | true =>
      have e := Nat.eq_of_beq_eq_true hj
      subst e
      rw [h1] at hi; cases hi
      rw [if_pos rfl, if_pos rfl]
      exact ⟨x, v, q, rfl, h1, rv, h3⟩
    | false =>
      rw [hj] at hb
      have ne : ¬ (y = x) := by simpa using hb
      rw [if_neg (by decide), if_neg ne]
      exact ⟨y, u, _, rfl, h1, h2, RepF.put nd hi rv h3⟩
theorem e_meth {m : Nat} {mn : Str} {o e : Expr} {es : List Expr} {co c : E} {apos pos : Pos} {pl : Sem Bool} (hm : T.fld[m]? = some mn)
    (hf : ∀ cl f, G.mt cl m = some f → ∃ fA fd ps, Meth X.K (T.cls cl) mn fA ∧ FnX X T G k f fA fd ps ∧ alen c + 1 = ps.length)
    (tk : Tk X T) (hr : Room k X.A) (ho : PE X o (tE X T G co)) (ha : PA X (e :: es) (tA X T G c))
    (hst : starEach (e :: es) X.env = (false, eval e X.env) :: starEach es X.env) (hpl : (backTo pos (starEach es X.env)).any (·.1) = false)
    (ht : eval (.Call (.Attribute o mn apos) (e :: es) [] pos) X.env = (do
      let ov ← eval o X.env
      standAt apos.atName
      let (f, first) ← holding [ov] (getMethod ov mn pl)
      callWith pos f first (backTo pos (starEach (e :: es) X.env)) (backToKw pos (keywordEach [] X.env)))) :
    PE X (.Call (.Attribute o mn apos) (e :: es) [] pos) (tE X T G (.meth m co c)) := by
  obtain ⟨W, tk, hW⟩ := tk
  refine ⟨fun pins s σ H Q' I h => ?_⟩
  obtain ⟨ρ, μ, Q, rs, rh, hw, p⟩ := h
  refine PySem.W.methodCall_KW (pl := pl) (thn (ho.run pins s σ H (fun x H1 => ∃ q cl l, ∃ μ1, x = .ref q ∧ RepH X.w X.K T H1 μ1 ∧ Fr H μ H1 μ1 ∧ μ1 q = some (.ins cl l) ∧ lookF l m = none ∧ optP (G.mt cl m) fun f => wpA G c ρ μ1 (fun ds μ2 => G.fn f (.ref q :: ds) μ2 Q T.Z) T.Z) I
    ⟨ρ, μ, _, rs, rh, hw, fun d v H1 μ1 rv rh1 f1 q1 => ?_⟩) fun u s1 ⟨x, H1, I1, rx, q, cl, l, μ1, ex, rh1, f1, e, hn, hq⟩ => ?_) ht
  · obtain ⟨q, cl, l, rfl, e, h1, h2⟩ := insP_get q1
    exact ⟨q, cl, l, μ1, rv, rh1, f1, e, h1, h2⟩
  · subst ex
    obtain rfl : u = Value.ref q := rx
    obtain ⟨f, ef, hq⟩ := optP_get hq
    obtain ⟨fA, fd, ps, hM, F, hl⟩ := hf cl f ef
    obtain ⟨dx, fs, hi, hc, rf⟩ := rh1 q _ e
    refine getmeth_ok I1 hi hc hM (rf.no T.nd hm hn) ?_
    have fin : ∀ {us : List Value} {s2 : Shared} {vs : List V} {H2 : Hp} {ds : List D} {μ2 : Sto}, Inv X pins σ H2 s2 → Vals vs us → RepVs X.K H2 ds vs → RepH X.w X.K T H2 μ2 → Fr H1 μ1 H2 μ2 → ds.length = alen c → G.fn f (.ref q :: ds) μ2 Q T.Z →
        wpAny (model X.prog X.w) X.A (call (.ref fA) (.ref q :: us)) (EP X pins σ Q') X.xe s2 := fun {us s2 vs H2 ds μ2} I2 r rv rh2 f2 hn q2 =>
      run_fnS (E := WE W) (us := .ref q :: us) (vs := .ref q :: vs) F.ok hr F.bd (passAt1 tk σ) I2 (.cons rfl r) (sp_of (fun c ds o H => hW c ds o σ H rs.ok) (ds := .ref q :: ds) (vs := .ref q :: vs) ⟨_, _, rfl, rfl, rv⟩ rh2 (by rw [List.length_cons, hn]; exact hl) q2 (p.step (f1.trans f2)))
    refine PySem.W.callWith_K (first := [.ref q]) (h₀ := X.base) I.ok.mod.kin F.kp (thn (ha.run pos pins s1 σ H1 (fun vs H2 => ∃ ds μ2, RepVs X.K H2 ds vs ∧ RepH X.w X.K T H2 μ2 ∧ Fr H1 μ1 H2 μ2 ∧ ds.length = alen c ∧ G.fn f (.ref q :: ds) μ2 Q T.Z) I1
        ⟨ρ, μ1, _, rs.mono (f1.keeps rh), rh1, hq, fun ds vs H2 μ2 rv rh2 f2 hn q2 => ⟨ds, μ2, rv, rh2, f2, hn, q2⟩⟩) fun us s2 ⟨vs, H2, I2, r, ds, μ2, rv, rh2, f2, hn, q2⟩ => ⟨I2.kIn, ?_⟩) hst hpl
    exact fin I2 r rv rh2 f2 hn q2
theorem e_meth0 {m : Nat} {mn : Str} {o : Expr} {co : E} {apos pos : Pos} {pl : Sem Bool} (hm : T.fld[m]? = some mn)
    (hf : ∀ cl f, G.mt cl m = some f → ∃ fA fd ps, Meth X.K (T.cls cl) mn fA ∧ FnX X T G k f fA fd ps ∧ 1 = ps.length)
    (tk : Tk X T) (hr : Room k X.A) (ho : PE X o (tE X T G co))
    (ht : eval (.Call (.Attribute o mn apos) [] [] pos) X.env = (do
      let ov ← eval o X.env
      standAt apos.atName
      let (f, first) ← holding [ov] (getMethod ov mn pl)
      callWith pos f first (backTo pos (starEach [] X.env)) (backToKw pos (keywordEach [] X.env)))) :
    PE X (.Call (.Attribute o mn apos) [] [] pos) (tE X T G (.meth m co .nil)) := by
  obtain ⟨W, tk, hW⟩ := tk
  refine ⟨fun pins s σ H Q' I h => ?_⟩
  obtain ⟨ρ, μ, Q, rs, rh, hw, p⟩ := h
  refine PySem.W.methodCall_KW (pl := pl) (thn (ho.run pins s σ H (fun x H1 => ∃ q cl l, ∃ μ1, x = .ref q ∧ RepH X.w X.K T H1 μ1 ∧ Fr H μ H1 μ1 ∧ μ1 q = some (.ins cl l) ∧ lookF l m = none ∧ optP (G.mt cl m) fun f => G.fn f [.ref q] μ1 Q T.Z) I
    ⟨ρ, μ, _, rs, rh, hw, fun d v H1 μ1 rv rh1 f1 q1 => ?_⟩) fun u s1 ⟨x, H1, I1, rx, q, cl, l, μ1, ex, rh1, f1, e, hn, hq⟩ => ?_) ht
  · obtain ⟨q, cl, l, rfl, e, h1, h2⟩ := insP_get q1
    exact ⟨q, cl, l, μ1, rv, rh1, f1, e, h1, h2⟩
  · subst ex
    obtain rfl : u = Value.ref q := rx
    obtain ⟨f, ef, hq⟩ := optP_get hq
    obtain ⟨fA, fd, ps, hM, F, hl⟩ := hf cl f ef
    obtain ⟨dx, fs, hi, hc, rf⟩ := rh1 q _ e
    refine getmeth_ok I1 hi hc hM (rf.no T.nd hm hn) ?_
    exact PySem.W.callWith_K0 (first := [.ref q]) I1.kIn F.kp (run_fnS (E := WE W) (us := [.ref q]) (vs := [.ref q]) F.ok hr F.bd (passAt1 tk σ) I1 (.cons rfl .nil) (sp_of (fun c ds o H => hW c ds o σ H rs.ok) (ds := [.ref q]) (vs := [.ref q]) ⟨_, _, rfl, rfl, rfl⟩ rh1 hl hq (p.step f1)))
theorem mk_step {cl : Nat} {ds : List D} {vs : List V} {n : Nat} {W : WX} (hW : ∀ c ds o H, T.W c ds H → XD X.K T H c ds o → W (.ref (T.ecl c)) o σ H) (hc : Cls X.K (T.cls cl)) (rv : RepVs X.K H1 ds vs) (rh1 : RepH X.w X.K T H1 μ1) (f1 : Fr H μ H1 μ1) (hn : ds.length + 1 = n) (p : Pst X T H μ Q Q')
    (q1 : ∀ q, μ1 q = none → G.fn f (.ref q :: ds) (MP.upd μ1 q (.ins cl [])) (fun d μ2 => d = .non ∧ Q (.ref q) μ2) T.Z) :
    ∀ x dx, H1 x = none → H1 dx = none → dx ≠ x → spF X.w X.K T G f n (.ref x :: vs) (L2.upd (L2.upd H1 dx (.own x)) x (.ins (T.cls cl) dx [])) (fun v H2 => v = .non ∧ Q' (.ref x) H2) (WE W σ) := fun x dx hx hdx hne => by
  have rh2 := rh1.newT (o := .own x) hdx
  have f2 : Fr H1 μ1 (L2.upd H1 dx (.own x)) μ1 := Fr.newT hdx
  have hx2 : (L2.upd H1 dx (.own x)) x = none := by rw [L2.upd_ne (Ne.symm hne)]; exact hx
  have rh3 := rh2.newO (o := .ins (T.cls cl) dx []) (ob := .ins cl []) hx2 ⟨dx, [], L2.upd_same, hc, rfl⟩
  have f3 : Fr (L2.upd H1 dx (.own x)) μ1 (L2.upd (L2.upd H1 dx (.own x)) x (.ins (T.cls cl) dx [])) (MP.upd μ1 x (.ins cl [])) := Fr.newO hx2
  have f13 := f1.trans (f2.trans f3)
  refine ⟨by rw [List.length_cons, ← rv.length]; exact hn, .ref x :: ds, _, _, T.Z, ⟨_, _, rfl, rfl, rv.mono ((f2.trans f3).keeps rh1)⟩, rh3.toRepH0, q1 x (rh1.free hx), fun d v H' μ' rd rh' f' q' => ?_, fun c cs o H' μ' rh' f' z x => hW c cs o H' (rh3.up H' μ' f' rh' c cs z) x⟩
  obtain ⟨e, q'⟩ := q'
  subst e
  exact ⟨rd, p (.ref x) _ H' μ' rfl (rh3.back f' rh') (f13.trans f') q'⟩
theorem run_makeS {CX : CXT} {C : Addr} {sp : Sp} {E : L2.St → XK} {pins : List (Addr × Obj)} {s : Shared} {us : List Value} {vs : List V} (M : Mk X.K C fA) (F : FnOk X.prog X.w X.K X.mg X.base CX k fA fd ps sp) (hr : Room (k + 1) X.A) (hb : Binds X.K fd ps [])
    (hx : PassesAt CX X σ (E σ)) (I : Inv X pins σ H s) (r : Vals vs us)
    (h : ∀ x dx, H x = none → H dx = none → dx ≠ x → sp (.ref x :: vs) (L2.upd (L2.upd H dx (.own x)) x (.ins C dx [])) (fun v H2 => v = .non ∧ Q' (.ref x) H2) (E σ)) :
    wpAny (model X.prog X.w) X.A (call (.ref C) us) (EP X pins σ Q') X.xe s := by
  let d0 : Addr := s.heap.objs.size
  have f0 : H d0 = none := I.hok.fresh (Nat.le_refl d0)
  have f1 : H (d0 + 1) = none := I.hok.fresh (Nat.le_succ d0)
  have ht := h (d0 + 1) d0 f1 f0 (Nat.ne_of_lt (Nat.lt_succ_self d0))
  have J := Inv.made (C := C) I
  have rr : Vals (V.ref (d0 + 1) :: vs) (Value.ref (d0 + 1) :: us) := Paired.cons rfl r
  have hl : (Value.ref (d0 + 1) :: us).length = ps.length := rr.length.symm.trans (F.len _ _ _ _ ht)
  have bn := hb _ (Value.ref (d0 + 1) :: us) J.kIn (by rw [List.append_nil]; exact hl)
  rw [List.append_nil] at bn
  have run := F.run _ X.stack _ _ ⟨Value.ref (d0 + 1) :: us, []⟩ (Value.ref (d0 + 1) :: us) _ _ (E σ) (hr.make C us []) (J.env0.make C us []) bn rr ht
  refine wpAny_call (make_map (f := fA) I.kIn M.makes M.init (beq_iff_eq.mp M.fn) (codeAny_mono run fun res s' hres => ?_))
  match res, hres with
  | .error e, hres => exact hx pins _ _ e s' J hres
  | .ok (.ret u), hres =>
    obtain ⟨v, H', J', rv, ev, q'⟩ := J.after hres
    subst ev
    exact ⟨rv, V.ref (d0 + 1), H', J', rfl, q'⟩
  | .ok .next, hres => exact hres.elim
  | .ok .brk, hres => exact hres.elim
  | .ok .cont, hres => exact hres.elim
theorem e_new {cl : Nat} (M : Mk X.K (T.cls cl) fA) (hc : Cls X.K (T.cls cl)) (F : FnX X T G k f fA fd ps) (tk : Tk X T) (hr : Room (k + 1) X.A) {x : Str} {e : Expr} {es : List Expr} {c : E} {p pos : Pos} (hg : Gl X x) (hm : X.mg x = some (.ref (T.cls cl))) (ha : PA X (e :: es) (tA X T G c))
    (hl : alen c + 1 = ps.length) (hdb : (x == ("__debug__" : Str)) = false) (he : starEach (e :: es) X.env = (false, eval e X.env) :: starEach es X.env) (hpl : (backTo pos (starEach es X.env)).any (·.1) = false) : PE X (.Call (.Name x p) (e :: es) [] pos) (tE X T G (.new cl f c)) := by
  obtain ⟨W, tk, hW⟩ := tk
  refine ⟨fun pins s σ H Q' I ⟨ρ, μ, Q, rs, rh, hw, p⟩ => ?_⟩
  refine wpAny_Call_Name_kw (ld_glob I hg hm ?_ hdb)
  refine PySem.W.callWith_K (h₀ := X.base) I.ok.mod.kin M.kp (thn (ha.run pos pins s σ H (fun vs H1 => ∀ x dx, H1 x = none → H1 dx = none → dx ≠ x → spF X.w X.K T G f ps.length (.ref x :: vs) (L2.upd (L2.upd H1 dx (.own x)) x (.ins (T.cls cl) dx [])) (fun v H2 => v = .non ∧ Q' (.ref x) H2) (WE W σ)) I
    ⟨ρ, μ, _, rs, rh, hw, fun ds vs H1 μ1 rv rh1 f1 hn q1 => mk_step (fun c ds o H => hW c ds o σ H rs.ok) hc rv rh1 f1 (by rw [hn]; exact hl) p q1⟩) fun us s1 ⟨vs, H1, I1, r, q⟩ => ⟨I1.kIn, ?_⟩) he hpl
  exact run_makeS M F.ok hr F.bd (passAt1 tk σ) I1 r q
theorem e_attr {i : Nat} {x : Str} {o : Expr} {co : E} {pos : Pos} (hi : T.fld[i]? = some x) (hF : ∀ cl, G.fl cl i = true → NoAttr X.K (T.cls cl) x) (ho : PE X o (tE X T G co)) (hb : attributeBase o x X.env (eval o X.env) = eval o X.env) : PE X (.Attribute o x pos) (tE X T G (.attr co i)) :=
  (pe_fld ho hb).imp fun σ H Q' ⟨ρ, μ, Q, rs, rh, hw, p⟩ => ⟨ρ, μ, _, rs, rh, hw, fun d v H1 μ1 rv rh1 f1 q1 => by
    obtain ⟨q, cl, l, rfl, e, hfl, h2⟩ := insP_get q1
    obtain ⟨d, e2, h2⟩ := optP_get h2
    obtain ⟨dx, fs, h3, hc, rf⟩ := rh1 q _ e
    obtain ⟨u, h4, h5⟩ := rf.get T.nd hi e2
    exact ⟨q, T.cls cl, dx, fs, u, rv, h3, hc, hF cl hfl, h4, (p.step f1).val rh1 h5 h2⟩⟩
def tO (X : Cx) (T : Tab) (G : Ctx) (c : E) : TO := fun σ H Q' => ∃ ρ μ, ∃ Q : Option Int → Sto → Prop, RepS X.K T H ρ σ ∧ RepH X.w X.K T H μ ∧ wpE G c ρ μ (fun d μ1 => optP (optI d) fun o => Q o μ1) T.Z ∧ ∀ o H' μ', RepH X.w X.K T H' μ' → Fr H μ H' μ' → Q o μ' → Q' o H'
theorem _root_.L2.PO.imp {e : Option Expr} {t t' : TO} (h : PO X e t) (i : ∀ σ H Q, t' σ H Q → t σ H Q) : PO X e t' := ⟨fun pins s σ H Q I hw => h.run pins s σ H Q I (i σ H Q hw)⟩
theorem o_none : PO X none (tO X T G .cn) := po_none.imp fun σ H Q' ⟨ρ, μ, Q, rs, rh, hw, p⟩ => p none H μ rh .refl hw
theorem o_some {e : Expr} {c : E} (h : PE X e (tE X T G c)) : PO X (some e) (tO X T G (.part c)) := (po_some h).imp fun σ H Q' ⟨ρ, μ, Q, rs, rh, hw, p⟩ =>
  ⟨ρ, μ, _, rs, rh, hw, fun d v H1 μ1 rv rh1 f1 q1 => by
    cases d with
    | int i => exact ⟨i, rv, p (some i) H1 μ1 rh1 f1 q1⟩
    | _ => exact q1.elim⟩
def rSD (X : Cx) (T : Tab) : V → Option Int → Option Int → Hp → VK → Prop := fun x lo hi H Q' => ∃ dx μ Q, RepV X.K H dx x ∧ RepH X.w X.K T H μ ∧ slc2P dx lo hi μ Q ∧ Pst X T H μ Q Q'
theorem sIx_eq (n d : Nat) (o : Option Int) : MP.sIx n d o = HT.sIx n d o := by cases o <;> rfl
theorem RepVs.slice {K : PySem.W.Frag} {l : List D} {vs : List V} (r : RepVs K H l vs) (i j : Option Int) : RepVs K H (sliceL l i j) (cutV vs i j) := by
  unfold sliceL cutV
  rw [r.length, sIx_eq, sIx_eq]
  exact (r.drop _).take _
theorem slice_whole {α : Type} {l : List α} {i j : Option Int} (h : HT.sIx l.length 0 i = 0 ∧ HT.sIx l.length l.length j = l.length) : sliceL l i j = l := by
  unfold sliceL
  rw [sIx_eq, sIx_eq, h.1, h.2]
  simp
theorem sl_run : SlR X (rSD X T) := by
  intro pins s σ H x v vl vu lo hi sl Q' I rx hs pl pu ⟨dx, μ, Q, hx, rh, h, p⟩
  cases dx with
  | tup l =>
    obtain ⟨a, vs, rfl, st, rl⟩ := hx
    refine sl_tupA pins s σ H _ v vl vu lo hi sl Q' I rx hs pl pu ⟨a, vs, rfl, st, fun hw => ?_, fun _ => p.tup rh (rl.slice lo hi) h⟩
    rw [← rl.length] at hw
    have h : Q (.tup (sliceL l lo hi)) μ := h
    rw [slice_whole hw] at h
    exact p.val rh (sqT_of st rl) h
  | str l =>
    cases hx
    obtain ⟨hz, h⟩ := h
    refine sl_str pins s σ H _ v vl vu lo hi sl Q' I rx hs pl pu ⟨toS l, rfl, ?_, ?_⟩
    · show l.toArray.size ≤ sizeLine
      rw [← sizeMax_eq]; simpa using hz
    · have e : cutS (toS l) lo hi = toS (sliceL l lo hi) := by
        unfold cutS sliceL
        have el : (toS l).length = l.length := by show l.toArray.size = _; simp
        rw [el, sIx_eq, sIx_eq]
      rw [e]; exact p.str rh h
  | ref a =>
    cases hx
    obtain ⟨l, e, h⟩ := rdL_get h
    obtain ⟨vs, h1, rl⟩ := rh a _ e
    exact sl_list pins s σ H _ v vl vu lo hi sl Q' I rx hs pl pu ⟨a, vs, rfl, SqL.of h1, p.lst rh (rl.slice lo hi) h⟩
  | _ => exact h.elim
theorem e_slc {a : Expr} {lo hi : Option Expr} {ca cl ch : E} {p2 pos : Pos} (ha : PE X a (tE X T G ca)) (hl : PO X lo (tO X T G cl)) (hh : PO X hi (tO X T G ch)) : PE X (.Subscript a (.Slice lo hi none p2) pos) (tE X T G (.slc ca cl ch)) :=
  (pe_slice (sl_run (T := T)) ha hl hh).imp fun σ H Q' ⟨ρ, μ, Q, rs, rh, hw, p⟩ =>
    ⟨ρ, μ, _, rs, rh, hw, fun x vx H1 μ1 rx rh1 f1 q1 => ⟨ρ, μ1, fun i μ2 => wpE G ch ρ μ2 (fun z μ3 => optP (optI z) fun j => slc2P x i j μ3 Q) T.Z, rs.mono (f1.keeps rh), rh1, q1, fun i H2 μ2 rh2 f2 q2 =>
      ⟨ρ, μ2, fun j μ3 => slc2P x i j μ3 Q, rs.mono ((f1.trans f2).keeps rh), rh2, q2, fun j H3 μ3 rh3 f3 q3 => ⟨x, μ3, Q, rx.mono ((f2.trans f3).keeps rh1), rh3, q3, p.step ((f1.trans f2).trans f3)⟩⟩⟩⟩
end
end MP

set_option linter.all false
set_option maxRecDepth 100000
set_option maxHeartbeats 1000000
set_option Elab.async false
namespace MP
open PySem PySem.Spec PyProof.Rows L2
section
variable {X : Cx} {T : Tab} {G : Ctx} {H H' H1 : Hp} {μ μ' μ1 : Sto} {Q : D → Sto → Prop} {Q' : VK} {σ : L2.St} {ρ : Env}
def rM (X : Cx) (T : Tab) (p : Prim) : V → List V → Hp → VK → Prop := fun x vs H Q' => ∃ dx ds μ Q, RepV X.K H dx x ∧ RepVs X.K H ds vs ∧ RepH X.w X.K T H μ ∧ primP p (dx :: ds) μ Q ∧ Pst X T H μ Q Q'
theorem m_append : MtR X "list.append" (rM X T .append) := by
  intro pins s σ H x vs v us Q' I rx rvs ⟨dx, ds, μ, Q, hx, hv, rh, h, p⟩
  obtain ⟨d, e, e1, h⟩ := arg2_get h
  cases e1
  replace hv := hv.get1
  obtain ⟨y, rfl, hv⟩ := hv
  obtain ⟨a, l, rfl, ea, hz, q⟩ := rdR_get h
  cases hx
  obtain ⟨xs, hs, rl⟩ := rh a _ ea
  exact mt_append pins s σ H _ _ v us Q' I rx rvs ⟨a, xs, y, rfl, rfl, hs, by rw [← rl.length, ← sizeMax_eq]; exact hz, p .non _ _ _ rfl (rh.wr ea (ob' := .lst (l ++ [e])) ⟨_, L2.upd_same, (rl.append (.one hv)).mono (.wr rh ea)⟩) (Fr.wr ea) q⟩
theorem m_pop : MtR X "list.pop" (rM X T .pop) := by
  intro pins s σ H x vs v us Q' I rx rvs ⟨dx, ds, μ, Q, hx, hv, rh, h, p⟩
  obtain ⟨d, e1, h⟩ := arg1_get h
  cases e1
  cases (show vs = [] from hv)
  obtain ⟨a, l, rfl, ea, h⟩ := rdR_get h
  obtain ⟨e, el, q⟩ := optP_get h
  cases hx
  obtain ⟨xs, hs, rl⟩ := rh a _ ea
  have el : l[l.length - 1]? = some e := by rw [← List.getLast?_eq_getElem?]; exact el
  obtain ⟨y, hy, ry⟩ := rl.get el
  refine mt_pop pins s σ H _ _ v us Q' I rx rvs ⟨a, xs, y, rfl, rfl, hs, by rw [← rl.length]; exact hy, p _ _ _ _ (ry.mono (.wr rh ea)) (rh.wr ea (ob' := .lst l.dropLast) ⟨_, L2.upd_same, (rl.dropLast).mono (.wr rh ea)⟩) (Fr.wr ea) q⟩
theorem e_get {o e f : Expr} {co ce cf : E} {apos cpos : Pos} (hu : X.A.units + 65 < cLine) (ho : PE X o (tE X T G co)) (he : PE X e (tE X T G ce)) (hf : PE X f (tE X T G cf)) (m : M2 X o "get" apos e f cpos) : PE X (.Call (.Attribute o "get" apos) [e, f] [] cpos) (tE X T G (.bm .get co (.cons ce (.cons cf .nil)))) :=
  (pe_dget2 (by omega) ho he hf m).imp fun σ H Q' ⟨ρ, μ, Q, rs, rh, hw, p⟩ => ⟨ρ, μ, _, rs, rh, hw, fun d v H1 μ1 rv rh1 f1 q1 => by
    obtain ⟨q1, q2⟩ := q1
    obtain ⟨a, l, rfl, ea, _⟩ := rdG_get q1
    obtain rfl : v = .ref a := rv
    refine ⟨a, rfl, ?_, ρ, μ1, _, rs.mono (f1.keeps rh), rh1, q2, fun d2 v2 H2 μ2 rv2 rh2 f2 q3 => ⟨ρ, μ2, _, (rs.mono (f1.keeps rh)).mono (f2.keeps rh1), rh2, q3, fun d3 v3 H3 μ3 rv3 rh3 f3 q4 => ?_⟩⟩
    · rcases ea with ea | ea
      · obtain ⟨kvs, hs, _⟩ := rh1 a _ ea
        exact .inl ⟨kvs, .inl hs⟩
      · obtain ⟨od, kvs, hs, _⟩ := rh1 a _ ea
        exact .inl ⟨kvs, .inr ⟨od, hs⟩⟩
    · have q4 : rdG (.ref a) μ3 fun _ l => isFlat d2 = true ∧ Q ((dget l d2).getD d3) μ3 := q4
      obtain ⟨a', l, e0, ea, hf, q⟩ := rdG_get q4
      cases e0
      have hk := rv2.mono (f3.keeps rh2)
      have ex := kOf_v hf hk
      subst ex
      have p3 := p.step (f1.trans (f2.trans f3))
      have fin : ∀ kvs, Rd H3 a (.dK kvs) → RepK X.K H3 l kvs → ∃ o, DGet H3 a (kV (kOf d2)) o ∧ Q' (o.getD v3) H3 := fun kvs hs rk => by
        refine ⟨valV kvs (kOf d2), .inl ⟨kvs, kOf d2, hs, rfl, rfl⟩, ?_⟩
        cases e : dget l d2 with
        | none =>
          rw [e] at q
          have : valV kvs (kOf d2) = none := by
            have := rk.isSome hf
            rw [e] at this
            cases hv : valV kvs (kOf d2) with
            | none => rfl
            | some _ => rw [hv] at this; cases this
          rw [this]
          exact p3.val rh3 rv3 q
        | some d =>
          rw [e] at q
          obtain ⟨v, h4, h5⟩ := rk.some hf e
          rw [h4]
          exact p3.val rh3 h5 q
      rcases ea with ea | ea
      · obtain ⟨kvs, hs, rk⟩ := rh3 a _ ea
        exact fin kvs (.inl hs) rk
      · obtain ⟨od, kvs, hs, rk⟩ := rh3 a _ ea
        exact fin kvs (.inr ⟨od, hs⟩) rk⟩
def recvT (p : Prim) : String := match p with
  | .join => "str"
  | .split => "str"
  | .get => "dict"
  | .dpop => "dict"
  | .dpop1 => "dict"
  | _ => "list"
theorem rcv_lst {d : D} {x : V} (h : rdR d μ fun _ _ => True) (rx : RepV X.K H d x) (rh : RepH X.w X.K T H μ) : tyV X.K "list" x H := by
  obtain ⟨a, l, rfl, e, _⟩ := rdR_get h
  cases rx
  obtain ⟨xs, hs, _⟩ := rh a _ e
  exact .inl ⟨rfl, xs, SqL.of hs⟩
theorem rcv_dct {d : D} {x : V} (h : rdD d μ fun _ _ => True) (rx : RepV X.K H d x) (rh : RepH X.w X.K T H μ) : tyV X.K "dict" x H := by
  obtain ⟨a, l, rfl, e, _⟩ := rdD_get h
  cases rx
  obtain ⟨xs, hs, _⟩ := rh a _ e
  exact .inr (.inr (.inl ⟨rfl, .inl ⟨xs, hs⟩⟩))
theorem rcv_str {d : D} {x : V} (h : isStr d = true) (rx : RepV X.K H d x) : tyV X.K "str" x H := by
  cases d with
  | str z => cases rx; rfl
  | _ => cases h
theorem rcv {p : Prim} {d : D} {x : V} (hp : p ≠ .get) (h : recvP p d μ) (rx : RepV X.K H d x) (rh : RepH X.w X.K T H μ) : tyV X.K (recvT p) x H := by
  cases p <;> first | exact absurd rfl hp | exact rcv_lst h rx rh | exact rcv_dct h rx rh | exact rcv_str h rx
theorem e_bm {p : Prim} (hp : p ≠ .get) {id : String} {name : Str} {o e : Expr} {es : List Expr} {co c : E} {apos cpos : Pos} (pa : PlainAttrs (recvT p)) (slot : Slot (recvT p) name id) (hty : typeOf (.builtin id) = pure (.type "method_descriptor")) (hm : MtR X id (rM X T p)) (ho : PE X o (tE X T G co)) (ha : PA X (e :: es) (tA X T G c))
    (hbase : attributeBase o name X.env (eval o X.env) = eval o X.env)
    (hfew : ((backTo cpos (starEach (e :: es) X.env)).all (fun x => !x.1) && (backToKw cpos (keywordEach [] X.env)).all (fun x => x.1.isSome)
      && decide ((e :: es).length + ([] : List Keyword).length + (if ([] : List Keyword).isEmpty then 0 else 1) < 30)) = true)
    (hline : (apos.endLine == cpos.line) = true) (hs : starEach (e :: es) X.env = (false, eval e X.env) :: starEach es X.env) (hplain : (backTo cpos (starEach es X.env)).any (·.1) = false) :
    PE X (.Call (.Attribute o name apos) (e :: es) [] cpos) (tE X T G (.bm p co c)) :=
  (pe_bm pa slot hty hm ho ha hbase hfew hline hs hplain).imp fun σ H Q' ⟨ρ, μ, Q, rs, rh, hw, p⟩ =>
    ⟨ρ, μ, _, rs, rh, hw, fun d v H1 μ1 rv rh1 f1 ⟨q1, q2⟩ => ⟨rcv hp q1 rv rh1, ρ, μ1, _, rs.mono (f1.keeps rh), rh1, q2, fun ds vs H2 μ2 rvs rh2 f2 hn q3 => ⟨d, ds, μ2, Q, rv.mono (f2.keeps rh1), rvs, rh2, q3, p.step (f1.trans f2)⟩⟩⟩
theorem e_bm0 {p : Prim} (hp : p ≠ .get) {id : String} {name : Str} {o : Expr} {co : E} {apos cpos : Pos} (pa : PlainAttrs (recvT p)) (slot : Slot (recvT p) name id) (hty : typeOf (.builtin id) = pure (.type "method_descriptor")) (hm : MtR X id (rM X T p)) (ho : PE X o (tE X T G co))
    (hbase : attributeBase o name X.env (eval o X.env) = eval o X.env) (hline : (apos.endLine == cpos.line) = true) :
    PE X (.Call (.Attribute o name apos) [] [] cpos) (tE X T G (.bm p co .nil)) :=
  (pe_bm0 pa slot hty hm ho hbase hline).imp fun σ H Q' ⟨ρ, μ, Q, rs, rh, hw, p⟩ =>
    ⟨ρ, μ, _, rs, rh, hw, fun d v H1 μ1 rv rh1 f1 ⟨q1, q2⟩ => ⟨rcv hp q1 rv rh1, d, [], μ1, Q, rv, rfl, rh1, q2, p.step f1⟩⟩
end
end MP

set_option linter.all false
set_option maxRecDepth 100000
set_option maxHeartbeats 1000000
set_option Elab.async false
namespace MP
open PySem PySem.Spec PyProof.Rows L2
section
variable {X : Cx} {T : Tab} {G : Ctx} {H H' H1 : Hp} {μ μ' μ1 : Sto} {Q : D → Sto → Prop} {Q' : VK} {σ : L2.St} {ρ : Env}
theorem ints_mapD : ∀ ns : List Int, intsD (ns.map D.int) = some ns
  | [] => rfl
  | n :: ns => by show (intsD (ns.map D.int)).map (n :: ·) = _; rw [ints_mapD ns]; rfl
theorem own_get {d : D} {k : List D → Prop} (h : ownK d μ k) : ∃ a, d = .ref a ∧ ((∃ l, μ a = some (.lst l) ∧ k l) ∨ ∃ l, μ a = some (.dF l) ∧ k (l.map (·.1))) := by
  cases d with
  | ref a =>
    obtain ⟨m, e, h⟩ := optP_get h
    obtain ⟨o, e1, e2⟩ := Option.bind_eq_some_iff.mp e
    cases o with
    | lst l => cases e2; exact ⟨a, rfl, .inl ⟨_, e1, h⟩⟩
    | dF l => cases e2; exact ⟨a, rfl, .inr ⟨l, e1, h⟩⟩
    | _ => cases e2
  | _ => exact h.elim
theorem lstK_get {d : D} {k : List D → Prop} (h : lstK d μ k) : (∃ l, d = .tup l ∧ k l) ∨ ownK d μ k := by
  cases d with
  | tup l => exact .inl ⟨l, rfl, h⟩
  | ref a => exact .inr h
  | _ => exact h.elim
theorem RepK.keys {K : PySem.W.Frag} : ∀ {l : List (D × D)} {kvs : List (Key × V)}, RepK K H l kvs → RepVs K H (l.map (·.1)) (kvs.map fun z => kV z.1)
  | [], _, h => by rw [show _ = [] from h]; rfl
  | (k, d) :: r, _, ⟨κ, v, q, e, h1, _, _, h4⟩ => by subst e; exact ⟨_, _, rfl, h1, RepK.keys h4⟩
theorem p_list (hc : X.calm = true) : CallR X (.type "list") (rP X T .list) := by
  intro pins s σ H xs us Q' I r ⟨ds, μ, Q, rv, rh, h, p⟩
  obtain ⟨d, rfl, h⟩ := arg1_get h
  replace rv := rv.get1
  obtain ⟨v, rfl, rv⟩ := rv
  rcases lstK_get h with ⟨l, rfl, h⟩ | h
  · obtain ⟨a, vs, rfl, st, rl⟩ := rv
    exact call_list_of pins s σ H _ us Q' I r ⟨a, vs, rfl, .inr st, p.lst rh rl h⟩
  · obtain ⟨a, rfl, ⟨l, e, h⟩ | ⟨l, e, h⟩⟩ := own_get h
    · cases rv
      obtain ⟨vs, hs, rl⟩ := rh a _ e
      exact call_list_of pins s σ H _ us Q' I r ⟨a, vs, rfl, .inl (SqL.of hs), p.lst rh rl h⟩
    · cases rv
      obtain ⟨kvs, hs, rk⟩ := rh a _ e
      exact call_listD hc pins s σ H _ us Q' I r ⟨a, kvs, rfl, .inl hs, p.lst rh rk.keys h⟩
theorem p_dict : CallR X (.type "dict") (rP X T .dict) := by
  intro pins s σ H xs us Q' I r ⟨ds, μ, Q, rv, rh, h, p⟩
  obtain ⟨d, rfl, h⟩ := arg1_get h
  replace rv := rv.get1
  obtain ⟨v, rfl, rv⟩ := rv
  obtain ⟨a, l, rfl, e, h⟩ := rdD_get h
  cases rv
  obtain ⟨kvs, hs, rk⟩ := rh a _ e
  refine call_dictD pins s σ H _ us Q' I r ⟨a, kvs, rfl, .inl hs, fun q hq => ?_⟩
  exact p (.ref q) _ _ _ rfl (rh.newO hq (ob := .dF l) ⟨kvs, L2.upd_same, rk.mono (.new hq)⟩) (Fr.newO hq) (h q (rh.free hq))
abbrev tlS (z : Str) : List Nat := z.cps.toList
theorem RepVs.strs {K : PySem.W.Frag} : ∀ {zs : List (List Nat)} {vs : List V}, RepVs K H (zs.map D.str) vs → vs = (zs.map toS).map V.str
  | [], _, h => h
  | z :: zs, _, ⟨v, q, e, h, t⟩ => by
    subst e
    rw [RepVs.strs t, show v = .str (toS z) from h]; rfl
theorem RepVs.of_strs {K : PySem.W.Frag} : ∀ (ys : List Str), RepVs K H ((ys.map tlS).map D.str) (ys.map V.str)
  | [] => rfl
  | y :: ys => ⟨_, _, rfl, by show V.str y = .str (toS y.cps.toList); rw [toS_cps], RepVs.of_strs ys⟩
theorem perm_tl {ys : List Str} {zs : List (List Nat)} (h : ys.Perm (zs.map toS)) : (ys.map tlS).Perm zs := by
  have := h.map tlS
  rw [List.map_map] at this
  have e : (tlS ∘ toS) = id := funext fun z => by simp [Function.comp, tlS, toS]
  rw [e, List.map_id] at this
  exact this
theorem lt_cps : ∀ a b : List Nat, ltCps a b = strLt a b
  | [], [] => rfl
  | [], _ :: _ => rfl
  | _ :: _, [] => rfl
  | x :: a, y :: b => by
    show (decide (x < y) || (x == y && ltCps a b)) = (decide (x < y) || (x == y && strLt a b))
    rw [lt_cps a b]
theorem risingS_pw : ∀ {ys : List Str} {x : Str}, risingS x ys = true → ((x :: ys).map tlS).Pairwise fun a b => strLt b a = false
  | [], x, _ => by simp
  | y :: ys, x, h => by
    have h : (!ltCps y.cps.toList x.cps.toList && risingS y ys) = true := h
    rw [Bool.and_eq_true, Bool.not_eq_true', lt_cps] at h
    have ih := risingS_pw h.2
    refine List.pairwise_cons.mpr ⟨fun z hz => ?_, ih⟩
    have h1 : tlS x ≤ tlS y := strLe_dec.mp h.1
    rcases List.mem_cons.mp (show z ∈ tlS y :: ys.map tlS from hz) with rfl | hz
    · exact h.1
    · exact strLe_dec.mpr (List.le_trans h1 (strLe_dec.mp ((List.pairwise_cons.mp ih).1 z hz)))
theorem sortedS_pw {ys : List Str} (h : sortedS ys = true) : (ys.map tlS).Pairwise fun a b => strLt b a = false := by
  cases ys with
  | nil => exact .nil
  | cons x r => exact risingS_pw h
theorem sort_strs {zs : List (List Nat)} {ys : List Str} (h1 : ys.Perm (zs.map toS)) (h2 : sortedS ys = true) : sortD (zs.map D.str) = (ys.map tlS).map D.str := sortD_strs (perm_tl h1) (sortedS_pw h2)
theorem ints_of_keys {vs : List (Key × Value)} {ns : List Int} {acc : List Value} (hk : vs.map (·.1) = ns.map Sum.inl) (hl : acc.length = ns.length)
    (hacc : ∀ (j : Nat) (v : Value), acc[j]? = some v → ∃ k x, vs[j]? = some (k, x) ∧ keyIs k v = true) : IntsAre acc ns := by
  refine ints_each hl fun j v e => ?_
  obtain ⟨k, x, e1, e2⟩ := hacc j v e
  have e3 := congrArg (fun l => l[j]?) hk
  simp only [List.getElem?_map, e1, Option.map_some] at e3
  obtain ⟨n, e4, e5⟩ := Option.map_eq_some_iff.mp e3.symm
  rcases keyIs_shape e2 with ⟨i, t, ek, ev⟩ | ⟨z, t, ek, ev⟩
  · rw [← e5] at ek; cases ek; exact ⟨n, t, e4, ev⟩
  · rw [← e5] at ek; cases ek
theorem cr_sortedKeysI (hc : X.calm = true) {pins : List (Addr × Obj)} {s : Shared} {us : List Value} {a : Addr} {kvs : List (Key × V)} {ns : List Int} (I : Inv X pins σ H s) (r : Vals [.ref a] us) (hd : Rd H a (.dK kvs)) (hk : kvs.map (·.1) = ns.map Sum.inl)
    (q : ∀ (ms : List Int) (p : Addr), ms.Perm ns → ms.Pairwise (· ≤ ·) → H p = none → Q' (.ref p) (L2.upd H p (.lst (ms.map V.int)))) : wpAny (model X.prog X.w) X.A (call (.builtin "sorted") us) (EP X pins σ Q') X.xe s := by
  obtain ⟨u, rfl, ru⟩ := vals1 r
  cases ru
  obtain ⟨hz, lo, vs, rel, dd⟩ := dk_rd I.hok hd
  obtain ⟨ep, at_⟩ := dd.dictAt
  have ek : vs.map (·.1) = ns.map Sum.inl := by rw [← rel.keys]; exact hk
  have el : vs.length = ns.length := by simpa using congrArg List.length ek
  have ez : vs.length ≤ sizeLine := by rw [← rel.length]; exact hz
  refine Calls.call_function_entry PyProof.Rows.kind_sorted PyProof.Rows.plain_sorted PyProof.Rows.entry_sorted (PyProof.Rows.args_sorted1 _) (by
    unfold Builtin.«sorted»
    refine wpAny_bind (m := checkCount "sorted" 1 1 _) (wpAny_pure (wpAny_bind (PySem.W.kdu_collect (A := X.A.in1) (PySem.W.kdl_dict (knd := mixKind X.prog X.w) (kvs := vs) (ep := ep) lo) (I.ok.hd hc) at_ ez fun hp tk acc kp ha => ?_)))
    have al : acc.toList.length = ns.length := (Array.length_toList).trans (ha.1.trans el)
    have hI : IntsAre acc.toList ns := ints_of_keys ek al fun j v e => ha.2 j v ((Array.getElem?_toList).symm.trans e)
    have ez2 : acc.toList.length ≤ sizeLine := by rw [al, ← el]; exact ez
    have J : Inv X pins σ H { s with heap := hp, toks := tk } := I.kept kp
    refine wpAny_bind (wpAny_newList ?_ ez2)
    have at2 : (hp.push (seqObj "list" acc.toList.toArray 0)).get? hp.objs.size = some (seqObj "list" acc.toList.toArray 0) := Heap.get?_push_size _ rfl
    show wpAny _ _ _ _ _ ({ s with toks := tk, heap := hp.push (seqObj "list" acc.toList.toArray 0) } : Shared)
    refine wpAny_bind (wpAny_holding (wpAny_call_entry (s := { s with toks := tk, heap := hp.push (seqObj "list" acc.toList.toArray 0) }) PyProof.Rows.slot_list_sort ⟨_, at2, rfl⟩ PyProof.Rows.entry_list_sort
      (SrtO.list_sort_ord (s := { s with toks := tk, heap := hp.push (seqObj "list" acc.toList.toArray 0) }) SrtO.swo_int at2 ez2 (fun h2 => SrtO.ints_sortable hI h2) fun out g1 g2 => ⟨_, rfl, ?_⟩) (PyProof.Rows.args_list_sort _)))
    obtain ⟨k1, k2, k3⟩ := SrtO.ints_out hI g1 g2
    obtain ⟨e', at3⟩ := PyProof.Rows.sortedHeap_at (vs := acc.toList) (out := out.toArray) at2
    have len : ((out.map SrtO.iv).map V.int).length ≤ sizeLine := by rw [List.length_map, k2.length_eq, ← el]; exact ez
    refine wpAny_pure ⟨_, rfl, .ref hp.objs.size, L2.upd H hp.objs.size (.lst ((out.map SrtO.iv).map V.int)), J.laid (t' := tk) (fun b o e => ?_) (Nat.le_refl _) ⟨len, out, e', vals_of_ints k1, at3⟩, rfl, q _ _ k2 k3 (J.hok.fresh (Nat.le_refl _))⟩
    rw [PyProof.Rows.sortedHeap_old (Nat.ne_of_lt (Heap.lt_size e)) (Heap.lt_size (Heap.get?_push_of_some _ e))]
    exact Heap.get?_push_of_some _ e)
theorem strs_each : ∀ {us : List Value} {ks : List Str}, us.length = ks.length → (∀ (j : Nat) (v : Value), us[j]? = some v → ∃ (x : Str) (t : Tok), ks[j]? = some x ∧ v = Value.str x t) → StrsAre us ks
  | [], [], _, _ => .nil
  | [], _ :: _, h, _ => nomatch h
  | _ :: _, [], h, _ => nomatch h
  | u :: us, k :: ks, h, p => by
    obtain ⟨x, t, e1, e2⟩ := p 0 u rfl
    cases e1
    subst e2
    exact .cons k t (strs_each (by simpa using h) fun j v e => p (j + 1) v e)
theorem strs_of_keys {vs : List (Key × Value)} {ns : List Str} {acc : List Value} (hk : vs.map (·.1) = ns.map Sum.inr) (hl : acc.length = ns.length)
    (hacc : ∀ (j : Nat) (v : Value), acc[j]? = some v → ∃ k x, vs[j]? = some (k, x) ∧ keyIs k v = true) : StrsAre acc ns := by
  refine strs_each hl fun j v e => ?_
  obtain ⟨k, x, e1, e2⟩ := hacc j v e
  have e3 := congrArg (fun l => l[j]?) hk
  simp only [List.getElem?_map, e1, Option.map_some] at e3
  obtain ⟨n, e4, e5⟩ := Option.map_eq_some_iff.mp e3.symm
  rcases keyIs_shape e2 with ⟨i, t, ek, ev⟩ | ⟨z, t, ek, ev⟩
  · rw [← e5] at ek; cases ek
  · rw [← e5] at ek; cases ek; exact ⟨n, t, e4, ev⟩
theorem cr_sortedSA {pins : List (Addr × Obj)} {s : Shared} {us : List Value} {a : Addr} {xs : List Str} (I : Inv X pins σ H s) (r : Vals [.ref a] us) (hs : SqL X.K H a (xs.map V.str))
    (q : ∀ (ys : List Str) (p : Addr), ys.Perm xs → sortedS ys = true → H p = none → Q' (.ref p) (L2.upd H p (.lst (ys.map V.str)))) : wpAny (model X.prog X.w) X.A (call (.builtin "sorted") us) (EP X pins σ Q') X.xe s := by
  obtain ⟨its, vls, il, big⟩ := I.list hs
  rw [Vals.ref1 r]
  refine PyProof.Rows.sorted_strsAny il.isList vls.strs (by rw [← vls.length]; exact big) fun out ys g1 g2 g3 => ?_
  obtain ⟨e', at3⟩ := PyProof.Rows.sortedAll_at s.heap its out
  have len : (ys.map V.str).length ≤ sizeLine := by
    rw [List.length_map] at big
    rw [List.length_map, g2.length_eq]; exact big
  refine ⟨.ref _, L2.upd H (s.heap.objs.size + 1) (.lst (ys.map V.str)), I.laid (t' := s.toks) (fun _ _ => PyProof.Rows.sortedAll_old) (Nat.le_succ _) ⟨len, out.toList, e', vals_of_strs g1, at3⟩, rfl, ?_⟩
  exact q ys _ g2 g3 (I.hok.fresh (Nat.le_succ _))
theorem cr_sortedKeysS (hc : X.calm = true) {pins : List (Addr × Obj)} {s : Shared} {us : List Value} {a : Addr} {kvs : List (Key × V)} {ns : List Str} (I : Inv X pins σ H s) (r : Vals [.ref a] us) (hd : Rd H a (.dK kvs)) (hk : kvs.map (·.1) = ns.map Sum.inr)
    (q : ∀ (ms : List Str) (p : Addr), ms.Perm ns → sortedS ms = true → H p = none → Q' (.ref p) (L2.upd H p (.lst (ms.map V.str)))) : wpAny (model X.prog X.w) X.A (call (.builtin "sorted") us) (EP X pins σ Q') X.xe s := by
  obtain ⟨u, rfl, ru⟩ := vals1 r
  cases ru
  obtain ⟨hz, lo, vs, rel, dd⟩ := dk_rd I.hok hd
  obtain ⟨ep, at_⟩ := dd.dictAt
  have ek : vs.map (·.1) = ns.map Sum.inr := by rw [← rel.keys]; exact hk
  have el : vs.length = ns.length := by simpa using congrArg List.length ek
  have ez : vs.length ≤ sizeLine := by rw [← rel.length]; exact hz
  refine Calls.call_function_entry PyProof.Rows.kind_sorted PyProof.Rows.plain_sorted PyProof.Rows.entry_sorted (PyProof.Rows.args_sorted1 _) (by
    unfold Builtin.«sorted»
    refine wpAny_bind (m := checkCount "sorted" 1 1 _) (wpAny_pure (wpAny_bind (PySem.W.kdu_collect (A := X.A.in1) (PySem.W.kdl_dict (knd := mixKind X.prog X.w) (kvs := vs) (ep := ep) lo) (I.ok.hd hc) at_ ez fun hp tk acc kp ha => ?_)))
    have al : acc.toList.length = ns.length := (Array.length_toList).trans (ha.1.trans el)
    have hI : StrsAre acc.toList ns := strs_of_keys ek al fun j v e => ha.2 j v ((Array.getElem?_toList).symm.trans e)
    have ez2 : acc.toList.length ≤ sizeLine := by rw [al, ← el]; exact ez
    have J : Inv X pins σ H { s with heap := hp, toks := tk } := I.kept kp
    refine wpAny_bind (wpAny_newList ?_ ez2)
    have at2 : (hp.push (seqObj "list" acc.toList.toArray 0)).get? hp.objs.size = some (seqObj "list" acc.toList.toArray 0) := Heap.get?_push_size _ rfl
    show wpAny _ _ _ _ _ ({ s with toks := tk, heap := hp.push (seqObj "list" acc.toList.toArray 0) } : Shared)
    refine wpAny_bind (wpAny_holding (wpAny_call_entry (s := { s with toks := tk, heap := hp.push (seqObj "list" acc.toList.toArray 0) }) PyProof.Rows.slot_list_sort ⟨_, at2, rfl⟩ PyProof.Rows.entry_list_sort
      (PyProof.Rows.list_sort_treeKAny (s := { s with toks := tk, heap := hp.push (seqObj "list" acc.toList.toArray 0) }) PyProof.Rows.strKind_oneLt at2 hI.keysOf (fun v₁ v₂ rest e => PyProof.Rows.keyKind_strs (by rw [← e]; exact hI)) ez2 fun st g1 g2 => ⟨_, rfl, ?_⟩) (PyProof.Rows.args_list_sort _)))
    obtain ⟨ss, k1, k2, k3⟩ := PyProof.Rows.sorted_out_str hI g1 g2
    obtain ⟨e', at3⟩ := PyProof.Rows.sortedHeap_at (vs := acc.toList) (out := (PyProof.Rows.arrOf st).map (·.2)) at2
    have len : (ss.map V.str).length ≤ sizeLine := by rw [List.length_map, k2.length_eq, ← el]; exact ez
    refine wpAny_pure ⟨_, rfl, .ref hp.objs.size, L2.upd H hp.objs.size (.lst (ss.map V.str)), J.laid (t' := tk) (fun b o e => ?_) (Nat.le_refl _) ⟨len, ((PyProof.Rows.arrOf st).map (·.2)).toList, e', vals_of_strs k1, at3⟩, rfl, q ss _ k2 k3 (J.hok.fresh (Nat.le_refl _))⟩
    rw [PyProof.Rows.sortedHeap_old (Nat.ne_of_lt (Heap.lt_size e)) (Heap.lt_size (Heap.get?_push_of_some _ e))]
    exact Heap.get?_push_of_some _ e)
theorem RepK.ints {K : PySem.W.Frag} : ∀ {l : List (D × D)} {kvs : List (Key × V)} {ns : List Int}, RepK K H l kvs → l.map (·.1) = ns.map D.int → kvs.map (·.1) = ns.map Sum.inl
  | [], _, ns, h, e => by
    rw [show _ = [] from h]
    cases ns with
    | nil => rfl
    | cons _ _ => cases e
  | (k, d) :: r, _, ns, h, e => by
    obtain ⟨v, q, rfl, _, _, h4⟩ := h.key
    cases ns with
    | nil => cases e
    | cons n ns =>
      rw [List.map_cons, List.map_cons] at e
      injection e with e1 e2
      rw [List.map_cons, List.map_cons, RepK.ints h4 e2, show k = .int n from e1]; rfl
theorem RepK.strs {K : PySem.W.Frag} : ∀ {l : List (D × D)} {kvs : List (Key × V)} {ns : List (List Nat)}, RepK K H l kvs → l.map (·.1) = ns.map D.str → kvs.map (·.1) = (ns.map toS).map Sum.inr
  | [], _, ns, h, e => by
    rw [show _ = [] from h]
    cases ns with
    | nil => rfl
    | cons _ _ => cases e
  | (k, d) :: r, _, ns, h, e => by
    obtain ⟨v, q, rfl, _, _, h4⟩ := h.key
    cases ns with
    | nil => cases e
    | cons n ns =>
      rw [List.map_cons, List.map_cons] at e
      injection e with e1 e2
      rw [List.map_cons, List.map_cons, List.map_cons, RepK.strs h4 e2, show k = .str n from e1]; rfl
theorem sortable_get {l : List D} (h : sortable l = true) : (∃ ns : List Int, l = ns.map D.int) ∨ ∃ zs : List (List Nat), l = zs.map D.str := by
  unfold sortable at h
  rw [Bool.or_eq_true] at h
  rcases h with h | h
  · exact .inl (isInt_map h)
  · obtain ⟨zs, rfl⟩ := isStr_map h
    exact .inr ⟨zs, rfl⟩
theorem p_sorted (hc : X.calm = true) : CallR X (.builtin "sorted") (rP X T .sorted) := by
  intro pins s σ H xs us Q' I r ⟨ds, μ, Q, rv, rh, h, p⟩
  obtain ⟨d, rfl, h⟩ := arg1_get h
  replace rv := rv.get1
  obtain ⟨v, rfl, rv⟩ := rv
  have fi : ∀ {ns ms : List Int} {q : Addr}, new μ (.lst (sortD (ns.map D.int))) Q → ms.Perm ns → ms.Pairwise (· ≤ ·) → H q = none → Q' (.ref q) (L2.upd H q (.lst (ms.map V.int))) := fun {ns ms q} h h1 h2 hq =>
    p.lst rh (RepVs.of_ints ms) (by rw [← sortD_ints h1 h2]; exact h) q hq
  have fs : ∀ {zs : List (List Nat)} {ys : List Str} {q : Addr}, new μ (.lst (sortD (zs.map D.str))) Q → ys.Perm (zs.map toS) → sortedS ys = true → H q = none → Q' (.ref q) (L2.upd H q (.lst (ys.map V.str))) := fun {zs ys q} h h1 h2 hq =>
    p.lst rh (RepVs.of_strs ys) (by rw [← sort_strs h1 h2]; exact h) q hq
  obtain ⟨a, rfl, ⟨l, e, hs, h⟩ | ⟨l, e, hs, h⟩⟩ := own_get h
  · cases rv
    obtain ⟨vs, ha, rl⟩ := rh a _ e
    rcases sortable_get hs with ⟨ns, rfl⟩ | ⟨zs, rfl⟩
    · have e1 := rl.intsD (ints_mapD ns)
      subst e1
      exact cr_sortedI pins s σ H _ us Q' I r ⟨a, ns, rfl, SqL.of ha, fun ms q h1 h2 hq => fi h h1 h2 hq⟩
    · have e1 := rl.strs
      subst e1
      exact cr_sortedSA I r (SqL.of ha) fun ys q h1 h2 hq => fs h h1 h2 hq
  · cases rv
    obtain ⟨kvs, ha, rk⟩ := rh a _ e
    rcases sortable_get hs with ⟨ns, el⟩ | ⟨zs, el⟩
    · rw [el] at h
      exact cr_sortedKeysI hc I r (.inl ha) (rk.ints el) fun ms q h1 h2 hq => fi h h1 h2 hq
    · rw [el] at h
      exact cr_sortedKeysS hc I r (.inl ha) (rk.strs el) fun ys q h1 h2 hq => fs h h1 h2 hq
theorem natO_get {d : D} {k : Nat → Prop} (h : natO d k) : ∃ n : Nat, d = .int n ∧ n < 1000000000 ∧ k n := by
  cases d with
  | int i => exact ⟨i.toNat, by rw [Int.toNat_of_nonneg h.1], by have := h.1; have := h.2.1; omega, h.2.2⟩
  | _ => exact h.elim
theorem strK_get {d : D} {k : List Nat → Prop} (h : strK d k) : ∃ x, d = .str x ∧ k x := by
  cases d with
  | str x => exact ⟨x, rfl, h⟩
  | _ => exact h.elim
theorem ext_tup (l : Addr) (us : Array Value) (n : Nat) (b : Addr) (ws : Array Value) (n2 : Nat) (o : Obj) (hc : o.cls = .type "tuple") (hd : o.data = .seq ws n2)
    (h0 : ¬(!us.isEmpty && Builtin.List.listTooLong (us.size + ws.size)) = true) (h1 : us.size ≤ sizeLine) (h2 : us.size + ws.size ≤ sizeLine + 1) :
    Meets (Builtin.«list.extend» ⟨[.ref l, .ref b], []⟩) (fun _ R s => s.heap.get? l = some { cls := .type "list", data := .seq us n } ∧ s.heap.get? b = some o ∧ R (.ok (.ret Value.none)) { s with heap := s.heap.update l (Obj.mapSeq fun x => x ++ ws), toks := s.toks }) := by
  obtain ⟨oc, od, odt, osl⟩ := o
  cases hc
  cases hd
  refine .of_wp fun prog w A R s h => ?_
  obtain ⟨hp, gs, dr, tk, os⟩ := s
  obtain ⟨hl, hb, h⟩ := h
  have e1 := AutoSeq1.sub_tuple_list
  have e2 := AutoSeq1.sub_tuple_tuple
  have e3 := AutoSeq1.sub_list_list
  have e4 := AutoSeq1.sub_list_tuple
  have hz : (us ++ ws).size ≤ sizeLine + 1 := by rw [Array.size_append]; exact h2
  wp_walk using (wpAny_updateSeq hl rfl (hz := h1) (_hz' := hz)), AutoSeq1.wpAny_loadPart' hl, AutoSeq1.wpAny_loadPart' hb
  exact ⟨_, rfl, h⟩
theorem m_extend : MtR X "list.extend" (rM X T .extend) := by
  intro pins s σ H x vs v us Q' I rx rvs ⟨dx, ds, μ, Q, hx, hv, rh, h, p⟩
  obtain ⟨d0, d, e1, h⟩ := arg2_get h
  cases e1
  replace hv := hv.get1
  obtain ⟨y, rfl, hv⟩ := hv
  obtain ⟨a, l, rfl, ea, h⟩ := rdR_get h
  cases hx
  obtain ⟨xs, hs, rl⟩ := rh a _ ea
  cases d with
  | ref b =>
    obtain ⟨b, m, e, eb, hz, q⟩ := rdR_get (k := fun _ m => l.length + m.length ≤ sizeMax ∧ Q .non (upd μ a (.lst (l ++ m)))) (d := .ref b) h
    cases e
    cases hv
    obtain ⟨zs, ht, rm⟩ := rh b _ eb
    exact mt_extend pins s σ H _ _ v us Q' I rx rvs ⟨a, b, xs, zs, rfl, rfl, hs, ht, by rw [← rl.length, ← rm.length, ← sizeMax_eq]; exact hz, p .non _ _ _ rfl (rh.wr ea (ob' := .lst (l ++ m)) ⟨_, L2.upd_same, (rl.append rm).mono (.wr rh ea)⟩) (Fr.wr ea) q⟩
  | tup m =>
    obtain ⟨b, zs, rfl, ht, rm⟩ := hv
    have h : l.length + m.length ≤ sizeMax ∧ Q .non (upd μ a (.lst (l ++ m))) := h
    obtain ⟨hz, q⟩ := h
    rw [rl.length, rm.length, sizeMax_eq] at hz
    cases rx
    obtain ⟨u, rfl, ru⟩ := rvs.one
    cases ru
    obtain ⟨_, its, n, r, hl, e⟩ := I.lstM hs
    obtain ⟨its2, r2, ⟨o, e2, hc, n2, hd⟩, _⟩ := I.tuple ht
    have hl2 := r2.length
    refine call_meets F.slot_list_extend ⟨_, e, rfl⟩ F.entry_list_extend (F.args_list_extend_2 _ _) (ext_tup a its.toArray n b its2.toArray n2 o hc hd ?_ (by rw [List.size_toArray]; omega) (by rw [List.size_toArray, List.size_toArray]; omega)) ⟨e, e2, ?_⟩
    · rw [notLongL (by rw [List.size_toArray, List.size_toArray]; omega), Bool.and_false]; exact Bool.false_ne_true
    · refine ⟨.non, _, I.lset (its' := its ++ its2) hs e (by simp) (r.append r2) (by rw [List.length_append]; omega), rfl, ?_⟩
      exact p .non _ _ _ rfl (rh.wr ea (ob' := .lst (l ++ m)) ⟨_, L2.upd_same, (rl.append rm).mono (.wr rh ea)⟩) (Fr.wr ea) q
  | _ => exact (show False from h).elim
theorem m_insert : MtR X "list.insert" (rM X T .insert) := by
  intro pins s σ H x vs v us Q' I rx rvs ⟨dx, ds, μ, Q, hx, hv, rh, h, p⟩
  obtain ⟨d, i, e, e1, h⟩ := arg3_get h
  cases e1
  replace hv := hv.get2
  obtain ⟨y, z, rfl, hi, hv⟩ := hv
  obtain ⟨a, l, rfl, ea, h⟩ := rdR_get h
  obtain ⟨n, rfl, hn, hz, q⟩ := natO_get h
  cases hx; cases hi
  obtain ⟨xs, hs, rl⟩ := rh a _ ea
  exact mt_insert pins s σ H _ _ v us Q' I rx rvs ⟨a, xs, n, z, rfl, rfl, hs, by rw [← rl.length, ← sizeMax_eq]; exact hz, by omega, by omega, p .non _ _ _ rfl (rh.wr ea (ob' := .lst (l.take n ++ [e] ++ l.drop n)) ⟨_, L2.upd_same, (((rl.take n).append (.one hv)).append (rl.drop n)).mono (.wr rh ea)⟩) (Fr.wr ea) q⟩
theorem dget_some_of : ∀ {l : List (D × D)} {z : D × D} {k : D}, z ∈ l → D.eqb z.1 k = true → dget l k ≠ none
  | [], _, _, h, _ => by cases h
  | (j, d) :: r, z, k, h, e => by
    unfold dget
    split
    · simp
    · rename_i hj
      rcases List.mem_cons.mp h with rfl | h
      · exact absurd e hj
      · exact dget_some_of h e
theorem RepK.del {K : PySem.W.Frag} {x : D} (hx : isFlat x = true) : ∀ {l : List (D × D)} {kvs : List (Key × V)}, RepK K H l kvs → RepK K H (ddel l x) (dropK kvs (kOf x))
  | [], _, h => by rw [show _ = [] from h]; rfl
  | (k, d) :: r, _, h => by
    obtain ⟨κ, v, q, rfl, h1, hk, hv, h4⟩ := h
    obtain rfl : κ = kOf k := kV_inj (kOf_v hk h1)
    have ih := RepK.del hx h4
    have e := kOf_inj hk hx
    unfold ddel dropK at ih ⊢
    rw [List.filter_cons, List.filter_cons]
    cases he : D.eqb k x with
    | true =>
      have : kOf k = kOf x := of_decide_eq_true (e.trans he)
      simp only [he, this, Bool.not_true, ne_eq, not_true_eq_false, decide_false, Bool.false_eq_true, if_false]
      exact ih
    | false =>
      have : kOf k ≠ kOf x := of_decide_eq_false (e.trans he)
      simp only [he, this, Bool.not_false, ne_eq, not_false_eq_true, decide_true, if_true]
      exact ⟨_, _, _, rfl, h1, hk, hv, ih⟩
theorem RepVs.erase {K : PySem.W.Frag} {ds : List D} {vs : List V} (h : RepVs K H ds vs) (n : Nat) : RepVs K H (ds.eraseIdx n) (vs.eraseIdx n) := by
  rw [List.eraseIdx_eq_take_drop_succ, List.eraseIdx_eq_take_drop_succ]
  exact (h.take n).append (h.drop (n + 1))
theorem m_popAt : MtR X "list.pop" (rM X T .popAt) := by
  intro pins s σ H x vs v us Q' I rx rvs ⟨dx, ds, μ, Q, hx, hv, rh, h, p⟩
  obtain ⟨d, i, e1, h⟩ := arg2_get h
  cases e1
  replace hv := hv.get1
  obtain ⟨z, rfl, hi⟩ := hv
  obtain ⟨a, l, rfl, ea, h⟩ := rdR_get h
  obtain ⟨n, rfl, hn, h⟩ := natO_get h
  obtain ⟨e, el, q⟩ := optP_get h
  cases hx; cases hi
  obtain ⟨xs, hs, rl⟩ := rh a _ ea
  obtain ⟨y, hy, ry⟩ := rl.get el
  have hlt := (List.getElem?_eq_some_iff.mp hy).1
  refine mt_popAt pins s σ H _ _ v us Q' I rx rvs ⟨a, xs, n, n, y, rfl, rfl, hs, by omega, by omega, ?_, hy, p _ _ _ _ (ry.mono (.wr rh ea)) (rh.wr ea (ob' := .lst (l.eraseIdx n)) ⟨_, L2.upd_same, (rl.erase n).mono (.wr rh ea)⟩) (Fr.wr ea) q⟩
  exact seqIndex_of (by omega) (by omega)
theorem m_dpop : MtR X "dict.pop" (rM X T .dpop) := by
  intro pins s σ H x vs v us Q' I rx rvs ⟨dx, ds, μ, Q, hx, hv, rh, h, p⟩
  obtain ⟨d, k, z, e1, h⟩ := arg3_get h
  cases e1
  replace hv := hv.get2
  obtain ⟨y, w, rfl, hk, hz⟩ := hv
  obtain ⟨a, l, rfl, ea, hf, q⟩ := rdD_get h
  cases hx
  obtain ⟨kvs, hs, rk⟩ := rh a _ ea
  have ex := kOf_v hf hk
  subst ex
  obtain rfl : v = Value.ref a := rx
  cases rvs with
  | cons r1 rvs => cases rvs with
    | cons r2 rvs =>
      cases rvs
      cases e : dget l k with
      | none =>
        rw [e] at q
        have ev : valV kvs (kOf k) = none := by
          have := rk.isSome hf
          rw [e] at this
          cases hv : valV kvs (kOf k) with
          | none => rfl
          | some _ => rw [hv] at this; cases this
        refine d_popD I hs r1 ev fun s' I' => ⟨w, H, I', r2, ?_⟩
        have el : ddel l k = l := by
          unfold ddel
          rw [List.filter_eq_self]
          intro z hz
          cases hq : D.eqb z.1 k with
          | false => rfl
          | true => exact absurd (dget_some_of hz hq) (by rw [e]; simp)
        rw [el] at q
        rw [upd_id ea] at q
        exact p _ _ _ _ hz rh .refl q
      | some d =>
        rw [e] at q
        obtain ⟨v, h4, h5⟩ := rk.some hf e
        refine d_pop I hs r1 h4 (.inr ⟨_, rfl⟩) fun w' s' I' rw' => ⟨v, _, I', rw', ?_⟩
        exact p _ _ _ _ (h5.mono (.wr rh ea)) (rh.wr ea (ob' := .dF (ddel l k)) ⟨_, L2.upd_same, (rk.del hf).mono (.wr rh ea)⟩) (Fr.wr ea) q
theorem m_dpop1 : MtR X "dict.pop" (rM X T .dpop1) := by
  intro pins s σ H x vs v us Q' I rx rvs ⟨dx, ds, μ, Q, hx, hv, rh, h, p⟩
  obtain ⟨d, k, e1, h⟩ := arg2_get h
  cases e1
  replace hv := hv.get1
  obtain ⟨y, rfl, hk⟩ := hv
  obtain ⟨a, l, rfl, ea, hf, q⟩ := rdD_get h
  obtain ⟨d, e, q⟩ := optP_get q
  cases hx
  obtain ⟨kvs, hs, rk⟩ := rh a _ ea
  have ex := kOf_v hf hk
  subst ex
  obtain rfl : v = Value.ref a := rx
  cases rvs with
  | cons r1 rvs =>
    cases rvs
    obtain ⟨v, h4, h5⟩ := rk.some hf e
    refine d_pop I hs r1 h4 (.inl rfl) fun w' s' I' rw' => ⟨v, _, I', rw', ?_⟩
    exact p _ _ _ _ (h5.mono (.wr rh ea)) (rh.wr ea (ob' := .dF (ddel l k)) ⟨_, L2.upd_same, (rk.del hf).mono (.wr rh ea)⟩) (Fr.wr ea) q
theorem toPys_map : ∀ l : List D, toPys l = l.map toPy
  | [] => rfl
  | x :: r => by show toPy x :: toPys r = _; rw [toPys_map r]; rfl
theorem joinL_eq (a : List Nat) : ∀ zs : List (List Nat), TL.joinL a zs = joinS a zs
  | [] => rfl
  | [_] => rfl
  | x :: y :: r => by
    show x ++ (a ++ TL.joinL a (y :: r)) = x ++ a ++ joinS a (y :: r)
    rw [joinL_eq a (y :: r), List.append_assoc]
theorem strsD_get : ∀ {ds : List D} {zs : List (List Nat)}, strsD ds = some zs → ds = zs.map D.str
  | [], _, h => by cases h; rfl
  | .str x :: r, zs, h => by
    unfold strsD at h
    obtain ⟨ys, h1, rfl⟩ := Option.map_eq_some_iff.mp h
    rw [strsD_get h1]; rfl
  | .non :: _, _, h => by simp [strsD] at h
  | .bl _ :: _, _, h => by simp [strsD] at h
  | .int _ :: _, _, h => by simp [strsD] at h
  | .tup _ :: _, _, h => by simp [strsD] at h
  | .ref _ :: _, _, h => by simp [strsD] at h
  | .scr _ :: _, _, h => by simp [strsD] at h
theorem len_toS (z : List Nat) : (toS z).length = z.length := by show z.toArray.size = _; simp
theorem m_join : MtR X "str.join" (rM X T .join) := by
  intro pins s σ H x xs v us Q' I rx rvs ⟨dx, ds, μ, Q, hx, hv, rh, h, p⟩
  obtain ⟨d, e, e1, h⟩ := arg2_get h
  cases e1
  replace hv := hv.get1
  obtain ⟨y, rfl, hv⟩ := hv
  obtain ⟨a, rfl, h⟩ := strK_get h
  obtain ⟨l, q, vs, h, rfl, ho, rl⟩ := seq_get rh hv h
  obtain ⟨zs, e, hf, q⟩ := optP_get h
  obtain rfl := strsD_get e
  have ev := rl.strs
  subst ev
  cases hx
  refine mt_join pins s σ H _ _ v us Q' I rx rvs ⟨toS a, _, zs.map toS, rfl, rfl, ho.imp (·.1) (·.1), ?_, ?_⟩
  · have hf := of_decide_eq_true hf
    rw [List.map_map, List.length_map, len_toS]
    have e : ((fun z : Str => z.length) ∘ toS) = fun z : List Nat => z.length := funext fun z => len_toS z
    rw [e]; exact hf
  · have e : Txt.join (toS a) (zs.map toS) = toS (joinS a zs) := by rw [← joinL_eq]; exact SX.join_S a zs
    rw [e]
    exact p.str rh q
theorem m_split : MtR X "str.split" (rM X T .split) := by
  intro pins s σ H x xs v us Q' I rx rvs ⟨dx, ds, μ, Q, hx, hv, rh, h, p⟩
  obtain ⟨d, e, e1, h⟩ := arg2_get h
  cases e1
  replace hv := hv.get1
  obtain ⟨y, rfl, hv⟩ := hv
  obtain ⟨a, rfl, h⟩ := strK_get h
  obtain ⟨b, rfl, parts, e, ok, hz, q⟩ := strK_get h
  cases hx; cases hv
  cases b with
  | nil => cases ok
  | cons c S =>
    have ok : ((c :: S).all (fun c => decide (c < 256)) && !parts.isEmpty && parts.all fun p => !p.contains c) = true := ok
    rw [Bool.and_eq_true, Bool.and_eq_true] at ok
    obtain ⟨⟨o1, o2⟩, o3⟩ := ok
    have sp : Txt.split (toS a) (toS (c :: S)) = parts.map toS := by
      have e1 : toS a = Txt.join (toS (c :: S)) (parts.map toS) := by rw [e, ← joinL_eq]; exact (SX.join_S (c :: S) parts).symm
      rw [e1]
      refine TL.split_join (s := c) (S := S) (by simp [TL.tl, toS]) ?_ (fun z => ?_) fun z hz => ?_
      · show ((c :: S).toArray).all _ = true
        rw [List.all_toArray]; exact o1
      · have := List.map_eq_nil_iff.mp z
        rw [this] at o2; cases o2
      · obtain ⟨t, ht, rfl⟩ := List.mem_map.mp hz
        have := List.all_eq_true.mp o3 t ht
        simpa [TL.tl, toS] using this
    refine mt_split pins s σ H _ _ v us Q' I rx rvs ⟨toS a, toS (c :: S), rfl, rfl, by rw [len_toS]; rfl, by rw [len_toS, ← sizeMax_eq]; exact hz, ?_⟩
    rw [sp]
    have er : ((parts.map toS).map tlS) = parts := by
      rw [List.map_map]
      exact (List.map_congr_left fun z _ => by simp [tlS, toS]).trans (List.map_id parts)
    exact p.lst rh (RepVs.of_strs _) (by rw [er]; exact q)
theorem figs_num : ∀ (k n : Nat), n < k → figs k n = TL.numL n
  | 0, _, h => by omega
  | k + 1, n, h => by
    unfold figs
    split
    · rename_i h1; rw [TL.numL_lt h1]
    · rename_i h1
      rw [TL.numL_step (by omega), figs_num k (n / 10) (by omega)]
theorem natS_num (n : Nat) : natS n = TL.numL n := figs_num (n + 1) n (by omega)
theorem str_int (i : Int) : (toString i : Str) = toS (intS i) := by
  refine TL.ext_tl ?_
  show TL.tl (Str.ofString (toString i)) = intS i
  unfold intS
  cases i with
  | ofNat n =>
    rw [if_neg (show ¬ Int.ofNat n < 0 from Int.not_lt.mpr (Int.natCast_nonneg n))]
    exact (TL.tl_num n).trans (natS_num n).symm
  | negSucc n =>
    rw [if_pos (Int.negSucc_lt_zero n)]
    have e : toString (Int.negSucc n) = "-" ++ toString ((n + 1 : Nat) : Int) := rfl
    rw [e, TL.tl_ofString, String.toList_append, List.map_append, ← TL.tl_ofString (toString ((n + 1 : Nat) : Int)), TL.tl_num, natS_num]
    rfl
theorem call_str_non : CallR X (.type "str") (fun xs H Q => xs = [.non] ∧ Q (.str "None") H) := by
  intro pins s σ H xs us Q I r h
  obtain ⟨rfl, q⟩ := h
  obtain ⟨u, rfl, ru⟩ := vals1 r
  cases ru
  exact PySem.P.str_of_none ⟨.str "None", H, I.tok _, ⟨_, rfl⟩, q⟩
theorem p_str : CallR X (.type "str") (rP X T .str) := by
  intro pins s σ H xs us Q' I r ⟨ds, μ, Q, rv, rh, h, p⟩
  obtain ⟨d, rfl, h⟩ := arg1_get h
  replace rv := rv.get1
  obtain ⟨v, rfl, rv⟩ := rv
  cases d with
  | str x => cases rv; exact SkE.call_str_str pins s σ H _ us Q' I r ⟨_, rfl, p.str rh h⟩
  | non =>
    cases rv
    exact call_str_non pins s σ H _ us Q' I r ⟨rfl, by have := p.str rh h; exact this⟩
  | int i =>
    cases rv
    refine call_str_int pins s σ H _ us Q' I r ⟨i, rfl, ?_, by rw [str_int]; exact p.str rh h.2⟩
    have := h.1
    by_cases h0 : i.natAbs = 0
    · rw [h0]; decide
    · exact (Nat.log2_lt h0).mpr (Nat.lt_of_lt_of_le this (Nat.pow_le_pow_right (by decide) (by decide)))
  | _ => exact h.elim
theorem m_index (hu : X.A.units + 65 < cLine) : MtR X "list.index" (rM X T .index) := by
  intro pins s σ H x xs v us Q' I rx rvs ⟨dx, ds, μ, Q, hx, hv, rh, h, p⟩
  obtain ⟨d, y, e1, h⟩ := arg2_get h
  cases e1
  replace hv := hv.get1
  obtain ⟨vy, rfl, hv⟩ := hv
  obtain ⟨a, l, rfl, ea, oy, ol, h⟩ := rdR_get h
  obtain ⟨j, ej, q⟩ := optP_get h
  cases hx
  obtain ⟨vs, hs, rl⟩ := rh a _ ea
  have hj : firstAt l y = some j := ej
  unfold firstAt at hj
  obtain ⟨hlt, h1, h2⟩ := List.findIdx?_eq_some_iff_getElem.mp hj
  have at_ : ∀ {m : Nat} {d : D}, l[m]? = some d → (toPys l)[m]? = some (toPy d) := fun {m d} e => by
    rw [toPys_map, List.getElem?_map, e]; rfl
  have ok : ∀ {d : D}, d ∈ l → D.ok 60 d = true := fun {d} hd => List.all_eq_true.mp ol d hd
  refine mt_indexD hu pins s σ H _ _ v us Q' I rx rvs ⟨a, vy, toPy y, toPys l, j, toPy l[j], rfl, rfl, .lst (SqL.of hs) (rep_dps ol rl), rep_dp oy hv, shaped_list ol, shaped_of (ok_lay oy), at_ (List.getElem?_eq_getElem hlt), by rw [eqv_eqb (ok (List.getElem_mem hlt)) oy]; exact h1, fun m z hm hz => ?_, p.int rh q⟩
  have hml : m < l.length := by omega
  rw [at_ (List.getElem?_eq_getElem hml)] at hz
  cases hz
  rw [eqv_eqb (ok (List.getElem_mem hml)) oy]
  simpa using h2 m hm
end
end MP

set_option linter.all false
set_option maxRecDepth 100000
set_option maxHeartbeats 1000000
set_option Elab.async false
namespace MP
open PySem PySem.Spec PyProof.Rows L2
theorem filterMap_eq {α β : Type} {f g : α → Option β} : ∀ {l : List α}, (∀ x ∈ l, f x = g x) → l.filterMap f = l.filterMap g
  | [], _ => rfl
  | x :: r, h => by
    rw [List.filterMap_cons, List.filterMap_cons, h x (List.mem_cons_self ..), filterMap_eq fun y hy => h y (List.mem_cons_of_mem _ hy)]
theorem rev_pick (xs : Array Value) : ((List.range xs.size).filterMap fun (m : Nat) => xs[((xs.size : Int) - 1 + (m : Int) * (-1)).toNat]?).toArray = xs.toList.reverse.toArray := by
  have e : (List.range xs.size).filterMap (fun (m : Nat) => xs[((xs.size : Int) - 1 + (m : Int) * (-1)).toNat]?) = (List.range xs.size).filterMap fun (m : Nat) => (xs.toList.reverse.toArray)[(((0 : Nat) : Int) + (m : Int) * 1).toNat]? := by
    refine filterMap_eq fun m hm => ?_
    have hm := List.mem_range.mp hm
    have e1 : ((xs.size : Int) - 1 + (m : Int) * (-1)).toNat = xs.size - 1 - m := by omega
    have e2 : (((0 : Nat) : Int) + (m : Int) * 1).toNat = m := by omega
    rw [e1, e2]
    show xs[xs.size - 1 - m]? = xs.toList.reverse.toArray[m]?
    have h3 : xs.toList.reverse.toArray[m]? = xs.toList.reverse[m]? := by simp
    rw [h3, List.getElem?_reverse (by rw [Array.length_toList]; exact hm), Array.length_toList, Array.getElem?_toList]
  rw [e, HT.pick_gen, List.drop_zero, List.take_of_length_le (by simp)]
theorem rev_tup {P : Program} {w : World} {A : Around} {E : Value → Shared → Prop} {s : Shared} {t sl : Addr} {its : List Value} {vs : Value} {Q : Value → Shared → Prop} (ht : IsTup s.heap t its.toArray) (hs : s.heap.IsSliceOf sl .none .none vs) (ps : IsPart vs (some (-1)))
    (h : Q (.ref s.heap.objs.size) { s with heap := s.heap.push { cls := .type "tuple", data := .seq its.reverse.toArray } }) (hz : its.length ≤ sizeLine) : wpAny (model P w) A (getItem (.ref t) (.ref sl)) Q E s := by
  obtain ⟨os, o1, o2, o3⟩ := id hs
  have hT : s.TypeIs (.ref sl) "slice" := ⟨os, o1, o2⟩
  unfold getItem
  try with_reducible refine wpAny_holding ?_
  first | refine wpAny_bind (wpAny_pure ?_) | skip
  refine wpAny_bind (wpAny_sequenceKey ht.typeIs (by decide) (wpAny_bind (wpAny_callSpecial?_slot (name := Str.ofString "__getitem__") ht.typeIs PyProof.Rows.slot_tuple_getitem (wpAny_call_entry PyProof.Rows.slot_tuple_getitem ht.typeIs PyProof.Rows.entry_tuple_getitem ?_ (PyProof.Rows.args_tuple_getitem _ _)))))
  show wpAny _ _ (Builtin.Tuple.tupleItemsOf (.ref t) >>= _) _ _ s
  refine wpAny_bind (tupleItemsOf_ ht (wpAny_bind (wpAny_typeOf hT ?_)))
  rw [if_pos (by decide)]
  refine wpAny_bind ?_
  unfold Builtin.Slice.sliceApplied Builtin.Slice.sliceFields
  refine wpAny_bind (wpAny_bind (wpAny_field o1 o3 (x := .none) rfl (wpAny_bind (wpAny_field o1 o3 (x := .none) rfl (wpAny_bind (wpAny_field o1 o3 (x := vs) rfl (wpAny_pure ?_)))))))
  refine wpAny_bind (HT.slicePart_ ps ?_)
  show wpAny _ _ (if ((-1 : Int) == 0) = true then _ else _) _ _ s
  rw [if_neg (by decide)]
  refine wpAny_bind (HT.slicePart_ .none (wpAny_bind (HT.slicePart_ .none (wpAny_bind (wpAny_pure ?_)))))
  show wpAny _ _ (match Builtin.Slice.sliceAdjust none none (-1) ((its.toArray.size : Nat) : Int) with | (lo, hi) => pure (lo, (-1 : Int), Builtin.Slice.slicePlaces lo hi (-1))) _ _ s
  have e1 : Builtin.Slice.sliceAdjust none none (-1) ((its.toArray.size : Nat) : Int) = (((its.toArray.size : Nat) : Int) - 1, -1) := rfl
  have e2 : Builtin.Slice.slicePlaces (((its.toArray.size : Nat) : Int) - 1) (-1) (-1) = its.toArray.size := by
    unfold Builtin.Slice.slicePlaces
    rw [if_neg (by decide)]
    split
    · have : (((its.toArray.size : Nat) : Int) - 1 - -1 - 1) / -(-1) = ((its.toArray.size : Nat) : Int) - 1 := by
        rw [show -(-1 : Int) = 1 from rfl, Int.ediv_one]; omega
      rw [this]; omega
    · omega
  rw [e1]
  show wpAny _ _ (pure (((its.toArray.size : Nat) : Int) - 1, (-1 : Int), Builtin.Slice.slicePlaces (((its.toArray.size : Nat) : Int) - 1) (-1) (-1))) _ _ s
  rw [e2]
  refine wpAny_pure ?_
  show wpAny _ _ (if ((((its.toArray.size : Nat) : Int) - 1) == 0 && (-1 : Int) == 1 && its.toArray.size == its.toArray.size) = true then _ else _) _ _ s
  rw [if_neg (by simp), rev_pick]
  have hq : sizeOk (.seq its.toArray.toList.reverse.toArray) := by
    show its.toArray.toList.reverse.toArray.size ≤ sizeLine
    simpa using hz
  first
    | exact wpAny_bind (m := Builtin.Tuple.tupleExact _) (wpAny_newObj_type (wpAny_pure ⟨_, rfl, wpAny_pure h⟩) hq)
    | exact wpAny_bind (m := Builtin.Tuple.tupleExact _) (wpAny_newObj_type (wpAny_bind (wpAny_pure (wpAny_pure ⟨_, rfl, wpAny_pure h⟩))) hq)
    | exact wpAny_bind (wpAny_bind (m := Builtin.Tuple.tupleExact _) (wpAny_newObj_type (wpAny_pure (wpAny_pure ⟨_, rfl, wpAny_pure h⟩)) hq))
    | exact wpAny_bind (wpAny_bind (m := Builtin.Tuple.tupleExact _) (wpAny_newObj_type (wpAny_pure ⟨_, rfl, wpAny_pure h⟩) hq))
section
variable {X : Cx} {T : Tab} {G : Ctx} {H H' H1 : Hp} {μ μ' μ1 : Sto} {Q : D → Sto → Prop} {Q' : VK} {σ : L2.St} {ρ : Env}
theorem e_rev {a : Expr} {ca : E} {k : Nat} {p1 p2 p3 pos : Pos} (ha : PE X a (tE X T G ca)) : PE X (.Subscript a (.Slice none none (some (.UnaryOp .USub (.Constant (.int 1) k p1) p2)) p3) pos) (tE X T G (.rev ca)) := by
  refine ⟨fun pins s σ H Q' I h => ?_⟩
  obtain ⟨ρ, μ, Q, rs, rh, hw, p⟩ := h
  refine Subscript_ (thn (ha.run pins s σ H (fun x H1 => ∃ d μ1, RepV X.K H1 d x ∧ RepH X.w X.K T H1 μ1 ∧ Fr H μ H1 μ1 ∧ (match d with
      | .tup l => Q (.tup l.reverse) μ1
      | .ref p => rdL μ1 p fun l => new μ1 (.lst l.reverse) Q
      | _ => False)) I ⟨ρ, μ, _, rs, rh, hw, fun d v H1 μ1 rv rh1 f1 q1 => ⟨d, μ1, rv, rh1, f1, q1⟩⟩) fun v s1 ⟨x, H1, I1, r1, d, μ1, rx, rh1, f1, hq⟩ => ?_)
  have st : PO X (some (.UnaryOp .USub (.Constant (.int 1) k p1) p2)) (tPart (tUn (rU fun i => .int (-i)) (tC (.int 1)))) := po_some (pe_un un_neg pe_int)
  refine wpAny_Slice (thn (po_none.run pins s1 σ H1 (fun o J => o = none ∧ J = H1) I1 ⟨rfl, rfl⟩) fun vl s2 ⟨l, J2, I2, pl, el, e2⟩ => ?_)
  subst el; subst e2
  refine thn (po_none.run pins s2 σ J2 (fun o J => o = none ∧ J = J2) I2 ⟨rfl, rfl⟩) fun vu s3 ⟨u, J3, I3, pu, eu, e3⟩ => ?_
  subst eu; subst e3
  refine thn (st.run pins s3 σ J3 (fun o J => o = some (-1) ∧ J = J3) I3 ⟨1, rfl, -1, rfl, rfl, rfl⟩) fun vs s4 ⟨o, J4, I4, ps, eo, e4⟩ => ?_
  subst eo; subst e4
  have I5 : Inv X pins σ J4 { s4 with heap := s4.heap.push { cls := .type "slice", data := .fields #[vl, vu, vs] } } := I4.kept (t' := s4.toks) fun b ob q => Heap.get?_push_of_some _ q
  have hsl := Heap.IsSliceOf.new s4.heap vl vu vs
  cases d with
  | tup l =>
    obtain ⟨t, ws, rfl, hst, rl⟩ := rx
    obtain rfl : v = Value.ref t := r1
    obtain ⟨its, r, ht, hz⟩ := I5.tuple hst
    cases pl; cases pu
    have ez : its.length ≤ sizeLine := by rw [← r.length]; exact hz
    refine tail_any (s := { s4 with heap := s4.heap.push { cls := .type "slice", data := .fields #[Value.none, Value.none, vs] } }) (ops := [.ref t, .ref s4.heap.objs.size]) ht.typeIs PyProof.Rows.slot_tuple_getitem.lookup (rev_tup ht hsl ps ⟨.ref _, _, I5.laid (t' := s4.toks) (o := .tup ws.reverse) (fun b ob q => Heap.get?_push_of_some _ q) (Nat.le_refl _) ?_, rfl, p.step f1 |>.tup rh1 rl.reverse hq _ (I5.hok.fresh (Nat.le_refl _))⟩ ez) (by with_unfolding_all rfl)
    exact ⟨by rw [List.length_reverse]; exact hz, _, r.reverse, ⟨_, Heap.get?_push_size _ rfl, rfl, _, rfl⟩⟩
  | ref a =>
    cases rx
    obtain rfl : v = Value.ref a := r1
    obtain ⟨l, e, hq⟩ := rdL_get hq
    obtain ⟨ws, hs, rl⟩ := rh1 a _ e
    obtain ⟨its, r, ht, hz⟩ := I5.list (SqL.of hs)
    have ez : its.toArray.size ≤ sizeLine := by rw [List.size_toArray, ← r.length]; exact hz
    refine tail_any (s := { s4 with heap := s4.heap.push { cls := .type "slice", data := .fields #[vl, vu, vs] } }) (ops := [.ref a, .ref s4.heap.objs.size]) ht.isList.typeIs PySem.slot_list_getitem.lookup (wpAny_getItem_list_slice ht.isList hsl pl pu ps (by decide) ?_ ez) (by with_unfolding_all rfl)
    rw [PySem.W.krv_pick]
    exact ⟨.ref _, _, I5.laid (t' := s4.toks) (o := .lst ws.reverse) (fun b ob q => Heap.get?_push_of_some _ q) (Nat.le_refl _) ⟨by rw [List.length_reverse]; exact hz, _, 0, r.reverse, Heap.get?_push_size _ rfl⟩, rfl, (p.step f1).lst rh1 rl.reverse hq _ (I5.hok.fresh (Nat.le_refl _))⟩
  | _ => exact hq.elim
def inter : List (E × E) → E
  | [] => .nil
  | (a, b) :: r => .cons a (.cons b (inter r))
def flatP : List (D × D) → List D
  | [] => []
  | (a, b) :: r => a :: b :: flatP r
def RepPs (K : PySem.W.Frag) (H : Hp) : List (D × D) → List (V × V) → Prop
  | [], ps => ps = []
  | (a, b) :: r, ps => ∃ x y q, ps = (x, y) :: q ∧ RepV K H a x ∧ RepV K H b y ∧ RepPs K H r q
theorem RepPs.mono {K : PySem.W.Frag} (x : Keeps H H') : ∀ {l : List (D × D)} {ps : List (V × V)}, RepPs K H l ps → RepPs K H' l ps
  | [], _, h => h
  | (_, _) :: _, _, ⟨a, b, q, e, h1, h2, h3⟩ => ⟨a, b, q, e, h1.mono x, h2.mono x, RepPs.mono x h3⟩
theorem pairUp_flat : ∀ l : List (D × D), pairUp (flatP l) = some l
  | [] => rfl
  | (a, b) :: r => by show (pairUp (flatP r)).map ((a, b) :: ·) = _; rw [pairUp_flat r]; rfl
theorem pairs_of : ∀ {cs : List (E × E)} {H : Hp} {μ : Sto} {Qa : List D → Sto → Prop} {R : List (V × V) → Hp → Prop}, RepS X.K T H ρ σ → RepH X.w X.K T H μ → wpA G (inter cs) ρ μ Qa T.Z →
    (∀ l ps H' μ', RepPs X.K H' l ps → RepH X.w X.K T H' μ' → Fr H μ H' μ' → Qa (flatP l) μ' → R ps H') → tPairs (cs.map fun z => (tE X T G z.1, tE X T G z.2)) σ H R
  | [], H, μ, Qa, R, rs, rh, hw, h => h [] [] H μ rfl rh .refl hw
  | (a, b) :: cs, H, μ, Qa, R, rs, rh, hw, h => by
    show tE X T G a σ H fun x H1 => tE X T G b σ H1 fun y H2 => tPairs (cs.map fun z => (tE X T G z.1, tE X T G z.2)) σ H2 fun ps H3 => R ((x, y) :: ps) H3
    refine ⟨ρ, μ, _, rs, rh, hw, fun d v H1 μ1 rv rh1 f1 q1 => ⟨ρ, μ1, _, rs.mono (f1.keeps rh), rh1, q1, fun d' v' H2 μ2 rv' rh2 f2 q2 => ?_⟩⟩
    refine pairs_of (rs.mono ((f1.trans f2).keeps rh)) rh2 q2 fun l ps H3 μ3 rp rh3 f3 q3 => ?_
    exact h ((d, d') :: l) ((v, v') :: ps) H3 μ3 ⟨v, v', ps, rfl, rv.mono ((f2.trans f3).keeps rh1), rv'.mono (f3.keeps rh2), rp⟩ rh3 ((f1.trans f2).trans f3) q3
theorem RepPs.keys {K : PySem.W.Frag} : ∀ {l : List (D × D)} {ps : List (V × V)}, RepPs K H l ps → l.all (fun p => isFlat p.1) = true → ∃ kvs : List (Key × V), ps = kvs.map (fun kv => (kV kv.1, kv.2)) ∧ kvs.length = l.length ∧ ∀ {m : List (D × D)} {ms : List (Key × V)}, RepK K H m ms → RepK K H (dputs m l) (mergeK ms kvs)
  | [], _, h, _ => by rw [show _ = [] from h]; exact ⟨[], rfl, rfl, fun h => h⟩
  | (a, b) :: r, _, ⟨x, y, q, e, h1, h2, h3⟩, hf => by
    rw [List.all_cons, Bool.and_eq_true] at hf
    obtain ⟨kvs, rfl, h4, h5⟩ := RepPs.keys h3 hf.2
    subst e
    have ex := kOf_v hf.1 h1
    subst ex
    exact ⟨(kOf a, y) :: kvs, rfl, by rw [List.length_cons, List.length_cons, h4], fun h => h5 (h.put hf.1 h2)⟩
theorem tup1_get {l : List (D × D)} {p : D × D} (h : tup1 l = some p) : l = [p] ∧ isTupKey p.1 = true := by
  unfold tup1 at h
  split at h
  · split at h
    · rename_i hk
      cases h
      exact ⟨rfl, hk⟩
    · cases h
  · cases h
theorem tup1_flat {l : List (D × D)} (h : tup1 l = none) {μ : Sto} {Q : D → Sto → Prop} (q : dictP l μ Q) : l.length ≤ 15 ∧ l.all (fun p => isFlat p.1) = true ∧ new μ (.dF (dputs [] l)) Q := by
  unfold dictP at q
  rw [h] at q; exact q
theorem dict_put {pins : List (PySem.Addr × PySem.Obj)} {s2 : PySem.Shared} {σ : L2.St} {H0 H2 : Hp} {μ μ2 : MP.Sto} {d : PySem.Addr} {l : List (D × D)} {ps : List (V × V)} {ws : List (Value × Value)} {Q : D → MP.Sto → Prop} {Q' : L2.VK}
    (I2 : Inv X pins σ H2 s2) (rp : RepPs X.K H2 l ps) (rv : L2.VV ps ws) (rh2 : RepH X.w X.K T H2 μ2) (e : H2 d = some (.dK [])) (hd : H0 d = none) (f2 : Fr (L2.upd H0 d (.dK [])) μ H2 μ2) (rh : RepH X.w X.K T H0 μ) (hu : (NKd X).room X.A) (q : dictP l μ2 Q)
    (p : ∀ (a : D) (v : V) (H' : Hp) (μ' : MP.Sto), RepV X.K H' a v → RepH X.w X.K T H' μ' → Fr H0 μ H' μ' → Q a μ' → Q' v H') :
    wpAny (model X.prog X.w) X.A (storeAll d ws) (fun _ s' => EP X pins σ Q' (.ref d) s') X.xe s2 := by
  have hv := f2.out d (.dK []) L2.upd_same (rh.free hd) fun _ => HO.noConfusion
  have f0 : Fr H0 μ (L2.upd H0 d (.dK [])) μ := Fr.newT hd
  cases ht : tup1 l with
  | some z =>
    obtain ⟨k, v0⟩ := z
    obtain ⟨rfl, hk⟩ := tup1_get ht
    unfold dictP at q
    rw [ht] at q
    obtain ⟨x, y, r0, e0, rx, ry, e1⟩ := rp
    rw [show r0 = [] from e1] at e0
    subst e0
    obtain ⟨hk7, ds, ed⟩ := tkey_get hk
    have rx' : RepV X.K H2 (.tup ds) x := by rw [← ed]; exact rx
    obtain ⟨t, vs, rfl, st, rl⟩ := rx'
    cases rv with
    | cons h1 h2 =>
      rename_i w1 wr
      cases h2
      obtain ⟨wx, wy⟩ := w1
      obtain rfl : wx = Value.ref t := h1.1
      have fD : Fr H0 μ H2 (MP.upd μ2 d (.dF [])) := ⟨fun a o ha hm hn => by
        obtain ⟨g1, g2⟩ := (f0.trans f2).out a o ha hm hn
        exact ⟨g1, by rw [upd_off (ne_at ha hd)]; exact g2⟩, fun a l u ha hm => by
        obtain ⟨g1, g2⟩ := (f0.trans f2).lk a l u ha hm
        exact ⟨g1, by rw [upd_off (ne_at ha hd)]; exact g2⟩⟩
      have rhD : RepH X.w X.K T H2 (MP.upd μ2 d (.dF [])) := rh.back fD (rh2.toRepH0.own (ob := .dF []) (.inr ⟨_, rfl⟩) hv.1 ⟨[], hv.1, rfl⟩)
      have eD : MP.upd μ2 d (.dF []) d = some (.dF []) := upd_at
      obtain ⟨dd, hs, mu⟩ := dF_nil I2 rhD eD
      unfold storeAll
      rw [List.forIn_cons]
      refine wpAny_bind (wpAny_bind (wpAny_dictSet_heap hu (tkey_is I2 hk rx) dd (fun h' hd' sb => wpAny_pure ?_) (by decide)))
      refine wpAny_pure ?_
      obtain ⟨H', I', rh', f'⟩ := dT_wr (tk := s2.toks + (NKd X).draws (toNK k)) I2 rhD eD (by intro _ z; cases z) mu hs (l := [(k, v0)]) (show 1 ≤ sizeMax by decide) (RepX.put rx hk ry h1.2 (l := []) (xs := []) rfl) hd' sb
      have eu : MP.upd (MP.upd μ2 d (.dF [])) d (.dT [(k, v0)]) = MP.upd μ2 d (.dT [(k, v0)]) := funext fun b => by
        by_cases hb : b = d
        · subst hb; rw [upd_at, upd_at]
        · rw [upd_off hb, upd_off hb, upd_off hb]
      rw [eu] at rh' f'
      refine ⟨.ref d, H', I', rfl, p (.ref d) _ _ _ rfl rh' ⟨fun a o ha hm hn => ?_, fun a l u ha hm => ?_⟩ (q d hv.2)⟩
      · have had : a ≠ d := ne_at ha hd
        obtain ⟨g1, g2⟩ := (f0.trans f2).out a o ha hm hn
        exact f'.out a o g1 (by rw [upd_off had]; exact g2) hn
      · have had : a ≠ d := ne_at ha hd
        obtain ⟨g1, g2⟩ := (f0.trans f2).lk a l u ha hm
        exact f'.lk a l u g1 (by rw [upd_off had]; exact g2)
  | none =>
    obtain ⟨h15, hf, q⟩ := tup1_flat ht q
    obtain ⟨kvs, e1, e2, e3⟩ := rp.keys hf
    subst e1
    obtain ⟨rs, c, rk⟩ := carries_of rv
    obtain ⟨hz, hs, vs0, r0, dd⟩ := dk_of I2.hok hv.1
    cases r0
    have lk : kvs.length = rs.length := by
      have : ∀ {a : List (Key × V)} {b : List (Key × Value)}, KV a b → a.length = b.length := fun {a b} h => by
        induction h with
        | nil => rfl
        | cons _ _ ih => simp [ih]
      exact this rk
    have sz : sizeLine = sizeMax := sizeMax_eq.symm
    have lm : (mergeK [] kvs).length ≤ sizeLine := by
      have h1 := length_mergeK kvs []
      simp only [List.length_nil] at h1
      rw [sz]; simp [sizeMax]; omega
    have y : Way (.dK []) := .inr ⟨[], rfl⟩
    have kp : Keeps H2 (L2.upd H2 d (.dK (mergeK [] kvs))) := y.kp hv.1
    have rkk : RepK X.K H2 (dputs [] l) (mergeK [] kvs) := e3 (m := []) (ms := []) rfl
    refine wpAny_storeAll ws rs [] s2 _ c dd (by rw [sz]; simp [sizeMax]; omega) fun h' dd' sb => ?_
    have he : ∃ q, h'.get? d = some q := by
      obtain ⟨q, _, _, hq, _⟩ := dd'
      exact ⟨q, hq⟩
    refine ⟨.ref d, L2.upd H2 d (.dK (mergeK [] kvs)), d_write I2 (by rw [hv.1]; exact True.intro) sb he (dk_new lm hs (KV.merge rk Paired.nil) dd'), rfl, ?_⟩
    have fE : Fr H0 μ (L2.upd H2 d (.dK (mergeK [] kvs))) (MP.upd μ2 d (.dF (dputs [] l))) := ⟨fun a o ha hm hn => by
      have had : a ≠ d := ne_at ha hd
      obtain ⟨h1, h2⟩ := (f0.trans f2).out a o ha hm hn
      exact ⟨by rw [L2.upd_ne had]; exact h1, by rw [upd_off had]; exact h2⟩, fun a l u ha hm => by
      have had : a ≠ d := ne_at ha hd
      obtain ⟨h1, h2⟩ := (f0.trans f2).lk a l u ha hm
      exact ⟨by rw [L2.upd_ne had]; exact h1, by rw [upd_off had]; exact h2⟩⟩
    exact p (.ref d) _ _ (MP.upd μ2 d (.dF (dputs [] l))) rfl (rh.back fE ((rh2.toRepH0.hid y hv.1 hv.2).own (ob := .dF (dputs [] l)) (.inr ⟨_, rfl⟩) L2.upd_same ⟨_, L2.upd_same, rkk.mono kp⟩)) fE (q d hv.2)
theorem e_dict (hu : X.A.units + 65 < cLine) {keys : List (Option Expr)} {values : List Expr} {cs : List (E × E)} {pos : Pos} (hp : PPs X pos keys values (cs.map fun z => (tE X T G z.1, tE X T G z.2))) (hall : keys.all (·.isSome) = true) (hl : keys.length = values.length) (h0 : keys ≠ []) (h15 : keys.length ≤ 15) :
    PE X (.Dict keys values pos) (tE X T G (.dict (inter cs))) := ⟨fun pins s σ H Q' I ⟨ρ, μ, Q, rs, rh, hw, p⟩ => by
  have hd : H s.heap.objs.size = none := I.hok.fresh (Nat.le_refl _)
  have I1 := I.laid (t' := s.toks) (o := .dK []) (fun _ _ q => Heap.get?_push_of_some { cls := Value.type "dict", data := Data.dict #[] } q) (Nat.le_refl s.heap.objs.size) (dk_empty s.heap I.big)
  have rh0 := rh.newT (o := .dK []) hd
  have f0 : Fr H μ (L2.upd H s.heap.objs.size (.dK [])) μ := Fr.newT hd
  refine wpAny_Dict_any hall hl h0 h15 (thn (hp.run pins _ σ _ (fun ps H2 => ∃ l μ2, RepPs X.K H2 l ps ∧ RepH X.w X.K T H2 μ2 ∧ Fr (L2.upd H s.heap.objs.size (.dK [])) μ H2 μ2 ∧ optP (pairUp (flatP l)) fun l => dictP l μ2 Q) I1 (pairs_of (rs.mono (f0.keeps rh)) rh0 hw fun l ps H2 μ2 rp rh2 f2 q2 => ⟨l, μ2, rp, rh2, f2, q2⟩)) fun ws s2 hh => ?_)
  obtain ⟨ps, H2, I2, rel, l, μ2, rp, rh2, f2, q2⟩ := hh
  obtain ⟨l', e, q2⟩ := optP_get q2
  rw [pairUp_flat] at e
  cases e
  have hv := f2.out _ (.dK []) L2.upd_same (rh.free hd) fun _ => HO.noConfusion
  exact dict_put I2 rp rel rh2 hv.1 hd f2 rh (by show X.A.units + 8 < cLine; omega) q2 p⟩
end
end MP

set_option linter.all false
set_option maxRecDepth 100000
set_option maxHeartbeats 1000000
set_option Elab.async false
namespace MP
open PySem PySem.Spec PyProof.Rows L2
abbrev lamPar (x : Str) (p : Pos) : Arguments := ⟨[], [⟨x, none, p⟩], none, [], [], none, []⟩
abbrev lamSub (x : Str) (p p1 p2 : Pos) (k : Nat) : Expr := .Subscript (.Name x p) (.Constant (.int 0) k p1) p2
theorem lam_bind {x q : Str} {p : Pos} {body : Expr} {scope : Scope} {pm cdv ctv v : Value} : bindArgs (PySem.W.kla_fn "<lambda>" q (lamPar x p) body scope [] pm cdv ctv) ⟨[v], []⟩ = pure [(x, v)] := by
  have hs : seqItems? Value.none = pure none := rfl
  unfold bindArgs
  dsimp only [PySem.W.kla_fn]
  rw [hs]
  simp
section
variable {prog : Program} {w : World} {A : Around} {s : Shared}
theorem key_turn {f : Addr} {x q y : Str} {p p1 p2 p3 : Pos} {k : Nat} {scope : Scope} {pm ctv : Value} {c' t : Addr} {its : List Value} {tk : Tok} (hr : A.depth < recursionLimit)
    (ho : s.heap.get? f = some (PySem.W.kla_obj "<lambda>" q (lamPar x p) (lamSub x p1 p2 p3 k) scope [] pm c' ctv)) (hco : scope.isCoroutine = false) (hgen : scope.isGenerator = false) (hk : scope.kind = .function) (hn : scope.names = [(x, .local)])
    (hd : (x == ("__debug__" : Str)) = false) (hcd : s.heap.CodeRec (.ref c') q) (lim : s.heap.NoLimit) (ht : IsTup s.heap t its.toArray) (hi : its[0]? = some (.str y tk)) :
    wpAny (model prog w) A (call (.ref f) [.ref t]) (PySem.W.KeyPure (.str y) s) (fun _ _ => False) s := by
  refine wpAny_call (codeAny_mono (R := fun r s' => ∃ u, r = .ok (.ret u) ∧ PySem.W.KeyPure (.str y) s u s') (PySem.W.kla_callFunE hr ho rfl hco hgen rfl hcd ?_) fun r s' hq => ?_)
  · rw [show bindArgs _ _ = pure [(x, Value.ref t)] from lam_bind]
    refine wpAny_pure (wpAny_newFunctionEnv (fun y hy => by rw [hn] at hy; simp at hy; rw [hy]; exact fun z => by cases z) (fun y hy => by simp at hy; rw [hy, hn]; simp) (fun h₁ hns hsb => ⟨lim.fresh _ hsb, ?_⟩) hk)
    have kp : ∀ b o, s.heap.get? b = some o → h₁.get? b = some o := fun b o e => hsb.extBut b o (Nat.ne_of_lt (Heap.lt_size e)) (Heap.get?_push_of_some _ e)
    refine PySem.W.kla_codeExpr ?_
    refine Subscript_ (wpAny_Name (wpAny_loadName_local (v := .ref t) hk ?_ hns ?_ (wpAny_Constant_int ?_)) hd)
    · show scope.names.lookup x = some .local
      rw [hn]; simp
    · simp
    · have ht' : IsTup h₁ t its.toArray := by
        obtain ⟨ob, e, c⟩ := ht
        exact ⟨ob, kp _ _ e, c⟩
      exact item_tupleL (j := 0) (x := .str y tk) ht' (by decide) (by decide) (by
        unfold seqIndex?
        cases its with
        | nil => simp at hi
        | cons a r => simp) hi ⟨_, rfl, h₁, _, rfl, kp, .str y tk⟩
  · obtain ⟨u, rfl, h⟩ := hq
    exact h
end
def kyOf : D → PyData
  | .tup (.str x :: _) => .str (toS x)
  | _ => .none
theorem strKey_get {d : D} (h : hasStrKey d = true) : ∃ x r, d = .tup (.str x :: r) := by
  cases d with
  | tup l =>
    cases l with
    | nil => cases h
    | cons e r =>
      cases e with
      | str x => exact ⟨x, r, rfl⟩
      | _ => cases h
  | _ => cases h
theorem le_keys {d e : D} (hd : hasStrKey d = true) (he : hasStrKey e = true) (h : PySem.W.dataLe false kyOf d e = true) : keyLe d e := by
  obtain ⟨x, r, rfl⟩ := strKey_get hd
  obtain ⟨y, t, rfl⟩ := strKey_get he
  show strLt y x = false
  have h : (!(decide (y < x) || (!decide (x < y) && false))) = true := h
  rw [Bool.and_false, Bool.or_false] at h
  rw [strLt_dec]
  simpa using h
theorem each_zip {α β : Type} {R : α → β → Prop} : ∀ {as : List α} {bs : List β}, PySem.W.EachIs R as bs → ∃ ys : List (α × β), ys.map (·.1) = as ∧ ys.map (·.2) = bs ∧ ∀ y ∈ ys, R y.1 y.2
  | _, _, .nil => ⟨[], rfl, rfl, fun _ h => by cases h⟩
  | a :: _, b :: _, .cons h t => by
    obtain ⟨ys, e1, e2, e3⟩ := each_zip t
    refine ⟨(a, b) :: ys, by rw [List.map_cons, e1], by rw [List.map_cons, e2], fun y hy => ?_⟩
    rcases List.mem_cons.mp hy with rfl | hy
    · exact h
    · exact e3 y hy
section
variable {X : Cx} {T : Tab} {G : Ctx} {H H' H1 : Hp} {μ μ' μ1 : Sto} {Q : D → Sto → Prop} {Q' : VK} {σ : L2.St} {ρ : Env} {pins : List (Addr × Obj)} {s : Shared}
theorem rep_pairs {K : PySem.W.Frag} : ∀ {l : List D} {vs : List V} {us : List Value}, RepVs K H l vs → Vals vs us → PySem.W.EachIs (fun (u : Value) (b : V × D) => L2.RelV b.1 u ∧ RepV K H b.2 b.1) us (vs.zip l)
  | [], _, us, h, r => by
    rw [show _ = [] from h] at r ⊢
    cases r; exact .nil
  | d :: l, _, us, ⟨v, q, e, h1, h2⟩, r => by
    subst e
    cases r with
    | cons r1 r2 => exact .cons ⟨r1, h1⟩ (rep_pairs h2 r2)
theorem zip_snd {α β : Type} : ∀ {as : List α} {bs : List β}, as.length = bs.length → (as.zip bs).map (·.2) = bs
  | [], [], _ => rfl
  | _ :: as, _ :: bs, h => by
    rw [List.zip_cons_cons, List.map_cons, zip_snd (by simpa using h)]
  | [], _ :: _, h => by cases h
  | _ :: _, [], h => by cases h
theorem sort_key (hr : X.A.depth < recursionLimit) (hu : X.A.units + 65 < cLine) (I : Inv X pins σ H s) {f c' : Addr} {x q : Str} {p p1 p2 p3 : Pos} {k : Nat} {scope : Scope} {pm ctv : Value}
    (ho : s.heap.get? f = some (PySem.W.kla_obj "<lambda>" q (lamPar x p) (lamSub x p1 p2 p3 k) scope [] pm c' ctv)) (hco : scope.isCoroutine = false) (hgen : scope.isGenerator = false) (hk : scope.kind = .function) (hn : scope.names = [(x, .local)])
    (hd : (x == ("__debug__" : Str)) = false) (hcd : s.heap.CodeRec (.ref c') q) {a : Addr} {vs : List V} {l : List D} (ha : SqL X.K H a vs) (rl : RepVs X.K H l vs) (hs : l.all hasStrKey = true)
    (h : ∀ (ys : List D) (us : List V) (b : Addr), ys.Perm l → ys.Pairwise keyLe → RepVs X.K H ys us → H b = none → Q' (.ref b) (L2.upd H b (.lst us))) :
    wpAny (model X.prog X.w) X.A (call (.builtin "sorted") [.ref a] [(Str.ofString "key", .ref f)]) (EP X pins σ Q') X.xe s := by
  obtain ⟨its, rv, pl, hz⟩ := I.list ha
  have e := rep_pairs rl rv
  have hall : ∀ b ∈ vs.zip l, hasStrKey b.2 = true := fun b hb => List.all_eq_true.mp hs _ (List.of_mem_zip hb).2
  have hlen : vs.length = l.length := rl.length.symm
  have lim := I.nolimit
  refine PySem.W.sorted_key_data (b := false) (bs := vs.zip l) (R := fun (u : Value) (b : V × D) => L2.RelV b.1 u ∧ RepV X.K H b.2 b.1) (fun b => kyOf b.2) pl.isList e ?_ ?_ ?_ ?_ (PyProof.Rows.ksk_s1 _ _) (fun _ => PyProof.Rows.ksk_l1 _ _) (fun _ => PyProof.Rows.ksk_t1 _ _) ?_ ?_
  · intro d hd1 d' hd2
    obtain ⟨b1, m1, rfl⟩ := List.mem_map.mp hd1
    obtain ⟨b2, m2, rfl⟩ := List.mem_map.mp hd2
    obtain ⟨x1, r1, e1⟩ := strKey_get (hall _ m1)
    obtain ⟨x2, r2, e2⟩ := strKey_get (hall _ m2)
    rw [e1, e2]
    simp [kyOf, PySem.W.alike]
  · refine .inr fun d hd1 => ?_
    obtain ⟨b1, m1, rfl⟩ := List.mem_map.mp hd1
    obtain ⟨x1, r1, e1⟩ := strKey_get (hall _ m1)
    rw [e1]
    exact ⟨(fun z => nomatch z), (fun _ z => nomatch z)⟩
  · rw [List.length_zip]
    exact Nat.le_trans (Nat.min_le_left _ _) hz
  · intro b hb
    obtain ⟨x1, r1, e1⟩ := strKey_get (hall _ hb)
    rw [e1]
    show X.A.units + 2 + 0 < cLine
    omega
  · rintro v ⟨v0, d⟩ ⟨ru, rd⟩ hm h1 tk kp
    obtain ⟨y, r, rfl⟩ := strKey_get (hall _ hm)
    obtain ⟨t, ws, rfl, st, rw1⟩ := rd
    cases ru
    obtain ⟨its2, rv2, pl2, _⟩ := I.tuple st
    obtain ⟨v1, q1, e1, h2, _⟩ := rw1
    subst e1
    cases rv2 with
    | @cons _ _ _ us2 r1 r2 =>
      rw [show v1 = .str (toS y) from h2] at r1
      obtain ⟨tk1, rfl⟩ := r1
      have pl3 : IsTup h1 t (Value.str (toS y) tk1 :: us2).toArray := by
        obtain ⟨ob, e, c⟩ := pl2
        exact ⟨ob, kp _ _ e, c⟩
      exact key_turn (s := { s with heap := h1, toks := tk }) hr (kp _ _ ho) hco hgen hk hn hd (hcd.keeps kp) (lim.keeps kp) pl3 rfl
  · intro out c h' tk kp hfr hD hol eo
    obtain ⟨ys, e1, e2, e3⟩ := each_zip eo
    have hp : (ys.map (·.2)).Perm (vs.zip l) := by rw [e2]; exact List.mergeSort_perm _ _
    have hpd : ((ys.map (·.2)).map (·.2)).Perm l := by
      have := hp.map (·.2)
      rw [zip_snd hlen] at this
      exact this
    have tl := PySem.W.sortLe_total (PyProof.Rows.listOrd PyProof.Rows.itemOrd) false fun b : V × D => PySem.W.keyToks (kyOf b.2)
    have pw : ((ys.map (·.2)).map (·.2)).Pairwise keyLe := by
      rw [List.pairwise_map, e2]
      have := List.pairwise_mergeSort (le := PySem.W.dataLe false fun b : V × D => kyOf b.2) (fun a b c => tl.trans a b c) (fun a b => Bool.or_eq_true _ _ ▸ tl.total a b) (vs.zip l)
      refine List.Pairwise.imp_of_mem (fun {b c} hb hc hbc => ?_) this
      have mb := (List.mergeSort_perm (vs.zip l) _).mem_iff.mp hb
      have mc := (List.mergeSort_perm (vs.zip l) _).mem_iff.mp hc
      exact le_keys (hall _ mb) (hall _ mc) hbc
    have rys : RepVs X.K H ((ys.map (·.2)).map (·.2)) ((ys.map (·.2)).map (·.1)) := by
      clear hp hpd pw eo e1 e2 hol
      induction ys with
      | nil => rfl
      | cons y ys ih => exact ⟨_, _, rfl, (e3 y (List.mem_cons_self ..)).2, ih fun z hz => e3 z (List.mem_cons_of_mem _ hz)⟩
    have rout : Vals ((ys.map (·.2)).map (·.1)) out := by
      rw [← e1]
      clear hp hpd pw eo e1 e2 hol rys
      induction ys with
      | nil => exact .nil
      | cons y ys ih => exact .cons (e3 y (List.mem_cons_self ..)).1 (ih fun z hz => e3 z (List.mem_cons_of_mem _ hz))
    have fresh : H (s.heap.objs.size + 1) = none := I.hok.fresh (Nat.le_succ _)
    refine ⟨.ref (s.heap.objs.size + 1), _, I.laid (t' := tk) (a := s.heap.objs.size + 1) (o := .lst ((ys.map (·.2)).map (·.1))) kp (Nat.le_succ _) ⟨?_, out, c, rout, hD⟩, rfl, h _ _ _ hpd pw rys fresh⟩
    rw [rout.length, hol, List.length_zip]
    exact Nat.le_trans (Nat.min_le_left _ _) hz
def KeyOk (X : Cx) (T : Tab) : Prop := ∃ c P, X.env.code = .ref c ∧ LamX.TabB X.base X.mg c P ∧ T.tabs = [(P, X.env.qual ++ "<lambda>")]
theorem RepH.tabs (h : RepH X.w X.K T H μ) : LamX.Tabs T.tabs H := fun p hp => by
  obtain ⟨ps, h1, h2, h3⟩ := h.tb p hp
  exact ⟨ps, h1, h2, fun pos cv hc => by obtain ⟨c, e, e2, _⟩ := h3 pos cv hc; exact ⟨c, e, e2⟩⟩
theorem RepH.lam (h : RepH X.w X.K T H μ) (I : Inv X pins σ H1 s) (e : LamX.ExtN H H1) (t : LamX.Tabs T.tabs H1) : RepH X.w X.K T H1 μ := by
  have old : ∀ a ob, μ a = some ob → ∃ u, H a = some u ∧ H1 a = some u := fun a ob q => by
    obtain ⟨u, h1, _, _, h2⟩ := (h a ob q).some
    exact ⟨u, h1, e a u h1 h2.1⟩
  have kp : Keeps H H1 := ⟨fun p xs q => e p _ q fun _ => HO.noConfusion, fun p o u q _ => e p _ q fun _ => HO.noConfusion, fun p xs q => e p _ q fun _ => HO.noConfusion⟩
  have fr : Fr H μ H1 μ := ⟨fun a o q n nt => ⟨e a o q nt, n⟩, fun a l u q n => by
    obtain ⟨u', h1, h2⟩ := old a _ n
    rw [q] at h1; cases h1
    exact ⟨h2, n⟩⟩
  refine h.back fr ⟨fun a ob q => (h a ob q).at kp fun u hu => ?_, fun p hp => ?_⟩
  · obtain ⟨u', h1, h2⟩ := old a ob q
    rw [hu] at h1; cases h1; exact h2
  · obtain ⟨ps, h1, h2, h3⟩ := t p hp
    refine ⟨ps, h1, h2, fun pos cv hc => ?_⟩
    obtain ⟨c, ec, e2⟩ := h3 pos cv hc
    refine ⟨c, ec, e2, ?_⟩
    cases q : μ c with
    | none => rfl
    | some ob =>
      exfalso
      have r := h c ob q
      obtain ⟨u, g1, g2⟩ := old c ob q
      rw [e2] at g2; cases g2
      cases ob with
      | lst l => obtain ⟨vs, g3, _⟩ := r; rw [g1] at g3; cases g3
      | dF l => obtain ⟨vs, g3, _⟩ := r; rw [g1] at g3; cases g3
      | ins cc l => obtain ⟨dx, fs, g3, _⟩ := r; rw [g1] at g3; cases g3
      | dL l => obtain ⟨o, kvs, g3, _⟩ := r; rw [g1] at g3; cases g3
      | exc cc o =>
        have i1 := (I.hok c _ e2).1
        obtain ⟨oc, ws, tk, j1, j2, j3⟩ := i1
        cases o with
        | none =>
          have g3 : H c = some (ExO (.ref (T.ecl cc)) c) := r
          rw [g1] at g3
          have e2' := e2
          rw [show LamX.CodeO c p.2 = ExO (.ref (T.ecl cc)) c from Option.some.inj g3] at e2'
          obtain ⟨⟨oe, vs, k1, _, k2, k3, _⟩, _⟩ := I.hok c _ e2'
          rw [j1] at k1; cases k1
          rw [j2] at k2; cases k2
          rw [j3] at k3; cases k3
        | some d =>
          obtain ⟨_, dx, v, g3, _⟩ := r
          rw [g1] at g3
          have e2' := e2
          rw [show LamX.CodeO c p.2 = exo c (T.ecl cc) (some dx) from Option.some.inj g3] at e2'
          obtain ⟨t1, k1⟩ := exo_at I.hok e2'
          rw [j1] at k1; cases k1
          cases j2
          cases j3
      | exn cc =>
        have i1 := (I.hok c _ e2).1
        obtain ⟨oc, ws, tk, j1, j2, j3⟩ := i1
        obtain ⟨_, _, g3⟩ := r
        rw [g1] at g3
        have e2' := e2
        rw [show LamX.CodeO c p.2 = exo c (T.ecl cc) none from Option.some.inj g3] at e2'
        obtain ⟨t1, k1⟩ := exo_at I.hok e2'
        rw [j1] at k1; cases k1
        cases j2
        cases j3
      | dT l =>
        obtain ⟨o, es, ep, g3, _, g4, _⟩ := r
        rw [g1] at g3
        have i1 := (I.hok c _ e2).1
        have e2' := e2
        rw [show LamX.CodeO c p.2 = HO.ext (IsObj c o) from Option.some.inj g3] at e2'
        have i2 := (I.hok c _ e2').1
        obtain ⟨oc, ws, tk, j1, j2, _⟩ := i1
        have i2 : s.heap.get? c = some o := i2
        rw [j1] at i2; cases i2
        rw [g4] at j2; cases j2
theorem Fr.lam {ob : Ob} {b : Addr} {o : HO} (rh : RepH X.w X.K T H μ) (e : LamX.ExtN H H1) (h0 : H1 b = none) : Fr H μ (L2.upd H1 b o) (MP.upd μ b ob) := ⟨fun a u h n nt =>
  have h1 := e a u h nt
  ⟨by rw [L2.upd_ne (ne_at h1 h0)]; exact h1, by rw [upd_off (ne_at h1 h0)]; exact n⟩, fun a l u h n => by
  obtain ⟨u', g, _, _, nt⟩ := (rh a _ n).some
  rw [h] at g; cases g
  have h1 := e a u h nt.1
  exact ⟨by rw [L2.upd_ne (ne_at h1 h0)]; exact h1, by rw [upd_off (ne_at h1 h0)]; exact n⟩⟩
theorem lam_clo {cells : List (Str × Addr)} {x : Str} : L2.cloFrom cells [(x, NameKind.local)] [] = [] := rfl
theorem e_skey (hu : X.A.units + 65 < cLine) (hr : X.A.depth < recursionLimit) (KO : KeyOk X T) {e : Expr} {ce : E} {x : Str} {p p1 p2 p3 pf lp kp pos : Pos} {k : Nat} {scope : Scope} (hg : Gl X "sorted") (hm : X.mg "sorted" = none) (he : PE X e (tE X T G ce)) (hst : ∀ es, starEach (e :: es) X.env = (false, eval e X.env) :: starEach es X.env)
    (hco : scope.isCoroutine = false) (hgen : scope.isGenerator = false) (hk : scope.kind = .function) (hn : scope.names = [(x, .local)]) (hd : (x == ("__debug__" : Str)) = false) :
    PE X (.Call (.Name "sorted" pf) [e] [⟨some "key", .Lambda (lamPar x p) (lamSub x p1 p2 p3 k) scope lp, kp⟩] pos) (tE X T G (.skey ce)) := by
  obtain ⟨c, P, hc, TB, hT⟩ := KO
  refine ⟨fun pins s σ H Q' I ⟨ρ, μ, Q, rs, rh, hw, pq⟩ => ?_⟩
  refine wpAny_Call_Name_kw (ld_blt I hg hm PyProof.Rows.boot_sorted ?_)
  have hs1 : backTo pos (starEach [e] X.env) = (false, eval e X.env) :: backTo pos (starEach [] X.env) := by rw [hst]; rfl
  refine PyProof.Rows.callWith_kw ?_ hs1 (by rw [hs1]; rfl) rfl rfl
  rw [hs1]
  refine Calls.spliced_cons (thn (he.run pins s σ H (fun v H1 => ∃ a l, ∃ μ1, v = .ref a ∧ RepH X.w X.K T H1 μ1 ∧ Fr H μ H1 μ1 ∧ μ1 a = some (.lst l) ∧ l.all hasStrKey = true ∧ ∀ ys, ys.Perm l → ys.Pairwise keyLe → new μ1 (.lst ys) Q) I
    ⟨ρ, μ, _, rs, rh, hw, fun d v H1 μ1 rv rh1 f1 q1 => ?_⟩) fun u s1 ⟨v, H1, I1, r1, a, l, μ1, e1, rh1, f1, ea, hs, q1⟩ => Calls.spliced_nil ?_)
  · obtain ⟨a, l, rfl, ea, hs, q⟩ := rdR_get q1
    cases rv
    exact ⟨a, l, μ1, rfl, rh1, f1, ea, hs, q⟩
  · subst e1
    cases r1
    obtain ⟨vs, hvs, rl⟩ := rh1 a _ ea
    show wpAny _ _ (evalAll [do let v ← eval (.Lambda (lamPar x p) (lamSub x p1 p2 p3 k) scope lp) X.env; standAt pos; pure v]) _ _ _
    refine wpAny_evalAll_cons (wpAny_bind (LamX.lam_make2 (T := T.tabs) I1 TB hc (by rw [hT]; exact List.mem_cons_self ..) (fun z hz _ => by rw [hT] at hz; rw [List.mem_singleton.mp hz]) rh1.tabs rfl (fun y hy ey => by rw [hn] at hy; rw [List.mem_singleton.mp hy] at ey; cases ey) fun f c' pm ctv H2 s2 I2 eN tN ho hfn hfr hco2 => wpAny_bind (wpAny_standAt (wpAny_pure ?_))))
    refine wpAny_evalAll_nil ?_
    rw [hn, lam_clo] at ho
    have rh2 := rh1.lam I2 eN tN
    have hvs2 : H2 a = some (.lst vs) := eN _ _ hvs fun _ => HO.noConfusion
    have kp2 : Keeps H1 H2 := ⟨fun p xs q => eN p _ q fun _ => HO.noConfusion, fun p o u q _ => eN p _ q fun _ => HO.noConfusion, fun p xs q => eN p _ q fun _ => HO.noConfusion⟩
    obtain ⟨⟨oc, ws, t, j1, j2, j3⟩, _, _⟩ := I2.hok c' _ hco2
    refine sort_key hr hu I2 ho hco hgen hk hn hd ⟨c', oc, ws, t, rfl, j1, j2, j3⟩ (SqL.of hvs2) (rl.mono kp2) hs fun ys us b h1 h2 h3 h4 => ?_
    exact pq (.ref b) _ _ _ rfl (rh2.newO h4 (ob := .lst ys) ⟨us, L2.upd_same, h3.mono (.new h4)⟩) (f1.trans (Fr.lam rh1 eN h4)) (q1 ys h1 h2 b (rh2.free h4))
theorem intO_get {d : D} {k : Int → Prop} (h : intO d k) : ∃ n, d = .int n ∧ k n := by
  cases d with
  | int n => exact ⟨n, rfl, h⟩
  | _ => exact h.elim
theorem m_remove : MtR X "list.remove" (rM X T .remove) := by
  intro pins s σ H x vs v us Q' I rx rvs ⟨dx, ds, μ, Q, hx, hv, rh, h, p⟩
  obtain ⟨d0, d, e1, h⟩ := arg2_get h
  cases e1
  replace hv := hv.get1
  obtain ⟨y, rfl, hv⟩ := hv
  obtain ⟨a, l, rfl, ea, h⟩ := rdR_get h
  obtain ⟨n, rfl, h⟩ := intO_get h
  obtain ⟨ns, en, hn, q⟩ := optP_get h
  cases hx; cases hv
  obtain ⟨xs, hs, rl⟩ := rh a _ ea
  have exs := rl.intsD en
  subst exs
  obtain ⟨j, j1, j2, j3, j4⟩ := first_at hn
  refine mt_remove pins s σ H _ _ v us Q' I rx rvs ⟨a, ns, n, j, rfl, rfl, hs, j2, j3, ?_⟩
  rw [j4]
  exact p .non _ _ _ rfl (rh.wr ea (ob' := .lst ((ns.erase n).map D.int)) ⟨_, L2.upd_same, RepVs.of_ints _⟩) (Fr.wr ea) q
def rCntD (K : PySem.W.Frag) : V → List V → Hp → VK → Prop := fun x xs H Q => ∃ (a : Addr) (y : V) (d : PyData) (ds : List PyData), x = V.ref a ∧ xs = [y] ∧ Dp K H (V.ref a) (.list ds) ∧ Dp K H y d ∧
  SeqAt.shaped (.list ds) = true ∧ SeqAt.shaped d = true ∧ Q (.int (ds.countP fun z => PyData.eqv z d : Nat)) H
theorem mt_countD (hu : X.A.units + 65 < cLine) : MtR X "list.count" (rCntD X.K) := by
  rintro pins s σ H x xs v us Q I rx rxs ⟨a, y, d, ds, rfl, rfl, hl, hy, sl, sd, q⟩
  cases rx
  cases rxs with
  | cons ry rt =>
    rename_i uy ut
    cases rt
    have ⟨_, rdY⟩ := Dp.reads I d y uy hy ry
    have lay : PyData.canLayAll0 ds = true :=
      SeqAt.canLay_of_shaped sl
    have rm : X.A.units + 1 + min (PyData.depthAll ds) d.depth < cLine :=
      room_in_shaped sd hu
    cases hl with
    | lst hs ha =>
      obtain ⟨its, rvI, ⟨⟨kl, di, da, so⟩, cap, at_, ek, _, ed⟩, _⟩ := I.list hs
      simp only at ek ed
      subst ek ed
      have ⟨ws, rdAll⟩ := Dp.readsAll I ds _ its ha rvI
      have em : its.map (SeqAt.readOf s.heap) = ds :=
        SeqAt.readsAll_map ds its ws lay rdAll
      refine call_meets PySem.F.slot_list_count ⟨_, at_, rfl⟩ PySem.F.entry_list_count
        (PySem.F.args_list_count_2 _ _) (SeqAt.list_countAt a its.toArray cap di so uy fun u => PyData.eqv (SeqAt.readOf s.heap u) d) ⟨at_, ?_, ?_⟩
      · exact SeqAt.items_eqAt (vs := its.toArray) (show ReadsAll s.heap its.toArray.toList ds ws from rdAll) rdY lay (SeqAt.canLay_of_shaped sd) rm
      have ec : its.toArray.toList.countP (fun u => PyData.eqv (SeqAt.readOf s.heap u) d) = ds.countP fun z => PyData.eqv z d := by
        rw [← em, List.countP_map]; rfl
      refine ⟨.int (ds.countP fun z => PyData.eqv z d : Nat), H, I.tok _, ⟨s.toks, ?_⟩, q⟩
      show Value.int ((its.toArray.toList.countP (fun u => PyData.eqv (SeqAt.readOf s.heap u) d) : Nat) : Int) s.toks = Value.int ((ds.countP fun z => PyData.eqv z d : Nat) : Int) s.toks
      rw [ec]
theorem m_count (hu : X.A.units + 65 < cLine) : MtR X "list.count" (rM X T .count) := by
  intro pins s σ H x xs v us Q' I rx rvs ⟨dx, ds, μ, Q, hx, hv, rh, h, p⟩
  obtain ⟨d, y, e1, h⟩ := arg2_get h
  cases e1
  replace hv := hv.get1
  obtain ⟨vy, rfl, hv⟩ := hv
  obtain ⟨a, l, rfl, ea, oy, ol, q⟩ := rdR_get h
  cases hx
  obtain ⟨vs, hs, rl⟩ := rh a _ ea
  have ok : ∀ {d : D}, d ∈ l → D.ok 60 d = true := fun {d} hd => List.all_eq_true.mp ol d hd
  have ec : (toPys l).countP (fun z => PyData.eqv z (toPy y)) = l.countP fun z => D.eqb z y := by
    rw [toPys_map, List.countP_map]
    exact List.countP_congr fun z hz => by
      show PyData.eqv (toPy z) (toPy y) = true ↔ D.eqb z y = true
      rw [eqv_eqb (ok hz) oy]
  refine mt_countD hu pins s σ H _ _ v us Q' I rx rvs ⟨a, vy, toPy y, toPys l, rfl, rfl, .lst (SqL.of hs) (rep_dps ol rl), rep_dp oy hv, shaped_list ol, shaped_of (ok_lay oy), ?_⟩
  rw [ec]
  exact p.int rh q
end
end MP

set_option linter.all false
set_option maxRecDepth 100000
set_option maxHeartbeats 1000000
set_option Elab.async false
namespace MP
open PySem PySem.Spec PyProof.Rows L2
theorem meets_enumB {v : Value} {o : Obj} {H : Heap → Prop} (B : Begins v o H) :
    Meets (Builtin.«enumerate.__new__» ⟨[.type "enumerate", v], []⟩) (fun _ R s => H s.heap ∧
      R (.ok (.ret (.ref (s.heap.push o).objs.size))) { s with heap := (s.heap.push o).push { cls := .type "enumerate", data := .fields #[.none, .bool false, .ref s.heap.objs.size, rawInt 0, .none, .none] } }) :=
  .of_wp fun prog w A R s h => by
    obtain ⟨hp, g, d, tk, os⟩ := s; obtain ⟨h1, h⟩ := h
    have hsub := sub_enumerate
    have q1 : ∀ {A' : Around} {E : Value → Shared → Prop} {Q : Value → Shared → Prop}, Q (.ref hp.objs.size) ⟨(hp.push o), g, d, tk, os⟩ → wpAny (model prog w) A' (pyIter v) Q E ⟨hp, g, d, tk, os⟩ :=
      fun q => B.iter prog w _ _ ⟨hp, g, d, tk, os⟩ _ (B.keeps _ _ h1 fun b o' e => e) q
    wp_walk using q1
    refine wpAny_stack_any fun st => wpAny_pure ?_
    split
    · rename_i c _ _ _ _ _
      cases (c == Value.type "enumerate")
      · wp_walk using q1
        exact ⟨_, rfl, h⟩
      · wp_walk using q1
        exact ⟨_, rfl, h⟩
    · wp_walk using q1
      exact ⟨_, rfl, h⟩
theorem call_enumB {v : Value} {o : Obj} {H : Heap → Prop} {prog : Program} {w : World} {A : Around} {E : Value → Shared → Prop} {s : Shared} {Q : Value → Shared → Prop} (B : Begins v o H) (h1 : H s.heap)
    (h : ∀ h', IsEnum h' (s.heap.objs.size + 1) s.heap.objs.size 0 .none → h'.get? s.heap.objs.size = some o → h'.objs.size = s.heap.objs.size + 2 →
      (∀ b o, s.heap.get? b = some o → h'.get? b = some o) → Q (.ref (s.heap.objs.size + 1)) { s with heap := h' }) :
    wpAny (model prog w) A (call (.type "enumerate") [v]) Q E s := by
  refine callType_new F.called_enumerate (by decide) (F.typeCall_enumerate_1 _) (F.newCall_enumerate_1 _) (fun obj => F.args_object_init_2 obj _) F.entry_enumerate_new
    (meets_enumB B) ⟨h1, ?_⟩
  have hz : (s.heap.push o).objs.size = s.heap.objs.size + 1 := Heap.size_push ..
  show _ ∧ _
  rw [hz]
  have he : IsEnum ((s.heap.push o).push { cls := .type "enumerate", data := .fields #[.none, .bool false, .ref s.heap.objs.size, rawInt 0, .none, .none] }) (s.heap.objs.size + 1) s.heap.objs.size 0 .none := by
    have := Heap.get?_push_size (s.heap.push o) (o := { cls := .type "enumerate", data := .fields #[.none, .bool false, .ref s.heap.objs.size, rawInt 0, .none, .none] }) rfl
    rw [hz] at this; exact this
  refine ⟨⟨_, he, rfl⟩, h _ he (Heap.get?_push_of_some _ (Heap.get?_push_size _ B.free)) (by rw [Heap.size_push, hz]) fun b o x => Heap.get?_push_of_some _ (Heap.get?_push_of_some _ x)⟩
theorem enum_endT {prog : Program} {w : World} {A : Around} {E : Value → Shared → Prop} {s : Shared} {e it t : Addr} {k i : Nat} {items : Array Value} {old : Value} {Q : Option Value → Shared → Prop} (hh : A.in1.handled = none) (he : IsEnum s.heap e it k old) (hit : s.heap.IsTupleIter it t i) (ht : s.heap.IsTuple t items) (hx : items[i]? = none)
    (hQ : ∀ h', Heap.ExtBut it s.heap h' → Q none { s with heap := h' }) : wpAny (model prog w) A (pyNext (.ref e)) Q E s := by
  have hT : s.TypeIs (.ref e) "enumerate" := ⟨_, he, rfl⟩
  unfold pyNext
  refine wpAny_bind (wpAny_attempt (wpAny_callSpecial?_slot (name := Str.ofString "__next__") hT F.slot_enumerate_next
    (wpAny_call_entry F.slot_enumerate_next hT F.entry_enumerate_next ?_ (F.args_enumerate_next_1 _))))
  show wpAny _ _ (field (.ref e) 2 >>= _) _ _ _
  refine wpAny_bind (wpAny_field he rfl (x := .ref it) rfl ?_)
  refine wpAny_bind (wpAny_nextOf_tuple_end hh hit ht hx fun h' x he' hx' => ?_)
  obtain ⟨o, ho, hc⟩ := hx'
  refine wpAny_bind (wpAny_isInstance (T := "StopIteration") (b := true) ⟨o, ho, hc⟩ isSubtype_stop ?_)
  exact wpAny_pure (hQ _ he')
def IteT (K : PySem.W.Frag) (a : Addr) : It :=
  ⟨fun i H => ∃ (xs : List V) (x : V), SqT K H a xs ∧ xs[i]? = some x, fun i H v H' => ∃ T x, v = .ref T ∧ H T = none ∧ H' = L2.upd H T (.tup [.int (i : Nat), x]) ∧ ∀ xs, SqT K H a xs → xs[i]? = some x, fun i H => ∃ xs : List V, SqT K H a xs ∧ xs.length ≤ i⟩
theorem turn_enumT {P : Program} {w : World} {K : PySem.W.Frag} {elts : List Expr} {kk : Nat} {tpos : Pos} (a e it : Addr) :
    Turn P w K (.Tuple elts kk tpos) (IteT K a) [e, it] e (fun i h => (∃ old, IsEnum h e it ((i : Nat) : Int) old) ∧ h.IsTupleIter it a i ∧ e ≠ it) where
  mem := by simp
  obj := fun i h st b hb => by
    obtain ⟨⟨old, he⟩, ⟨o, ho, hc, hd⟩, _⟩ := st
    have e' : b = e ∨ b = it := by simpa using hb
    rcases e' with z | z
    · rw [z]; exact ⟨_, he, fun v q => nomatch q⟩
    · rw [z]; exact ⟨o, ho, fun v q => by rw [hd] at q; cases q⟩
  keep := fun i h h' st k => let ⟨⟨old, he⟩, hi, hne⟩ := st; ⟨⟨old, k e (by simp) _ he⟩, hi.at fun o q => k it (by simp) o q, hne⟩
  item := by
    intro X hP hw hK hc i pins s σ H E I hf st hg
    subst hP hw hK
    obtain ⟨⟨old, he⟩, hit, hne⟩ := st
    obtain ⟨xs, x, hq, hx⟩ := hg
    obtain ⟨its, rv, p, hz⟩ := I.tuple hq
    obtain ⟨u, hu, ru⟩ := rv.get hx
    have hel : e < s.heap.objs.size := Heap.lt_size he
    have hil : it < s.heap.objs.size := by obtain ⟨_, q, _⟩ := hit; exact Heap.lt_size q
    have pT : s.heap.IsTuple a its.toArray := p
    have dne : a ≠ it := fun z => by
      subst z
      obtain ⟨o1, g1, c1, _⟩ := hit
      obtain ⟨o2, g2, c2, _⟩ := pT
      rw [g1] at g2; cases g2
      rw [c1] at c2; exact absurd c2 (by simp)
    have dea : e ≠ a := fun z => by
      subst z
      obtain ⟨o2, g2, c2, _⟩ := pT
      rw [show s.heap.get? e = _ from he] at g2; cases g2
      exact absurd c2 (by simp)
    have D := Draws.tuple (prog := X.prog) (w := X.w) (A := X.A.in1) (I.ok.hd hc) it a dne its.toArray
    have hi : i < its.toArray.size := by
      have := (List.getElem?_eq_some_iff.mp hu).1
      simpa using this
    refine wpAny_pyNext_enum_itemD D he ⟨hit, pT⟩ hi hne (by simp [hne, dea]) fun y h' tk hy ho hst' hT hsz hk => ?_
    have ey : y = u := by
      have h2 : its.toArray[i]? = some u := by simpa using hu
      rw [h2] at hy; exact (Option.some.inj hy).symm
    subst ey
    refine ⟨_, rfl, wpAny_letOwnedTupleGo_enum (s := { s with heap := h', toks := tk + 1 }) ho fun h'' he' sb => ?_⟩
    have hT2 : h''.get? s.heap.objs.size = some { cls := .type "tuple", data := .seq #[.int i tk, y] } := (sb.2 _ (Nat.ne_of_gt hel)).trans hT
    have new : ObjOk X.prog X.w (L2.upd H s.heap.objs.size (.tup [.int (i : Nat), x])) h'' s.heap.objs.size (.tup [.int (i : Nat), x]) :=
      ⟨by show 2 ≤ sizeLine; decide, [.int i tk, y], .cons ⟨_, rfl⟩ (.cons ru .nil), ⟨_, hT2, rfl, _, rfl⟩⟩
    have I1 : Inv X pins σ (L2.upd H s.heap.objs.size (.tup [.int (i : Nat), x])) { s with heap := h'', toks := tk + 1 } :=
      I.turnedNew (ch := [e, it]) (fun b ob hb q => (sb.2 b (fun z => hb (by simp [z]))).trans (hk b ob (fun z => hb (by simp [z])) (fun z => hb (by simp [z])) q)) hf (Nat.le_refl _) new
    refine ⟨.ref s.heap.objs.size, _, I1, rfl, ⟨_, x, rfl, I.hok.fresh (Nat.le_refl _), rfl, fun ys hy => by rw [I.tuple_inj hy hq]; exact hx⟩, ⟨⟨y, ?_⟩, hst'.1.at fun o q => (sb.2 it (Ne.symm hne)).trans q, hne⟩, fun b hb => ?_⟩
    · have e1 : ((i + 1 : Nat) : Int) = (i : Int) + 1 := by omega
      rw [e1]; exact he'
    · have hb' : b < s.heap.objs.size := by
        have e' : b = e ∨ b = it := by simpa using hb
        rcases e' with z | z
        · rw [z]; exact hel
        · rw [z]; exact hil
      rw [L2.upd_ne (Nat.ne_of_lt hb')]
      exact (hf b hb).1
  done := by
    intro X hP hw hK hc i pins s σ H E I hf st hg
    subst hP hw hK
    obtain ⟨⟨old, he⟩, hit, hne⟩ := st
    obtain ⟨xs, hq, hx⟩ := hg
    obtain ⟨its, rv, p, hz⟩ := I.tuple hq
    obtain ⟨f0, f1, f2, f3, f4, f5⟩ := hf it (by simp)
    have hl := rv.length
    have pT : s.heap.IsTuple a its.toArray := p
    exact enum_endT (I.ok.hd hc) he hit pT (by simp; omega) fun h' eb => ⟨rfl, I.turned (t' := s.toks) (fun b o hb q => eb b o hb q) f0 f1 f3 f4 f5⟩
  self := fun A i s Q E st h => let ⟨⟨_, he⟩, _⟩ := st; wpAny_pyIter_enum he h
def iEnumX (K : PySem.W.Frag) (ta : TA) : TI := fun σ H R => ta σ H fun vs H1 => ∃ a, vs = [.ref a] ∧ ((∃ xs, SqL K H1 a xs ∧ R (Ite K a) H1) ∨ ∃ xs, SqT K H1 a xs ∧ R (IteT K a) H1)
theorem pi_enumX {X : Cx} {e : Expr} {ta : TA} {p pos tpos : Pos} {elts : List Expr} {kk : Nat} (hg : Gl X "enumerate") (hm : X.mg "enumerate" = none) (ha : PA X [e] ta) (hs : starEach [e] X.env = [(false, eval e X.env)] := by rfl) :
    PI X (.Tuple elts kk tpos) (.Call (.Name "enumerate" p) [e] [] pos) (iEnumX X.K ta) := by
  refine ⟨fun pins s σ H R I h => ?_⟩
  refine Call_ (ld_blt I hg hm boot_enumerate (PyProof.Rows.callWith_type1 (thn (ha.run pos pins s σ H _ I h) fun us s1 ⟨vs, H1, I1, r1, q1⟩ => ?_) hs rfl))
  obtain ⟨a, ex, hq⟩ := q1
  subst ex
  cases r1 with
  | cons r rr =>
    cases rr
    cases r
    have fp : ∀ b ∈ [s1.heap.objs.size + 1, s1.heap.objs.size], s1.heap.objs.size ≤ b := fun b hb => by
      have e' : b = s1.heap.objs.size + 1 ∨ b = s1.heap.objs.size := by simpa using hb
      rcases e' with z | z
      · rw [z]; exact Nat.le_add_right _ _
      · rw [z]; exact Nat.le_refl _
    rcases hq with ⟨xs, hq, q⟩ | ⟨xs, hq, q⟩
    · obtain ⟨its, rv, p', hz⟩ := I1.list hq
      refine call_enumerate_list p'.isList fun h' he hit hsz hk => wpAny_pyIter_enum he ?_
      have I2 : Inv X pins σ H1 { s1 with heap := h' } := I1.kept (t' := s1.toks) hk
      exact ⟨s1.heap.objs.size + 1, [s1.heap.objs.size + 1, s1.heap.objs.size], _, _, H1, rfl, I2, turn_enum a (s1.heap.objs.size + 1) s1.heap.objs.size, ⟨⟨.none, he⟩, hit, Nat.succ_ne_self _⟩, fun b hb => I1.fpOk (fp b hb) (I1.hok.fresh (fp b hb)), q⟩
    · obtain ⟨its, rv, p', hz⟩ := I1.tuple hq
      refine call_enumB (begins_tuple a its.toArray) p' fun h' he hit hsz hk => wpAny_pyIter_enum he ?_
      have I2 : Inv X pins σ H1 { s1 with heap := h' } := I1.kept (t' := s1.toks) hk
      exact ⟨s1.heap.objs.size + 1, [s1.heap.objs.size + 1, s1.heap.objs.size], _, _, H1, rfl, I2, turn_enumT a (s1.heap.objs.size + 1) s1.heap.objs.size, ⟨⟨.none, he⟩, ⟨_, hit, rfl, rfl⟩, Nat.succ_ne_self _⟩, fun b hb => I1.fpOk (fp b hb) (I1.hok.fresh (fp b hb)), q⟩
end MP

set_option linter.all false
set_option maxRecDepth 100000
set_option maxHeartbeats 1000000
set_option Elab.async false
namespace MP
open PySem PySem.Spec PyProof.Rows L2
def slotsP : P → List Nat
  | .v i => [i]
  | .nil => []
  | .cons p q => slotsP p ++ slotsP q
def plen : P → Nat
  | .cons _ q => plen q + 1
  | _ => 0
def isTupP : P → Bool
  | .v _ => false
  | _ => true
def Off (l : List Nat) (σ σ' : L2.St) : Prop := σ'.length = σ.length ∧ ∀ i, i ∉ l → σ'[i]? = σ[i]?
theorem Off.refl {l : List Nat} {σ : L2.St} : Off l σ σ := ⟨rfl, fun _ _ => rfl⟩
theorem Off.app {l m : List Nat} {σ σ1 σ2 : L2.St} (a : Off l σ σ1) (b : Off m σ1 σ2) : Off (l ++ m) σ σ2 := ⟨b.1.trans a.1, fun i h => by
  rw [List.mem_append, not_or] at h
  rw [b.2 i h.2, a.2 i h.1]⟩
section
variable (X : Cx)
abbrev NoT (g : Gh) (p : P) : Prop := ∀ x, g = some x → x.1 ∉ slotsP p
def tP (p : P) : TG := fun v σ H Q' => ∃ d ρ ρ' g, RepV X.K H d v ∧ RepS0 X.K g H ρ σ ∧ NoT g p ∧ matP p d ρ = some ρ' ∧ ∀ σ', RepS0 X.K g H ρ' σ' → Off (slotsP p) σ σ' → Q' σ' H
def tPs (p : P) : TGs := fun vs σ H Q' => ∃ ds ρ ρ' g, RepVs X.K H ds vs ∧ RepS0 X.K g H ρ σ ∧ NoT g p ∧ matP p (.tup ds) ρ = some ρ' ∧ ∀ σ', RepS0 X.K g H ρ' σ' → Off (slotsP p) σ σ' → Q' σ' H
end
def wfP : P → Bool
  | .v _ => true
  | .nil => true
  | .cons p q => wfP p && isTupP q && wfP q
theorem matP_len : ∀ {p : P} {ds : List D} {ρ ρ' : Env}, wfP p = true → isTupP p = true → matP p (.tup ds) ρ = some ρ' → ds.length = plen p
  | .v _, _, _, _, _, h, _ => by cases h
  | .nil, [], _, _, _, _, _ => rfl
  | .nil, _ :: _, _, _, _, _, h => by simp [matP] at h
  | .cons p q, [], _, _, _, _, h => by simp [matP] at h
  | .cons p q, d :: r, ρ, ρ', hw, _, h => by
    unfold matP at h
    simp only [wfP, Bool.and_eq_true] at hw
    cases e : matP p d ρ with
    | none => rw [e] at h; cases h
    | some ρ1 =>
      rw [e] at h
      rw [List.length_cons, matP_len hw.2 hw.1.2 h]; rfl
section
variable {X : Cx} {T : Tab} {G : Ctx} {H H' H1 H2 : Hp} {μ μ' μ1 μ2 : Sto} {Q : D → Sto → Prop} {Q' : VK} {σ σ' : L2.St} {ρ ρ' : Env}
theorem _root_.L2.PG.imp {e : Expr} {t t' : TG} (h : PG X e t) (i : ∀ v σ H Q, t' v σ H Q → t v σ H Q) : PG X e t' := ⟨fun pins s σ H v u Q I r hw => h.run pins s σ H v u Q I r (i v σ H Q hw)⟩
theorem _root_.L2.PGs.imp {e : List Expr} {t t' : TGs} (h : PGs X e t) (i : ∀ v σ H Q, t' v σ H Q → t v σ H Q) : PGs X e t' := ⟨fun pins s σ H v u Q I r hw => h.run pins s σ H v u Q I r (i v σ H Q hw)⟩
theorem g_name {i : Nat} {x : Str} {pos : Pos} (hN : X.N.Nodup) (hi : X.N[i]? = some x) (hx : Loc X.env.scope x) (hf : X.fn x = true ∨ X.env.scope.names.lookup x = some .local) : PG X (.Name x pos) (tP X (.v i)) :=
  (pg_name hN hi hx hf).imp fun v σ H Q ⟨d, ρ, ρ', g, rv, rs, nt, e, h⟩ => by
    cases e
    exact h _ (rs.set rv fun x hx z => nt x hx (by simp [slotsP, z])) ⟨List.length_set .., fun j hj => List.getElem?_set_ne (fun z => hj (by simp [slotsP, z]))⟩
theorem gs_nil : PGs X [] (tPs X .nil) := pgs_nil.imp fun v σ H Q ⟨ds, ρ, ρ', g, rv, rs, nt, e, h⟩ => by
  cases ds with
  | nil =>
    cases e
    exact ⟨rv, h _ rs .refl⟩
  | cons d r => simp [matP] at e
theorem gs_cons {e : Expr} {es : List Expr} {p q : P} (h1 : PG X e (tP X p)) (h2 : PGs X es (tPs X q)) (hs : (assignEach (e :: es) X.env).map (·.2) = assign e X.env :: (assignEach es X.env).map (·.2)) : PGs X (e :: es) (tPs X (.cons p q)) :=
  (pgs_cons h1 h2 hs).imp fun v σ H Q ⟨ds, ρ, ρ', g, rv, rs, nt, e, h⟩ => by
    cases ds with
    | nil => simp [matP] at e
    | cons d r =>
      obtain ⟨v1, vr, rfl, r1, r2⟩ := rv
      unfold matP at e
      cases e1 : matP p d ρ with
      | none => rw [e1] at e; cases e
      | some ρ1 =>
        rw [e1] at e
        exact ⟨v1, vr, rfl, d, ρ, ρ1, g, r1, rs, fun x hx z => nt x hx (List.mem_append_left _ z), e1, fun σ1 rs1 o1 => ⟨r, ρ1, ρ', g, r2, rs1, fun x hx z => nt x hx (List.mem_append_right _ z), e, fun σ2 rs2 o2 => h σ2 rs2 (o1.app o2)⟩⟩
theorem g_tup {es : List Expr} {k : Nat} {pos : Pos} {p : P} (hc : X.calm = true) (h : PGs X es (tPs X p)) (hw : wfP p = true) (ht : isTupP p = true) (hn : (assignEach es X.env).length = plen p) (hst : (assignEach es X.env).findIdx? (·.1) = none) : PG X (.Tuple es k pos) (tP X p) :=
  (pg_tup hc h hn hst).imp fun v σ H Q ⟨d, ρ, ρ', g, rv, rs, nt, e, h⟩ => by
    cases d with
    | tup ds =>
      obtain ⟨a, vs, rfl, st, rl⟩ := rv
      exact ⟨a, vs, rfl, st, by rw [← rl.length]; exact matP_len hw ht e, ds, ρ, ρ', g, rl, rs, nt, e, h⟩
    | _ => cases p with
      | v i => cases ht
      | nil => simp [matP] at e
      | cons p q => simp [matP] at e
def Walks (X : Cx) (T : Tab) (J : It) (H1 : Hp) (l : List D) (chk : Sto → Prop) : Prop := ∀ (i : Nat) H μ, Keeps H1 H → RepH X.w X.K T H μ → chk μ →
  (∀ d, l[i]? = some d → J.go i H ∧ ∀ x H', J.yld i H x H' → RepV X.K H' d x ∧ RepH X.w X.K T H' μ ∧ Fr H μ H' μ) ∧ (l.length ≤ i → J.stop i H)
def tI (X : Cx) (T : Tab) (G : Ctx) (k : IK) (c : E) : TI := fun σ H R => ∃ ρ μ, ∃ Q : List D → (Sto → Prop) → Sto → Prop, RepS X.K T H ρ σ ∧ RepH X.w X.K T H μ ∧ wpA G c ρ μ (fun ds μ1 => iterP k ds μ1 fun l chk => Q l chk μ1) T.Z ∧
  ∀ J l chk H1 μ1, RepH X.w X.K T H1 μ1 → Fr H μ H1 μ1 → chk μ1 → Walks X T J H1 l chk → Q l chk μ1 → R J H1
theorem walks_list {a : Addr} {l : List D} : Walks X T (Itl X.K a) H1 l (fun μ' => μ' a = some (.lst l)) := fun i H μ _ rh hc => by
  obtain ⟨vs, hs, rl⟩ := rh a _ hc
  refine ⟨fun d hd => ?_, fun hi => ⟨vs, SqL.of hs, by rw [← rl.length]; exact hi⟩⟩
  obtain ⟨v, h1, h2⟩ := rl.get hd
  refine ⟨⟨vs, v, SqL.of hs, h1⟩, fun x H' ⟨e, hy⟩ => ?_⟩
  subst e
  have := hy vs (SqL.of hs)
  rw [h1] at this; cases this
  exact ⟨h2, rh, .refl⟩
theorem walks_tup {a : Addr} {l : List D} {vs : List V} (st : SqT X.K H1 a vs) (rl : RepVs X.K H1 l vs) : Walks X T (Itt X.K a) H1 l (fun _ => True) := fun i H μ hk rh _ => by
  have st := hk.sqT st
  have rl := rl.mono hk
  refine ⟨fun d hd => ?_, fun hi => ⟨vs, st, by rw [← rl.length]; exact hi⟩⟩
  obtain ⟨v, h1, h2⟩ := rl.get hd
  refine ⟨⟨vs, v, st, h1⟩, fun x H' ⟨e, hy⟩ => ?_⟩
  subst e
  have := hy vs st
  rw [h1] at this; cases this
  exact ⟨h2, rh, .refl⟩
theorem walks_scr {a : Addr} {l : List Int} (fz : FrzL X.K H1 a (l.map V.int)) : Walks X T (Itl X.K a) H1 (l.map D.int) (fun _ => True) := fun i H μ hk rh _ => by
  have fz := (hk.frz fz).sq
  refine ⟨fun d hd => ?_, fun hi => ⟨_, fz, by simpa using hi⟩⟩
  have h1 : ∃ n, l[i]? = some n ∧ d = .int n := by
    rw [List.getElem?_map] at hd
    cases e : l[i]? with
    | none => rw [e] at hd; cases hd
    | some n => rw [e] at hd; cases hd; exact ⟨n, rfl, rfl⟩
  obtain ⟨n, h1, rfl⟩ := h1
  have h2 : (l.map V.int)[i]? = some (.int n) := by rw [List.getElem?_map, h1]; rfl
  refine ⟨⟨_, _, fz, h2⟩, fun x H' ⟨e, hy⟩ => ?_⟩
  subst e
  have := hy _ fz
  rw [h2] at this; cases this
  exact ⟨rfl, rh, .refl⟩
theorem walks_str {l : List Nat} : Walks X T (Its (toS l)) H1 (l.map fun c => .str [c]) (fun _ => True) := fun i H μ hk rh _ => by
  refine ⟨fun d hd => ?_, fun hi => by show l.toArray.size ≤ i; simpa using hi⟩
  have h1 : ∃ n, l[i]? = some n ∧ d = .str [n] := by
    rw [List.getElem?_map] at hd
    cases e : l[i]? with
    | none => rw [e] at hd; cases hd
    | some n => rw [e] at hd; cases hd; exact ⟨n, rfl, rfl⟩
  obtain ⟨n, h1, rfl⟩ := h1
  obtain ⟨hi, _⟩ := List.getElem?_eq_some_iff.mp h1
  refine ⟨by show i < l.toArray.size; simpa using hi, fun x H' ⟨e, c, hc, hx⟩ => ?_⟩
  subst e hx
  have hc : l[i]? = some c := by simpa using hc
  rw [h1] at hc; cases hc
  exact ⟨rfl, rh, .refl⟩
theorem walks_rng {lo : Int} {n : Nat} : Walks X T (Itr lo n) H1 (rangeL lo n 1) (fun _ => True) := fun i H μ hk rh _ => by
  refine ⟨fun d hd => ?_, fun hi => by show n ≤ i; simpa [rangeL] using hi⟩
  have h1 : i < n ∧ d = .int (lo + i) := by
    unfold rangeL at hd
    rw [List.getElem?_map] at hd
    cases e : (List.range n)[i]? with
    | none => rw [e] at hd; cases hd
    | some m =>
      rw [e] at hd
      obtain ⟨h1, h2⟩ := List.getElem?_eq_some_iff.mp e
      rw [List.getElem_range] at h2
      subst h2
      cases hd
      exact ⟨by simpa using h1, by simp⟩
  obtain ⟨h1, rfl⟩ := h1
  refine ⟨h1, fun x H' ⟨e, hx⟩ => ?_⟩
  subst e hx
  exact ⟨rfl, rh, .refl⟩
theorem walks_rngC {lo c : Int} {n : Nat} : Walks X T (Itc lo c n) H1 (rangeL lo n c) (fun _ => True) := fun i H μ hk rh _ => by
  refine ⟨fun d hd => ?_, fun hi => by show n ≤ i; simpa [rangeL] using hi⟩
  have h1 : i < n ∧ d = .int (lo + i * c) := by
    unfold rangeL at hd
    rw [List.getElem?_map] at hd
    cases e : (List.range n)[i]? with
    | none => rw [e] at hd; cases hd
    | some m =>
      rw [e] at hd
      obtain ⟨h1, h2⟩ := List.getElem?_eq_some_iff.mp e
      rw [List.getElem_range] at h2
      subst h2
      cases hd
      exact ⟨by simpa using h1, rfl⟩
  obtain ⟨h1, rfl⟩ := h1
  refine ⟨h1, fun x H' ⟨e, hx⟩ => ?_⟩
  subst e hx
  exact ⟨rfl, rh, .refl⟩
theorem i_any {tg e : Expr} {c : E} (he : PE X e (tE X T G c)) : PI X tg e (tI X T G .any (.cons c .nil)) := by
  refine ⟨fun pins s σ H R I h => ?_⟩
  obtain ⟨ρ, μ, Q, rs, rh, hw, p⟩ := h
  refine thn (he.run pins s σ H (fun x H1 => ∃ d μ1, RepV X.K H1 d x ∧ RepH X.w X.K T H1 μ1 ∧ Fr H μ H1 μ1 ∧ itemsP d μ1 fun l chk => Q l chk μ1) I
    ⟨ρ, μ, _, rs, rh, hw, fun d v H1 μ1 rv rh1 f1 q1 => ⟨d, μ1, rv, rh1, f1, q1⟩⟩) fun v s1 ⟨x, H1, I1, r1, d, μ1, rx, rh1, f1, hq⟩ => ?_
  cases d with
  | tup l =>
    obtain ⟨a, vs, rfl, st, rl⟩ := rx
    obtain rfl : v = Value.ref a := r1
    obtain ⟨its, _, ht, _⟩ := I1.tuple st
    exact wpAny_pyIter_tuple ht (pi_one (tk := s1.toks) I1 _ (turn_tuple a _) ⟨_, Heap.get?_push_size _ rfl, rfl, rfl⟩ (p _ _ _ H1 μ1 rh1 f1 trivial (walks_tup st rl) hq))
  | str l =>
    cases rx
    obtain ⟨t, rfl⟩ := r1
    have fin := p _ _ _ H1 μ1 rh1 f1 trivial walks_str hq
    cases hz : (toS l).cps.all (· < 128) with
    | false => exact wpAny_pyIter_wide hz (pi_one (tk := s1.toks) I1 _ (turn_str _ (toS l) t "str_iterator" (Or.inr rfl)) ⟨_, Heap.get?_push_size _ rfl, rfl, rfl⟩ fin)
    | true => exact wpAny_pyIter_ascii hz (pi_one (tk := s1.toks) I1 _ (turn_str _ (toS l) t "str_ascii_iterator" (Or.inl rfl)) ⟨_, Heap.get?_push_size _ rfl, rfl, rfl⟩ fin)
  | scr l =>
    obtain ⟨a, rfl, fz⟩ := rx
    obtain rfl : v = Value.ref a := r1
    obtain ⟨its, _, hl, _⟩ := I1.list fz.sq
    exact wpAny_pyIter_list hl.isList (pi_one (tk := s1.toks) I1 _ (turn_list a _) ⟨_, Heap.get?_push_size _ rfl, rfl, rfl⟩ (p _ _ _ H1 μ1 rh1 f1 trivial (walks_scr fz) hq))
  | ref a =>
    cases rx
    obtain rfl : v = Value.ref a := r1
    obtain ⟨l, e, hq⟩ := rdL_get hq
    obtain ⟨vs, hs, rl⟩ := rh1 a _ e
    obtain ⟨its, _, hl, _⟩ := I1.list (SqL.of hs)
    exact wpAny_pyIter_list hl.isList (pi_one (tk := s1.toks) I1 _ (turn_list a _) ⟨_, Heap.get?_push_size _ rfl, rfl, rfl⟩ (p _ _ _ H1 μ1 rh1 f1 e walks_list hq))
  | _ => exact hq.elim
theorem _root_.L2.PI.imp {tg e : Expr} {t t' : TI} (h : PI X tg e t) (i : ∀ σ H R, t' σ H R → t σ H R) : PI X tg e t' := ⟨fun pins s σ H R I hw => h.run pins s σ H R I (i σ H R hw)⟩
theorem len1 {ds : List D} (h : ds.length = 1) : ∃ d, ds = [d] := by
  match ds, h with
  | [d], _ => exact ⟨d, rfl⟩
theorem len2 {ds : List D} (h : ds.length = 2) : ∃ d e, ds = [d, e] := by
  match ds, h with
  | [d, e], _ => exact ⟨d, e, rfl⟩
theorem len3 {ds : List D} (h : ds.length = 3) : ∃ d e f, ds = [d, e, f] := by
  match ds, h with
  | [d, e, f], _ => exact ⟨d, e, f, rfl⟩
theorem intK_get {d : D} {k : Int → Prop} (h : intK d k) : ∃ n, d = .int n ∧ inB n ∧ k n := by
  cases d with
  | int n => exact ⟨n, rfl, h.1, h.2⟩
  | _ => exact h.elim
theorem enum_at : ∀ {l : List D} {k i : Nat} {d : D}, (enumL k l)[i]? = some d → ∃ x, l[i]? = some x ∧ d = .tup [.int ((k + i : Nat) : Int), x]
  | [], k, i, d, h => by cases i <;> cases h
  | y :: l, k, 0, d, h => by cases h; exact ⟨y, rfl, rfl⟩
  | y :: l, k, i + 1, d, h => by
    obtain ⟨x, h1, h2⟩ := enum_at (l := l) (k := k + 1) (i := i) h
    exact ⟨x, h1, by rw [h2, show k + 1 + i = k + (i + 1) by omega]⟩
theorem enum_len : ∀ {l : List D} {k : Nat}, (enumL k l).length = l.length
  | [], _ => rfl
  | _ :: l, k => by show (enumL (k + 1) l).length + 1 = l.length + 1; rw [enum_len]
theorem walks_enum {a : Addr} {l : List D} : Walks X T (Ite X.K a) H1 (enumL 0 l) (fun μ' => μ' a = some (.lst l)) := fun i H μ _ rh hc => by
  obtain ⟨vs, hs, rl⟩ := rh a _ hc
  refine ⟨fun d hd => ?_, fun hi => ⟨vs, SqL.of hs, by rw [← rl.length, ← enum_len (k := 0)]; exact hi⟩⟩
  obtain ⟨y, hy, rfl⟩ := enum_at hd
  obtain ⟨v, h1, h2⟩ := rl.get hy
  refine ⟨⟨vs, v, SqL.of hs, h1⟩, fun x H' ⟨p, w, e1, e2, e3, e4⟩ => ?_⟩
  subst e1 e3
  have := e4 vs (SqL.of hs)
  rw [h1] at this; cases this
  have st : Keeps H (L2.upd H p (.tup [.int ((i : Nat) : Int), v])) := .new e2
  refine ⟨⟨p, [.int ((i : Nat) : Int), v], rfl, .inl (.inl L2.upd_same), ⟨_, _, rfl, by rw [Nat.zero_add]; rfl, _, _, rfl, h2.mono st, rfl⟩⟩, rh.newT e2, Fr.newT e2⟩
theorem walks_enumT {a : Addr} {l : List D} {vs : List V} (st : SqT X.K H1 a vs) (rl : RepVs X.K H1 l vs) : Walks X T (IteT X.K a) H1 (enumL 0 l) (fun _ => True) := fun i H μ hk rh _ => by
  have hs := hk.sqT st
  have rl := rl.mono hk
  refine ⟨fun d hd => ?_, fun hi => ⟨vs, hs, by rw [← rl.length, ← enum_len (k := 0)]; exact hi⟩⟩
  obtain ⟨y, hy, rfl⟩ := enum_at hd
  obtain ⟨v, h1, h2⟩ := rl.get hy
  refine ⟨⟨vs, v, hs, h1⟩, fun x H' ⟨p, w, e1, e2, e3, e4⟩ => ?_⟩
  subst e1 e3
  have := e4 vs hs
  rw [h1] at this; cases this
  have st : Keeps H (L2.upd H p (.tup [.int ((i : Nat) : Int), v])) := .new e2
  refine ⟨⟨p, [.int ((i : Nat) : Int), v], rfl, .inl (.inl L2.upd_same), ⟨_, _, rfl, by rw [Nat.zero_add]; rfl, _, _, rfl, h2.mono st, rfl⟩⟩, rh.newT e2, Fr.newT e2⟩
theorem i_enum {a : Expr} {c : E} {p pos tpos : Pos} {elts : List Expr} {kk : Nat} (hg : Gl X "enumerate") (hm : X.mg "enumerate" = none) (ha : PA X [a] (tA X T G c)) (hs : starEach [a] X.env = [(false, eval a X.env)]) (hl : alen c = 1) : PI X (.Tuple elts kk tpos) (.Call (.Name "enumerate" p) [a] [] pos) (tI X T G .enum c) :=
  (pi_enumX hg hm ha hs).imp fun σ H R ⟨ρ, μ, Q, rs, rh, hw, p⟩ => ⟨ρ, μ, _, rs, rh, hw, fun ds vs H1 μ1 rv rh1 f1 hn q1 => by
    obtain ⟨d, rfl⟩ := len1 (hn.trans hl)
    replace rv := rv.get1
    obtain ⟨v, rfl, rv⟩ := rv
    cases d with
    | ref a =>
      obtain ⟨l, ea, q1⟩ := rdL_get q1
      cases rv
      obtain ⟨vs, h1, r1⟩ := rh1 a _ ea
      exact ⟨a, rfl, .inl ⟨vs, SqL.of h1, p _ _ _ H1 μ1 rh1 f1 ea walks_enum q1⟩⟩
    | tup l =>
      obtain ⟨a, vs, rfl, st, rl⟩ := rv
      exact ⟨a, rfl, .inr ⟨vs, st, p _ _ _ H1 μ1 rh1 f1 trivial (walks_enumT st rl) q1⟩⟩
    | _ => exact (show False from q1).elim⟩
theorem zipL_at : ∀ {l m : List D} {i : Nat} {d : D}, (zipL l m)[i]? = some d → ∃ x y, l[i]? = some x ∧ m[i]? = some y ∧ d = .tup [x, y]
  | [], _, i, d, h => by simp [zipL] at h
  | _ :: _, [], i, d, h => by simp [zipL] at h
  | x :: l, y :: m, 0, d, h => by cases h; exact ⟨x, y, rfl, rfl, rfl⟩
  | x :: l, y :: m, i + 1, d, h => by
    obtain ⟨a, b, h1, h2, h3⟩ := zipL_at (l := l) (m := m) (i := i) h
    exact ⟨a, b, h1, h2, h3⟩
theorem zipL_len : ∀ {l m : List D}, (zipL l m).length = min l.length m.length
  | [], m => by simp [zipL]
  | _ :: _, [] => by simp [zipL]
  | x :: l, y :: m => by show (zipL l m).length + 1 = _; rw [zipL_len, List.length_cons, List.length_cons]; omega
theorem pair_new {H : Hp} {p : Addr} {x y : V} {dx dy : D} (e : H p = none) (rx : RepV X.K H dx x) (ry : RepV X.K H dy y) : RepV X.K (L2.upd H p (.tup [x, y])) (.tup [dx, dy]) (.ref p) := by
  have st : Keeps H (L2.upd H p (.tup [x, y])) := .new e
  exact ⟨p, [x, y], rfl, .inl (.inl L2.upd_same), ⟨_, _, rfl, rx.mono st, _, _, rfl, ry.mono st, rfl⟩⟩
theorem walks_zip {a b : Addr} {l m : List D} : Walks X T (Itz X.K a b) H1 (zipL l m) (fun μ' => μ' a = some (.lst l) ∧ μ' b = some (.lst m)) := fun i H μ _ rh hc => by
  obtain ⟨vs, hs, rl⟩ := rh a _ hc.1
  obtain ⟨us, hu, rm⟩ := rh b _ hc.2
  refine ⟨fun d hd => ?_, fun hi => ⟨vs, us, SqL.of hs, SqL.of hu, ?_⟩⟩
  · obtain ⟨x, y, h1, h2, rfl⟩ := zipL_at hd
    obtain ⟨v, h3, h4⟩ := rl.get h1
    obtain ⟨u, h5, h6⟩ := rm.get h2
    refine ⟨⟨vs, us, v, u, SqL.of hs, SqL.of hu, h3, h5⟩, fun z H' ⟨p, w1, w2, e1, e2, e3, e4, e5⟩ => ?_⟩
    subst e1 e3
    have q1 := e4 vs (SqL.of hs)
    have q2 := e5 us (SqL.of hu)
    rw [h3] at q1; cases q1
    rw [h5] at q2; cases q2
    exact ⟨pair_new e2 h4 h6, rh.newT e2, Fr.newT e2⟩
  · rw [zipL_len] at hi
    rw [← rl.length, ← rm.length]; omega
theorem walks_zipT {a b : Addr} {l m : List D} {vs us : List V} (s1 : SqT X.K H1 a vs) (r1 : RepVs X.K H1 l vs) (s2 : SqT X.K H1 b us) (r2 : RepVs X.K H1 m us) : Walks X T (RZ.ItzT X.K a b) H1 (zipL l m) (fun _ => True) := fun i H μ hk rh _ => by
  have s1 := hk.sqT s1
  have s2 := hk.sqT s2
  have rl := r1.mono hk
  have rm := r2.mono hk
  refine ⟨fun d hd => ?_, fun hi => ⟨vs, us, s1, s2, ?_⟩⟩
  · obtain ⟨x, y, h1, h2, rfl⟩ := zipL_at hd
    obtain ⟨v, h3, h4⟩ := rl.get h1
    obtain ⟨u, h5, h6⟩ := rm.get h2
    refine ⟨⟨vs, us, v, u, s1, s2, h3, h5⟩, fun z H' ⟨p, w1, w2, e1, e2, e3, e4, e5⟩ => ?_⟩
    subst e1 e3
    have q1 := e4 vs s1
    have q2 := e5 us s2
    rw [h3] at q1; cases q1
    rw [h5] at q2; cases q2
    exact ⟨pair_new e2 h4 h6, rh.newT e2, Fr.newT e2⟩
  · rw [zipL_len] at hi
    rw [← rl.length, ← rm.length]; omega
theorem i_zip {a b : Expr} {c : E} {p pos tpos : Pos} {elts : List Expr} {kk : Nat} (hg : Gl X "zip") (hm : X.mg "zip" = none) (ha : PA X [a, b] (tA X T G c)) (hs : starEach [a, b] X.env = (false, eval a X.env) :: starEach [b] X.env) (hpl : (backTo pos (starEach [b] X.env)).any (·.1) = false) (hl : alen c = 2) : PI X (.Tuple elts kk tpos) (.Call (.Name "zip" p) [a, b] [] pos) (tI X T G .zip c) :=
  (RZ.pi_zipA hg hm ha hs hpl).imp fun σ H R ⟨ρ, μ, Q, rs, rh, hw, p⟩ => ⟨ρ, μ, _, rs, rh, hw, fun ds vs H1 μ1 rv rh1 f1 hn q1 => by
    obtain ⟨d, e, rfl⟩ := len2 (hn.trans hl)
    replace rv := rv.get2
    obtain ⟨v, u, rfl, rv, ru⟩ := rv
    cases d with
    | ref a =>
      cases e with
      | ref b =>
        obtain ⟨l, ea, q1⟩ := rdL_get (show rdL μ1 a fun l => rdL μ1 b fun m => Q (zipL l m) (fun μ' => μ' a = some (.lst l) ∧ μ' b = some (.lst m)) μ1 from q1)
        obtain ⟨m, eb, q1⟩ := rdL_get q1
        cases rv; cases ru
        obtain ⟨vs, h1, r1⟩ := rh1 a _ ea
        obtain ⟨us, h2, r2⟩ := rh1 b _ eb
        exact ⟨a, b, vs, us, rfl, .inl ⟨SqL.of h1, SqL.of h2, p _ _ _ H1 μ1 rh1 f1 ⟨ea, eb⟩ walks_zip q1⟩⟩
      | _ => exact (show False from q1).elim
    | tup l =>
      cases e with
      | tup m =>
        obtain ⟨a, vs, rfl, s1, r1⟩ := rv
        obtain ⟨b, us, rfl, s2, r2⟩ := ru
        exact ⟨a, b, vs, us, rfl, .inr ⟨s1, s2, p _ _ _ H1 μ1 rh1 f1 trivial (walks_zipT s1 r1 s2 r2) q1⟩⟩
      | _ => exact (show False from q1).elim
    | _ => exact (show False from q1).elim⟩
theorem i_range1 {tg a : Expr} {c : E} {p pos : Pos} (hg : Gl X "range") (hm : X.mg "range" = none) (ha : PA X [a] (tA X T G c)) (hs : starEach [a] X.env = [(false, eval a X.env)]) (hl : alen c = 1) : PI X tg (.Call (.Name "range" p) [a] [] pos) (tI X T G .range c) :=
  (pi_range1 hg hm ha hs).imp fun σ H R ⟨ρ, μ, Q, rs, rh, hw, p⟩ => ⟨ρ, μ, _, rs, rh, hw, fun ds vs H1 μ1 rv rh1 f1 hn q1 => by
    obtain ⟨d, rfl⟩ := len1 (hn.trans hl)
    obtain ⟨n, rfl, ⟨h1, h2⟩, q1⟩ := intK_get (show intK d _ from q1)
    replace rv := rv.get1
    obtain ⟨v, rfl, rv⟩ := rv
    cases rv
    exact ⟨n, rfl, by omega, by omega, p _ _ _ H1 μ1 rh1 f1 trivial walks_rng q1⟩⟩
theorem i_range2 {tg a b : Expr} {c : E} {p pos : Pos} (hg : Gl X "range") (hm : X.mg "range" = none) (ha : PA X [a, b] (tA X T G c)) (hs : starEach [a, b] X.env = [(false, eval a X.env), (false, eval b X.env)]) (hs2 : starEach [b] X.env = [(false, eval b X.env)]) (hl : alen c = 2) : PI X tg (.Call (.Name "range" p) [a, b] [] pos) (tI X T G .range c) :=
  (pi_range2 hg hm ha hs hs2).imp fun σ H R ⟨ρ, μ, Q, rs, rh, hw, p⟩ => ⟨ρ, μ, _, rs, rh, hw, fun ds vs H1 μ1 rv rh1 f1 hn q1 => by
    obtain ⟨d, e, rfl⟩ := len2 (hn.trans hl)
    obtain ⟨n, rfl, ⟨h1, h2⟩, q1⟩ := intK_get (show intK d _ from q1)
    obtain ⟨m, rfl, ⟨h3, h4⟩, q1⟩ := intK_get q1
    replace rv := rv.get2
    obtain ⟨v, u, rfl, rv, ru⟩ := rv
    cases rv; cases ru
    exact ⟨n, m, rfl, ⟨by omega, by omega, by omega, by omega⟩, p _ _ _ H1 μ1 rh1 f1 trivial walks_rng q1⟩⟩
theorem i_range3 {tg a b b2 : Expr} {c : E} {p pos : Pos} (hg : Gl X "range") (hm : X.mg "range" = none) (ha : PA X [a, b, b2] (tA X T G c)) (hs : starEach [a, b, b2] X.env = (false, eval a X.env) :: starEach [b, b2] X.env) (hpl : (backTo pos (starEach [b, b2] X.env)).any (·.1) = false) (hl : alen c = 3) : PI X tg (.Call (.Name "range" p) [a, b, b2] [] pos) (tI X T G .range c) :=
  (pi_range3 hg hm ha hs hpl).imp fun σ H R ⟨ρ, μ, Q, rs, rh, hw, p⟩ => ⟨ρ, μ, _, rs, rh, hw, fun ds vs H1 μ1 rv rh1 f1 hn q1 => by
    obtain ⟨d, e, f, rfl⟩ := len3 (hn.trans hl)
    obtain ⟨n, rfl, ⟨h1, h2⟩, q1⟩ := intK_get (show intK d _ from q1)
    obtain ⟨m, rfl, ⟨h3, h4⟩, q1⟩ := intK_get q1
    obtain ⟨k, rfl, _, hk, q2⟩ := intK_get q1
    subst hk
    replace rv := rv.get3
    obtain ⟨v, u, w', rfl, rv, ru, rw'⟩ := rv
    cases rv; cases ru; cases rw'
    exact ⟨n, m, -1, _, rfl, RgC.neg (by omega) (by omega) (by omega) (by omega), p _ _ _ H1 μ1 rh1 f1 trivial walks_rngC q2⟩⟩
end
end MP

set_option linter.all false
set_option maxRecDepth 100000
set_option maxHeartbeats 1000000
set_option Elab.async false
namespace MP
open PySem PySem.Spec PyProof.Rows L2
section
variable {X : Cx} {T : Tab} {G : Ctx} {H H' H1 : Hp} {μ μ' μ1 : Sto} {Q : D → Sto → Prop} {Q' : VK} {σ : L2.St} {ρ : Env}
theorem rep_map {K : PySem.W.Frag} {H : Hp} {f : Nat → D} {g : Nat → V} (h : ∀ i, RepV K H (f i) (g i)) : ∀ l : List Nat, RepVs K H (l.map f) (l.map g)
  | [] => rfl
  | i :: l => ⟨_, _, rfl, h i, rep_map h l⟩
theorem rep_rng {K : PySem.W.Frag} {H : Hp} {a b : Int} : RepVs K H (rangeL a (b - a).toNat 1) (rgV a b) :=
  rep_map (f := fun i => D.int (a + (i : Int) * 1)) (g := fun i => V.int (a + (i : Nat))) (fun i => show V.int (a + (i : Nat)) = V.int (a + (i : Int) * 1) by rw [Int.mul_one]) _
theorem rng_end {t : Bool} {a b : Int} (rh1 : RepH X.w X.K T H1 μ1) (f1 : Fr H μ H1 μ1) (p : Pst X T H μ Q Q') (q : match t with
    | true => Q (.tup (rangeL a (b - a).toNat 1)) μ1
    | false => new μ1 (.lst (rangeL a (b - a).toNat 1)) Q) : ∀ q, H1 q = none → Q' (.ref q) (L2.upd H1 q (if t = true then .tup (rgV a b) else .lst (rgV a b))) := fun z hz => by
  cases t with
  | true => exact p (.tup (rangeL a (b - a).toNat 1)) (.ref z) _ μ1 ⟨z, _, rfl, SqT.of L2.upd_same, rep_rng⟩ (rh1.newT hz) (f1.trans (Fr.newT hz)) q
  | false => exact p (.ref z) (.ref z) _ _ rfl (rh1.newO hz (ob := .lst (rangeL a (b - a).toNat 1)) ⟨_, L2.upd_same, rep_rng⟩) (f1.trans (Fr.newO hz)) (q z (rh1.free hz))
theorem e_rng1 {t : Bool} {a : Expr} {ca : E} {p pos p2 pos2 : Pos} (hc : X.calm = true) (hg : Gl X (if t = true then "tuple" else "list")) (hm : X.mg (if t = true then "tuple" else "list") = none) (hg2 : Gl X "range") (hm2 : X.mg "range" = none) (ha : PE X a (tE X T G ca)) (na : starEach [a] X.env = (false, eval a X.env) :: starEach [] X.env) :
    PE X (.Call (.Name (if t = true then "tuple" else "list") p) [.Call (.Name "range" p2) [a] [] pos2] [] pos) (tE X T G (.rng t (.cons ca .nil))) := by
  have key : ∀ σ H Q', tE X T G (.rng t (.cons ca .nil)) σ H Q' → tRg1 (tE X T G ca) σ H fun a b H1 => RgOk a b ∧ ∀ q, H1 q = none → Q' (.ref q) (L2.upd H1 q (if t = true then .tup (rgV a b) else .lst (rgV a b))) := fun σ H Q' ⟨ρ, μ, Q, rs, rh, hw, p⟩ =>
    ⟨ρ, μ, _, rs, rh, hw, fun d v H1 μ1 rv rh1 f1 q1 => by
      obtain ⟨n, rfl, hb, hn, q⟩ := intK_get (show intK d _ from q1)
      obtain rfl : v = .int n := rv
      have e0 : (n - 0) = n := by omega
      obtain ⟨b1, b2⟩ := hb
      refine ⟨n, rfl, ⟨by omega, by omega, by omega, by omega, by omega⟩, rng_end rh1 f1 p ?_⟩
      rw [e0]; exact q⟩
  cases t with
  | true => exact (pe_tupRg hc hg hm (prg_1 hg2 hm2 ha na)).imp key
  | false => exact (pe_listRg hc hg hm (prg_1 hg2 hm2 ha na)).imp key
theorem e_rng2 {t : Bool} {a b : Expr} {ca cb : E} {p pos p2 pos2 : Pos} (hc : X.calm = true) (hg : Gl X (if t = true then "tuple" else "list")) (hm : X.mg (if t = true then "tuple" else "list") = none) (hg2 : Gl X "range") (hm2 : X.mg "range" = none) (ha : PE X a (tE X T G ca)) (hb : PE X b (tE X T G cb)) (na : starEach [a, b] X.env = (false, eval a X.env) :: starEach [b] X.env) (nb : starEach [b] X.env = (false, eval b X.env) :: starEach [] X.env) (nc : (backTo pos2 (starEach [b] X.env)).any (·.1) = false) :
    PE X (.Call (.Name (if t = true then "tuple" else "list") p) [.Call (.Name "range" p2) [a, b] [] pos2] [] pos) (tE X T G (.rng t (.cons ca (.cons cb .nil)))) := by
  have key : ∀ σ H Q', tE X T G (.rng t (.cons ca (.cons cb .nil))) σ H Q' → tRg2 (tE X T G ca) (tE X T G cb) σ H fun a b H1 => RgOk a b ∧ ∀ q, H1 q = none → Q' (.ref q) (L2.upd H1 q (if t = true then .tup (rgV a b) else .lst (rgV a b))) := fun σ H Q' ⟨ρ, μ, Q, rs, rh, hw, p⟩ =>
    ⟨ρ, μ, _, rs, rh, hw, fun d v H1 μ1 rv rh1 f1 q1 => ⟨ρ, μ1, _, rs.mono (f1.keeps rh), rh1, q1, fun d2 v2 H2 μ2 rv2 rh2 f2 q2 => by
      obtain ⟨i, rfl, hi, q⟩ := intK_get (show intK d _ from q2)
      obtain ⟨j, rfl, hj, hn, q⟩ := intK_get q
      obtain rfl : v = .int i := rv
      obtain rfl : v2 = .int j := rv2
      obtain ⟨b1, b2⟩ := hi
      obtain ⟨b3, b4⟩ := hj
      exact ⟨i, j, rfl, rfl, ⟨by omega, by omega, by omega, by omega, by omega⟩, rng_end rh2 (f1.trans f2) p q⟩⟩⟩
  cases t with
  | true => exact (pe_tupRg hc hg hm (prg_2 hg2 hm2 ha hb na nb nc)).imp key
  | false => exact (pe_listRg hc hg hm (prg_2 hg2 hm2 ha hb na nb nc)).imp key
theorem e_orD {a : Expr} {ca : E} {p pos : Pos} (ha : PE X a (tE X T G ca)) : PE X (.BoolOp .Or [a, .Dict [] [] p] pos) (tE X T G (.orD ca)) :=
  (pe_orT ha (pe_one pe_dnewK)).imp fun σ H Q' ⟨ρ, μ, Q, rs, rh, hw, pq⟩ => ⟨ρ, μ, _, rs, rh, hw, fun d v H1 μ1 rv rh1 f1 q1 => by
    have mk : new μ1 (.dF []) Q → tDNewK σ H1 Q' := fun q z hz => pq (.ref z) (.ref z) _ _ rfl (rh1.newO hz (ob := .dF []) ⟨[], L2.upd_same, rfl⟩) (f1.trans (Fr.newO hz)) (q z (rh1.free hz))
    cases d with
    | non =>
      obtain rfl : v = .non := rv
      exact ⟨false, rfl, mk q1⟩
    | ref b =>
      obtain rfl : v = .ref b := rv
      unfold orDP at q1
      cases e : μ1 b with
      | none => simp only [e] at q1
      | some o =>
        simp only [e] at q1
        cases o with
        | dF l =>
          obtain ⟨kvs, hs, rk⟩ := rh1 b _ e
          have hl : kvs.isEmpty = l.isEmpty := by
            cases l with
            | nil => rw [show kvs = [] from rk]; rfl
            | cons z r => obtain ⟨κ, w, q, e2, _⟩ := rk; rw [e2]; rfl
          refine ⟨!kvs.isEmpty, .inr (.inr ⟨kvs, hs, rfl⟩), ?_⟩
          simp only at q1
          rw [hl]
          cases hz : l.isEmpty with
          | true => rw [hz] at q1; exact mk q1
          | false =>
            rw [hz] at q1
            have q1 : Q (.ref b) μ1 := q1
            exact (pq.step f1).val rh1 (show RepV X.K H1 (.ref b) (.ref b) from rfl) q1
        | _ => exact q1.elim
    | _ => exact (show False from q1).elim⟩
end
end MP

set_option linter.all false
set_option maxRecDepth 100000
set_option maxHeartbeats 1000000
set_option Elab.async false
namespace MP
open PySem PySem.Spec PyProof.Rows L2
section
variable {X : Cx} {T : Tab} {G : Ctx} {H H' H1 H2 : Hp} {μ μ' μ1 μ2 : Sto} {Q : D → Sto → Prop} {Q' : VK} {σ σ' : L2.St} {ρ ρ' : Env}
theorem RepS0.setN {K : PySem.W.Frag} {i : Nat} (h : RepS0 K none H ρ σ) : RepS0 K none H (ρ.set i none) (σ.set i none) := by
  refine ⟨by rw [List.length_set, List.length_set]; exact h.len, fun j d e n => ?_, fun _ _ _ z => (nomatch z)⟩
  by_cases hj : i = j
  · subst hj
    by_cases hi : i < ρ.length
    · rw [List.getElem?_set_self hi] at e; cases e
    · rw [List.getElem?_eq_none (by rw [List.length_set]; omega)] at e; cases e
  · rw [List.getElem?_set_ne hj] at e ⊢
    exact h.val j d e n
theorem RepS0.wipe {K : PySem.W.Frag} (h : RepS0 K none H ρ σ) : ∀ vs : List Nat, RepS0 K none H (MP.wipe ρ vs) (L2.wipe σ vs)
  | [] => h
  | _ :: vs => (RepS0.wipe h vs).setN
theorem wipe_at {σ : L2.St} : ∀ {vs : List Nat} {i : Nat}, (L2.wipe σ vs)[i]? = if i ∈ vs then (σ[i]?).map fun _ => none else σ[i]?
  | [], i => by simp [L2.wipe]
  | v :: vs, i => by
    show ((L2.wipe σ vs).set v none)[i]? = _
    by_cases h : v = i
    · subst h
      rw [if_pos List.mem_cons_self, List.getElem?_set_self', wipe_at]
      split <;> cases σ[v]? <;> rfl
    · rw [List.getElem?_set_ne h, wipe_at]
      have : (i ∈ v :: vs) ↔ i ∈ vs := by simp [Ne.symm h]
      simp only [this]
theorem wipe_off {vs l : List Nat} {σ σ2 : L2.St} (o : Off l (L2.wipe σ vs) σ2) (hl : ∀ i ∈ l, i ∈ vs) : L2.wipe σ2 vs = L2.wipe σ vs := by
  refine List.ext_getElem? fun i => ?_
  rw [wipe_at, wipe_at]
  have hlen : σ2.length = σ.length := by rw [o.1, wipe_length]
  by_cases hi : i ∈ vs
  · rw [if_pos hi, if_pos hi]
    by_cases h : i < σ.length
    · rw [List.getElem?_eq_getElem h, List.getElem?_eq_getElem (by omega)]; rfl
    · rw [List.getElem?_eq_none (by omega), List.getElem?_eq_none (by omega)]
  · rw [if_neg hi, if_neg hi, o.2 i (fun z => hi (hl i z)), wipe_at, if_neg hi]
theorem c_yes : PTs X [] (tB X T G (.cb true)) := ⟨fun pins s σ H Q I hw => pts_nil.run pins s σ H Q I (by
  obtain ⟨ρ, μ, Qb, rs, rh, hw, p⟩ := hw
  exact p true H μ rh .refl hw)⟩
theorem c_one {c : Expr} {cc : E} (h : PT X c (tB X T G cc)) : PTs X [c] (tB X T G cc) := pts_one h
abbrev compT (G : Ctx) (elt cond : E) (p : P) (ρ : Env) (own : List Nat) : D → Sto → (Option D → Sto → Prop) → Prop :=
  fun d μ2 K => optP (matP p d (wipe ρ own)) fun ρ' => wpE G cond ρ' μ2 (fun c μ3 => br c (wpE G elt ρ' μ3 (fun y μ4 => K (some y) μ4) fun _ _ _ => False) (K none μ3)) fun _ _ _ => False
theorem lc_read {elt cond src : E} {p : P} {k : IK} {vs : List Nat} (hg0 : T.gh = none) (hs : ∀ i ∈ slotsP p, i ∈ vs) {Qv : VK}
    (h : tE X T G (.comp elt p k src cond vs) σ H Qv) : tLc (tI X T G k src) (tP X p) (tB X T.off G cond) (tE X T.off G elt) vs σ H Qv := by
  obtain ⟨ρ, μ, Q, rs, rh, hw, pq⟩ := h
  have rs0 : RepS0 X.K none H ρ σ := hg0 ▸ rs.toRepS0
  refine ⟨ρ, μ, fun l chk μ1 => compP chk (compT G elt cond p ρ vs) (fun acc μ2 => new μ2 (.lst acc) Q) l [] μ1, rs, rh, hw, fun J l chk H1 μ1 rh1 f1 hc wk q1 => ?_⟩
  intro D0 hD
  refine ⟨fun i m H2 => m = l.length - i ∧ i ≤ l.length ∧ ∃ μ2 acc va, RepH X.w X.K T H2 μ2 ∧ Fr H1 μ1 H2 μ2 ∧ H2 D0 = some (.lst va) ∧ μ2 D0 = none ∧ RepVs X.K H2 acc va ∧ compP chk (compT G elt cond p ρ vs) (fun acc μ2 => new μ2 (.lst acc) Q) (l.drop i) acc μ2,
    ⟨l.length, by simp, Nat.zero_le _, μ1, [], [], rh1.newT hD, Fr.newT hD, L2.upd_same, rh1.free hD, rfl, q1⟩, ?_⟩
  rintro i m H2 ⟨rfl, hi, μ2, acc, va, rh2, f2, hv, hn, ra, q2⟩
  have wi := wk i H2 μ2 (f2.keeps rh1) rh2
  by_cases hlt : i < l.length
  · have ed : l.drop i = l[i] :: l.drop (i + 1) := by rw [List.drop_eq_getElem_cons hlt]
    rw [ed] at q2
    obtain ⟨hc2, q2⟩ := q2
    obtain ⟨hgo, hy⟩ := (wi hc2).1 l[i] (List.getElem?_eq_getElem hlt)
    refine .inr ⟨hgo, fun H' => ∃ m', m' < l.length - i ∧ (m' = l.length - (i + 1) ∧ i + 1 ≤ l.length ∧ ∃ μ2 acc va, RepH X.w X.K T H' μ2 ∧ Fr H1 μ1 H' μ2 ∧ H' D0 = some (.lst va) ∧ μ2 D0 = none ∧ RepVs X.K H' acc va ∧ compP chk (compT G elt cond p ρ vs) (fun acc μ2 => new μ2 (.lst acc) Q) (l.drop (i + 1)) acc μ2), fun H' z => z, fun x H3 hx => ?_⟩
    obtain ⟨rx, rh3, f3⟩ := hy x H3 hx
    obtain ⟨ρ', e, q2⟩ := optP_get q2
    have f03 := f1.trans (f2.trans f3)
    have rs3 := (rs0.mono (f03.keeps rh)).wipe vs
    refine ⟨l[i], _, ρ', none, rx, rs3, fun _ z => (nomatch z), e, fun σ2 rs2 off => ⟨wipe_off off hs, ρ', μ2, _, ⟨by rw [show T.off.gh = none from hg0]; exact rs2, True.intro⟩, rh3.toRepH0.still, q2, fun b H4 μ4 rh4 f4 q4 => ?_⟩⟩
    obtain ⟨q5, q6⟩ := q4
    have hv4 := (f3.trans f4).out D0 _ hv hn fun _ => HO.noConfusion
    cases b with
    | true =>
      rw [if_pos rfl]
      refine ⟨ρ', μ4, _, ⟨by rw [show T.off.gh = none from hg0]; exact rs2.mono (f4.keeps rh3), True.intro⟩, rh4, q5 rfl, fun y vy H5 μ5 ry rh5 f5 q7 => ?_⟩
      obtain ⟨hz, q7⟩ := q7
      obtain ⟨hv5, hn5⟩ := f5.out D0 _ hv4.1 hv4.2 fun _ => HO.noConfusion
      have ra5 := ra.mono (((f3.trans f4).trans f5).keeps rh2)
      have kp : Keeps H5 (L2.upd H5 D0 (.lst (va ++ [vy]))) := .upd (fun _ z => by rw [hv5] at z; cases z) (fun _ _ _ z => by rw [hv5] at z; cases z) (fun _ z => by rw [hv5] at z; cases z)
      have fH : Fr H1 μ1 (L2.upd H5 D0 (.lst (va ++ [vy]))) μ5 := ⟨fun a o ha hm hn => by
        obtain ⟨h1, h2⟩ := (f2.trans ((f3.trans f4).trans f5)).out a o ha hm hn
        exact ⟨by rw [L2.upd_ne (ne_at ha hD)]; exact h1, h2⟩, fun a l u ha hm => by
        obtain ⟨h1, h2⟩ := (f2.trans ((f3.trans f4).trans f5)).lk a l u ha hm
        exact ⟨by rw [L2.upd_ne (ne_at ha hD)]; exact h1, h2⟩⟩
      exact ⟨va, hv5, by rw [← ra.length, ← sizeMax_eq]; exact hz, l.length - (i + 1), by omega, rfl, hlt, μ5, acc ++ [y], va ++ [vy], rh1.back fH (rh5.toRepH0.hid (.inl ⟨_, rfl⟩) hv5 hn5), fH, L2.upd_same, hn5, (ra5.append (.one ry)).mono kp, q7⟩
    | false =>
      rw [if_neg (by decide)]
      exact ⟨l.length - (i + 1), by omega, rfl, hlt, μ4, acc, va, rh3.back f4 rh4.toRepH0, f2.trans (f3.trans f4), hv4.1, hv4.2, ra.mono ((f3.trans f4).keeps rh2), q6 rfl⟩
  · have ei : i = l.length := by omega
    subst ei
    rw [List.drop_length] at q2
    obtain ⟨hc2, q2⟩ := q2
    refine .inl ⟨(wi hc2).2 (Nat.le_refl _), ?_⟩
    have fO : Fr H1 μ1 H2 (MP.upd μ2 D0 (.lst acc)) := ⟨fun a o ha hm nt => by
      obtain ⟨h1, h2⟩ := f2.out a o ha hm nt
      exact ⟨h1, by rw [upd_off (ne_at ha hD)]; exact h2⟩, fun a l u ha hm => by
      obtain ⟨h1, h2⟩ := f2.lk a l u ha hm
      exact ⟨h1, by rw [upd_off (ne_at ha hD)]; exact h2⟩⟩
    have rh4 : RepH X.w X.K T H2 (MP.upd μ2 D0 (.lst acc)) := rh1.back fO (rh2.toRepH0.own (ob := .lst acc) (.inl ⟨_, rfl⟩) hv ⟨va, hv, ra⟩)
    refine pq (.ref D0) _ H2 _ rfl rh4 ⟨fun a o ha hm nt => ?_, fun a l u ha hm => ?_⟩ (q2 D0 hn)
    · obtain ⟨h1, h2⟩ := (f1.trans f2).out a o ha hm nt
      exact ⟨h1, by rw [upd_off (ne_at (f1.out a o ha hm nt).1 hD)]; exact h2⟩
    · obtain ⟨h1, h2⟩ := (f1.trans f2).lk a l u ha hm
      exact ⟨h1, by rw [upd_off (ne_at (f1.lk a l u ha hm).1 hD)]; exact h2⟩
abbrev Blk (X : Cx) (s : Shared) (H : Hp) (scope : Scope) (C : Addr) (cl : List (Str × Addr)) (fp : List Addr) : Cx := X.blk s H scope (compEnvC scope cl C X.env) fp
theorem e_comp {elt tg iter : Expr} {ifs : List Expr} {scope : Scope} {own : List (Str × Nat)} {pos : Pos} {ce cc csrc : E} {p : P} {k : IK} (hg0 : T.gh = none) (hc : X.calm = true) (hN : X.N.Nodup) (hi : PI X tg iter (tI X T G k csrc)) (ok : BlkOk X.N X.env.scope scope own)
    (hg : ∀ s H C cl fp, PG (Blk X s H scope C cl fp) tg (tP X p)) (ht : ∀ s H C cl fp, PTs (Blk X s H scope C cl fp) ifs (tB X T.off G cc)) (he : ∀ s H C cl fp, PE (Blk X s H scope C cl fp) elt (tE X T.off G ce))
    (hs : ∀ x, foldedSetIterable iter X.env x = pure x) (hsl : ∀ i ∈ slotsP p, i ∈ own.map (·.2)) : PE X (.ListComp elt [⟨tg, iter, ifs, 0⟩] scope pos) (tE X T G (.comp ce p k csrc cc (own.map (·.2)))) :=
  (pe_lc hc hN hi ok hg ht he hs).imp fun σ H Q' h => lc_read hg0 hsl h
def tS (X : Cx) (T : Tab) (G : Ctx) (c : MP.St) : TS := fun D0 σ H => ∃ ρ μ R, RepS X.K T H ρ σ ∧ RepH X.w X.K T H μ ∧ wpS G c ρ μ R ∧ R.ex = T.Z ∧
  (∀ ρ' σ' H' μ', RepS0 X.K T.gh H' ρ' σ' → RepH X.w X.K T H' μ' → Fr H μ H' μ' → R.nx ρ' μ' → D0.nx σ' H') ∧
  (∀ d v H' μ', RepV X.K H' d v → RepH X.w X.K T H' μ' → Fr H μ H' μ' → R.rt d μ' → D0.rt v H')
theorem _root_.L2.PS.imp {e : Stmt} {t t' : TS} (h : PS X e t) (i : ∀ D0 σ H, t' D0 σ H → t D0 σ H) : PS X e t' := ⟨fun pins s σ H D0 I hw => h.run pins s σ H D0 I (i D0 σ H hw)⟩
theorem _root_.L2.PSs.imp {e : List Stmt} {t t' : TS} (h : PSs X e t) (i : ∀ D0 σ H, t' D0 σ H → t D0 σ H) : PSs X e t' := ⟨fun pins s σ H D0 I hw => h.run pins s σ H D0 I (i D0 σ H hw)⟩
theorem ss_nil : PSs X [] (tS X T G .nop) := pss_nil.imp fun D0 σ H ⟨ρ, μ, R, rs, rh, hw, _, p1, p2⟩ => p1 ρ σ H μ rs.toRepS0 rh .refl hw
theorem ss_one {st : Stmt} {c : MP.St} (h : PS X st (tS X T G c)) : PSs X [st] (tS X T G c) := pss_one h
theorem ss_cons (hf : ∀ σ, T.S σ) {st : Stmt} {rest : List Stmt} {a b : MP.St} (h1 : PS X st (tS X T G a)) (h2 : PSs X rest (tS X T G b)) : PSs X (st :: rest) (tS X T G (.seq a b)) :=
  (pss_cons h1 h2).imp fun D0 σ H ⟨ρ, μ, R, rs, rh, hw, hx, p1, p2⟩ =>
    ⟨ρ, μ, _, rs, rh, hw, hx, fun ρ1 σ1 H1 μ1 rs1 rh1 f1 q1 => ⟨ρ1, μ1, R, ⟨rs1, hf _⟩, rh1, q1, hx, fun ρ2 σ2 H2 μ2 rs2 rh2 f2 q2 => p1 ρ2 σ2 H2 μ2 rs2 rh2 (f1.trans f2) q2, fun d v H2 μ2 rv rh2 f2 q2 => p2 d v H2 μ2 rv rh2 (f1.trans f2) q2⟩, p2⟩
theorem s_pass {pos : Pos} : PS X (.Pass pos) (tS X T G .nop) := ps_pass.imp fun D0 σ H ⟨ρ, μ, R, rs, rh, hw, _, p1, p2⟩ => p1 ρ σ H μ rs.toRepS0 rh .refl hw
theorem s_expr {e : Expr} {c : E} {pos : Pos} (he : PE X e (tE X T G c)) (hs : swapsWith e none pos.line X.env = pure false) : PS X (.Expr e pos) (tS X T G (.expr c)) :=
  (ps_expr he hs).imp fun D0 σ H ⟨ρ, μ, R, rs, rh, hw, hx, p1, p2⟩ => by
    have hw : wpE G c ρ μ (fun _ μ1 => R.nx ρ μ1) R.ex := hw
    rw [hx] at hw
    exact ⟨ρ, μ, _, rs, rh, hw, fun d v H1 μ1 rv rh1 f1 q1 => p1 ρ σ H1 μ1 (rs.mono (f1.keeps rh)).toRepS0 rh1 f1 q1⟩
theorem s_ret {e : Expr} {c : E} {pos : Pos} (he : PE X e (tE X T G c)) : PS X (.Return (some e) pos) (tS X T G (.ret c)) :=
  (ps_ret he).imp fun D0 σ H ⟨ρ, μ, R, rs, rh, hw, hx, p1, p2⟩ => by
    have hw : wpE G c ρ μ R.rt R.ex := hw
    rw [hx] at hw
    exact ⟨ρ, μ, _, rs, rh, hw, fun d v H1 μ1 rv rh1 f1 q1 => p2 d v H1 μ1 rv rh1 f1 q1⟩
theorem s_retN {pos : Pos} : PS X (.Return none pos) (tS X T G (.ret .cn)) := ps_retN.imp fun D0 σ H ⟨ρ, μ, R, rs, rh, hw, _, p1, p2⟩ => p2 .non .non H μ rfl rh .refl hw
theorem s_if {c : Expr} {a b : List Stmt} {cc : E} {ca cb : MP.St} {pos : Pos} (hc : PT X c (tB X T G cc)) (ha : PSs X a (tS X T G ca)) (hb : PSs X b (tS X T G cb)) : PS X (.If c a b pos) (tS X T G (.ite cc ca cb)) :=
  (ps_if hc ha hb).imp fun D0 σ H ⟨ρ, μ, R, rs, rh, hw, hx, p1, p2⟩ => by
    have hw : wpE G cc ρ μ (fun d μ1 => br d (wpS G ca ρ μ1 R) (wpS G cb ρ μ1 R)) R.ex := hw
    rw [hx] at hw
    refine ⟨ρ, μ, _, rs, rh, hw, fun k H1 μ1 rh1 f1 q1 => ?_⟩
    obtain ⟨q2, q3⟩ := q1
    have s1 : ∀ {c : MP.St}, wpS G c ρ μ1 R → tS X T G c D0 σ H1 := fun q => ⟨ρ, μ1, R, rs.mono (f1.keeps rh), rh1, q, hx, fun ρ2 σ2 H2 μ2 rs2 rh2 f2 q2 => p1 ρ2 σ2 H2 μ2 rs2 rh2 (f1.trans f2) q2, fun d v H2 μ2 rv rh2 f2 q2 => p2 d v H2 μ2 rv rh2 (f1.trans f2) q2⟩
    cases k with
    | true => rw [if_pos rfl]; exact s1 (q2 rfl)
    | false => rw [if_neg (by decide)]; exact s1 (q3 rfl)
theorem s_while (hf : ∀ σ, T.S σ) {c : Expr} {body : List Stmt} {cc : E} {cb : MP.St} {pos : Pos} (hp : PassesOwn (model X.prog X.w) X.A X.env X.xe) (hc : PT X c (tB X T G cc)) (hb : PSs X body (tS X T G cb)) : PS X (.While c body [] pos) (tS X T G (.while cc cb)) :=
  (ps_while hp hc hb).imp fun D0 σ H ⟨ρ, μ, R, rs, rh, hw, hx, p1, p2⟩ => by
    obtain ⟨V, ⟨m0, v0⟩, turn⟩ := hw
    refine ⟨fun m σ' H' => ∃ ρ' μ', RepS X.K T H' ρ' σ' ∧ RepH X.w X.K T H' μ' ∧ Fr H μ H' μ' ∧ V m ρ' μ', ⟨m0, ρ, μ, rs, rh, .refl, v0⟩, ?_⟩
    rintro m σ1 H1 ⟨ρ1, μ1, rs1, rh1, f1, v1⟩
    have hw := turn m ρ1 μ1 v1
    rw [hx] at hw
    refine ⟨ρ1, μ1, _, rs1, rh1, hw, fun k H2 μ2 rh2 f2 q2 => ?_⟩
    obtain ⟨q3, q4⟩ := q2
    cases k with
    | true =>
      rw [if_pos rfl]
      refine ⟨fun σ' H' => ∃ m', m' < m ∧ ∃ ρ' μ', RepS X.K T H' ρ' σ' ∧ RepH X.w X.K T H' μ' ∧ Fr H μ H' μ' ∧ V m' ρ' μ', fun σ' H' z => z, ρ1, μ2, _, rs1.mono (f2.keeps rh1), rh2, q3 rfl, rfl, fun ρ3 σ3 H3 μ3 rs3 rh3 f3 ⟨m', hm, v3⟩ => ⟨m', hm, ρ3, μ3, ⟨rs3, hf _⟩, rh3, (f1.trans f2).trans f3, v3⟩, fun d v H3 μ3 rv rh3 f3 q => p2 d v H3 μ3 rv rh3 ((f1.trans f2).trans f3) q⟩
    | false =>
      rw [if_neg (by decide)]
      exact p1 ρ1 σ1 H2 μ2 (rs1.mono (f2.keeps rh1)).toRepS0 rh2 (f1.trans f2) (q4 rfl)
theorem s_for (hf : ∀ σ, T.S σ) (nt : NoT T.gh p) {tg iter : Expr} {body : List Stmt} {csrc : E} {cb : MP.St} {k : IK} {pos : Pos} (hp : PassesOwn (model X.prog X.w) X.A X.env X.xe) (hc : X.calm = true) (hi : PI X tg iter (tI X T G k csrc)) (hg : PG X tg (tP X p)) (hb : PSs X body (tS X T G cb))
    (hs : ∀ x, foldedSetIterable iter X.env x = pure x) : PS X (.For tg iter body [] pos) (tS X T G (.for p k csrc cb)) :=
  (ps_for hp hc hi hg hb hs).imp fun D0 σ H ⟨ρ, μ, R, rs, rh, hw, hx, p1, p2⟩ => by
    have hw : wpA G csrc ρ μ (fun ds μ1 => iterP k ds μ1 fun l chk => forP chk (fun d ρ1 μ2 K => optP (matP p d ρ1) fun ρ2 => wpS G cb ρ2 μ2 ⟨K, R.rt, R.ex⟩) R.nx l ρ μ1) R.ex := hw
    rw [hx] at hw
    refine ⟨ρ, μ, fun l chk μ1 => forP chk (fun d ρ1 μ2 K => optP (matP p d ρ1) fun ρ2 => wpS G cb ρ2 μ2 ⟨K, R.rt, T.Z⟩) R.nx l ρ μ1, rs, rh, hw, fun J l chk H1 μ1 rh1 f1 hc wk q1 => ?_⟩
    refine ⟨fun i m σ2 H2 => m = l.length - i ∧ i ≤ l.length ∧ ∃ ρ2 μ2, RepS X.K T H2 ρ2 σ2 ∧ RepH X.w X.K T H2 μ2 ∧ Fr H1 μ1 H2 μ2 ∧ forP chk (fun d ρ1 μ2 K => optP (matP p d ρ1) fun ρ2 => wpS G cb ρ2 μ2 ⟨K, R.rt, T.Z⟩) R.nx (l.drop i) ρ2 μ2,
      ⟨l.length, by simp, Nat.zero_le _, ρ, μ1, rs.mono (f1.keeps rh), rh1, .refl, q1⟩, ?_⟩
    rintro i m σ2 H2 ⟨rfl, hi, ρ2, μ2, rs2, rh2, f2, q2⟩
    have wi := wk i H2 μ2 (f2.keeps rh1) rh2
    by_cases hlt : i < l.length
    · have ed : l.drop i = l[i] :: l.drop (i + 1) := by rw [List.drop_eq_getElem_cons hlt]
      rw [ed] at q2
      obtain ⟨hc2, q2⟩ := q2
      obtain ⟨hgo, hy⟩ := (wi hc2).1 l[i] (List.getElem?_eq_getElem hlt)
      refine .inr ⟨hgo, fun σ' H' => i + 1 ≤ l.length ∧ ∃ ρ2 μ2, RepS X.K T H' ρ2 σ' ∧ RepH X.w X.K T H' μ2 ∧ Fr H1 μ1 H' μ2 ∧ forP chk (fun d ρ1 μ2 K => optP (matP p d ρ1) fun ρ2 => wpS G cb ρ2 μ2 ⟨K, R.rt, T.Z⟩) R.nx (l.drop (i + 1)) ρ2 μ2, fun σ' H' z => ⟨l.length - (i + 1), by omega, rfl, z⟩, fun x H3 hx3 => ?_⟩
      obtain ⟨rx, rh3, f3⟩ := hy x H3 hx3
      obtain ⟨ρ3, e, q2⟩ := optP_get q2
      refine ⟨l[i], ρ2, ρ3, T.gh, rx, (rs2.mono (f3.keeps rh2)).toRepS0, nt, e, fun σ3 rs3 _ => ⟨ρ3, μ2, _, ⟨rs3, hf _⟩, rh3, q2, rfl, fun ρ4 σ4 H4 μ4 rs4 rh4 f4 q4 => ⟨hlt, ρ4, μ4, ⟨rs4, hf _⟩, rh4, f2.trans (f3.trans f4), q4⟩, fun d v H4 μ4 rv rh4 f4 q4 => p2 d v H4 μ4 rv rh4 (f1.trans (f2.trans (f3.trans f4))) q4⟩⟩
    · have ei : i = l.length := by omega
      subst ei
      rw [List.drop_length] at q2
      obtain ⟨hc2, q2⟩ := q2
      exact .inl ⟨(wi hc2).2 (Nat.le_refl _), p1 ρ2 σ2 H2 μ2 rs2.toRepS0 rh2 (f1.trans f2) q2⟩
theorem s_set {p : P} (nt : NoT T.gh p) {tg e : Expr} {c : E} {pos : Pos} (he : PE X e (tE X T G c)) (hg : PG X tg (tP X p)) (hs : swapsWithSole [tg] e pos.line X.env = pure false) (hw : swappedStores [tg] e X.env = pure none)
    (h1 : (assignEach [tg] X.env).map (·.2) = [assign tg X.env]) : PS X (.Assign [tg] e pos) (tS X T G (.set p c)) :=
  (ps_asg he hg hs hw h1).imp fun D0 σ H ⟨ρ, μ, R, rs, rh, hw, hx, p1, p2⟩ => by
    have hw : wpE G c ρ μ (fun d μ1 => optP (matP p d ρ) fun ρ1 => R.nx ρ1 μ1) R.ex := hw
    rw [hx] at hw
    refine ⟨ρ, μ, _, rs, rh, hw, fun d v H1 μ1 rv rh1 f1 q1 => ?_⟩
    obtain ⟨ρ1, e, q1⟩ := optP_get q1
    exact ⟨d, ρ, ρ1, T.gh, rv, (rs.mono (f1.keeps rh)).toRepS0, nt, e, fun σ1 rs1 _ => p1 ρ1 σ1 H1 μ1 rs1 rh1 f1 q1⟩
theorem s_setL {p : P} (nt : NoT T.gh p) {es : List Expr} {kk : Nat} {tp : Pos} {e : Expr} {c : E} {pos : Pos} (hc : X.calm = true) (he : PE X e (tE X T G c)) (hg : PGs X es (tPs X p)) (hw0 : wfP p = true) (ht : isTupP p = true) (hn : (assignEach es X.env).length = plen p) (hst : (assignEach es X.env).findIdx? (·.1) = none)
    (hs : swapsWithSole [.Tuple es kk tp] e pos.line X.env = pure false) (hw : swappedStores [.Tuple es kk tp] e X.env = pure none) (h1 : (assignEach [.Tuple es kk tp] X.env).map (·.2) = [assign (.Tuple es kk tp) X.env]) : PS X (.Assign [.Tuple es kk tp] e pos) (tS X T G (.setL p c)) :=
  (ps_asg he (pg_lst hc hg hn hst) hs hw h1).imp fun D0 σ H ⟨ρ, μ, R, rs, rh, hw, hx, p1, p2⟩ => by
    have hw : wpE G c ρ μ (fun d μ1 => rdR d μ1 fun _ l => optP (matP p (.tup l) ρ) fun ρ1 => R.nx ρ1 μ1) R.ex := hw
    rw [hx] at hw
    refine ⟨ρ, μ, _, rs, rh, hw, fun d v H1 μ1 rv rh1 f1 q1 => ?_⟩
    obtain ⟨a, l, rfl, ea, q1⟩ := rdR_get q1
    obtain ⟨ρ1, e, q1⟩ := optP_get q1
    cases rv
    obtain ⟨vs, hs, rl⟩ := rh1 a _ ea
    exact ⟨a, vs, rfl, SqL.of hs, by rw [← rl.length]; exact matP_len hw0 ht e, l, ρ, ρ1, T.gh, rl, (rs.mono (f1.keeps rh)).toRepS0, nt, e, fun σ1 rs1 _ => p1 ρ1 σ1 H1 μ1 rs1 rh1 f1 q1⟩
theorem s_setLc (hg0 : T.gh = none) {i : Nat} {y : Str} {py : Pos} {elt tg iter : Expr} {ifs : List Expr} {scope : Scope} {own : List (Str × Nat)} {pos spos : Pos} {ce cc csrc : E} {p : P} {k : IK} (hc : X.calm = true) (hN : X.N.Nodup) (hy : X.N[i]? = some y) (hyl : X.env.scope.names.lookup y = some .local)
    (hsw : swapsWith (.ListComp elt [⟨tg, iter, ifs, 0⟩] scope pos) (some (.Name y py)) spos.line X.env = pure true) (hi : PI X tg iter (tI X T G k csrc)) (ok : BlkOk X.N X.env.scope scope own)
    (hg : ∀ s H C cl fp, PG (Blk X s H scope C cl fp) tg (tP X p)) (ht : ∀ s H C cl fp, PTs (Blk X s H scope C cl fp) ifs (tB X T.off G cc)) (he : ∀ s H C cl fp, PE (Blk X s H scope C cl fp) elt (tE X T.off G ce))
    (hs : ∀ x, foldedSetIterable iter X.env x = pure x) (hsl : ∀ i ∈ slotsP p, i ∈ own.map (·.2)) : PS X (.Assign [.Name y py] (.ListComp elt [⟨tg, iter, ifs, 0⟩] scope pos) spos) (tS X T G (.set (.v i) (.comp ce p k csrc cc (own.map (·.2))))) :=
  (ps_setLc hc hN hy hyl hsw hi ok hg ht he hs).imp fun D0 σ H ⟨ρ, μ, R, rs, rh, hw, hx, p1, p2⟩ => by
    have hw : wpE G (.comp ce p k csrc cc (own.map (·.2))) ρ μ (fun d μ1 => optP (matP (.v i) d ρ) fun ρ1 => R.nx ρ1 μ1) R.ex := hw
    rw [hx] at hw
    exact lc_read (Qv := fun x H1 => gName i x σ H1 D0.nx) hg0 hsl ⟨ρ, μ, _, rs, rh, hw, fun d v H1 μ1 rv rh1 f1 q1 => p1 _ _ H1 μ1 ((rs.mono (f1.keeps rh)).toRepS0.set rv fun x z => by rw [hg0] at z; cases z) rh1 f1 q1⟩
end
end MP

set_option linter.all false
set_option maxRecDepth 100000
set_option maxHeartbeats 1000000
set_option Elab.async false
namespace MP
open PySem PySem.Spec PyProof.Rows L2
section
variable {X : Cx} {T : Tab} {G : Ctx} {H H' H1 H2 : Hp} {μ μ' μ1 μ2 : Sto} {Q : D → Sto → Prop} {Q' : VK} {σ σ' : L2.St} {ρ ρ' : Env}
def rSetD (X : Cx) (T : Tab) : TSet := fun o i v H Q' => ∃ dx dk dy μ, ∃ Q : Sto → Prop, RepV X.K H dx o ∧ RepV X.K H dk i ∧ RepV X.K H dy v ∧ RepH X.w X.K T H μ ∧ setIdxP dx dk dy μ Q ∧ ∀ H' μ', RepH X.w X.K T H' μ' → Fr H μ H' μ' → Q μ' → Q' H'
theorem setIdx_get {x i y : D} {Q : Sto → Prop} (h : setIdxP x i y μ Q) : ∃ a, x = .ref a ∧ ((∃ l n j, μ a = some (.lst l) ∧ i = .int n ∧ MP.ixN l.length n = some j ∧ Q (MP.upd μ a (.lst (l.set j y)))) ∨ (∃ l, μ a = some (.dF l) ∧ isFlat i = true ∧ l.length < sizeMax ∧ Q (MP.upd μ a (.dF (dput l i y)))) ∨ isTupKey i = true ∧ ((μ a = some (.dF []) ∧ Q (MP.upd μ a (.dT [(i, y)]))) ∨ ∃ l, μ a = some (.dT l) ∧ l.length < sizeMax ∧ Q (MP.upd μ a (.dT (dput l i y))))) := by
  cases x with
  | ref a =>
    refine ⟨a, rfl, ?_⟩
    unfold setIdxP at h
    cases e : μ a with
    | none => simp only [e] at h
    | some o =>
      simp only [e] at h
      cases o with
      | lst l =>
        cases i with
        | int n => obtain ⟨j, e2, h⟩ := optP_get h; exact .inl ⟨l, n, j, rfl, rfl, e2, h⟩
        | _ => exact h.elim
      | dF l =>
        have h : (isFlat i = true ∧ l.length < sizeMax ∧ Q (MP.upd μ a (.dF (dput l i y)))) ∨ (l = [] ∧ isTupKey i = true ∧ Q (MP.upd μ a (.dT [(i, y)]))) := by
          cases i <;> exact h
        rcases h with h | ⟨rfl, h1, h⟩
        · exact .inr (.inl ⟨l, rfl, h.1, h.2.1, h.2.2⟩)
        · exact .inr (.inr ⟨h1, .inl ⟨rfl, h⟩⟩)
      | dT l =>
        have h : isTupKey i = true ∧ l.length < sizeMax ∧ Q (MP.upd μ a (.dT (dput l i y))) := by
          cases i <;> exact h
        exact .inr (.inr ⟨h.1, .inr ⟨l, rfl, h.2⟩⟩)
      | _ => cases i <;> exact h.elim
  | _ => exact h.elim
theorem set_run (hu : X.A.units + 65 < cLine) : PSet X (rSetD X T) := by
  intro pins s σ H o i v ov iv u Q' I ro ri rv ⟨dx, dk, dy, μ, Q, hx, hk, hy, rh, h, p⟩
  replace h := setIdx_get h
  obtain ⟨a, rfl, h⟩ := h
  cases hx
  have tk : ∀ {ob : Ob} {l l' : List (D × D)} {xs : List (NestedKey × Addr × Value)}, isTupKey dk = true → μ a = some ob → (∀ l, ob ≠ .dL l) → L2.Mut (H a) → (a == sysModules) = false → s.heap.DictOfH (NKd X) a xs → RepX X.K H l xs → l.length < sizeMax → l' = dput l dk dy → Q (MP.upd μ a (.dT l')) → wpAny (model X.prog X.w) X.A (setItem ov iv u) (fun _ s' => ∃ H', Inv X pins σ H' s' ∧ Q' H') X.xe s := fun {ob l l' xs} hkk ea nl mu hs dd hx hz el q => by
    obtain ⟨hk7, ds, ed⟩ := tkey_get hkk
    have hy' : RepV X.K H (.tup ds) i := by rw [← ed]; exact hk
    obtain ⟨t, vs, rfl, st, rl⟩ := hy'
    obtain rfl : ov = Value.ref a := ro
    obtain rfl : iv = Value.ref t := ri
    have hu' : (NKd X).room X.A.in1 := by show X.A.units + 1 + 8 < cLine; omega
    subst el
    refine wpAny_setItem_heap hu' (tkey_is I hkk hk) dd (fun h' hd' sb => ?_) (by rw [hx.length, ← sizeMax_eq]; omega)
    obtain ⟨H', I', rh', f'⟩ := dT_wr (tk := s.toks + (NKd X).draws (toNK dk)) I rh ea nl mu hs (Nat.le_trans dput_len hz) (hx.put hk hkk hy rv) hd' sb
    exact ⟨H', I', p _ _ rh' f' q⟩
  rcases h with ⟨l, n, j, e, rfl, e2, q⟩ | ⟨l, e, hf, hz, q⟩ | ⟨hkk, ⟨e, q⟩ | ⟨l, e, hz, q⟩⟩
  · cases hk
    obtain ⟨vs, hs, rl⟩ := rh a _ e
    refine set_list pins s σ H _ _ v ov iv u Q' I ro ri rv ⟨a, vs, n, j, rfl, rfl, hs, by rw [← rl.length]; exact e2, ?_⟩
    exact p _ _ (rh.wr e (ob' := .lst (l.set j dy)) ⟨_, L2.upd_same, (RepVs.set hy j rl).mono (.wr rh e)⟩) (Fr.wr e) q
  · obtain ⟨kvs, hs, rk⟩ := rh a _ e
    have ex := kOf_v hf hk
    subst ex
    obtain rfl : ov = Value.ref a := ro
    exact d_setItem (by omega) I (DPut.k hs (by rw [← rk.length, ← sizeMax_eq]; exact hz)) ri rv fun s' I' => ⟨_, I', p _ _ (rh.wr e (ob' := .dF (dput l dk dy)) ⟨_, L2.upd_same, (rk.put hf hy).mono (.wr rh e)⟩) (Fr.wr e) q⟩
  · obtain ⟨dd, hs, mu⟩ := dF_nil I rh e
    exact tk hkk e (by intro _ z; cases z) mu hs dd (l := []) (xs := []) rfl (by decide) rfl q
  · obtain ⟨xs, dd, hx, hs, _, mu⟩ := dT_of I rh e
    exact tk hkk e (by intro _ z; cases z) mu hs dd hx hz rfl q
def noSl : Expr → Bool
  | .Slice _ _ _ _ => false
  | _ => true
theorem asg_sub {o i : Expr} {p2 : Pos} {env : PySem.Env} (h : noSl i = true) (v : Value) : assign (.Subscript o i p2) env v = (do
      let ov ← holding [v] (eval o env)
      let iv ← holding [v, ov] (eval i env)
      standAt p2
      holding [v, ov, iv] (setItem ov iv v)
      release [v, ov, iv] []) := by
  cases i <;> first | rfl | cases h
theorem s_setIdx (hu : X.A.units + 65 < cLine) {o i e : Expr} {co ci ce : E} {p2 pos : Pos} (he : PE X e (tE X T G ce)) (ho : PE X o (tE X T G co)) (hi : PE X i (tE X T G ci)) (hsl : noSl i = true)
    (hs : swapsWithSole [.Subscript o i p2] e pos.line X.env = pure false) (hw : swappedStores [.Subscript o i p2] e X.env = pure none) : PS X (.Assign [.Subscript o i p2] e pos) (tS X T G (.setIdx co ci ce)) :=
  (ps_asg he (pg_sub ho hi (set_run (T := T) hu) (asg_sub hsl)) hs hw rfl).imp fun D0 σ H ⟨ρ, μ, R, rs, rh, hw, hx, p1, p2⟩ => by
    have hw : wpE G ce ρ μ (fun y μ1 => wpE G co ρ μ1 (fun x μ2 => wpE G ci ρ μ2 (fun k μ3 => setIdxP x k y μ3 (R.nx ρ)) R.ex) R.ex) R.ex := hw
    rw [hx] at hw
    exact ⟨ρ, μ, _, rs, rh, hw, fun y vy H1 μ1 ry rh1 f1 q1 => ⟨ρ, μ1, _, rs.mono (f1.keeps rh), rh1, q1, fun x vx H2 μ2 rx rh2 f2 q2 => ⟨ρ, μ2, _, rs.mono ((f1.trans f2).keeps rh), rh2, q2, fun k vk H3 μ3 rk rh3 f3 q3 =>
      ⟨x, k, y, μ3, R.nx ρ, rx.mono (f3.keeps rh2), rk, ry.mono ((f2.trans f3).keeps rh1), rh3, q3, fun H4 μ4 rh4 f4 q4 => p1 ρ σ H4 μ4 (rs.mono ((((f1.trans f2).trans f3).trans f4).keeps rh)).toRepS0 rh4 (((f1.trans f2).trans f3).trans f4) q4⟩⟩⟩⟩
theorem s_setAttr {o e : Expr} {co ce : E} {f : Nat} {x : Str} {p2 pos : Pos} (hf : T.fld[f]? = some x) (hF : ∀ cl, G.fl cl f = true → NoAttr X.K (T.cls cl) x) (he : PE X e (tE X T G ce)) (ho : PE X o (tE X T G co)) (hs : swapsWith e (some (.Attribute o x p2)) pos.line X.env = pure false) :
    PS X (.Assign [.Attribute o x p2] e pos) (tS X T G (.setAttr co f ce)) :=
  (ps_fld ho he hs).imp fun D0 σ H ⟨ρ, μ, R, rs, rh, hw, hx, p1, p2⟩ => by
    have hw : wpE G ce ρ μ (fun y μ1 => wpE G co ρ μ1 (fun x μ2 => insP x μ2 fun p c l => G.fl c f = true ∧ l.length < 1000 ∧ R.nx ρ (MP.upd μ2 p (.ins c (MP.putF l f y)))) R.ex) R.ex := hw
    rw [hx] at hw
    refine ⟨ρ, μ, _, rs, rh, hw, fun y vy H1 μ1 ry rh1 f1 q1 => ⟨ρ, μ1, _, rs.mono (f1.keeps rh), rh1, q1, fun d vd H2 μ2 rd rh2 f2 q2 => ?_⟩⟩
    obtain ⟨a, c, l, rfl, e, hfl, hz, q2⟩ := insP_get q2
    obtain ⟨dx, fs, h3, hc, rf⟩ := rh2 a _ e
    refine ⟨a, T.cls c, dx, fs, rd, h3, hc, hF c hfl, by rw [← rf.length]; exact hz, ?_⟩
    exact p1 ρ σ _ _ (rs.mono (((f1.trans f2).keeps rh).trans (.wr rh2 e))).toRepS0 (rh2.wr e (ob' := .ins c (MP.putF l f y)) ⟨dx, _, L2.upd_same, hc, (RepF.put T.nd hf (ry.mono (f2.keeps rh1)) rf).mono (.wr rh2 e)⟩) ((f1.trans f2).trans (Fr.wr e)) q2
theorem s_augVar {i : Nat} (nt : ∀ y, T.gh = some y → i ≠ y.1) {x : Str} {e : Expr} {ce : E} {p2 pos : Pos} (hN : X.N.Nodup) (hi : X.N[i]? = some x) (hx : Loc X.env.scope x) (he : PE X e (tE X T G ce)) (hf : X.fn x = true ∨ X.env.scope.names.lookup x = some .local) : PS X (.AugAssign (.Name x p2) .Add e pos) (tS X T G (.augVar i ce)) :=
  (ps_aug hN hi hx he ip_add hf).imp fun D0 σ H ⟨ρ, μ, R, rs, rh, hw, hx, p1, p2⟩ => by
    obtain ⟨d, e, hw⟩ := optP_get (show optP (getV ρ i) (fun x => wpE G ce ρ μ (fun y μ1 => match x, y with
      | .int m, .int n => R.nx (ρ.set i (some (.int (m + n)))) μ1
      | _, _ => False) R.ex) from hw)
    rw [hx] at hw
    have e' : ρ[i]? = some (some d) := by
      unfold getV at e
      split at e
      · rename_i d' e2; cases e; exact e2
      · cases e
    obtain ⟨v, h1, h2⟩ := rs.val i d e' nt
    refine ⟨v, h1, ρ, μ, _, rs, rh, hw, fun y vy H1 μ1 ry rh1 f1 q1 => ?_⟩
    cases d with
    | int m =>
      cases y with
      | int n =>
        cases h2; cases ry
        exact ⟨m, n, rfl, rfl, p1 _ _ H1 μ1 ((rs.mono (f1.keeps rh)).toRepS0.set (d := .int (m + n)) rfl nt) rh1 f1 q1⟩
      | _ => exact q1.elim
    | _ => cases y <;> exact q1.elim
theorem s_augAttr {o e : Expr} {co ce : E} {f : Nat} {x : Str} {p2 pos : Pos} (hf : T.fld[f]? = some x) (hF : ∀ cl, G.fl cl f = true → NoAttr X.K (T.cls cl) x) (he : PE X e (tE X T G ce)) (ho : PE X o (tE X T G co)) :
    PS X (.AugAssign (.Attribute o x p2) .Add e pos) (tS X T G (.augAttr co f ce)) :=
  (ps_fldaug ho he in_add).imp fun D0 σ H ⟨ρ, μ, R, rs, rh, hw, hx, p1, p2⟩ => by
    have hw : wpE G co ρ μ (fun x μ1 => insP x μ1 fun p c l => G.fl c f = true ∧ optP (lookF l f) fun v => wpE G ce ρ μ1 (fun y μ2 => insP (.ref p) μ2 fun _ c' l' => c' = c ∧ match v, y with
      | .int m, .int n => l'.length < 1000 ∧ R.nx ρ (MP.upd μ2 p (.ins c (MP.putF l' f (.int (m + n)))))
      | _, _ => False) R.ex) R.ex := hw
    rw [hx] at hw
    refine ⟨ρ, μ, _, rs, rh, hw, fun d vd H1 μ1 rd rh1 f1 q1 => ?_⟩
    obtain ⟨a, c, l, rfl, e, hfl, q1⟩ := insP_get q1
    obtain ⟨v, e2, q1⟩ := optP_get q1
    obtain ⟨dx, fs, h3, hc, rf⟩ := rh1 a _ e
    obtain ⟨u, h4, h5⟩ := rf.get T.nd hf e2
    refine ⟨a, T.cls c, dx, fs, u, rd, h3, hc, hF c hfl, h4, ρ, μ1, _, rs.mono (f1.keeps rh), rh1, q1, fun y vy H2 μ2 ry rh2 f2 q2 => ?_⟩
    obtain ⟨_, _, l', h0, e3, rfl, q2⟩ := insP_get q2
    cases h0
    cases v with
    | int m =>
      cases y with
      | int n =>
        cases h5; cases ry
        obtain ⟨hz, q2⟩ := q2
        obtain ⟨dx', fs', h6, hc', rf'⟩ := rh2 a _ e3
        exact ⟨m, n, rfl, rfl, dx', fs', h6, by rw [← rf'.length]; exact hz, p1 ρ σ _ _ (rs.mono (((f1.trans f2).keeps rh).trans (.wr rh2 e3))).toRepS0 (rh2.wr e3 (ob' := .ins _ (MP.putF l' f (.int (m + n)))) ⟨dx', _, L2.upd_same, hc, (RepF.put T.nd hf (d := .int (m + n)) rfl rf').mono (.wr rh2 e3)⟩) ((f1.trans f2).trans (Fr.wr e3)) q2⟩
      | _ => exact q2.elim
    | _ => cases y <;> exact q2.elim
theorem s_par {i j : Nat} (nt : ∀ z, T.gh = some z → i ≠ z.1 ∧ j ≠ z.1) {x y : Str} {a b : Expr} {ca : E} {px py pt : Pos} {kt k2 pt2} {pos : Pos} (hc : X.calm = true) (hN : X.N.Nodup) (hi : X.N[i]? = some x) (hj : X.N[j]? = some y) (hij : i ≠ j)
    (hx : X.env.scope.names.lookup x = some .local) (hy : X.env.scope.names.lookup y = some .local) (ha : PA X [a, b] (tA X T G ca)) (hl : alen ca = 2)
    (hw : swappedStores [.Tuple [.Name x px, .Name y py] kt pt] (.Tuple [a, b] k2 pt2) X.env = pure (some [x, y]))
    (hs : swapsWithSole [.Tuple [.Name x px, .Name y py] kt pt] (.Tuple [a, b] k2 pt2) pos.line X.env = pure false) :
    PS X (.Assign [.Tuple [.Name x px, .Name y py] kt pt] (.Tuple [a, b] k2 pt2) pos) (tS X T G (.set (.cons (.v i) (.cons (.v j) .nil)) (.tup ca))) :=
  (ps_par hc hN hi hj hij hx hy ha hw hs).imp fun D0 σ H ⟨ρ, μ, R, rs, rh, hw, hx, p1, p2⟩ => by
    have hw : wpA G ca ρ μ (fun ds μ1 => optP (matP (.cons (.v i) (.cons (.v j) .nil)) (.tup ds) ρ) fun ρ1 => R.nx ρ1 μ1) R.ex := hw
    rw [hx] at hw
    refine ⟨ρ, μ, _, rs, rh, hw, fun ds vs H1 μ1 rv rh1 f1 hn q1 => ?_⟩
    obtain ⟨d, e, rfl⟩ := len2 (hn.trans hl)
    replace rv := rv.get2
    obtain ⟨v, u, rfl, rv, ru⟩ := rv
    exact ⟨v, u, rfl, p1 _ _ H1 μ1 (((rs.mono (f1.keeps rh)).toRepS0.set rv fun z h => (nt z h).1).set ru fun z h => (nt z h).2) rh1 f1 q1⟩
theorem s_forD (hf : ∀ σ, T.S σ) {i : Nat} (nh : ∀ y, T.gh = some y → i ≠ y.1) {p : P} (nt : NoT T.gh p) {tg : Expr} {x : Str} {px pos : Pos} {body : List Stmt} {cb : MP.St} (hp : PassesOwn (model X.prog X.w) X.A X.env X.xe) (hc : X.calm = true) (hN : X.N[i]? = some x) (hv : Vis X.env.scope x) (hd : (x == ("__debug__" : Str)) = false) (hcd : (x == ("__classdict__" : Str)) = false)
    (hg : PG X tg (tP X p)) (hb : PSs X body (tS X T G cb)) : PS X (.For tg (.Name x px) body [] pos) (tS X T G (.forD p i cb)) :=
  (ps_lock (ps_for hp hc (pi_keys (pe_var hN hv hd hcd)) hg hb (fun _ => rfl))).imp fun D0 σ H ⟨ρ, μ, R, rs, rh, hw, hx, p1, p2⟩ => by
    obtain ⟨d, e, hw⟩ := optP_get (show optP (getV ρ i) _ from hw)
    have e' : ρ[i]? = some (some d) := by
      unfold getV at e
      split at e
      · rename_i d' e2; cases e; exact e2
      · cases e
    obtain ⟨v, h1, h2⟩ := rs.val i d e' nh
    obtain ⟨a, l, rfl, ea, hw⟩ := rdD_get hw
    cases h2
    obtain ⟨kvs, hk, rk⟩ := rh a _ ea
    refine ⟨a, .dK kvs, hk, True.intro, fun od => ⟨.ref a, h1, a, od, rfl, .inl ⟨kvs, L2.upd_same, ?_⟩⟩⟩
    have rhl : RepH X.w X.K T (L2.upd H a (.frz od (.dK kvs))) (MP.upd μ a (.dL l)) := rh.wr ea (ob' := .dL l) ⟨od, kvs, L2.upd_same, rk.mono (.wr rh ea)⟩
    have fl : Fr H μ (L2.upd H a (.frz od (.dK kvs))) (MP.upd μ a (.dL l)) := Fr.wr ea
    have kl : Keeps H (L2.upd H a (.frz od (.dK kvs))) := fl.keeps rh
    have hlen : (l.map fun p : D × D => p.1).length = kvs.length := by rw [List.length_map]; exact rk.length
    -- the dict unlocked
    have back : ∀ {H2 : Hp} {μ2 : Sto}, RepH X.w X.K T H2 μ2 → Fr (L2.upd H a (.frz od (.dK kvs))) (MP.upd μ a (.dL l)) H2 μ2 → H2 a = some (.frz od (.dK kvs)) ∧ μ2 a = some (.dL l) ∧ Keeps H2 (L2.upd H2 a (.dK kvs)) ∧ RepH X.w X.K T (L2.upd H2 a (.dK kvs)) (MP.upd μ2 a (.dF l)) ∧ Fr H μ (L2.upd H2 a (.dK kvs)) (MP.upd μ2 a (.dF l)) := fun {H2 μ2} rh2 f2 => by
      obtain ⟨g1, g2⟩ := f2.lk a l _ L2.upd_same upd_at
      have kp : Keeps H2 (L2.upd H2 a (.dK kvs)) := .wr rh2 g2
      have fB : Fr H μ (L2.upd H2 a (.dK kvs)) (MP.upd μ2 a (.dF l)) := ⟨fun b o hb hm nt => by
        have ne : b ≠ a := ne_of_mu hm ea
        obtain ⟨q1, q2⟩ := (fl.trans f2).out b o hb hm nt
        exact ⟨by rw [L2.upd_ne ne]; exact q1, by rw [upd_off ne]; exact q2⟩, fun b l' u hb hm => by
        have ne : b ≠ a := fun z => by subst z; rw [ea] at hm; cases hm
        obtain ⟨q1, q2⟩ := (fl.trans f2).lk b l' u hb hm
        exact ⟨by rw [L2.upd_ne ne]; exact q1, by rw [upd_off ne]; exact q2⟩⟩
      exact ⟨g1, g2, kp, rh.back fB (rh2.toRepH0.wr g2 (ob' := .dF l) ⟨kvs, L2.upd_same, (rk.mono (kl.trans (f2.keeps rhl))).mono kp⟩), fB⟩
    refine ⟨fun j m σ2 H2 => m = l.length - j ∧ j ≤ l.length ∧ ∃ ρ2 μ2, RepS X.K T H2 ρ2 σ2 ∧ RepH X.w X.K T H2 μ2 ∧ Fr (L2.upd H a (.frz od (.dK kvs))) (MP.upd μ a (.dL l)) H2 μ2 ∧ forP (fun μ' => μ' a = some (.dL l)) (fun d ρ1 μ2 K => optP (matP p d ρ1) fun ρ2 => wpS G cb ρ2 μ2 ⟨K, fun v μ' => μ' a = some (.dL l) ∧ R.rt v (MP.upd μ' a (.dF l)), T.Z⟩) (fun ρ1 μ1 => μ1 a = some (.dL l) ∧ R.nx ρ1 (MP.upd μ1 a (.dF l))) ((l.map fun p : D × D => p.1).drop j) ρ2 μ2,
      ⟨l.length, by simp, Nat.zero_le _, ρ, _, rs.mono kl, rhl, .refl, by rw [List.drop_zero, ← hx]; exact hw⟩, ?_⟩
    rintro j m σ2 H2 ⟨rfl, hj, ρ2, μ2, rs2, rh2, f2, q2⟩
    obtain ⟨g1, g2, kp, rhb, fb⟩ := back rh2 f2
    by_cases hlt : j < l.length
    · have hlt' : j < (l.map fun p : D × D => p.1).length := by rw [List.length_map]; exact hlt
      rw [List.drop_eq_getElem_cons hlt'] at q2
      obtain ⟨hc2, q2⟩ := q2
      refine .inr ⟨⟨g1, by rw [← hlen]; exact hlt'⟩, fun σ' H' => j + 1 ≤ l.length ∧ ∃ ρ2 μ2, RepS X.K T H' ρ2 σ' ∧ RepH X.w X.K T H' μ2 ∧ Fr (L2.upd H a (.frz od (.dK kvs))) (MP.upd μ a (.dL l)) H' μ2 ∧ forP (fun μ' => μ' a = some (.dL l)) (fun d ρ1 μ2 K => optP (matP p d ρ1) fun ρ2 => wpS G cb ρ2 μ2 ⟨K, fun v μ' => μ' a = some (.dL l) ∧ R.rt v (MP.upd μ' a (.dF l)), T.Z⟩) (fun ρ1 μ1 => μ1 a = some (.dL l) ∧ R.nx ρ1 (MP.upd μ1 a (.dF l))) ((l.map fun p : D × D => p.1).drop (j + 1)) ρ2 μ2, fun σ' H' z => ⟨l.length - (j + 1), by omega, rfl, z⟩, fun x3 H3 hx3 => ?_⟩
      obtain ⟨rfl, k, v, hkv, rfl⟩ := hx3
      obtain ⟨ρ3, e3, q2⟩ := optP_get q2
      have rx : RepV X.K H3 (l.map fun p : D × D => p.1)[j] (kV k) := by
        obtain ⟨z, z1, z2⟩ := (RepK.keys (rk.mono (kl.trans (f2.keeps rhl)))).get (List.getElem?_eq_getElem hlt')
        rw [List.getElem?_map, hkv] at z1
        cases z1; exact z2
      refine ⟨_, ρ2, ρ3, T.gh, rx, rs2.toRepS0, nt, e3, fun σ3 rs3 _ => ⟨ρ3, μ2, _, ⟨rs3, hf _⟩, rh2, q2, rfl, fun ρ4 σ4 H4 μ4 rs4 rh4 f4 q4 => ⟨hlt, ρ4, μ4, ⟨rs4, hf _⟩, rh4, f2.trans f4, q4⟩, fun d v H4 μ4 rv rh4 f4 q4 => ?_⟩⟩
      obtain ⟨b1, b2, b3, b4, b5⟩ := back rh4 (f2.trans f4)
      exact ⟨b1, p2 d v _ _ (rv.mono b3) b4 b5 q4.2⟩
    · have ei : j = l.length := by omega
      subst ei
      rw [List.drop_eq_nil_of_le (by rw [List.length_map]; exact Nat.le_refl _)] at q2
      obtain ⟨hc2, _, q2⟩ := q2
      exact .inl ⟨⟨g1, by rw [← hlen, List.length_map]; exact Nat.le_refl _⟩, g1, p1 ρ2 σ2 _ _ (rs2.mono kp).toRepS0 rhb fb q2⟩
end
end MP

set_option linter.all false
set_option maxRecDepth 100000
set_option maxHeartbeats 1000000
set_option Elab.async false
namespace MP
open PySem PySem.Spec PyProof.Rows L2
structure ExcM (K : PySem.W.Frag) (C : Addr) : Prop where
  q : PySem.W.excIn K C [.type "ValueError", .type "Exception", .type "BaseException", .type "object"] "ValueError.__new__" = true
  kp : PySem.W.keepIn K (.ref C) = true
  sb : PySem.W.subIn K (.ref C) (.type "BaseException") = some true
  ty : PySem.W.typeIn K (.ref C) = some (.type "type")
def excMB (K : PySem.W.Frag) (C : Addr) : Bool := PySem.W.excIn K C [.type "ValueError", .type "Exception", .type "BaseException", .type "object"] "ValueError.__new__" && PySem.W.keepIn K (.ref C) && decide (PySem.W.subIn K (.ref C) (.type "BaseException") = some true) && decide (PySem.W.typeIn K (.ref C) = some (.type "type"))
theorem excMB_ok {K : PySem.W.Frag} {C : Addr} (h : excMB K C = true) : ExcM K C := by
  unfold excMB at h
  simp only [Bool.and_eq_true, decide_eq_true_eq] at h
  exact ⟨h.1.1.1, h.1.1.2, h.1.2, h.2⟩
def excIB (K : PySem.W.Frag) (C : Addr) : Bool := (PySem.W.clsIn K C).isSome && decide (PySem.W.findIn K (.ref C) "__getattribute__" = some (some (.builtin "BaseException.__getattribute__"))) && decide (PySem.W.findIn K (.ref C) "__getattr__" = some none) &&
  decide (PySem.W.subIn K (.ref C) (.type "BaseException") = some true) && decide (PySem.W.findIn K (.ref C) "__class__" = some (some (.builtin "object.__class__"))) && decide (PySem.W.specialIn K (.builtin "object.__class__") "__get__" = some (some (.builtin "getset_descriptor.__get__"))) &&
  decide (PySem.W.takesIn K (.builtin "object.__class__") = some true) && decide (PySem.W.mroIn K C (.type "object") = some true) && PySem.W.hasDictIn K C && decide (PySem.W.findIn K (.ref C) "line" = some none)
theorem excIB_ok {K : PySem.W.Frag} {C : Addr} (h : excIB K C = true) : ExcI K C := by
  unfold excIB at h
  simp only [Bool.and_eq_true, decide_eq_true_eq] at h
  obtain ⟨⟨⟨⟨⟨⟨⟨⟨⟨h1, h2⟩, h3⟩, h4⟩, h5⟩, h6⟩, h7⟩, h8⟩, h9⟩, h10⟩ := h
  exact ⟨h1, h2, h3, h4, h5, h6, h7, h8, h9, h10⟩
def Tk2 (X : Cx) (T : Tab) : Prop := ∃ W : WX, Takes X W ∧ ∀ c ds o σ H, T.S σ → T.W c ds H → XD X.K T H c ds o → W (.ref (T.ecl c)) o σ H
theorem Tk2.tk {X : Cx} {T : Tab} (h : Tk2 X T) : Tk X T := let ⟨W, t, w⟩ := h; ⟨W, takes1 t, w⟩
section
variable {X : Cx} {T : Tab} {G : Ctx} {H H' H1 H2 : Hp} {μ μ' μ1 μ2 : Sto} {Q : D → Sto → Prop} {Q' : VK} {σ σ' : L2.St} {ρ ρ' : Env}
theorem s_raise {c : Nat} {x : Str} {e : Expr} {a : E} {p pos pos' : Pos} (hc : X.calm = true) (tk : Tk2 X T) (M : ExcM X.K (T.ecl c)) (nl : T.exk c = some false) (hg : Gl X x) (hm : X.mg x = some (.ref (T.ecl c))) (he : PE X e (tE X T G a))
    (hs : starEach [e] X.env = (false, eval e X.env) :: starEach [] X.env) (hdb : (x == ("__debug__" : Str)) = false) : PS X (.Raise (some (.Call (.Name x p) [e] [] pos)) none pos') (tS X T G (.raise c (.cons a .nil))) := by
  obtain ⟨W, tk, hW⟩ := tk
  refine (ps_raise hc tk (SkE.pmk_own1 PySem.F.excBase_ValueError M.q hm M.kp (raises_own M.sb M.ty) hg he hs hdb)).imp fun D0 σ H ⟨ρ, μ, R, rs, rh, hw, hx, p1, p2⟩ => ?_
  have hw : wpE G a ρ μ (fun x μ1 => R.ex c [x] μ1) R.ex := hw
  rw [hx] at hw
  exact ⟨ρ, μ, _, rs, rh, hw, fun d v H1 μ1 rv rh1 f1 q1 => hW c [d] none σ H1 rs.ok (rh1.up H1 μ1 .refl rh1.toRepH0 c [d] q1) nl⟩
def HotX (X : Cx) (T : Tab) (i c : Nat) : Prop := ∃ (X0 : Cx) (a : Addr) (oe : Obj) (pn : List (Addr × Obj)) (o : Option Addr), X = X0.suite a ((a, oe) :: pn) ∧ Zc (.ref (T.ecl c)) o oe ∧ (∃ vs, oe.data = .fields vs) ∧ T.gh = some (i, a, o) ∧ T.exk c = some o.isSome
abbrev Tab.hot (T : Tab) (i : Nat) (a : Addr) (o : Option Addr) : Tab := { T.off with gh := some (i, a, o) }
theorem e_hot {i c : Nat} {x : Str} {pos : Pos} (hx : HotX X T i c) (hN : X.N[i]? = some x) (hv : Vis X.env.scope x) (hd : (x == ("__debug__" : Str)) = false) (hcd : (x == ("__classdict__" : Str)) = false) :
    PE X (.Name x pos) (fun σ H Q => ∃ a o, T.gh = some (i, a, o) ∧ (∃ ρ, RepS0 X.K T.gh H ρ σ) ∧ Q (.ref a) H) := by
  refine ⟨fun pins s σ H Q I ⟨a, o, hg, ⟨ρ, rs⟩, q⟩ => (pe_var hN hv hd hcd).run pins s σ H Q I ⟨.ref a, ?_, q⟩⟩
  have hl : i < σ.length := by
    rw [I.len]
    exact (List.getElem?_eq_some_iff.mp hN).1
  exact (rs.gs i a o hg).1 hl
def rIsx (K : PySem.W.Frag) (o : Option Addr) (a C : Addr) : List V → Hp → VK → Prop := fun xs H Q => ∃ v b, xs = [.ref a, v] ∧ (∀ x, o = some x → ∃ fs, H x = some (.xd fs)) ∧
  ((∃ cv, (∀ u, RelV v u → u = cv) ∧ PySem.W.kitOne K (.ref C) cv = some b) ∨ ∃ p vs cs, v = .ref p ∧ SqT K H p vs ∧ (∀ us, Vals vs us → us = cs) ∧ PySem.W.kitAny K (.ref C) cs = some b) ∧ Q (.bl b) H
theorem call_isx {X : Cx} {a C : Addr} {oe : Obj} {o : Option Addr} {pn : List (Addr × Obj)} (E : ExcI X.K C) (hz : Zc (.ref C) o oe) (hf : ∃ vs, oe.data = .fields vs) : CallR (X.suite a ((a, oe) :: pn)) (.builtin "isinstance") (rIsx X.K o a C) := by
  intro pins s σ H xs us Q I r ⟨v, b, e, hd, ch, q⟩
  subst e
  obtain ⟨ua, u, rfl, ra, ru⟩ : ∃ ua u, us = [ua, u] ∧ RelV (.ref a) ua ∧ RelV v u := by
    cases r with
    | cons r1 r2 =>
      cases r2 with
      | cons r3 r4 => cases r4; exact ⟨_, _, rfl, r1, r3⟩
  obtain rfl : ua = Value.ref a := ra
  have hp := (I.pin (a, oe) (List.mem_append_left _ List.mem_cons_self)).1
  obtain ⟨vs, hv⟩ := hf
  have nc : PySem.W.notCls oe = true := by unfold PySem.W.notCls; rw [hv] <;> rfl
  obtain ⟨od, J⟩ : ∃ od, PySem.W.InstAt s.heap a oe C od := by
    cases o with
    | none => exact ⟨none, ⟨hp, hz.1, nc, by rw [hz.2]; exact True.intro⟩⟩
    | some x =>
      obtain ⟨fs, hx⟩ := hd x rfl
      have ho : ObjOk X.prog X.w H s.heap x (.xd fs) := I.hok x _ hx
      obtain ⟨mA, hns, _⟩ := ho
      obtain ⟨ox, h1, _⟩ := lookIn_ns hns
      exact ⟨some ox, ⟨hp, hz.1, nc, by rw [hz.2]; exact h1⟩⟩
  have Z := PySem.W.kitx_exc (x := a) (ox := oe) (od := od) E.cl E.ga E.gt E.sb E.ca E.sp E.tk E.ob
  have fin : ∀ tk, EP (X.suite a ((a, oe) :: pn)) pins σ Q (.bool b) { s with toks := tk } := fun tk => ⟨.bl b, H, I.kept (t' := tk) fun _ _ z => z, rfl, q⟩
  rcases ch with ⟨cv, h1, h2⟩ | ⟨p, ws, cs, rfl, st, h1, h2⟩
  · obtain rfl := h1 u ru
    exact PySem.W.kia_one Z I.kIn J h2 (fun z => nomatch z) fin
  · obtain rfl : u = Value.ref p := ru
    obtain ⟨its, r2, ⟨⟨oc, od', oda, osl⟩, g1, g2, n, g3⟩, _⟩ := I.tuple st
    dsimp only at g2 g3
    subst g2 g3
    obtain rfl := h1 its r2
    exact PySem.W.kia_tup (n := n) Z I.kIn J g1 h2 (fun z => nomatch z) fin
def CNm (X : Cx) (x : Str) (v : V) (cv : Value) : Prop := Gl X x ∧ (x == ("__debug__" : Str)) = false ∧ RelV v cv ∧ (∀ u, RelV v u → u = cv) ∧ (X.mg x = some cv ∨ (X.mg x = none ∧ bootBuiltins x = some cv ∧ x ≠ "__name__"))
theorem CNm.pe {x : Str} {v : V} {cv : Value} {pos : Pos} (h : CNm X x v cv) : PE X (.Name x pos) (tC v) := by
  obtain ⟨hg, hd, r, _, hm | ⟨hm, hv, hn⟩⟩ := h
  · exact pe_glob hg hm r hd
  · exact pe_bltn hg hm hv r hn hd
theorem CNm.names {x : Str} {v : V} {cv : Value} (h : CNm X x v cv) : Names X x cv := ⟨h.1, h.2.1, h.2.2.2.2⟩
theorem xd_of {i : Nat} {a : Addr} {o : Option Addr} {g : Gh} {K : PySem.W.Frag} (rs : RepS0 K g H ρ σ) (hg : g = some (i, a, o)) : ∀ x, o = some x → ∃ fs, H x = some (.xd fs) := fun x hx => by
  obtain ⟨v, d, h, _⟩ := (rs.gs i a o hg).2 x hx
  exact ⟨_, h⟩
theorem e_isx {i c : Nat} {x y : Str} {v : V} {cv : Value} {b : Bool} {p p1 p2 pos : Pos} (hx : HotX X T i c) (E : ExcI X.K (T.ecl c)) (hg : Gl X "isinstance") (hm : X.mg "isinstance" = none) (hN : X.N[i]? = some x) (hv : Vis X.env.scope x) (hd : (x == ("__debug__" : Str)) = false) (hcd : (x == ("__classdict__" : Str)) = false)
    (hy : CNm X y v cv) (hk : PySem.W.kitOne X.K (.ref (T.ecl c)) cv = some b) : PE X (.Call (.Name "isinstance" p) [.Name x p1, .Name y p2] [] pos) (tE X T G (.cb b)) := by
  have h1 := e_hot (pos := p1) hx hN hv hd hcd
  have h2 := hy.pe (pos := p2)
  obtain ⟨X0, a, oe, pn, o, rfl, hz, hf, hgh, hl⟩ := hx
  refine (pe_callB (call_isx E hz hf) hg hm boot_isinstance (pa_cons h1 (pa_cons h2 pa_nil rfl) rfl) (he := rfl) (hpl := rfl)).imp fun σ H Q' ⟨ρ, μ, Q, rs, rh, hw, p⟩ => ?_
  exact ⟨a, o, hgh, ⟨ρ, rs.toRepS0⟩, v, b, rfl, xd_of rs.toRepS0 hgh, .inl ⟨cv, hy.2.2.2.1, hk⟩, p.bl rh hw⟩
def CNs (X : Cx) : List Expr → List V → List Value → Prop
  | [], vs, cs => vs = [] ∧ cs = []
  | e :: es, vs, cs => ∃ y pos v cv vr cr, e = .Name y pos ∧ vs = v :: vr ∧ cs = cv :: cr ∧ CNm X y v cv ∧ CNs X es vr cr
theorem CNs.pa : ∀ {es : List Expr} {vs : List V} {cs : List Value}, CNs X es vs cs → PA X es (fun _ H Q => Q vs H)
  | [], _, _, ⟨rfl, rfl⟩ => pa_nil.imp fun _ _ _ h => h
  | _ :: es, _, _, ⟨y, pos, v, cv, vr, cr, rfl, rfl, rfl, h, t⟩ => (pa_cons h.pe t.pa rfl).imp fun _ _ _ h => h
theorem CNs.all : ∀ {es : List Expr} {vs : List V} {cs : List Value}, CNs X es vs cs → ∀ us, Vals vs us → us = cs
  | [], _, _, ⟨rfl, rfl⟩, us, r => by cases r; rfl
  | _ :: es, _, _, ⟨y, pos, v, cv, vr, cr, rfl, rfl, rfl, h, t⟩, us, r => by
    cases r with
    | cons r1 r2 => rw [h.2.2.2.1 _ r1, t.all _ r2]
theorem CNs.len : ∀ {es : List Expr} {vs : List V} {cs : List Value}, CNs X es vs cs → vs.length = es.length
  | [], _, _, ⟨rfl, rfl⟩ => rfl
  | _ :: es, _, _, ⟨y, pos, v, cv, vr, cr, rfl, rfl, rfl, h, t⟩ => congrArg (· + 1) t.len
theorem e_isxT {i c : Nat} {x : Str} {es : List Expr} {vs : List V} {cs : List Value} {b : Bool} {k : Nat} {p p1 p2 pos : Pos} (hx : HotX X T i c) (E : ExcI X.K (T.ecl c)) (hg : Gl X "isinstance") (hm : X.mg "isinstance" = none) (hN : X.N[i]? = some x) (hv : Vis X.env.scope x) (hd : (x == ("__debug__" : Str)) = false) (hcd : (x == ("__classdict__" : Str)) = false)
    (hy : CNs X es vs cs) (hz1 : es.length ≤ 1000) (hk : PySem.W.kitAny X.K (.ref (T.ecl c)) cs = some b) : PE X (.Call (.Name "isinstance" p) [.Name x p1, .Tuple es k p2] [] pos) (tE X T G (.cb b)) := by
  have h1 := e_hot (pos := p1) hx hN hv hd hcd
  have h2 : PE X (.Tuple es k p2) _ := pe_tup hy.pa
  obtain ⟨X0, a, oe, pn, o, rfl, hz, hf, hgh, hl⟩ := hx
  refine (pe_callB (call_isx E hz hf) hg hm boot_isinstance (pa_cons h1 (pa_cons h2 pa_nil rfl) rfl) (he := rfl) (hpl := rfl)).imp fun σ H Q' ⟨ρ, μ, Q, rs, rh, hw, p⟩ => ?_
  refine ⟨a, o, hgh, ⟨ρ, rs.toRepS0⟩, by rw [hy.len, ← sizeMax_eq]; exact Nat.le_trans hz1 (by decide), fun q hq => ⟨.ref q, b, rfl, fun x hx => ?_, .inr ⟨q, vs, cs, rfl, SqT.of L2.upd_same, hy.all, hk⟩, (p.step (Fr.newT hq)).bl (rh.newT hq) hw⟩⟩
  obtain ⟨fs, h⟩ := xd_of rs.toRepS0 hgh x hx
  exact ⟨fs, by rw [L2.upd_ne (ne_at h hq)]; exact h⟩
theorem e_line {i c : Nat} {x : Str} {p1 pos : Pos} (hx : HotX X T i c) (E : ExcI X.K (T.ecl c)) (hl : T.exk c = some true) (hN : X.N[i]? = some x) (hv : Vis X.env.scope x) (hd : (x == ("__debug__" : Str)) = false) (hcd : (x == ("__classdict__" : Str)) = false) :
    PE X (.Attribute (.Name x p1) "line" pos) (tE X T G (.var i)) := by
  have h1 := e_hot (pos := p1) hx hN hv hd hcd
  obtain ⟨X0, a, oe, pn, o, rfl, hz, hf, hgh, hl2⟩ := hx
  refine (pe_xf ⟨E.ga, E.gt, E.sb, E.hd⟩ E.nl hz hf h1).imp fun σ H Q' ⟨ρ, μ, Q, rs, rh, hw, p⟩ => ?_
  refine ⟨a, o, hgh, ⟨ρ, rs.toRepS0⟩, rfl, rfl, ?_⟩
  obtain ⟨d, e, q⟩ := optP_get (show optP (getV ρ i) fun d => Q d μ from hw)
  have e' : ρ[i]? = some (some d) := by
    unfold getV at e
    split at e
    · rename_i d' e2; cases e; exact e2
    · cases e
  cases o with
  | none => rw [hl] at hl2; cases hl2
  | some dd =>
    obtain ⟨v, d2, g1, g2, g3⟩ := (rs.gs i a (some dd) hgh).2 dd rfl
    have g2 := g2 (List.getElem?_eq_some_iff.mp e').1
    rw [g2] at e'; cases e'
    exact ⟨dd, _, v, rfl, g1, by simp [List.lookup_cons], p.val rh g3 q⟩
end
end MP

set_option linter.all false
set_option maxRecDepth 100000
set_option maxHeartbeats 1000000
set_option Elab.async false
namespace MP
open PySem PySem.Spec PyProof.Rows L2
def hdsOf (f : Nat → Option (Option (Nat × MP.St))) : List Nat → Option MP.St
  | [] => some .nop
  | c :: r => (f c).bind fun o => (hdsOf f r).map fun t => match o with
    | none => t
    | some (i, s) => .hd c i s t
section
variable {G : Ctx} {f : Nat → Option (Option (Nat × MP.St))} {μ : Sto} {ρ : Env} {R : Post} {ds : List D}
theorem hds_no : ∀ {l : List Nat} {h : MP.St} {c : Nat}, hdsOf f l = some h → f c = some none → wpH G h c ds ρ μ R → R.ex c ds μ
  | [], h, c, e, _, q => by cases e; exact q
  | k :: l, h, c, e, hc, q => by
    unfold hdsOf at e
    obtain ⟨o, h1, e⟩ := Option.bind_eq_some_iff.mp e
    obtain ⟨t, h2, e⟩ := Option.map_eq_some_iff.mp e
    cases o with
    | none => cases e; exact hds_no h2 hc q
    | some z =>
      obtain ⟨i, s⟩ := z
      cases e
      have ne : c ≠ k := fun z => by subst z; rw [hc] at h1; cases h1
      exact hds_no h2 hc (q.2 ne)
theorem hds_at : ∀ {l : List Nat} {h : MP.St} {c i : Nat} {s : MP.St}, hdsOf f l = some h → c ∈ l → f c = some (some (i, s)) → wpH G h c ds ρ μ R → wpS G s (ρ.set i ds.head?) μ ⟨fun ρ1 μ1 => R.nx (ρ1.set i none) μ1, R.rt, fun _ _ _ => False⟩
  | k :: l, h, c, i, s, e, m, hc, q => by
    unfold hdsOf at e
    obtain ⟨o, h1, e⟩ := Option.bind_eq_some_iff.mp e
    obtain ⟨t, h2, e⟩ := Option.map_eq_some_iff.mp e
    by_cases ck : c = k
    · subst ck
      rw [hc] at h1; cases h1
      cases e
      exact q.1 rfl
    · have m : c ∈ l := (List.mem_cons.mp m).resolve_left ck
      cases o with
      | none => cases e; exact hds_at h2 m hc q
      | some z =>
        obtain ⟨j, s'⟩ := z
        cases e
        exact hds_at h2 m hc (q.2 ck)
end
abbrev Tab.try (T : Tab) (Z : EX) (W : Nat → List D → Hp → Prop) (S : L2.St → Prop) : Tab := { T with Z := Z, W := W, S := S }
section
variable {X : Cx} {T : Tab} {G : Ctx} {H H' H1 H2 : Hp} {μ μ' μ1 μ2 : Sto} {σ σ' : L2.St} {ρ ρ' : Env}
theorem RepS0.hot {K : PySem.W.Frag} (rs : RepS0 K none H ρ σ) {c i : Nat} {ds : List D} {o : Option Addr} {a : Addr} (xd : XD K T H c ds o) : RepS0 K (some (i, a, o)) H (ρ.set i ds.head?) (σ.set i (some (.ref a))) := by
  refine ⟨by rw [List.length_set, List.length_set]; exact rs.len, fun j d e n => ?_, fun j b p e => ?_⟩
  · have ne : i ≠ j := fun z => n _ rfl z.symm
    rw [List.getElem?_set_ne ne] at e ⊢
    exact rs.val j d e fun _ z => (nomatch z)
  · cases e
    refine ⟨fun hl => List.getElem?_set_self (by simpa using hl), fun x hx => ?_⟩
    subst hx
    obtain ⟨_, v, d, h1, rfl, h2⟩ := xd
    exact ⟨v, d, h1, fun hl => List.getElem?_set_self (by simpa using hl), h2⟩
theorem RepS0.cool {K : PySem.W.Frag} {i : Nat} {a : Addr} {o : Option Addr} (rs : RepS0 K (some (i, a, o)) H ρ σ) : RepS0 K none H (ρ.set i none) (σ.set i none) := by
  refine ⟨by rw [List.length_set, List.length_set]; exact rs.len, fun j d e _ => ?_, fun _ _ _ z => (nomatch z)⟩
  by_cases hj : i = j
  · subst hj
    by_cases hi : i < ρ.length
    · rw [List.getElem?_set_self hi] at e; cases e
    · rw [List.getElem?_eq_none (by rw [List.length_set]; omega)] at e; cases e
  · rw [List.getElem?_set_ne hj] at e ⊢
    exact rs.val j d e fun x z => by cases z; exact Ne.symm hj
theorem set_past {α : Type} {l : List α} {i : Nat} {x : α} (h : l.length ≤ i) : l.set i x = l := List.set_eq_of_length_le h
def SuiteOk (X : Cx) (T : Tab) (G : Ctx) (l : List Stmt) (i c : Nat) (s : MP.St) : Prop := ∀ (a : Addr) (oe : Obj) (o : Option Addr) (pn : List (Addr × Obj)), Zc (.ref (T.ecl c)) o oe → (∃ vs, oe.data = .fields vs) → T.exk c = some o.isSome → PSs (X.suite a ((a, oe) :: pn)) l (tS X (T.hot i a o) G s)
def BodyOk (X : Cx) (T : Tab) (G : Ctx) (l : List Stmt) (s : MP.St) : Prop := ∀ Z W S pn xe, Tk (X.tr pn xe) (T.try Z W S) → PSs (X.tr pn xe) l (tS X (T.try Z W S) G s)
def tBody (X : Cx) (T : Tab) (G : Ctx) (cb : MP.St) (W : WX) : TS := fun D0 σ H => ∃ Z W' S, (∀ c ds o σ' H', S σ' → W' c ds H' → XD X.K T H' c ds o → W (.ref (T.ecl c)) o σ' H') ∧ tS X (T.try Z W' S) G cb D0 σ H
theorem BodyOk.pss {l : List Stmt} {s : MP.St} (h : BodyOk X T G l s) (W : WX) (pn : List (Addr × Obj)) (xe : Value → Shared → Prop) (tk : Takes (X.tr pn xe) W) : PSs (X.tr pn xe) l (tBody X T G s W) :=
  ⟨fun pins sh σ H D0 I ⟨Z, W', S, hW, q⟩ => (h Z W' S pn xe ⟨W, takes1 tk, hW⟩).run pins sh σ H D0 I q⟩
def tSuite (X : Cx) (T : Tab) (G : Ctx) (l : List Stmt) (i : Nat) (a : Addr) (cls : Value) (d : Option Addr) : TS := fun D0 σ H => ∃ c s, cls = .ref (T.ecl c) ∧ SuiteOk X T G l i c s ∧ T.exk c = some d.isSome ∧ tS X (T.hot i a d) G s D0 σ H
theorem tSuite_pss {l : List Stmt} {i : Nat} (a : Addr) (oe : Obj) (cls : Value) (d : Option Addr) (pn : List (Addr × Obj)) (hz : Zc cls d oe) (hf : ∃ vs, oe.data = .fields vs) : PSs (X.suite a ((a, oe) :: pn)) l (tSuite X T G l i a cls d) :=
  ⟨fun pins sh σ H D0 I ⟨c, s, e, h, hl, q⟩ => by subst e; exact (h a oe d pn hz hf hl).run pins sh σ H D0 I q⟩
theorem XD.exk {K : PySem.W.Frag} {c : Nat} {ds : List D} {o : Option Addr} (h : XD K T H c ds o) : T.exk c = some o.isSome := by
  cases o with
  | none => exact h
  | some x => exact h.1
theorem suite_read {l : List Stmt} {i c : Nat} {s : MP.St} {D0 : Ends} {R : Post} {ds : List D} {o : Option Addr} (hg0 : T.gh = none) (rs : RepS0 X.K none H ρ σ) (rh : RepH0 X.w X.K T H μ) (f0 : Fr H μ H' μ') (rh' : RepH0 X.w X.K T H' μ') (so : SuiteOk X T G l i c s) (xd : XD X.K T H' c ds o)
    (hw : wpS G s (ρ.set i ds.head?) μ' ⟨fun ρ1 μ1 => R.nx (ρ1.set i none) μ1, R.rt, fun _ _ _ => False⟩)
    (p1 : ∀ ρ1 σ1 H1 μ1, RepS0 X.K none H1 ρ1 σ1 → RepH0 X.w X.K T H1 μ1 → Fr H μ H1 μ1 → R.nx ρ1 μ1 → D0.nx σ1 H1) (p2 : ∀ d v H1 μ1, RepV X.K H1 d v → RepH0 X.w X.K T H1 μ1 → Fr H μ H1 μ1 → R.rt d μ1 → D0.rt v H1)
    {D1 : Ends} (e1 : ∀ σ1 H1, D0.nx (σ1.set i none) H1 → D1.nx σ1 H1) (e2 : ∀ v H1, D0.rt v H1 → D1.rt v H1) (a : Addr) : tSuite X T G l i a (.ref (T.ecl c)) o D1 (σ.set i (some (.ref a))) H' :=
  ⟨c, s, rfl, so, xd.exk, ρ.set i ds.head?, μ', _, ⟨(rs.mono (f0.keeps0 rh)).hot xd, True.intro⟩, ⟨rh', fun _ _ _ _ _ _ z => z.elim⟩, hw, rfl,
    fun ρ1 σ1 H1 μ1 rs1 rh1 f1 q1 => e1 σ1 H1 (p1 _ _ H1 μ1 (RepS0.cool rs1) rh1.toRepH0 (f0.trans f1) q1), fun d v H1 μ1 rv rh1 f1 q1 => e2 v H1 (p2 d v H1 μ1 rv rh1.toRepH0 (f0.trans f1) q1)⟩
theorem s_tryAs {leaf : List Nat} {kd : Nat → Bool} {f : Nat → Option (Option (Nat × MP.St))} {x n : Str} {v : V} {cv : Value} {i : Nat} {body suite : List Stmt} {b₀ : Stmt} {np pos pos' : Pos} {cb ch : MP.St}
    (hs : X.stack = X.env :: X.outer) (hf : X.env.frame = some X.env.locals) (hN : X.N.Nodup) (hi : X.N[i]? = some n) (hln : X.env.kindOf n = some .local) (hc : CNm X x v cv) (tk : Tk2 X T) (hg0 : T.gh = none)
    (hl : ∀ c, (T.exk c).isSome = true → c ∈ leaf) (hk : ∀ c ∈ leaf, PySem.W.exmOne X.K (.ref (T.ecl c)) cv = some (kd c)) (h0 : ∀ c ∈ leaf, kd c = false → f c = some none)
    (h1 : ∀ c ∈ leaf, kd c = true → ∃ s, f c = some (some (i, s)) ∧ SuiteOk X T G (b₀ :: suite) i c s) (hch : hdsOf f leaf = some ch) (hb : BodyOk X T G body cb) :
    PS X (.Try body [.ExceptHandler (some (.Name x np)) (some n) (b₀ :: suite) pos'] [] [] pos) (tS X T G (.tri cb ch)) := by
  obtain ⟨W, tk, hW⟩ := tk
  refine (ps_try_as (ts := tSuite X T G (b₀ :: suite) i) hs hf hN hi hln hc.names tk (fun W' pn xe tk' _ => hb.pss W' pn xe tk') (fun a oe cls d pn hz hfi => tSuite_pss a oe cls d pn hz hfi)).imp fun D0 σ H ⟨ρ, μ, R, rs, rh, hw, hx, p1, p2⟩ => ?_
  have hw : wpS G cb ρ μ ⟨R.nx, R.rt, fun c ds μ1 => wpH G ch c ds ρ μ1 R⟩ := hw
  have rs0 : RepS0 X.K none H ρ σ := hg0 ▸ rs.toRepS0
  have q1 : ∀ ρ1 σ1 H1 μ1, RepS0 X.K none H1 ρ1 σ1 → RepH0 X.w X.K T H1 μ1 → Fr H μ H1 μ1 → R.nx ρ1 μ1 → D0.nx σ1 H1 := fun ρ1 σ1 H1 μ1 rs1 rh1 f1 q => p1 ρ1 σ1 H1 μ1 (by rw [hg0]; exact rs1) (rh.back f1 rh1) f1 q
  have q2 : ∀ d v H1 μ1, RepV X.K H1 d v → RepH0 X.w X.K T H1 μ1 → Fr H μ H1 μ1 → R.rt d μ1 → D0.rt v H1 := fun d v H1 μ1 rv rh1 f1 q => p2 d v H1 μ1 rv (rh.back f1 rh1) f1 q
  refine ⟨fun c ds μ1 => wpH G ch c ds ρ μ1 R, fun c ds H' => ∀ o, XD X.K T H' c ds o → wAs X.K cv i (tSuite X T G (b₀ :: suite) i) W D0 (.ref (T.ecl c)) o σ H', fun σ' => σ' = σ, fun c ds o σ' H' e h xd => by subst e; exact h o xd, ρ, μ, _, ⟨rs.toRepS0, rfl⟩, ⟨rh.toRepH0, fun H' μ' f0 rh' c ds z o xd => ?_⟩, hw, rfl,
    fun ρ1 σ1 H1 μ1 rs1 rh1 f1 q => p1 ρ1 σ1 H1 μ1 rs1 (rh.back f1 rh1.toRepH0) f1 q, fun d v H1 μ1 rv rh1 f1 q => p2 d v H1 μ1 rv (rh.back f1 rh1.toRepH0) f1 q⟩
  have hcl : c ∈ leaf := hl c (by rw [xd.exk]; rfl)
  have z : wpH G ch c ds ρ μ' R := z
  refine ⟨kd c, hk c hcl, fun k1 a ha => ?_, fun k1 => ?_⟩
  · obtain ⟨s, e, so⟩ := h1 c hcl k1
    exact suite_read hg0 rs0 rh.toRepH0 f0 rh' so xd (hds_at hch hcl e z) q1 q2 (D1 := { nx := fun σ' H' => D0.nx (σ'.set i none) H', rt := D0.rt, bk := fun σ' H' => D0.bk (σ'.set i none) H', ct := fun σ' H' => D0.ct (σ'.set i none) H' }) (fun _ _ q => q) (fun _ _ q => q) a
  · have z := hds_no hch (h0 c hcl k1) z
    rw [hx] at z
    exact hW c ds o σ H' rs.ok (rh.up H' μ' f0 rh' c ds z) xd
theorem RepS0.hotP {K : PySem.W.Frag} (rs : RepS0 K none H ρ σ) {c i : Nat} {ds : List D} {o : Option Addr} {a : Addr} (hi : σ.length ≤ i) (xd : XD K T H c ds o) : RepS0 K (some (i, a, o)) H (ρ.set i ds.head?) σ := by
  have h := RepS0.hot (i := i) (a := a) rs xd
  rw [set_past hi] at h
  exact h
theorem RepS0.coolP {K : PySem.W.Frag} {i : Nat} {a : Addr} {o : Option Addr} (rs : RepS0 K (some (i, a, o)) H ρ σ) : RepS0 K none H (ρ.set i none) σ := by
  refine ⟨by rw [List.length_set]; exact rs.len, fun j d e _ => ?_, fun _ _ _ z => (nomatch z)⟩
  by_cases hj : i = j
  · subst hj
    by_cases hi : i < ρ.length
    · rw [List.getElem?_set_self hi] at e; cases e
    · rw [List.getElem?_eq_none (by rw [List.length_set]; omega)] at e; cases e
  · rw [List.getElem?_set_ne hj] at e
    exact rs.val j d e fun x z => by cases z; exact Ne.symm hj
structure Cla where
  cv : Value
  suite : List Stmt
  kd : Nat → Bool
inductive ClaOk (X : Cx) : List ExceptHandler → List Cla → Prop
  | nil : ClaOk X [] []
  | cons {x : Str} {v : V} {cv : Value} {kd : Nat → Bool} {b₀ : Stmt} {suite : List Stmt} {np pos : Pos} {hds : List ExceptHandler} {l : List Cla} (hc : CNm X x v cv) (r : ClaOk X hds l) : ClaOk X (.ExceptHandler (some (.Name x np)) none (b₀ :: suite) pos :: hds) (⟨cv, b₀ :: suite, kd⟩ :: l)
theorem ClaOk.hds {i : Nat} : ∀ {hds : List ExceptHandler} {l : List Cla}, ClaOk X hds l → HdsOk X hds (l.map fun h => (h.cv, tSuite X T G h.suite i))
  | _, _, .nil => .nil
  | _, _, .cons hc r => .cons hc.names (fun a oe cls d pn hz hf => tSuite_pss a oe cls d pn hz hf) r.hds
def ClaAt (X : Cx) (T : Tab) (G : Ctx) (f : Nat → Option (Option (Nat × MP.St))) (i c : Nat) : List Cla → Prop
  | [] => f c = some none
  | h :: r => PySem.W.exmOne X.K (.ref (T.ecl c)) h.cv = some (h.kd c) ∧ match h.kd c with
    | true => ∃ s, f c = some (some (i, s)) ∧ SuiteOk X T G h.suite i c s
    | false => ClaAt X T G f i c r
theorem many_read {W : WX} {D0 : Ends} {f : Nat → Option (Option (Nat × MP.St))} {i c : Nat} {o : Option Addr} (hno : f c = some none → W (.ref (T.ecl c)) o σ H)
    (hat : ∀ s l, f c = some (some (i, s)) → SuiteOk X T G l i c s → ∀ a, tSuite X T G l i a (.ref (T.ecl c)) o D0 σ H) : ∀ {l : List Cla}, ClaAt X T G f i c l → wMany X.K W D0 (l.map fun h => (h.cv, tSuite X T G h.suite i)) (.ref (T.ecl c)) o σ H
  | [], h => hno h
  | h :: r, ⟨e, z⟩ => by
    refine ⟨h.kd c, e, fun k a _ => ?_, fun k => ?_⟩
    · rw [k] at z
      obtain ⟨s, e, so⟩ := z
      exact hat s _ e so a
    · rw [k] at z
      exact many_read hno hat z
theorem s_tryMany {leaf : List Nat} {f : Nat → Option (Option (Nat × MP.St))} {l : List Cla} {i : Nat} {body : List Stmt} {h₀ : ExceptHandler} {hds : List ExceptHandler} {pos : Pos} {cb ch : MP.St}
    (hs : X.stack = X.env :: X.outer) (hf : X.env.frame = some X.env.locals) (hi : X.N.length ≤ i) (tk : Tk2 X T) (hg0 : T.gh = none) (hl : ∀ c, (T.exk c).isSome = true → c ∈ leaf) (hcl : ClaOk X (h₀ :: hds) l) (hat : ∀ c ∈ leaf, ClaAt X T G f i c l)
    (hch : hdsOf f leaf = some ch) (hb : BodyOk X T G body cb) : PS X (.Try body (h₀ :: hds) [] [] pos) (tS X T G (.tri cb ch)) := by
  obtain ⟨W, tk, hW⟩ := tk
  refine ⟨fun pins s σ H D0 I ⟨ρ, μ, R, rs, rh, hw, hx, p1, p2⟩ => (ps_try_many hs hf tk (fun W' pn xe tk' _ => hb.pss W' pn xe tk') (hcl.hds (T := T) (G := G) (i := i))).run pins s σ H D0 I ?_⟩
  have hw : wpS G cb ρ μ ⟨R.nx, R.rt, fun c ds μ1 => wpH G ch c ds ρ μ1 R⟩ := hw
  have rs0 : RepS0 X.K none H ρ σ := hg0 ▸ rs.toRepS0
  have hpast : σ.length ≤ i := by rw [I.len]; exact hi
  refine ⟨fun c ds μ1 => wpH G ch c ds ρ μ1 R, fun c ds H' => ∀ o, XD X.K T H' c ds o → wMany X.K W D0 (l.map fun h => (h.cv, tSuite X T G h.suite i)) (.ref (T.ecl c)) o σ H', fun σ' => σ' = σ, fun c ds o σ' H' e h xd => by subst e; exact h o xd, ρ, μ, _, ⟨rs.toRepS0, rfl⟩, ⟨rh.toRepH0, fun H' μ' f0 rh' c ds z o xd => ?_⟩, hw, rfl,
    fun ρ1 σ1 H1 μ1 rs1 rh1 f1 q => p1 ρ1 σ1 H1 μ1 rs1 (rh.back f1 rh1.toRepH0) f1 q, fun d v H1 μ1 rv rh1 f1 q => p2 d v H1 μ1 rv (rh.back f1 rh1.toRepH0) f1 q⟩
  have hcl : c ∈ leaf := hl c (by rw [xd.exk]; rfl)
  have z : wpH G ch c ds ρ μ' R := z
  refine many_read (fun e => ?_) (fun s l e so a => ?_) (hat c hcl)
  · have z := hds_no hch e z
    rw [hx] at z
    exact hW c ds o σ H' rs.ok (rh.up H' μ' f0 rh' c ds z) xd
  · exact ⟨c, s, rfl, so, xd.exk, ρ.set i ds.head?, μ', _, ⟨(rs0.mono (f0.keeps0 rh.toRepH0)).hotP hpast xd, True.intro⟩, ⟨rh', fun _ _ _ _ _ _ z => z.elim⟩, hds_at hch hcl e z, rfl,
      fun ρ1 σ1 H1 μ1 rs1 rh1 f1 q1 => p1 _ _ H1 μ1 (by rw [hg0]; exact RepS0.coolP rs1) (rh.back (f0.trans f1) rh1.toRepH0) (f0.trans f1) q1, fun d v H1 μ1 rv rh1 f1 q1 => p2 d v H1 μ1 rv (rh.back (f0.trans f1) rh1.toRepH0) (f0.trans f1) q1⟩
end
end MP

set_option linter.all false
set_option maxRecDepth 100000
set_option maxHeartbeats 1000000
set_option Elab.async false
namespace MP
open PySem PySem.Spec PyProof.Rows L2
theorem excP_get {x : D} {μ : Sto} {K : Nat → Option D → Prop} (h : excP x μ K) : ∃ a c o, x = .ref a ∧ μ a = some (.exc c o) ∧ K c o := by
  cases x with
  | ref a =>
    unfold excP at h
    cases e : μ a with
    | none => simp only [e] at h
    | some o =>
      simp only [e] at h
      cases o with
      | exc c o => exact ⟨a, c, o, rfl, e, h⟩
      | _ => exact h.elim
  | _ => exact h.elim
theorem exnP_get {x : D} {μ : Sto} {K : Nat → Nat → Prop} (h : exnP x μ K) : ∃ a c, x = .ref a ∧ μ a = some (.exn c) ∧ K a c := by
  cases x with
  | ref a =>
    unfold exnP at h
    cases e : μ a with
    | none => simp only [e] at h
    | some o =>
      simp only [e] at h
      cases o with
      | exn c => exact ⟨a, c, rfl, e, h⟩
      | _ => exact h.elim
  | _ => exact h.elim
structure ExN (K : PySem.W.Frag) (C fI : Addr) : Prop where
  T : OexC K C
  I : ExcI K C
  ini : PySem.W.findIn K (.ref C) "__init__" = some (some (.ref fI))
  tyI : PySem.W.typeIn K (.ref fI) = some (.type "function")
structure VeB (K : PySem.W.Frag) (B : Addr) : Prop where
  hg : PySem.W.specialIn K (.ref B) "__getattribute__" = some (some (.builtin "type.__getattribute__"))
  hr : PySem.W.readsIn K B (.type "type") = true
  fi : PySem.W.findCls K (.ref B) (.type "type") "__init__" = some (.val (.builtin "ValueError.__init__"))
def oexB (K : PySem.W.Frag) (C : Addr) : Bool := match K.lookup C with
  | some ⟨.type "type", _, .cls cd, sl⟩ => (match cd.mro, sl.toList with
    | .ref C' :: bm, [_, _, _, _, some (.builtin n), _] => C' == C && n == "ValueError.__new__" && !cd.hasDel && cd.hasDict && PySem.HandSPX.refsVE bm
    | _, _ => false)
  | _ => false
theorem oexB_ok {K : PySem.W.Frag} {C : Addr} (q : oexB K C = true) : ∃ nm q N bs bm sn sub ab col dd k0 k1 k2 k3 k5, K.lookup C = some (excClassObj nm q C N bs bm true sn sub ab col dd k0 k1 k2 k3 k5 "ValueError.__new__") ∧ PySem.HandSPX.refsVE bm = true := by
  unfold oexB at q
  split at q
  · rename_i dd cd sl ho
    split at q
    · rename_i C' bm k0 k1 k2 k3 n k5 hm hs
      simp only [Bool.and_eq_true, beq_iff_eq, Bool.not_eq_true'] at q
      obtain ⟨⟨⟨⟨rfl, rfl⟩, hdel⟩, hdc⟩, hbm⟩ := q
      obtain ⟨nm, bs, mro, ns, qn, hd, sn, sub, ab, col, del⟩ := cd
      dsimp only at hm hdel hdc
      subst hm hdel hdc
      have hsl : sl = #[k0, k1, k2, k3, some (.builtin "ValueError.__new__"), k5] := by
        obtain ⟨l⟩ := sl
        simp only at hs
        rw [hs]
      subst hsl
      exact ⟨nm, qn, ns, bs, bm, sn, sub, ab, col, dd, k0, k1, k2, k3, k5, ho, hbm⟩
    · cases q
  · cases q
def exnB (K : PySem.W.Frag) (C fI : Addr) : Bool := oexB K C && (decide (PySem.W.findIn K (.ref C) "__setattr__" = some (some (.builtin "object.__setattr__"))) && (decide (PySem.W.subIn K (.ref C) (.type "BaseException") = some true) && (decide (PySem.W.typeIn K (.ref C) = some (.type "type")) &&
  (PySem.W.keepIn K (.ref C) && (excIB K C && (decide (PySem.W.findIn K (.ref C) "__init__" = some (some (.ref fI))) && decide (PySem.W.typeIn K (.ref fI) = some (.type "function"))))))))
theorem exnB_ok {K : PySem.W.Frag} {C fI : Addr} (h : exnB K C fI = true) : ExN K C fI := by
  unfold exnB at h
  simp only [Bool.and_eq_true, decide_eq_true_eq] at h
  obtain ⟨h1, h2, h3, h4, h5, h6, h7, h8⟩ := h
  exact ⟨⟨oexB_ok h1, h2, h3, h4, h5⟩, excIB_ok h6, h7, h8⟩
def vebB (K : PySem.W.Frag) (B : Addr) : Bool := decide (PySem.W.specialIn K (.ref B) "__getattribute__" = some (some (.builtin "type.__getattribute__"))) && (PySem.W.readsIn K B (.type "type") && (match PySem.W.findCls K (.ref B) (.type "type") "__init__" with
  | some (.val (.builtin n)) => n == "ValueError.__init__"
  | _ => false))
theorem vebB_ok {K : PySem.W.Frag} {B : Addr} (h : vebB K B = true) : VeB K B := by
  unfold vebB at h
  simp only [Bool.and_eq_true, decide_eq_true_eq] at h
  obtain ⟨h1, h2, h3⟩ := h
  refine ⟨h1, h2, ?_⟩
  split at h3
  · rename_i n e
    rw [e, beq_iff_eq.mp h3]
  · cases h3
section
variable {X : Cx} {T : Tab} {G : Ctx} {H H' H1 H2 : Hp} {μ μ' μ1 μ2 : Sto} {Q : D → Sto → Prop} {Q' : VK} {σ σ' : L2.St} {ρ ρ' : Env}
theorem e_mkE {c : Nat} {x : Str} {e : Expr} {a : E} {p pos : Pos} (M : ExcM X.K (T.ecl c)) (hg : Gl X x) (hm : X.mg x = some (.ref (T.ecl c))) (he : PE X e (tE X T G a)) (hs : starEach [e] X.env = (false, eval e X.env) :: starEach [] X.env) (hdb : (x == ("__debug__" : Str)) = false) :
    PE X (.Call (.Name x p) [e] [] pos) (tE X T G (.mkE c a)) :=
  (pe_exc1 PySem.F.excBase_ValueError M.q hm M.kp hg he hs hdb).imp fun σ H Q' ⟨ρ, μ, Q, rs, rh, hw, p⟩ => ⟨ρ, μ, _, rs, rh, hw, fun d v H1 μ1 rv rh1 f1 q1 a ha =>
    p (.ref a) _ _ _ rfl (rh1.newO ha (ob := .exc c none) L2.upd_same) (f1.trans (Fr.newO ha)) (q1 a (rh1.free ha))⟩
def rIsV (X : Cx) (T : Tab) (cv : Value) : List V → Hp → VK → Prop := fun xs H Q => ∃ a v c o b, xs = [.ref a, v] ∧ ExcI X.K (T.ecl c) ∧ RepO X.w X.K T H a (.exc c o) ∧ (∀ u, RelV v u → u = cv) ∧ PySem.W.kitOne X.K (.ref (T.ecl c)) cv = some b ∧ Q (.bl b) H
theorem inst_of {a : Addr} {c : Nat} {o : Option D} {s : Shared} (hok : HOk X.prog X.w H s.heap) (r : RepO X.w X.K T H a (.exc c o)) : ∃ oe od, PySem.W.InstAt s.heap a oe (T.ecl c) od := by
  cases o with
  | none =>
    have r : H a = some (ExO (.ref (T.ecl c)) a) := r
    obtain ⟨⟨oe, vs, e, z, d, _⟩, _⟩ := hok a _ r
    exact ⟨oe, none, e, z.1, by unfold PySem.W.notCls; rw [d] <;> rfl, by rw [z.2]; exact True.intro⟩
  | some d =>
    obtain ⟨_, dx, v, h1, h2, _⟩ := r
    obtain ⟨t1, e⟩ := exo_at hok h1
    have hx : ObjOk X.prog X.w H s.heap dx (.xd [("line", v)]) := hok dx _ h2
    obtain ⟨mA, hns, _⟩ := hx
    obtain ⟨ox, g1, _⟩ := lookIn_ns hns
    exact ⟨_, some ox, e, rfl, rfl, g1⟩
theorem call_isV {cv : Value} : CallR X (.builtin "isinstance") (rIsV X T cv) := by
  intro pins s σ H xs us Q I r ⟨a, v, c, o, b, e, E, ro, ch, hk, q⟩
  subst e
  obtain ⟨ua, u, rfl, ra, ru⟩ : ∃ ua u, us = [ua, u] ∧ RelV (.ref a) ua ∧ RelV v u := by
    cases r with
    | cons r1 r2 =>
      cases r2 with
      | cons r3 r4 => cases r4; exact ⟨_, _, rfl, r1, r3⟩
  obtain rfl : ua = Value.ref a := ra
  obtain ⟨oe, od, J⟩ := inst_of (T := T) I.hok ro
  have Z := PySem.W.kitx_exc (x := a) (ox := oe) (od := od) E.cl E.ga E.gt E.sb E.ca E.sp E.tk E.ob
  have fin : ∀ tk, EP X pins σ Q (.bool b) { s with toks := tk } := fun tk => ⟨.bl b, H, I.kept (t' := tk) fun _ _ z => z, rfl, q⟩
  obtain rfl := ch u ru
  exact PySem.W.kia_one Z I.kIn J hk (fun z => nomatch z) fin
theorem e_isv {bs : List (Nat × Bool)} {y : Str} {v : V} {cv : Value} {e : Expr} {a : E} {p p2 pos : Pos} (hg : Gl X "isinstance") (hm : X.mg "isinstance" = none) (hy : CNm X y v cv) (hk : ∀ c b, bs.lookup c = some b → ExcI X.K (T.ecl c) ∧ PySem.W.kitOne X.K (.ref (T.ecl c)) cv = some b)
    (ha : PE X e (tE X T G a)) (he : ∀ es, starEach (e :: es) X.env = (false, eval e X.env) :: starEach es X.env) : PE X (.Call (.Name "isinstance" p) [e, .Name y p2] [] pos) (tE X T G (.isx a bs)) := by
  refine (pe_callB (call_isV (T := T) (cv := cv)) hg hm boot_isinstance (pa_cons ha (pa_cons (hy.pe (pos := p2)) pa_nil) (he _)) (he := he _) (hpl := rfl)).imp fun σ H Q' ⟨ρ, μ, Q, rs, rh, hw, p⟩ => ?_
  refine ⟨ρ, μ, _, rs, rh, hw, fun x vx H1 μ1 rx rh1 f1 q1 => ?_⟩
  obtain ⟨a, c, o, rfl, e, q1⟩ := excP_get q1
  obtain ⟨b, eb, q1⟩ := optP_get q1
  obtain rfl : vx = .ref a := rx
  obtain ⟨k1, k2⟩ := hk c b eb
  exact ⟨a, v, c, o, b, rfl, k1, rh1 a _ e, hy.2.2.2.1, k2, (p.step f1).bl rh1 q1⟩
theorem e_lin {e : Expr} {a : E} {pos : Pos} (he : PE X e (tE X T G a)) (hb : attributeBase e "line" X.env (eval e X.env) = eval e X.env) : PE X (.Attribute e "line" pos) (tE X T G (.lin a)) := by
  refine ⟨fun pins s σ H Q' I ⟨ρ, μ, Q, rs, rh, hw, p⟩ => ?_⟩
  have h := he.run pins s σ H (fun x H1 => ∃ (a : Addr) (c : Nat) (dx : Addr) (v : V), x = .ref a ∧ ExcI X.K (T.ecl c) ∧ H1 a = some (exo a (T.ecl c) (some dx)) ∧ H1 dx = some (.xd [("line", v)]) ∧ Q' v H1) I ⟨ρ, μ, _, rs, rh, hw, fun x vx H1 μ1 rx rh1 f1 q1 => by
    obtain ⟨a, c, o, rfl, e, q1⟩ := excP_get q1
    obtain ⟨d, rfl, q1⟩ := optP_get q1
    obtain rfl : vx = .ref a := rx
    obtain ⟨hI, dx, v, h1, h2, h3⟩ := rh1 a _ e
    exact ⟨a, c, dx, v, rfl, hI, h1, h2, p _ v H1 μ1 h3 rh1 f1 q1⟩⟩
  refine attr_of hb (thn h fun u s1 ⟨x, H1, I1, rx, a, c, dx, v, ex, E, ea, ed, q⟩ => ?_)
  subst ex
  obtain rfl : u = Value.ref a := rx
  obtain ⟨t1, ha⟩ := exo_at I1.hok ea
  have hx : ObjOk X.prog X.w H1 s1.heap dx (.xd [("line", v)]) := I1.hok dx _ ed
  obtain ⟨mA, hns, hr⟩ := hx
  obtain ⟨od, ho, hl⟩ := lookIn_ns hns
  obtain ⟨u, hu, ru⟩ := RelO.some_of (v := v) (o := mA "line") (by have := hr "line"; simpa [List.lookup_cons] using this)
  have J : PySem.W.InstAt s1.heap a _ (T.ecl c) (some od) := ⟨ha, rfl, rfl, ho⟩
  exact HandSPX.exc_get I1.kIn J E.ga E.gt E.sb (PySem.W.findObj_own E.hd E.nl rfl (by rw [hl, hu])) (handed_of ru) ⟨v, H1, I1.tok _, ru, q⟩
theorem e_vei {pl : Sem Bool} {y : Str} {B : Addr} {e : Expr} {es : List Expr} {ca : E} {p1 p2 pos : Pos} (V0 : VeB X.K B) (hg : Gl X y) (hm : X.mg y = some (.ref B)) (hdb : (y == ("__debug__" : Str)) = false) (ha : PA X (e :: es) (tA X T G ca)) (hlen : alen ca ≤ 1000)
    (hc : eval (.Call (.Attribute (.Name y p1) "__init__" p2) (e :: es) [] pos) X.env = (do
      let ov ← eval (.Name y p1) X.env
      standAt p2.atName
      let (f, first) ← holding [ov] (getMethod ov "__init__" pl)
      callWith pos f first (backTo pos (starEach (e :: es) X.env)) (backToKw pos (keywordEach [] X.env))))
    (he : starEach (e :: es) X.env = (false, eval e X.env) :: starEach es X.env) (hpl : (backTo pos (starEach es X.env)).any (·.1) = false) :
    PE X (.Call (.Attribute (.Name y p1) "__init__" p2) (e :: es) [] pos) (tE X T G (.vei ca)) := by
  refine ⟨fun pins s σ H Q' I ⟨ρ, μ, Q, rs, rh, hw, p⟩ => ?_⟩
  have h := ha.run pos pins { s with toks := s.toks + 1 } σ H (fun vs H1 => ∃ (a C : Addr) (ws : List V), vs = .ref a :: ws ∧ ws.length ≤ 1000 ∧ OexC X.K C ∧ H1 a = some (exo a C none) ∧ Q' .non H1) (I.tok _) ⟨ρ, μ, _, rs, rh, hw, fun ds vs H1 μ1 rv rh1 f1 hn q1 => by
    cases ds with
    | nil => exact (show False from q1).elim
    | cons x r =>
      obtain ⟨a, c, rfl, e, q1⟩ := exnP_get (show exnP x μ1 fun _ _ => Q .non μ1 from q1)
      obtain ⟨v, ws, rfl, rx, rr⟩ := rv
      obtain rfl : v = .ref a := rx
      obtain ⟨_, h0, h1⟩ := rh1 a _ e
      refine ⟨a, T.ecl c, ws, rfl, ?_, h0, h1, (p.step f1).non rh1 q1⟩
      rw [← rr.length]
      have : (D.ref a :: r).length = alen ca := hn
      rw [List.length_cons] at this
      omega⟩
  refine PySem.W.methodCall_KW (ld_glob I hg hm ?_ hdb) hc
  refine PySem.W.method_cls I.kIn V0.hg (PySem.W.cls_value I.kIn V0.hr V0.fi (by decide +kernel) ?_)
  show wpAny _ _ (callWith pos (Value.builtin "ValueError.__init__") [] (backTo pos (starEach (e :: es) X.env)) []) _ _ _
  refine PyProof.Rows.callWith_method1 (thn h fun us s1 ⟨vs, H1, I1, r1, a, C, ws, ev, hl, T0, ea, q⟩ => ?_) he hpl
  subst ev
  cases r1 with
  | @cons _ u0 _ ur ra rw' =>
    obtain rfl : u0 = Value.ref a := ra
    have hlen : ur.length ≤ sizeLine := by
      rw [← Paired.length rw', sizeLine_eq]
      omega
    exact oinit_ok T0 I1 ea hlen fun s' J => ⟨.non, H1, J, rfl, q⟩
theorem s_setLn {o e : Expr} {co ce : E} {p' pos : Pos} (ho : PE X o (tE X T G co)) (he : PE X e (tE X T G ce)) (hs : swapsWith e (some (.Attribute o "line" p')) pos.line X.env = pure false) : PS X (.Assign [.Attribute o "line" p'] e pos) (tS X T G (.setLn co ce)) := by
  refine ⟨fun pins s σ H D0 I ⟨ρ, μ, R, rs, rh, hw, hx, p1, p2⟩ => ?_⟩
  have hw : wpE G ce ρ μ (fun y μ1 => wpE G co ρ μ1 (fun x μ2 => exnP x μ2 fun p c => R.nx ρ (MP.upd μ2 p (.exc c (some y)))) R.ex) R.ex := hw
  rw [hx] at hw
  have h1 := he.run pins s σ H (fun y H1 => ∃ d μ1, RepV X.K H1 d y ∧ RepH X.w X.K T H1 μ1 ∧ Fr H μ H1 μ1 ∧ wpE G co ρ μ1 (fun x μ2 => exnP x μ2 fun p c => R.nx ρ (MP.upd μ2 p (.exc c (some d)))) T.Z) I ⟨ρ, μ, _, rs, rh, hw, fun d v H1 μ1 rv rh1 f1 q1 => ⟨d, μ1, rv, rh1, f1, q1⟩⟩
  refine plainObj_wpAny_Assign_Attribute (thn h1 fun v s1 ⟨y, H1, I1, r1, d, μ1, rd, rh1, f1, q1⟩ => ?_) hs
  have h2 := ho.run pins s1 σ H1 (fun x H2 => ∃ a c μ2, x = .ref a ∧ μ2 a = some (.exn c) ∧ RepV X.K H2 d y ∧ RepH X.w X.K T H2 μ2 ∧ Fr H μ H2 μ2 ∧ R.nx ρ (MP.upd μ2 a (.exc c (some d)))) I1 ⟨ρ, μ1, _, rs.mono (f1.keeps rh), rh1, q1, fun x vx H2 μ2 rx rh2 f2 q2 => by
    obtain ⟨a, c, rfl, e, q2⟩ := exnP_get q2
    obtain rfl : vx = .ref a := rx
    exact ⟨a, c, μ2, rfl, e, rd.mono (f2.keeps rh1), rh2, f1.trans f2, q2⟩⟩
  refine thn h2 fun u s2 ⟨x, H2, I2, r2, a, c, μ2, ex, e, rd2, rh2, f2, q2⟩ => ?_
  subst ex
  obtain rfl : u = Value.ref a := r2
  obtain ⟨hI, hT, ea⟩ := rh2 a _ e
  refine ost_new hT I2 ea hI.nl r1 fun dx s' n ne J => ?_
  have J2 := J.write (t' := s'.toks) (x := dx) (e := dx) (o := .xd [("line", y)]) (h' := s'.heap) (by rw [L2.upd_ne ne, L2.upd_same]; exact True.intro) (.inl rfl) (fun _ _ _ z => z) (by
    obtain ⟨⟨mA, hns, _⟩, hex, _⟩ := J.hok dx (exd dx [("line", y)]) (by rw [L2.upd_ne ne, L2.upd_same])
    exact hex) (by
    obtain ⟨⟨mA, hns, hr⟩, _, _⟩ := J.hok dx (exd dx [("line", y)]) (by rw [L2.upd_ne ne, L2.upd_same])
    exact ⟨mA, hns, hr⟩)
  have eH : L2.upd (L2.upd (L2.upd H2 dx (exd dx [("line", y)])) a (exo a (T.ecl c) (some dx))) dx (.xd [("line", y)]) = L2.upd (L2.upd H2 dx (.xd [("line", y)])) a (exo a (T.ecl c) (some dx)) := by
    funext b
    by_cases hb : b = dx
    · subst hb; rw [L2.upd_same, L2.upd_ne ne, L2.upd_same]
    · rw [L2.upd_ne hb]
      by_cases hc : b = a
      · subst hc; rw [L2.upd_same, L2.upd_same]
      · rw [L2.upd_ne hc, L2.upd_ne hb, L2.upd_ne hc, L2.upd_ne hb]
  rw [eH] at J2
  have rh3 := rh2.newT (o := .xd [("line", y)]) n
  have k3 : Keeps H2 (L2.upd H2 dx (.xd [("line", y)])) := .new n
  have k4 : Keeps (L2.upd H2 dx (.xd [("line", y)])) (L2.upd (L2.upd H2 dx (.xd [("line", y)])) a (exo a (T.ecl c) (some dx))) := .wr rh3 e
  have rh4 := rh3.wr e (o := exo a (T.ecl c) (some dx)) (ob' := .exc c (some d)) ⟨hI, dx, y, L2.upd_same, by rw [L2.upd_ne ne, L2.upd_same], (rd2.mono k3).mono k4⟩
  have f4 := f2.trans ((Fr.newT (μ := μ2) (o := .xd [("line", y)]) n).trans (Fr.wr (H := L2.upd H2 dx (.xd [("line", y)])) (o := exo a (T.ecl c) (some dx)) (ob' := .exc c (some d)) e))
  exact ⟨σ, _, J2, p1 ρ σ _ _ (rs.mono (f4.keeps rh)).toRepS0 rh4 f4 q2⟩
variable {k f : Nat} {fA : Addr} {fd : FuncData} {ps : List Str}
theorem mkn_step {cl : Nat} {ds : List D} {vs : List V} {n : Nat} {W : WX} (hW : ∀ c ds o H, T.W c ds H → XD X.K T H c ds o → W (.ref (T.ecl c)) o σ H) (hI : ExcI X.K (T.ecl cl)) (hT : OexC X.K (T.ecl cl)) (rv : RepVs X.K H1 ds vs) (rh1 : RepH X.w X.K T H1 μ1) (f1 : Fr H μ H1 μ1) (hn : ds.length + 1 = n) (p : Pst X T H μ Q Q')
    (q1 : ∀ q, μ1 q = none → G.fn f (.ref q :: ds) (MP.upd μ1 q (.exn cl)) (fun d μ2 => d = .non ∧ Q (.ref q) μ2) T.Z) :
    ∀ x, H1 x = none → spF X.w X.K T G f n (.ref x :: vs) (L2.upd H1 x (exo x (T.ecl cl) none)) (fun v H2 => v = .non ∧ Q' (.ref x) H2) (WE W σ) := fun x hx => by
  have rh3 := rh1.newO (o := exo x (T.ecl cl) none) (ob := .exn cl) hx ⟨hI, hT, L2.upd_same⟩
  have f3 : Fr H1 μ1 (L2.upd H1 x (exo x (T.ecl cl) none)) (MP.upd μ1 x (.exn cl)) := Fr.newO hx
  have f13 := f1.trans f3
  refine ⟨by rw [List.length_cons, ← rv.length]; exact hn, .ref x :: ds, _, _, T.Z, ⟨_, _, rfl, rfl, rv.mono (f3.keeps rh1)⟩, rh3.toRepH0, q1 x (rh1.free hx), fun d v H' μ' rd rh' f' q' => ?_, fun c cs o H' μ' rh' f' z x => hW c cs o H' (rh3.up H' μ' f' rh' c cs z) x⟩
  obtain ⟨e, q'⟩ := q'
  subst e
  exact ⟨rd, p (.ref x) _ H' μ' rfl (rh3.back f' rh') (f13.trans f') q'⟩
theorem run_mkN {CX : CXT} {C : Addr} {sp : Sp} {E : L2.St → XK} {pins : List (Addr × Obj)} {s : Shared} {us : List Value} {vs : List V} (M : ExN X.K C fA) (F : FnOk X.prog X.w X.K X.mg X.base CX k fA fd ps sp) (hr : Room (k + 1) X.A) (hb : Binds X.K fd ps [])
    (hx : PassesAt CX X σ (E σ)) (I : Inv X pins σ H s) (r : Vals vs us) (hz : us.length ≤ sizeLine)
    (h : ∀ x, H x = none → sp (.ref x :: vs) (L2.upd H x (exo x C none)) (fun v H2 => v = .non ∧ Q' (.ref x) H2) (E σ)) :
    wpAny (model X.prog X.w) X.A (call (.ref C) us) (EP X pins σ Q') X.xe s := by
  obtain ⟨nm, q, N, bs, bm, sn, sub, ab, col, dd, k0, k1, k2, k3, k5, hC, hbm⟩ := M.T.cls
  obtain ⟨hp, g, dr, tk, os⟩ := s
  have hsz : hp.objs.size ≤ hp.objs.size + 1 := Nat.le_succ _
  have hn : H (hp.objs.size + 1) = none := I.hok.fresh hsz
  have ht := h (hp.objs.size + 1) hn
  have kk : ∀ b o, hp.get? b = some o → ((hp.push (PySem.W.kdv_tup us)).push (PySem.HandSPX.excO C hp.objs.size)).get? b = some o := fun b o e => Heap.get?_push_of_some _ (Heap.get?_push_of_some _ e)
  have hget : ((hp.push (PySem.W.kdv_tup us)).push (PySem.HandSPX.excO C hp.objs.size)).get? (hp.objs.size + 1) = some (PySem.HandSPX.excO C hp.objs.size) := by heap_get
  have J : Inv X pins σ (L2.upd H (hp.objs.size + 1) (exo (hp.objs.size + 1) C none)) ⟨(hp.push (PySem.W.kdv_tup us)).push (PySem.HandSPX.excO C hp.objs.size), g, dr, tk, os⟩ :=
    I.laid (t' := tk) (a := hp.objs.size + 1) (o := exo (hp.objs.size + 1) C none) (h' := (hp.push (PySem.W.kdv_tup us)).push (PySem.HandSPX.excO C hp.objs.size)) kk hsz (exo_ok hget)
  have rr : Vals (V.ref (hp.objs.size + 1) :: vs) (Value.ref (hp.objs.size + 1) :: us) := Paired.cons rfl r
  have hl : (Value.ref (hp.objs.size + 1) :: us).length = ps.length := rr.length.symm.trans (F.len _ _ _ _ ht)
  have bn := hb _ (Value.ref (hp.objs.size + 1) :: us) J.kIn (by rw [List.append_nil]; exact hl)
  rw [List.append_nil] at bn
  have run := F.run _ X.stack _ _ ⟨Value.ref (hp.objs.size + 1) :: us, []⟩ (Value.ref (hp.objs.size + 1) :: us) _ _ (E σ) (hr.make C us []) (J.env0.make C us []) bn rr ht
  refine wpAny_call (PySem.HandSPX.call_own PySem.F.excBase_ValueError (fun Y => PySem.HandSPX.refsVE_contains Y bm hbm) (I.kIn _ _ hC) (PySem.W.looks_findIn I.kIn M.ini) (fun self => PySem.W.bind_fn I.kIn self M.tyI) hz (codeAny_mono run fun res s' hres => ?_))
  match res, hres with
  | .error e, hres => exact hx pins _ _ e s' J hres
  | .ok (.ret u), hres =>
    obtain ⟨v, H', J', rv, ev, q'⟩ := J.after hres
    subst ev
    exact ⟨rv, V.ref (hp.objs.size + 1), H', J', rfl, q'⟩
  | .ok .next, hres => exact hres.elim
  | .ok .brk, hres => exact hres.elim
  | .ok .cont, hres => exact hres.elim
theorem e_mkN {cl : Nat} (M : ExN X.K (T.ecl cl) fA) (F : FnX X T G k f fA fd ps) (tk : Tk X T) (hr : Room (k + 1) X.A) {x : Str} {e : Expr} {es : List Expr} {c : E} {p pos : Pos} (hg : Gl X x) (hm : X.mg x = some (.ref (T.ecl cl))) (ha : PA X (e :: es) (tA X T G c))
    (hl : alen c + 1 = ps.length) (hz : alen c ≤ 1000) (hdb : (x == ("__debug__" : Str)) = false) (he : starEach (e :: es) X.env = (false, eval e X.env) :: starEach es X.env) (hpl : (backTo pos (starEach es X.env)).any (·.1) = false) : PE X (.Call (.Name x p) (e :: es) [] pos) (tE X T G (.mkN cl f c)) := by
  obtain ⟨W, tk, hW⟩ := tk
  refine ⟨fun pins s σ H Q' I ⟨ρ, μ, Q, rs, rh, hw, p⟩ => ?_⟩
  refine wpAny_Call_Name_kw (ld_glob I hg hm ?_ hdb)
  refine PySem.W.callWith_K (h₀ := X.base) I.ok.mod.kin M.T.kC (thn (ha.run pos pins s σ H (fun vs H1 => vs.length ≤ 1000 ∧ ∀ x, H1 x = none → spF X.w X.K T G f ps.length (.ref x :: vs) (L2.upd H1 x (exo x (T.ecl cl) none)) (fun v H2 => v = .non ∧ Q' (.ref x) H2) (WE W σ)) I
    ⟨ρ, μ, _, rs, rh, hw, fun ds vs H1 μ1 rv rh1 f1 hn q1 => ⟨by rw [← rv.length, hn]; exact hz, mkn_step (fun c ds o H => hW c ds o σ H rs.ok) M.I M.T rv rh1 f1 (by rw [hn]; exact hl) p q1⟩⟩) fun us s1 ⟨vs, H1, I1, r, hv, q⟩ => ⟨I1.kIn, ?_⟩) he hpl
  have hlen := Paired.length r
  exact run_mkN M F.ok hr F.bd (passAt1 tk σ) I1 (us := us) r (by rw [← hlen, sizeLine_eq]; omega) q
end
end MP

set_option linter.all false
set_option maxRecDepth 100000
set_option maxHeartbeats 2000000
set_option Elab.async false
namespace MP
open PySem PySem.Spec PyProof.Rows L2
def notStar : Expr → Bool
  | .Starred _ _ => false
  | _ => true
def notSet : Expr → Bool
  | .Set _ _ _ => false
  | _ => true
def notComp : Expr → Bool
  | .ListComp _ _ _ _ => false
  | .SetComp _ _ _ _ => false
  | .DictComp _ _ _ _ _ => false
  | _ => true
def plainT : Expr → Bool
  | .UnaryOp .Not _ _ => false
  | .BoolOp _ _ _ => false
  | .IfExp _ _ _ _ => false
  | .Compare _ _ _ _ => false
  | _ => true
def isTupE : Expr → Bool
  | .Tuple _ _ _ => true
  | _ => false
def notOf (a : Expr) (c : E) : E := match a with
  | .ListComp _ _ _ _ => .not (.tru c)
  | _ => .not c
def baseOk : Expr → Bool
  | .Call _ [] [] _ => false
  | _ => true
section
variable {env : PySem.Env} {e : Expr} {es : List Expr}
theorem star_cons (h : notStar e = true) : starEach (e :: es) env = (false, eval e env) :: starEach es env := by
  cases e <;> first | rfl | cases h
theorem star_plain : ∀ {es : List Expr}, es.all notStar = true → ∀ pos, (backTo pos (starEach es env)).any (·.1) = false
  | [], _, _ => rfl
  | e :: es, h, pos => by
    rw [List.all_cons, Bool.and_eq_true] at h
    rw [star_cons h.1]
    show (false || (backTo pos (starEach es env)).any (·.1)) = false
    rw [star_plain h.2 pos]; rfl
theorem behind_ok {op : CmpOp} (h : notSet e = true) : behindInMarks op e = false := by
  cases e <;> first | rfl | cases h
theorem plainIx_ok (h : noSl e = true) : PlainIx e := fun _ _ => by
  cases e <;> first | rfl | cases h
theorem swaps_none {l : Nat} (h : notComp e = true) : swapsWith e none l env = pure false := by
  cases e <;> first | rfl | cases h
theorem swaps_ok {t : Option Expr} {l : Nat} (h : notComp e = true) : swapsWith e t l env = pure false := by
  cases e <;> first | rfl | cases h
theorem isTrue_ok (h : plainT e = true) : ∀ whole, isTrue e env whole = (do let v ← whole; standAt e.pos; holding [v] (truthy v)) := fun _ => by
  cases e with
  | UnaryOp op a p => cases op <;> first | rfl | cases h
  | _ => first | rfl | cases h
theorem base_ok {x : Str} {whole : Sem Value} (h : baseOk e = true) : attributeBase e x env whole = whole := by
  cases e with
  | Call f a k p =>
    cases f <;> cases a <;> cases k <;> first | rfl | cases h
  | _ => rfl
theorem folded_ok (h : notSet e = true) : ∀ x, foldedSetIterable e env x = pure x := fun _ => by
  cases e <;> first | rfl | cases h
theorem assign_cons (h : notStar e = true) : assignEach (e :: es) env = (false, assign e env) :: assignEach es env := by
  cases e <;> first | rfl | cases h
theorem assign_len : ∀ {es : List Expr}, (assignEach es env).length = es.length
  | [] => rfl
  | e :: es => by
    have := assign_len (es := es)
    cases e <;> (show (assignEach es env).length + 1 = _; rw [this]; rfl)
theorem assign_find : ∀ {es : List Expr}, es.all notStar = true → (assignEach es env).findIdx? (·.1) = none
  | [], _ => rfl
  | e :: es, h => by
    rw [List.all_cons, Bool.and_eq_true] at h
    rw [assign_cons h.1, List.findIdx?_cons]
    show (if false = true then _ else _) = _
    rw [if_neg (by decide), assign_find h.2]; rfl
theorem star_few : ∀ {es : List Expr}, es.all notStar = true → ∀ pos, (backTo pos (starEach es env)).all (fun x => !x.1) = true
  | [], _, _ => rfl
  | e :: es, h, pos => by
    rw [List.all_cons, Bool.and_eq_true] at h
    rw [star_cons h.1]
    show (true && (backTo pos (starEach es env)).all (fun x => !x.1)) = true
    rw [star_few h.2 pos]; rfl
theorem few_ok (h : es.all notStar = true) (hl : es.length < 20) (pos : Pos) : methodCallForm (es.length + ([] : List Keyword).length) (backTo pos (starEach es env)) (backToKw pos (keywordEach [] env)) = true := by
  have e1 := star_few (env := env) h pos
  show ((backTo pos (starEach es env)).all (fun x => !x.1) && true && decide (es.length + 0 + 0 < 30)) = true
  rw [e1, decide_eq_true (by omega)]; rfl
theorem meth_ok {o : Expr} {m : Str} {apos pos : Pos} (hb : baseOk o = true) (h : es.all notStar = true) (hl : es.length < 20) (hline : (apos.endLine == pos.line) = true) : eval (.Call (.Attribute o m apos) es [] pos) env = (do
      let ov ← eval o env
      standAt apos.atName
      let (f, first) ← holding [ov] (getMethod ov m (plainOf o env))
      callWith pos f first (backTo pos (starEach es env)) (backToKw pos (keywordEach [] env))) := by
  show (do
    let ov ← attributeBase o m env (eval o env)
    standAt apos.atName
    methodCall o m apos pos env ov (es.length + ([] : List Keyword).length) (backTo pos (starEach es env)) (backToKw pos (keywordEach [] env))) = _
  rw [base_ok hb]
  simp only [mcall_line (few_ok h hl pos) hline]
end
structure Tx where
  /-- a def's name, number, arity -/
  fns : List (Str × Nat × Nat)
  /-- a class's name, number, its __init__'s number and arity (with self) -/
  cls : List (Str × Nat × Nat × Nat)
  csts : List (Str × Nat)
  /-- the names of fields and methods -/
  fld : List Str
  /-- a method's name by its place among these, its arity (with self) -/
  mts : List (Nat × Nat)
  /-- an exception's name and number -/
  exs : List (Str × Nat)
  /-- whether the def may make its lambda -/
  key : Bool := false
  /-- the def's names that hold dicts where they are walked -/
  dv : List Str := []
  /-- the exception classes that may come; those whose instances keep a line; of which class each is, by name -/
  leaf : List Nat := []
  lnd : List Nat := []
  kinds : List ((Nat × Str) × Bool) := []
  /-- in a clause's suite: the slot of the exception's name, its class -/
  hot : Option (Nat × Nat) := none
  /-- the exception classes with an own __init__: its number and arity (with self); classes whose __init__ is that of ValueError -/
  xn : List (Nat × Nat × Nat) := []
  vb : List Str := []
def findS : List Str → Str → Nat → Option Nat
  | [], _, _ => none
  | y :: r, x, i => if y = x then some i else findS r x (i + 1)
theorem findS_ok : ∀ {N : List Str} {x : Str} {i j : Nat}, findS N x i = some j → i ≤ j ∧ N[j - i]? = some x
  | y :: r, x, i, j, h => by
    unfold findS at h
    split at h
    · cases h
      rename_i e
      exact ⟨Nat.le_refl _, by simp [e]⟩
    · obtain ⟨h1, h2⟩ := findS_ok h
      refine ⟨by omega, ?_⟩
      rw [show j - i = (j - (i + 1)) + 1 by omega]
      simpa using h2
theorem findS_at {N : List Str} {x : Str} {j : Nat} (h : findS N x 0 = some j) : N[j]? = some x := (findS_ok h).2
def bltNames : List Str := ["len", "abs", "min", "max", "all", "int", "list", "tuple", "bool", "str", "isinstance", "range", "sorted", "dict", "enumerate", "zip", "set"]
def primOf (x : Str) (n : Nat) : Option Prim :=
  if x = "len" then some .len else if x = "abs" then some .abs else if x = "all" then some .all else
  if x = "min" then (if n = 2 then some .min2 else some .min1) else if x = "max" then (if n = 2 then some .max2 else some .max1) else
  if x = "int" then some .int else if x = "list" then some .list else if x = "tuple" then some .tuple else if x = "sorted" then some .sorted else if x = "dict" then some .dict else if x = "str" then some .str else none
def tyOf (x : Str) : Option Ty := if x = "int" then some .int else if x = "bool" then some .bool else if x = "tuple" then some .tuple else if x = "str" then some .str else none
def isVis (sc : Scope) (x : Str) : Bool := match sc.names.lookup x with
  | some .local => true
  | some .cell => true
  | some .free => true
  | _ => false
def isLoc (sc : Scope) (x : Str) : Bool := match sc.names.lookup x with
  | some .local => true
  | some .cell => true
  | _ => false
def isGlo (sc : Scope) (x : Str) : Bool := match sc.names.lookup x with
  | some .globalImplicit => true
  | _ => false
def dbg (x : Str) : Bool := x == "__debug__" || x == "__classdict__" || x == "__name__"
def grd {α : Type} (b : Bool) (o : Option α) : Option α := if b = true then o else none
theorem grd_get {α : Type} {b : Bool} {o : Option α} {x : α} (h : grd b o = some x) : b = true ∧ o = some x := by
  unfold grd at h
  split at h
  · exact ⟨by assumption, h⟩
  · cases h
mutual
/-- a target of names -/
def trP (N : List Str) (sc : Scope) : Expr → Option P
  | .Name x _ => grd (isLoc sc x) ((findS N x 0).map .v)
  | .Tuple es _ _ => trPs N sc es
  | _ => none
def trPs (N : List Str) (sc : Scope) : List Expr → Option P
  | [] => some .nil
  | e :: es => grd (notStar e) (match trP N sc e, trPs N sc es with
    | some p, some q => some (.cons p q)
    | _, _ => none)
end
def ownOf (N : List Str) (sc : Scope) : List (Str × Nat) := sc.names.filterMap fun y => match y.2 with
  | .local => (findS N y.1 0).map fun i => (y.1, i)
  | .cell => (findS N y.1 0).map fun i => (y.1, i)
  | _ => none
def getArgs (m : Str) (as : List Expr) : Option (Expr × Expr) := if m = "get" then (match as with | [a, b] => some (a, b) | _ => none) else none
theorem getArgs_get {m : Str} {as : List Expr} {a b : Expr} (h : getArgs m as = some (a, b)) : m = "get" ∧ as = [a, b] := by
  unfold getArgs at h
  split at h
  · rename_i e
    split at h
    · cases h; exact ⟨e, rfl⟩
    · cases h
  · cases h
def rngTy (t : Bool) : Str := if t = true then "tuple" else "list"
def rngOf (as : List Expr) : Option (List Expr) := match as with
  | [.Call (.Name x _) rs [] _] => if x = "range" then some rs else none
  | _ => none
theorem rngOf_get {as rs : List Expr} (h : rngOf as = some rs) : ∃ p p2, as = [.Call (.Name "range" p) rs [] p2] := by
  unfold rngOf at h
  split at h
  · split at h
    · rename_i e; cases h; subst e; exact ⟨_, _, rfl⟩
    · cases h
  · cases h
def rngArgs (x : Str) (as : List Expr) : Option (Bool × List Expr) := if x = rngTy false then (rngOf as).map fun r => (false, r) else if x = rngTy true then (rngOf as).map fun r => (true, r) else none
theorem rngArgs_get {x : Str} {as rs : List Expr} {t : Bool} (h : rngArgs x as = some (t, rs)) : x = rngTy t ∧ ∃ p p2, as = [.Call (.Name "range" p) rs [] p2] := by
  unfold rngArgs at h
  split at h
  · rename_i e
    cases h1 : rngOf as with
    | none => rw [h1] at h; cases h
    | some r => rw [h1] at h; cases h; exact ⟨e, rngOf_get h1⟩
  split at h
  · rename_i e
    cases h1 : rngOf as with
    | none => rw [h1] at h; cases h
    | some r => rw [h1] at h; cases h; exact ⟨e, rngOf_get h1⟩
  · cases h
def orDv : Expr → Option Expr
  | .BoolOp .Or [a, .Dict [] [] _] _ => some a
  | _ => none
theorem orDv_get {e a : Expr} (h : orDv e = some a) : ∃ p pos, e = .BoolOp .Or [a, .Dict [] [] p] pos := by
  unfold orDv at h
  split at h
  · cases h; exact ⟨_, _, rfl⟩
  · cases h
def bmOf0 (m : Str) (n : Nat) : Option Prim :=
  if m = "append" ∧ n = 1 then some .append else if m = "pop" ∧ n = 0 then some .pop else 
  if m = "pop" ∧ n = 2 then some .dpop else if m = "pop" ∧ n = 1 then some .popAt else if m = "extend" ∧ n = 1 then some .extend else if m = "insert" ∧ n = 2 then some .insert else if m = "index" ∧ n = 1 then some .index else if m = "join" ∧ n = 1 then some .join else if m = "split" ∧ n = 1 then some .split else none
def bmOf (dv : Bool) (m : Str) (n : Nat) : Option Prim := if dv = true ∧ m = "pop" ∧ n = 1 then some .dpop1 else if m = "remove" ∧ n = 1 then some .remove else if m = "count" ∧ n = 1 then some .count else bmOf0 m n
def parName : Arguments → Option Str
  | ⟨[], [⟨x, none, _⟩], none, [], [], none, []⟩ => some x
  | _ => none
theorem parName_get {a : Arguments} {x : Str} (h : parName a = some x) : ∃ p, a = lamPar x p := by
  unfold parName at h
  split at h
  · cases h; exact ⟨_, rfl⟩
  · cases h
def cons0 : Expr → Bool
  | .Constant (.int i) _ _ => decide (i = 0)
  | _ => false
theorem cons0_get {e : Expr} (h : cons0 e = true) : ∃ k p, e = .Constant (.int 0) k p := by
  unfold cons0 at h
  split at h
  · rw [of_decide_eq_true h]; exact ⟨_, _, rfl⟩
  · cases h
def nameOf : Expr → Option Str
  | .Name y _ => some y
  | _ => none
theorem nameOf_get {e : Expr} {x : Str} (h : nameOf e = some x) : ∃ p, e = .Name x p := by
  unfold nameOf at h
  split at h
  · cases h; exact ⟨_, rfl⟩
  · cases h
def subName : Expr → Option Str
  | .Subscript a i _ => if cons0 i = true then nameOf a else none
  | _ => none
theorem subName_get {e : Expr} {x : Str} (h : subName e = some x) : ∃ p p1 p2 k, e = lamSub x p p1 p2 k := by
  unfold subName at h
  split at h
  · split at h
    · rename_i h1
      obtain ⟨k, p1, rfl⟩ := cons0_get h1
      obtain ⟨p, rfl⟩ := nameOf_get h
      exact ⟨p, p1, _, k, rfl⟩
    · cases h
  · cases h
def isFunK : ScopeKind → Bool
  | .function => true
  | _ => false
def lamSc (x : Str) (sc : Scope) : Bool := !sc.isCoroutine && !sc.isGenerator && isFunK sc.kind && decide (sc.names = [(x, .local)]) && !(x == "__debug__")
theorem lamSc_get {x : Str} {sc : Scope} (h : lamSc x sc = true) : sc.isCoroutine = false ∧ sc.isGenerator = false ∧ sc.kind = .function ∧ sc.names = [(x, .local)] ∧ (x == ("__debug__" : Str)) = false := by
  unfold lamSc at h
  simp only [Bool.and_eq_true, Bool.not_eq_true', decide_eq_true_eq] at h
  obtain ⟨⟨⟨⟨h1, h2⟩, h3⟩, h4⟩, h5⟩ := h
  refine ⟨h1, h2, ?_, h4, h5⟩
  unfold isFunK at h3
  split at h3
  · assumption
  · cases h3
def lamOk : Expr → Bool
  | .Lambda a b sc _ => match parName a with
    | some x => decide (subName b = some x) && lamSc x sc
    | none => false
  | _ => false
theorem lamOk_get {e : Expr} (h : lamOk e = true) : ∃ x p p1 p2 p3 k sc lp, e = .Lambda (lamPar x p) (lamSub x p1 p2 p3 k) sc lp ∧ lamSc x sc = true := by
  unfold lamOk at h
  split at h
  · split at h
    · rename_i x hx
      rw [Bool.and_eq_true, decide_eq_true_eq] at h
      obtain ⟨p, rfl⟩ := parName_get hx
      obtain ⟨p1, p2, p3, k, rfl⟩ := subName_get h.1
      exact ⟨x, p, p1, p2, p3, k, _, _, rfl, h.2⟩
    · cases h
  · cases h
def keyLam : List Keyword → Option Expr
  | [⟨some k, e, _⟩] => if k = "key" then some e else none
  | _ => none
theorem keyLam_get {ks : List Keyword} {e : Expr} (h : keyLam ks = some e) : ∃ p, ks = [⟨some "key", e, p⟩] := by
  unfold keyLam at h
  split at h
  · split at h
    · rename_i h1; cases h; exact ⟨_, by rw [h1]⟩
    · cases h
  · cases h
def oneE : List Expr → Option Expr
  | [a] => some a
  | _ => none
theorem oneE_get {es : List Expr} {e : Expr} (h : oneE es = some e) : es = [e] := by
  unfold oneE at h
  split at h
  · cases h; rfl
  · cases h
def revStep : Option Expr → Option Expr → Expr → Bool
  | none, none, .UnaryOp .USub (.Constant (.int 1) _ _) _ => true
  | _, _, _ => false
theorem revStep_get {lo hi : Option Expr} {st : Expr} (h : revStep lo hi st = true) : lo = none ∧ hi = none ∧ ∃ k p1 p2, st = .UnaryOp .USub (.Constant (.int 1) k p1) p2 := by
  unfold revStep at h
  split at h
  · exact ⟨rfl, rfl, _, _, _, rfl⟩
  · cases h
def isiArgs : List Expr → Option (Expr × Str)
  | [a, .Name t _] => some (a, t)
  | _ => none
theorem isiArgs_get {es : List Expr} {a : Expr} {t : Str} (h : isiArgs es = some (a, t)) : ∃ p, es = [a, .Name t p] := by
  unfold isiArgs at h
  split at h
  · cases h; exact ⟨_, rfl⟩
  · cases h
def isDv (tx : Tx) : Expr → Bool
  | .Name x _ => tx.dv.contains x
  | _ => false
def hotAt (tx : Tx) (i : Nat) : Bool := match tx.hot with
  | some h => decide (h.1 = i)
  | none => false
def cold (tx : Tx) : Bool := tx.hot.isNone
theorem cold_get {tx : Tx} (h : cold tx = true) : tx.hot = none := by
  unfold cold at h
  cases e : tx.hot with
  | none => rfl
  | some _ => rw [e] at h; cases h
def hotName (tx : Tx) (N : List Str) (sc : Scope) (e : Expr) : Option (Nat × Nat) := (nameOf e).bind fun x => tx.hot.bind fun h => grd (isVis sc x && !dbg x && decide (findS N x 0 = some h.1)) (some h)
def kindOfN (tx : Tx) (sc : Scope) (c : Nat) (y : Str) : Option Bool := grd (isGlo sc y) (tx.kinds.lookup (c, y))
def kindsOf (tx : Tx) (sc : Scope) (y : Str) : Option (List (Nat × Bool)) := grd (!tx.leaf.isEmpty && tx.leaf.all fun c => (kindOfN tx sc c y).isSome) (some (tx.leaf.map fun c => (c, (kindOfN tx sc c y).getD false)))
theorem kindsOf_get {tx : Tx} {sc : Scope} {y : Str} {l : List (Nat × Bool)} (h : kindsOf tx sc y = some l) : tx.leaf ≠ [] ∧ ∀ c b, l.lookup c = some b → c ∈ tx.leaf ∧ kindOfN tx sc c y = some b := by
  unfold kindsOf at h
  unfold grd at h
  split at h
  · rename_i h1
    cases h
    simp only [Bool.and_eq_true, List.all_eq_true] at h1
    refine ⟨fun z => by rw [z] at h1; exact absurd h1.1 (by decide), fun c b e => ?_⟩
    have key : ∀ (ls : List Nat), (∀ c ∈ ls, (kindOfN tx sc c y).isSome = true) → (ls.map fun c => (c, (kindOfN tx sc c y).getD false)).lookup c = some b → c ∈ ls ∧ kindOfN tx sc c y = some b := by
      intro ls
      induction ls with
      | nil => intro _ e; cases e
      | cons d ls ih =>
        intro hs e
        rw [List.map_cons, List.lookup_cons] at e
        split at e
        · rename_i q
          have q : c = d := by simpa using q
          subst q
          cases e
          obtain ⟨b, eb⟩ := Option.isSome_iff_exists.mp (hs c List.mem_cons_self)
          rw [eb]
          exact ⟨List.mem_cons_self, rfl⟩
        · obtain ⟨i1, i2⟩ := ih (fun c hc => hs c (List.mem_cons_of_mem _ hc)) e
          exact ⟨List.mem_cons_of_mem _ i1, i2⟩
    exact key _ h1.2 e
  · cases h
def kindAny (tx : Tx) (sc : Scope) (c : Nat) : List Expr → Option Bool
  | [] => some false
  | e :: r => (nameOf e).bind fun y => (kindOfN tx sc c y).bind fun b => (kindAny tx sc c r).map fun d => b || d
def tupOf : Expr → Option (List Expr)
  | .Tuple es _ _ => some es
  | _ => none
theorem tupOf_get {e : Expr} {es : List Expr} (h : tupOf e = some es) : ∃ k p, e = .Tuple es k p := by
  unfold tupOf at h
  split at h
  · cases h; exact ⟨_, _, rfl⟩
  · cases h
def kindArg (tx : Tx) (sc : Scope) (c : Nat) (t : Expr) : Option Bool := match tupOf t with
  | some es => grd (decide (es.length ≤ 1000)) (kindAny tx sc c es)
  | none => (nameOf t).bind fun y => kindOfN tx sc c y
def twoE : List Expr → Option (Expr × Expr)
  | [a, b] => some (a, b)
  | _ => none
theorem twoE_get {es : List Expr} {r : Expr × Expr} (h : twoE es = some r) : es = [r.1, r.2] := by
  unfold twoE at h
  split at h
  · cases h; rfl
  · cases h
def hotIs (tx : Tx) (N : List Str) (sc : Scope) (f : Expr) (as : List Expr) : Option Bool := match f with
  | .Name x _ => grd (decide (x = "isinstance") && isGlo sc x) ((twoE as).bind fun r => (hotName tx N sc r.1).bind fun h => kindArg tx sc h.2 r.2)
  | _ => none
def hotLn (tx : Tx) (N : List Str) (sc : Scope) (o : Expr) (f : Str) : Option E := (hotName tx N sc o).bind fun h => grd (decide (f = "line")) (some (if tx.lnd.contains h.2 = true then .var h.1 else .nil))
def isvOf (tx : Tx) (sc : Scope) (as : List Expr) : Option (Expr × List (Nat × Bool)) := (isiArgs as).bind fun r => grd (tyOf r.2).isNone ((kindsOf tx sc r.2).map fun l => (r.1, l))
def veiOk (tx : Tx) (sc : Scope) (o : Expr) : Bool := match nameOf o with
  | some y => isGlo sc y && !dbg y && tx.vb.contains y
  | none => false
section
variable (tx : Tx) (N : List Str)
mutual
def trE : Nat → Scope → Expr → Option E
  | 0, _, _ => none
  | n + 1, sc, e => match e with
    | .Constant c _ _ => match c with
      | .none => some .cn
      | .bool b => some (.cb b)
      | .int i => some (.ci i)
      | .str x => some (.cs x.cps.toList)
      | _ => none
    | .Name x _ => grd (!dbg x) (if isVis sc x = true then (findS N x 0).bind fun i => grd (!hotAt tx i) (some (.var i)) else grd (isGlo sc x) ((tx.csts.lookup x).map .cst))
    | .Tuple es _ _ => (trA n sc es).bind fun c => grd (decide (alen c ≤ 1000)) (some (.tup c))
    | .List es _ => (trA n sc es).bind fun c => grd (decide (alen c ≤ 1000)) (some (.lst c))
    | .Dict ks vs _ => match ks, vs with
      | [], [] => some .dnew
      | ks, vs => grd (decide (ks.length ≤ 15) && ks.all (·.isSome) && decide (ks.length = vs.length) && !ks.isEmpty) ((trD n sc ks vs).map fun cs => .dict (inter cs))
    | .BinOp a op b _ => (trOp op).bind fun o => (trE n sc a).bind fun ca => (trE n sc b).bind fun cb => some (.bin o ca cb)
    | .UnaryOp op a _ => match op with
      | .USub => (trE n sc a).map .neg
      | .Not => (trE n sc a).map (notOf a)
      | _ => none
    | .Compare a ops bs _ => match ops, bs with
      | [op], [b] => grd (notSet b) ((trCmp op).bind fun o => (trE n sc a).bind fun ca => (trE n sc b).bind fun cb => some (.cmp o ca cb))
      | [op, op'], [b, b'] => grd (!lastMarks [op, op'] [b, b']) ((trCmp op).bind fun o => (trCmp op').bind fun o' => (trE n sc a).bind fun ca => (trE n sc b).bind fun cb => (trE n sc b').bind fun cc => some (.cmp2 o o' ca cb cc))
      | _, _ => none
    | .BoolOp op vs _ => trB n sc op vs
    | .Subscript a i _ => match i with
      | .Slice lo hi st _ => match st with
        | none => (trE n sc a).bind fun ca => (trO n sc lo).bind fun cl => (trO n sc hi).bind fun ch => some (.slc ca cl ch)
        | some s => grd (revStep lo hi s) ((trE n sc a).map .rev)
      | i => grd (noSl i) ((trE n sc a).bind fun ca => (trE n sc i).bind fun ci => some (.idx ca ci))
    | .Attribute o f _ => match hotLn tx N sc o f with
      | some c => some c
      | none => grd (baseOk o) (if f = "line" then (trE n sc o).map .lin else (findS tx.fld f 0).bind fun k => (trE n sc o).bind fun co => some (.attr co k))
    | .Call f as ks pos => match ks with
      | [] => match hotIs tx N sc f as with
        | some b => some (.cb b)
        | none => match f with
          | .Name x _ => grd (!dbg x && isGlo sc x && as.all notStar && (cold tx || x == "str")) (match tx.fns.lookup x with
            | some (k, ar) => (trA n sc as).bind fun c => grd (cold tx && decide (alen c = ar)) (some (.call k c))
            | none => match tx.cls.lookup x with
              | some (cl, k, ar) => (trA n sc as).bind fun c => grd (cold tx && (decide (alen c + 1 = ar) && decide (0 < alen c))) (some (.new cl k c))
              | none => match tx.exs.lookup x with
              | some c => match tx.xn.lookup c with
                | some (f, ar) => (trA n sc as).bind fun ca => grd (cold tx && (decide (alen ca + 1 = ar) && (decide (0 < alen ca) && decide (alen ca ≤ 1000)))) (some (.mkN c f ca))
                | none => (oneE as).bind fun a => (trE n sc a).bind fun ca => grd (!tx.lnd.contains c) (some (.mkE c ca))
              | none => if x = "isinstance" then (match isvOf tx sc as with
                | some (a, l) => (trE n sc a).map fun ca => .isx ca l
                | none => (isiArgs as).bind fun r => grd (isGlo sc r.2) ((tyOf r.2).bind fun ty => (trE n sc r.1).bind fun ca => some (.isi ca ty)))
                else match rngArgs x as with
                | some (t, rs) => grd (isGlo sc "range" && rs.all notStar) (match rs with
                  | [a] => (trE n sc a).map fun ca => .rng t (.cons ca .nil)
                  | [a, b] => (trE n sc a).bind fun ca => (trE n sc b).map fun cb => .rng t (.cons ca (.cons cb .nil))
                  | _ => none)
                | none => (primOf x as.length).bind fun p => (trA n sc as).bind fun c => grd (decide (0 < alen c)) (some (.prim p c)))
          | .Attribute o m apos => grd (baseOk o && as.all notStar && decide (as.length < 20) && (apos.endLine == pos.line)) (match getArgs m as with
            | some (e, f) => (trE n sc o).bind fun co => (trE n sc e).bind fun ce => (trE n sc f).map fun cf => .bm .get co (.cons ce (.cons cf .nil))
            | none => match bmOf (isDv tx o) m as.length with
            | some p => (trE n sc o).bind fun co => (trA n sc as).bind fun c => grd (decide (alen c = as.length)) (some (.bm p co c))
            | none => grd (cold tx) <| if m = "__init__" then grd (veiOk tx sc o) ((trA n sc as).bind fun c => grd (decide (0 < alen c) && decide (alen c ≤ 1000)) (some (.vei c))) else (findS tx.fld m 0).bind fun k => (tx.mts.lookup k).bind fun ar => (trE n sc o).bind fun co => (trA n sc as).bind fun c => grd (decide (alen c + 1 = ar)) (some (.meth k co c)))
          | _ => none
      | ks => (keyLam ks).bind fun l => (oneE as).bind fun a => grd (cold tx && tx.key && decide (nameOf f = some "sorted") && isGlo sc "sorted" && lamOk l && notStar a) ((trE n sc a).map .skey)
    | .ListComp elt gs scope _ => match gs with
      | [⟨tg, iter, ifs, asy⟩] => grd (cold tx && decide (asy = 0) && notSet iter && blkC N sc scope (ownOf N scope)) ((trP N scope tg).bind fun p => grd (wfP p && (slotsP p).all fun i => decide (i ∈ (ownOf N scope).map (·.2))) ((trI n sc tg iter).bind fun ki => (trE n scope elt).bind fun ce => (trC n scope ifs).bind fun cc =>
          some (.comp ce p ki.1 ki.2 cc ((ownOf N scope).map (·.2)))))
      | _ => none
    | _ => none
def trA : Nat → Scope → List Expr → Option E
  | 0, _, _ => none
  | n + 1, sc, es => match es with
    | [] => some .nil
    | e :: es => grd (notStar e) ((match orDv e with
      | some a => (trE n sc a).map E.orD
      | none => trE n sc e).bind fun c => (trA n sc es).bind fun r => some (.cons c r))
def trD : Nat → Scope → List (Option Expr) → List Expr → Option (List (E × E))
  | 0, _, _, _ => none
  | n + 1, sc, ks, vs => match ks, vs with
    | [], [] => some []
    | some k :: ks, v :: vs => (trE n sc k).bind fun ck => (trE n sc v).bind fun cv => (trD n sc ks vs).map fun r => (ck, cv) :: r
    | _, _ => none
def trB : Nat → Scope → BoolOp → List Expr → Option E
  | 0, _, _, _ => none
  | n + 1, sc, op, vs => match vs with
    | [] => none
    | [a] => trE n sc a
    | a :: r => (trE n sc a).bind fun ca => (trB n sc op r).bind fun cr => match op with
      | .And => some (.and ca cr)
      | .Or => some (.or ca cr)
def trO : Nat → Scope → Option Expr → Option E
  | 0, _, _ => none
  | n + 1, sc, o => match o with
    | none => some .cn
    | some e => (trE n sc e).map .part
def trC : Nat → Scope → List Expr → Option E
  | 0, _, _ => none
  | n + 1, sc, l => match l with
    | [] => some (.cb true)
    | [c] => trE n sc c
    | _ => none
def trI : Nat → Scope → Expr → Expr → Option (IK × E)
  | 0, _, _, _ => none
  | n + 1, sc, tg, e => match e with
    | .Call (.Name x p) as [] pos => if x = "range" then grd (isGlo sc x && as.all notStar && (tx.fns.lookup x).isNone && (tx.cls.lookup x).isNone) ((trA n sc as).bind fun c => grd (decide (alen c = as.length) && (decide (alen c = 1) || decide (alen c = 2) || decide (alen c = 3))) (some (.range, c)))
      else if x = "enumerate" then grd (isTupE tg && isGlo sc x && as.all notStar && (tx.fns.lookup x).isNone && (tx.cls.lookup x).isNone) ((trA n sc as).bind fun c => grd (decide (alen c = as.length) && decide (alen c = 1)) (some (.enum, c)))
      else if x = "zip" then grd (isTupE tg && isGlo sc x && as.all notStar && (tx.fns.lookup x).isNone && (tx.cls.lookup x).isNone) ((trA n sc as).bind fun c => grd (decide (alen c = as.length) && decide (alen c = 2)) (some (.zip, c)))
      else (trE n sc e).map fun c => (.any, .cons c .nil)
    | e => (trE n sc e).map fun c => (.any, .cons c .nil)
end
end
structure Facts (P : Program) (w : World) (K : PySem.W.Frag) (mg : Str → Option Value) (base : Heap) (T : Tab0) (G : Ctx) (k : Nat) (tx : Tx) : Prop where
  fns : ∀ x f n, tx.fns.lookup x = some (f, n) → ∃ fA fd ps, mg x = some (.ref fA) ∧ FnI P w K mg base T G k f fA fd ps ∧ ps.length = n
  cls : ∀ x c f n, tx.cls.lookup x = some (c, f, n) → ∃ fA fd ps, mg x = some (.ref (T.cls c)) ∧ Mk K (T.cls c) fA ∧ Cls K (T.cls c) ∧ FnI P w K mg base T G k f fA fd ps ∧ ps.length = n
  mts : ∀ cl m f mn ar, G.mt cl m = some f → tx.fld[m]? = some mn → tx.mts.lookup m = some ar → ∃ fA fd ps, Meth K (T.cls cl) mn fA ∧ FnI P w K mg base T G k f fA fd ps ∧ ps.length = ar
  fl : ∀ cl i x, G.fl cl i = true → tx.fld[i]? = some x → NoAttr K (T.cls cl) x
  csts : ∀ x c, tx.csts.lookup x = some c → ∃ d v u, mg x = some u ∧ RelV v u ∧ G.cst c = some d ∧ ∀ H, RepV K H d v
  blt : ∀ x ∈ bltNames, mg x = none
  fld : T.fld = tx.fld
  /-- a class is raised -/
  exs : ∀ x c, tx.exs.lookup x = some c → tx.lnd.contains c = false → mg x = some (.ref (T.ecl c)) ∧ ExcM K (T.ecl c) ∧ T.exk c = some false
  leaf : ∀ c, (T.exk c).isSome = true → c ∈ tx.leaf
  lnd : ∀ c ∈ tx.leaf, T.exk c = some (tx.lnd.contains c)
  exi : ∀ c ∈ tx.leaf, ExcI K (T.ecl c)
  kds : ∀ c ∈ tx.leaf, ∀ y b, tx.kinds.lookup (c, y) = some b → ∃ v cv, (y == ("__debug__" : Str)) = false ∧ RelV v cv ∧ (∀ u, RelV v u → u = cv) ∧ (mg y = some cv ∨ (mg y = none ∧ bootBuiltins y = some cv ∧ y ≠ "__name__")) ∧
    PySem.W.kitOne K (.ref (T.ecl c)) cv = some b ∧ PySem.W.exmOne K (.ref (T.ecl c)) cv = some b
  /-- a class with an own __init__ is made -/
  xn : ∀ x c f n, tx.exs.lookup x = some c → tx.xn.lookup c = some (f, n) → ∃ fA fd ps, mg x = some (.ref (T.ecl c)) ∧ ExN K (T.ecl c) fA ∧ FnI P w K mg base T G k f fA fd ps ∧ ps.length = n
  vb : ∀ y ∈ tx.vb, ∃ B, mg y = some (.ref B) ∧ VeB K B
structure ScopeOk (X : Cx) (N : List Str) (sc : Scope) : Prop where
  n : X.N = N
  nd : N.Nodup
  vis : ∀ x k, sc.names.lookup x = some k → ∃ k', X.env.scope.names.lookup x = some k' ∧ (k' = k ∨ (k = .free ∧ k' = .cell))
  fn : ∀ x, sc.names.lookup x = some .cell → X.fn x = true
section
variable {X : Cx} {N : List Str} {sc : Scope} {T : Tab} {G : Ctx} {tx : Tx} {k : Nat}
theorem ScopeOk.look (S : ScopeOk X N sc) {x : Str} {k : NameKind} (h : sc.names.lookup x = some k) (hk : k ≠ .free) : X.env.scope.names.lookup x = some k := by
  obtain ⟨k', e, h1 | ⟨h1, _⟩⟩ := S.vis x k h
  · rw [e, h1]
  · exact absurd h1 hk
theorem ScopeOk.see (S : ScopeOk X N sc) {x : Str} (h : isVis sc x = true) : Vis X.env.scope x := by
  unfold isVis at h
  split at h
  · rename_i e; exact .inl (S.look e (by decide))
  · rename_i e; exact .inr (.inl (S.look e (by decide)))
  · rename_i e
    obtain ⟨k', e2, h1 | ⟨_, h1⟩⟩ := S.vis x _ e
    · subst h1; exact .inr (.inr e2)
    · subst h1; exact .inr (.inl e2)
  · cases h
theorem ScopeOk.glo (S : ScopeOk X N sc) {x : Str} (h : isGlo sc x = true) : Gl X x := by
  unfold isGlo at h
  split at h
  · rename_i e; exact S.look e (by decide)
  · cases h
theorem ScopeOk.loc (S : ScopeOk X N sc) {x : Str} (h : isLoc sc x = true) : Loc X.env.scope x ∧ (X.fn x = true ∨ X.env.scope.names.lookup x = some .local) := by
  unfold isLoc at h
  split at h
  · rename_i e; exact ⟨.inl (S.look e (by decide)), .inr (S.look e (by decide))⟩
  · rename_i e; exact ⟨.inr (S.look e (by decide)), .inl (S.fn x e)⟩
  · cases h
theorem dbg_ok {x : Str} (h : (!dbg x) = true) : (x == ("__debug__" : Str)) = false ∧ (x == ("__classdict__" : Str)) = false ∧ x ≠ "__name__" := by
  unfold dbg at h
  simp only [Bool.not_eq_true', Bool.or_eq_false_iff] at h
  exact ⟨h.1.1, h.1.2, fun e => by have := h.2; rw [e] at this; simp at this⟩
theorem ScopeOk.blk (S : ScopeOk X N sc) {scope : Scope} {own : List (Str × Nat)} (ok : BlkOk N sc scope own) (s : Shared) (H : Hp) (C : Addr) (cl : List (Str × Addr)) (fp : List Addr) : ScopeOk (Blk X s H scope C cl fp) N scope where
  n := S.n
  nd := S.nd
  vis := fun x k h => by
    have key : ∀ (names : List (Str × NameKind)), names.lookup x = some k → ∃ k', (names.map fun (n, k) => if (k == NameKind.free && X.env.scope.kind == .function && X.env.scope.names.lookup n == some .cell) then (n, NameKind.cell) else (n, k)).lookup x = some k' ∧ (k' = k ∨ (k = .free ∧ k' = .cell)) := by
      intro names
      induction names with
      | nil => intro h; simp at h
      | cons y r ih =>
        obtain ⟨n, k0⟩ := y
        intro h
        rw [List.lookup_cons] at h
        cases hx : x == n with
        | true =>
          rw [hx] at h
          cases h
          by_cases hc : (k == NameKind.free && X.env.scope.kind == .function && X.env.scope.names.lookup n == some .cell) = true
          · refine ⟨.cell, ?_, .inr ⟨?_, rfl⟩⟩
            · rw [List.map_cons]; dsimp only; rw [if_pos hc, List.lookup_cons, hx]
            · simp only [Bool.and_eq_true, beq_iff_eq] at hc
              exact hc.1.1
          · refine ⟨k, ?_, .inl rfl⟩
            rw [List.map_cons]; dsimp only; rw [if_neg hc, List.lookup_cons, hx]
        | false =>
          rw [hx] at h
          obtain ⟨k', h1, h2⟩ := ih h
          refine ⟨k', ?_, h2⟩
          rw [List.map_cons]
          dsimp only
          by_cases hc : (k0 == NameKind.free && X.env.scope.kind == .function && X.env.scope.names.lookup n == some .cell) = true
          · rw [if_pos hc, List.lookup_cons, hx]; exact h1
          · rw [if_neg hc, List.lookup_cons, hx]; exact h1
    exact key scope.names h
  fn := fun x h => by
    show (scope.names.lookup x == some .cell) = true
    rw [h]; rfl
theorem ScopeOk.blkOk (S : ScopeOk X N sc) {scope : Scope} {own : List (Str × Nat)} (ok : BlkOk N sc scope own) : BlkOk X.N X.env.scope scope own := by
  rw [S.n]
  refine ⟨ok.kind, ok.uniq, ok.ix, fun y hy e => ?_, ok.own⟩
  rcases ok.free y hy e with h | h
  · exact .inl (S.look h (by decide))
  · obtain ⟨k', e2, h1 | ⟨_, h1⟩⟩ := S.vis _ _ h
    · subst h1; exact .inr e2
    · subst h1; exact .inl e2
mutual
theorem trP_ok (S : ScopeOk X N sc) (hc : X.calm = true) : ∀ {e : Expr} {p : P}, trP N sc e = some p → wfP p = true → PG X e (tP X p)
  | .Name x pos, p, h, _ => by
    unfold trP at h
    obtain ⟨h1, h2⟩ := grd_get h
    obtain ⟨i, h3, rfl⟩ := Option.map_eq_some_iff.mp h2
    obtain ⟨l1, l2⟩ := S.loc h1
    exact g_name (by rw [S.n]; exact S.nd) (by rw [S.n]; exact findS_at h3) l1 l2
  | .Tuple es k pos, p, h, hw => by
    have h : trPs N sc es = some p := by simpa [trP] using h
    obtain ⟨h1, h2, h3, h4⟩ := trPs_ok S hc h hw
    exact g_tup hc h1 hw h2 (by rw [assign_len]; exact h4.symm) (assign_find h3)
theorem trPs_ok (S : ScopeOk X N sc) (hc : X.calm = true) : ∀ {es : List Expr} {p : P}, trPs N sc es = some p → wfP p = true → PGs X es (tPs X p) ∧ isTupP p = true ∧ es.all notStar = true ∧ plen p = es.length
  | [], p, h, _ => by
    have h : some P.nil = some p := by simpa [trPs] using h
    cases h
    exact ⟨gs_nil, rfl, rfl, rfl⟩
  | e :: es, p, h, hw => by
    unfold trPs at h
    obtain ⟨h1, h2⟩ := grd_get h
    cases hp : trP N sc e with
    | none => rw [hp] at h2; cases h2
    | some q =>
      cases hq : trPs N sc es with
      | none => rw [hp, hq] at h2; cases h2
      | some r =>
        rw [hp, hq] at h2
        cases h2
        simp only [wfP, Bool.and_eq_true] at hw
        obtain ⟨h3, h4, h5, h6⟩ := trPs_ok S hc hq hw.2
        exact ⟨gs_cons (trP_ok S hc hp hw.1.1) h3 (by rw [assign_cons h1]; rfl), rfl, by rw [List.all_cons, h1, h5]; rfl, by show plen r + 1 = _; rw [h6]; rfl⟩
end
theorem trP_nm (S : ScopeOk X N sc) {x : Str} {pos : Pos} {p : P} (h : trP N sc (.Name x pos) = some p) : PG X (.Name x pos) (tP X p) := by
  unfold trP at h
  obtain ⟨h1, h2⟩ := grd_get h
  obtain ⟨i, h3, rfl⟩ := Option.map_eq_some_iff.mp h2
  obtain ⟨l1, l2⟩ := S.loc h1
  exact g_name (by rw [S.n]; exact S.nd) (by rw [S.n]; exact findS_at h3) l1 l2
end
end MP

set_option linter.all false
set_option maxRecDepth 100000
set_option maxHeartbeats 4000000
set_option Elab.async false
namespace MP
open PySem PySem.Spec PyProof.Rows L2
structure Cxt (X : Cx) (N : List Str) (sc : Scope) (T : Tab) (G : Ctx) (k : Nat) (tx : Tx) : Prop where
  S : ScopeOk X N sc
  F : Facts X.prog X.w X.K X.mg X.base T G k tx
  hu : X.A.units + 65 < cLine
  key : tx.key = true → KeyOk X T
  tk : Tk X T
  cold : tx.hot = none → X.calm = true ∧ T.gh = none ∧ Room (k + 1) X.A
  hot : ∀ i c, tx.hot = some (i, c) → HotX X T i c ∧ c ∈ tx.leaf
section
variable {X : Cx} {N : List Str} {sc : Scope} {T : Tab} {G : Ctx} {tx : Tx} {k : Nat}
theorem Cxt.hr (C : Cxt X N sc T G k tx) (h : MP.cold tx = true) : Room (k + 1) X.A := (C.cold (cold_get h)).2.2
theorem Cxt.room (C : Cxt X N sc T G k tx) (h : MP.cold tx = true) : Room k X.A := (C.hr h).mono (Nat.le_succ k)
theorem Cxt.calm (C : Cxt X N sc T G k tx) (h : MP.cold tx = true) : X.calm = true := (C.cold (cold_get h)).1
theorem Cxt.gh0 (C : Cxt X N sc T G k tx) (h : MP.cold tx = true) : T.gh = none := (C.cold (cold_get h)).2.1
theorem Cxt.nh (C : Cxt X N sc T G k tx) {i : Nat} (h : (!hotAt tx i) = true) : ∀ y, T.gh = some y → i ≠ y.1 := fun y hy e => by
  cases q : tx.hot with
  | none => rw [(C.cold q).2.1] at hy; cases hy
  | some z =>
    obtain ⟨j, c⟩ := z
    obtain ⟨⟨_, _, _, _, _, _, _, _, g, _⟩, _⟩ := C.hot j c q
    rw [g] at hy; cases hy
    unfold hotAt at h
    rw [q, e] at h
    simp at h
theorem Cxt.blk (C : Cxt X N sc T G k tx) (hc : MP.cold tx = true) {scope : Scope} {own : List (Str × Nat)} (ok : BlkOk N sc scope own) (s : Shared) (H : Hp) (c : Addr) (cl : List (Str × Addr)) (fp : List Addr) : Cxt (Blk X s H scope c cl fp) N scope T.off G k tx :=
  ⟨C.S.blk ok s H c cl fp, C.F, C.hu, C.key, tk_off, fun h => ⟨(C.cold h).1, (C.cold h).2.1, (C.cold h).2.2⟩, fun i c h => by rw [cold_get hc] at h; cases h⟩
abbrev OkE (G : Ctx) (k : Nat) (tx : Tx) (N : List Str) (n : Nat) : Prop := ∀ (X : Cx) (sc : Scope) {T : Tab}, Cxt X N sc T G k tx → ∀ e c, trE tx N n sc e = some c → PE X e (tE X T G c) ∧ PT X e (tB X T G c)
abbrev OkA (G : Ctx) (k : Nat) (tx : Tx) (N : List Str) (n : Nat) : Prop := ∀ (X : Cx) (sc : Scope) {T : Tab}, Cxt X N sc T G k tx → ∀ es c, trA tx N n sc es = some c → PA X es (tA X T G c) ∧ es.all notStar = true ∧ alen c = es.length
abbrev OkB (G : Ctx) (k : Nat) (tx : Tx) (N : List Str) (n : Nat) : Prop := ∀ (X : Cx) (sc : Scope) {T : Tab}, Cxt X N sc T G k tx → ∀ op vs c pos, trB tx N n sc op vs = some c → PE X (.BoolOp op vs pos) (tE X T G c) ∧ PW X (.BoolOp op vs pos) (tB X T G c)
abbrev OkD (G : Ctx) (k : Nat) (tx : Tx) (N : List Str) (n : Nat) : Prop := ∀ (X : Cx) (sc : Scope) {T : Tab}, Cxt X N sc T G k tx → ∀ ks vs cs pos, trD tx N n sc ks vs = some cs → PPs X pos ks vs (cs.map fun z => (tE X T G z.1, tE X T G z.2))
abbrev OkO (G : Ctx) (k : Nat) (tx : Tx) (N : List Str) (n : Nat) : Prop := ∀ (X : Cx) (sc : Scope) {T : Tab}, Cxt X N sc T G k tx → ∀ o c, trO tx N n sc o = some c → PO X o (tO X T G c)
abbrev OkC (G : Ctx) (k : Nat) (tx : Tx) (N : List Str) (n : Nat) : Prop := ∀ (X : Cx) (sc : Scope) {T : Tab}, Cxt X N sc T G k tx → ∀ l c, trC tx N n sc l = some c → PTs X l (tB X T G c)
abbrev OkI (G : Ctx) (k : Nat) (tx : Tx) (N : List Str) (n : Nat) : Prop := ∀ (X : Cx) (sc : Scope) {T : Tab}, Cxt X N sc T G k tx → ∀ e ki tg, trI tx N n sc tg e = some ki → PI X tg e (tI X T G ki.1 ki.2)
theorem bind_get {α β : Type} {o : Option α} {f : α → Option β} {y : β} (h : o.bind f = some y) : ∃ x, o = some x ∧ f x = some y := Option.bind_eq_some_iff.mp h
theorem map_get {α β : Type} {o : Option α} {f : α → β} {y : β} (h : o.map f = some y) : ∃ x, o = some x ∧ f x = y := Option.map_eq_some_iff.mp h
theorem both {e : Expr} {c : E} (h : PE X e (tE X T G c)) (hp : plainT e = true) : PE X e (tE X T G c) ∧ PT X e (tB X T G c) := ⟨h, t_val h (isTrue_ok hp)⟩
theorem okA {n : Nat} (hE : OkE G k tx N n) (hA : OkA G k tx N n) : OkA G k tx N (n + 1) := by
  intro X sc T C es c h
  unfold trA at h
  cases es with
  | nil => cases h; exact ⟨a_nil, rfl, rfl⟩
  | cons e es =>
    replace h := grd_get h
    obtain ⟨h1, h⟩ := h
    replace h := bind_get h
    obtain ⟨c1, h2, h⟩ := h
    replace h := bind_get h
    obtain ⟨r, h3, h⟩ := h
    cases h
    obtain ⟨p1, p2, p3⟩ := hA X sc C es r h3
    have he : PE X e (tE X T G c1) := by
      split at h2
      · rename_i a ha
        obtain ⟨p, pos, rfl⟩ := orDv_get ha
        obtain ⟨ca, h4, rfl⟩ := map_get h2
        exact e_orD (hE X sc C a ca h4).1
      · exact (hE X sc C e c1 h2).1
    exact ⟨a_cons he p1 (star_cons h1), by rw [List.all_cons, h1, p2]; rfl, by show alen r + 1 = _; rw [p3]; rfl⟩
theorem okD {n : Nat} (hE : OkE G k tx N n) (hD : OkD G k tx N n) : OkD G k tx N (n + 1) := by
  intro X sc T C ks vs cs pos h
  unfold trD at h
  match ks, vs, h with
  | [], [], h => cases h; exact pps_nil
  | some k :: ks, v :: vs, h =>
    replace h := bind_get h
    obtain ⟨ck, h1, h⟩ := h
    replace h := bind_get h
    obtain ⟨cv, h2, h⟩ := h
    obtain ⟨r, h3, rfl⟩ := map_get h
    exact pps_cons (hE X sc C k ck h1).1 (hE X sc C v cv h2).1 (hD X sc C ks vs r pos h3)
theorem okB {n : Nat} (hE : OkE G k tx N n) (hB : OkB G k tx N n) : OkB G k tx N (n + 1) := by
  intro X sc T C op vs c pos h
  unfold trB at h
  match vs, h with
  | [a], h =>
    obtain ⟨h1, h2⟩ := hE X sc C a c h
    refine ⟨pe_one h1, ?_⟩
    cases op with
    | And => exact pw_and1 h2
    | Or => exact pw_or1 h2
  | a :: b :: r, h =>
    replace h := bind_get h
    obtain ⟨ca, h1, h⟩ := h
    replace h := bind_get h
    obtain ⟨cr, h2, h⟩ := h
    obtain ⟨p1, p2⟩ := hE X sc C a ca h1
    obtain ⟨p3, p4⟩ := hB X sc C op (b :: r) cr pos h2
    cases op with
    | And => cases h; exact ⟨e_and p1 p3, w_and p2 p4⟩
    | Or => cases h; exact ⟨e_or p1 p3, w_or p2 p4⟩
theorem okO {n : Nat} (hE : OkE G k tx N n) : OkO G k tx N (n + 1) := by
  intro X sc T C o c h
  unfold trO at h
  cases o with
  | none => cases h; exact o_none
  | some e =>
    obtain ⟨c1, h1, rfl⟩ := map_get h
    exact o_some (hE X sc C e c1 h1).1
theorem okC {n : Nat} (hE : OkE G k tx N n) : OkC G k tx N (n + 1) := by
  intro X sc T C l c h
  unfold trC at h
  match l, h with
  | [], h => cases h; exact c_yes
  | [e], h => exact c_one (hE X sc C e c h).2
theorem blt_of (C : Cxt X N sc T G k tx) {x : Str} (h : x ∈ bltNames) : X.mg x = none := C.F.blt x h
theorem okI {n : Nat} (hE : OkE G k tx N n) (hA : OkA G k tx N n) : OkI G k tx N (n + 1) := by
  intro X sc T C e ki tg h
  have gen : ∀ {ki : IK × E}, (trE tx N n sc e).map (fun c => ((IK.any, E.cons c .nil) : IK × E)) = some ki → PI X tg e (tI X T G ki.1 ki.2) := fun {ki} h => by
    obtain ⟨c, h1, rfl⟩ := map_get h
    exact i_any (hE X sc C e c h1).1
  unfold trI at h
  split at h
  · rename_i x p es pos
    split at h
    · rename_i hx
      subst hx
      replace h := grd_get h
      obtain ⟨h1, h⟩ := h
      simp only [Bool.and_eq_true] at h1
      replace h := bind_get h
      obtain ⟨c, h2, h⟩ := h
      replace h := grd_get h
      obtain ⟨h3, h⟩ := h
      cases h
      obtain ⟨q1, q2, q3⟩ := hA X sc C es c h2
      have hg := C.S.glo h1.1.1.1
      have hm := blt_of C (x := "range") (by simp [bltNames])
      match es, q1, q2, q3 with
      | [], q1, q2, q3 => rw [q3] at h3; cases h3
      | [a], q1, q2, q3 =>
        refine i_range1 hg hm q1 ?_ q3
        rw [List.all_cons, Bool.and_eq_true] at q2
        rw [star_cons q2.1]; rfl
      | [a, b], q1, q2, q3 =>
        simp only [List.all_cons, Bool.and_eq_true] at q2
        refine i_range2 hg hm q1 ?_ ?_ q3
        · rw [star_cons q2.1, star_cons q2.2.1]; rfl
        · rw [star_cons q2.2.1]; rfl
      | [a, b, d], q1, q2, q3 =>
        have q2' := q2
        simp only [List.all_cons, Bool.and_eq_true] at q2
        refine i_range3 hg hm q1 (star_cons q2.1) (star_plain ?_ _) q3
        simp only [List.all_cons, Bool.and_eq_true]
        exact q2.2
      | _ :: _ :: _ :: _ :: _, q1, q2, q3 => rw [q3] at h3; simp at h3
    · split at h
      · rename_i hx
        subst hx
        replace h := grd_get h
        obtain ⟨h1, h⟩ := h
        simp only [Bool.and_eq_true] at h1
        replace h := bind_get h
        obtain ⟨c, h2, h⟩ := h
        replace h := grd_get h
        obtain ⟨h3, h⟩ := h
        cases h
        obtain ⟨q1, q2, q3⟩ := hA X sc C es c h2
        have hg := C.S.glo h1.1.1.1.2
        have hm := blt_of C (x := "enumerate") (by simp [bltNames])
        have ht := h1.1.1.1.1
        cases tg with
        | Tuple elts kk tpos =>
          match es, q1, q2, q3 with
          | [], q1, q2, q3 => rw [q3] at h3; cases h3
          | [a], q1, q2, q3 =>
            refine i_enum hg hm q1 ?_ q3
            rw [List.all_cons, Bool.and_eq_true] at q2
            rw [star_cons q2.1]; rfl
          | _ :: _ :: _, q1, q2, q3 => rw [q3] at h3; simp at h3
        | _ => cases ht
      · split at h
        · rename_i hx
          subst hx
          replace h := grd_get h
          obtain ⟨h1, h⟩ := h
          simp only [Bool.and_eq_true] at h1
          replace h := bind_get h
          obtain ⟨c, h2, h⟩ := h
          replace h := grd_get h
          obtain ⟨h3, h⟩ := h
          cases h
          obtain ⟨q1, q2, q3⟩ := hA X sc C es c h2
          have hg := C.S.glo h1.1.1.1.2
          have hm := blt_of C (x := "zip") (by simp [bltNames])
          have ht := h1.1.1.1.1
          cases tg with
          | Tuple elts kk tpos =>
            match es, q1, q2, q3 with
            | [], q1, q2, q3 => rw [q3] at h3; cases h3
            | [a], q1, q2, q3 => rw [q3] at h3; simp at h3
            | [a, b], q1, q2, q3 =>
              simp only [List.all_cons, Bool.and_eq_true] at q2
              exact i_zip hg hm q1 (star_cons q2.1) (star_plain (by simp [q2.2.1]) _) q3
            | _ :: _ :: _ :: _, q1, q2, q3 => rw [q3] at h3; simp at h3
          | _ => cases ht
        · exact gen h
  · exact gen h

theorem alen_es {es : List Expr} {n : Nat} (h : n = es.length) (h0 : 0 < n) : ∃ e r, es = e :: r := by
  cases es with
  | nil => rw [h] at h0; simp at h0
  | cons e r => exact ⟨e, r, rfl⟩
theorem okPrim (C : Cxt X N sc T G k tx) {x : Str} (hcs : (MP.cold tx || x == "str") = true) {p : Prim} {e : Expr} {es : List Expr} {c : E} {pp pos : Pos} (hg : Gl X x) (hd : (!dbg x) = true) (hp : primOf x (e :: es).length = some p) (ha : PA X (e :: es) (tA X T G c)) (hs : (e :: es).all notStar = true) (hl : alen c = (e :: es).length) :
    PE X (.Call (.Name x pp) (e :: es) [] pos) (tE X T G (.prim p c)) := by
  obtain ⟨d1, d2, d3⟩ := dbg_ok hd
  rw [List.all_cons, Bool.and_eq_true] at hs
  have h1 := star_cons (env := X.env) (es := es) hs.1
  have h2 := star_plain (env := X.env) hs.2 pos
  have calm : x ≠ "str" → X.calm = true := fun n => by
    rw [Bool.or_eq_true] at hcs
    rcases hcs with h | h
    · exact C.calm h
    · exact absurd (by simpa using h) n
  unfold primOf at hp
  split at hp
  · rename_i e0; subst e0; cases hp
    exact e_primB p_len hg (blt_of C (by simp [bltNames])) boot_len ha d3 d1 h1 h2
  split at hp
  · rename_i e0; subst e0; cases hp
    exact e_primB p_abs hg (blt_of C (by simp [bltNames])) boot_abs ha d3 d1 h1 h2
  split at hp
  · rename_i e0; subst e0; cases hp
    exact e_primB (p_all (calm (by decide))) hg (blt_of C (by simp [bltNames])) boot_all ha d3 d1 h1 h2
  split at hp
  · rename_i e0; subst e0
    split at hp
    · cases hp; exact e_primB (p_min2 (calm (by decide))) hg (blt_of C (by simp [bltNames])) boot_min ha d3 d1 h1 h2
    · cases hp; exact e_primB (p_min1 (calm (by decide))) hg (blt_of C (by simp [bltNames])) boot_min ha d3 d1 h1 h2
  split at hp
  · rename_i e0; subst e0
    split at hp
    · cases hp; exact e_primB (p_max2 (calm (by decide))) hg (blt_of C (by simp [bltNames])) boot_max ha d3 d1 h1 h2
    · cases hp; exact e_primB (p_max1 (calm (by decide))) hg (blt_of C (by simp [bltNames])) boot_max ha d3 d1 h1 h2
  split at hp
  · rename_i e0; subst e0; cases hp
    exact e_primT p_int hg (blt_of C (by simp [bltNames])) boot_int ha d3 d1 h1 h2
  split at hp
  · rename_i e0; subst e0; cases hp
    exact e_primT (p_list (calm (by decide))) hg (blt_of C (by simp [bltNames])) boot_list ha d3 d1 h1 h2
  split at hp
  · rename_i e0; subst e0; cases hp
    exact e_primT p_tuple hg (blt_of C (by simp [bltNames])) boot_tuple ha d3 d1 h1 h2
  split at hp
  · rename_i e0; subst e0; cases hp
    exact e_primB (p_sorted (calm (by decide))) hg (blt_of C (by simp [bltNames])) (by first | rfl | decide +kernel) ha d3 d1 h1 h2
  split at hp
  · rename_i e0; subst e0; cases hp
    exact e_primT p_dict hg (blt_of C (by simp [bltNames])) (by first | rfl | decide +kernel) ha d3 d1 h1 h2
  split at hp
  · rename_i e0; subst e0; cases hp
    exact e_primT p_str hg (blt_of C (by simp [bltNames])) (by first | rfl | decide +kernel) ha d3 d1 h1 h2
  · cases hp
theorem tyOf_get {x : Str} {t : Ty} (h : tyOf x = some t) : x = (trTy t : String) ∧ x ∈ bltNames := by
  unfold tyOf at h
  split at h
  · rename_i e; cases h; exact ⟨e, by rw [e]; simp [bltNames]⟩
  split at h
  · rename_i e; cases h; exact ⟨e, by rw [e]; simp [bltNames]⟩
  split at h
  · rename_i e; cases h; exact ⟨e, by rw [e]; simp [bltNames]⟩
  split at h
  · rename_i e; cases h; exact ⟨e, by rw [e]; simp [bltNames]⟩
  · cases h
theorem hotName_get (C : Cxt X N sc T G k tx) {e : Expr} {h : Nat × Nat} (q : hotName tx N sc e = some h) : ∃ x p, e = .Name x p ∧ tx.hot = some h ∧ X.N[h.1]? = some x ∧ Vis X.env.scope x ∧ (x == ("__debug__" : Str)) = false ∧ (x == ("__classdict__" : Str)) = false := by
  unfold hotName at q
  obtain ⟨x, h1, q1⟩ := Option.bind_eq_some_iff.mp q
  obtain ⟨y, h2, q2⟩ := Option.bind_eq_some_iff.mp q1
  obtain ⟨h3, q3⟩ := grd_get q2
  obtain ⟨p, e0⟩ := nameOf_get h1
  cases q3
  simp only [Bool.and_eq_true, decide_eq_true_eq] at h3
  obtain ⟨d1, d2, _⟩ := dbg_ok h3.1.2
  exact ⟨x, p, e0, h2, by rw [C.S.n]; exact findS_at h3.2, C.S.see h3.1.1, d1, d2⟩
theorem kindOfN_get (C : Cxt X N sc T G k tx) {c : Nat} {y : Str} {b : Bool} (hc : c ∈ tx.leaf) (h : kindOfN tx sc c y = some b) : ∃ v cv, CNm X y v cv ∧ PySem.W.kitOne X.K (.ref (T.ecl c)) cv = some b ∧ PySem.W.exmOne X.K (.ref (T.ecl c)) cv = some b := by
  unfold kindOfN at h
  obtain ⟨h1, h2⟩ := grd_get h
  obtain ⟨v, cv, g1, g2, g3, g4, g5, g6⟩ := C.F.kds c hc y b h2
  exact ⟨v, cv, ⟨C.S.glo h1, g1, g2, g3, g4⟩, g5, g6⟩
theorem kindAny_get (C : Cxt X N sc T G k tx) {c : Nat} (hc : c ∈ tx.leaf) : ∀ {es : List Expr} {b : Bool}, kindAny tx sc c es = some b → ∃ vs cs, CNs X es vs cs ∧ PySem.W.kitAny X.K (.ref (T.ecl c)) cs = some b
  | [], b, h => by cases h; exact ⟨[], [], ⟨rfl, rfl⟩, rfl⟩
  | e :: r, b, h => by
    unfold kindAny at h
    obtain ⟨y, h1, q1⟩ := Option.bind_eq_some_iff.mp h
    obtain ⟨b1, h2, q2⟩ := Option.bind_eq_some_iff.mp q1
    obtain ⟨b2, h3, rfl⟩ := Option.map_eq_some_iff.mp q2
    obtain ⟨p, e0⟩ := nameOf_get h1
    obtain ⟨v, cv, g1, g2, _⟩ := kindOfN_get C hc h2
    obtain ⟨vs, cs, g3, g4⟩ := kindAny_get C hc h3
    refine ⟨v :: vs, cv :: cs, ⟨y, p, v, cv, vs, cs, e0, rfl, rfl, g1, g3⟩, ?_⟩
    show (match PySem.W.kitOne X.K (.ref (T.ecl c)) cv with
      | some true => some true
      | some false => PySem.W.kitAny X.K (.ref (T.ecl c)) cs
      | none => none) = _
    rw [g2]
    cases b1 with
    | true => rfl
    | false => exact g4
theorem kind_same {X : Cx} {y : Str} {v w : V} {cv cw : Value} (h1 : CNm X y v cv) (h2 : CNm X y w cw) : cw = cv := by
  obtain ⟨_, _, _, _, g1⟩ := h1
  obtain ⟨_, _, _, _, g2⟩ := h2
  rcases g1 with g1 | ⟨g1, b1, _⟩ <;> rcases g2 with g2 | ⟨g2, b2, _⟩
  · rw [g1] at g2; exact (Option.some.inj g2).symm
  · rw [g1] at g2; cases g2
  · rw [g1] at g2; cases g2
  · rw [b1] at b2; exact (Option.some.inj b2).symm
theorem kinds_get (C : Cxt X N sc T G k tx) {y : Str} {l : List (Nat × Bool)} (h : kindsOf tx sc y = some l) : ∃ v cv, CNm X y v cv ∧ ∀ c b, l.lookup c = some b → ExcI X.K (T.ecl c) ∧ PySem.W.kitOne X.K (.ref (T.ecl c)) cv = some b := by
  have hs : tx.leaf.all (fun c => (kindOfN tx sc c y).isSome) = true := by
    unfold kindsOf at h
    have h1 := (grd_get h).1
    rw [Bool.and_eq_true] at h1
    exact h1.2
  obtain ⟨hl, hk⟩ := kindsOf_get h
  obtain ⟨c0, hc0⟩ := List.exists_mem_of_ne_nil _ hl
  obtain ⟨b0, e0⟩ := Option.isSome_iff_exists.mp (List.all_eq_true.mp hs c0 hc0)
  obtain ⟨v, cv, g1, _⟩ := kindOfN_get C hc0 e0
  refine ⟨v, cv, g1, fun c b e => ?_⟩
  obtain ⟨hc, e1⟩ := hk c b e
  obtain ⟨w, cw, g2, g3, _⟩ := kindOfN_get C hc e1
  refine ⟨C.F.exi c hc, ?_⟩
  rw [← kind_same g1 g2]; exact g3
theorem okHotIs (C : Cxt X N sc T G k tx) {f : Expr} {es : List Expr} {pos : Pos} {b : Bool} (h : hotIs tx N sc f es = some b) : PE X (.Call f es [] pos) (tE X T G (.cb b)) := by
  unfold hotIs at h
  split at h
  · rename_i x p
    obtain ⟨h1, q1⟩ := grd_get h
    simp only [Bool.and_eq_true, decide_eq_true_eq] at h1
    obtain ⟨ex, hgl⟩ := h1
    obtain ⟨⟨e, t⟩, h2, q2⟩ := Option.bind_eq_some_iff.mp q1
    obtain ⟨⟨i, c⟩, h3, hk⟩ := Option.bind_eq_some_iff.mp q2
    have ee := twoE_get h2
    dsimp only at ee hk h3
    clear q1 q2 h2 h
    subst ex
    subst ee
    obtain ⟨y, p1, e0, e1, hN, hv, d1, d2⟩ := hotName_get C h3
    have e0 : e = .Name y p1 := e0
    subst e0
    obtain ⟨hx, hc⟩ := C.hot i c e1
    have hm := blt_of C (x := "isinstance") (by simp [bltNames])
    unfold kindArg at hk
    split at hk
    · rename_i es' ht
      obtain ⟨k2, p2, e2⟩ := tupOf_get ht
      subst e2
      replace hk := grd_get hk
      obtain ⟨hz, hk⟩ := hk
      obtain ⟨vs, cs, g1, g2⟩ := kindAny_get C hc hk
      exact e_isxT hx (C.F.exi c hc) (C.S.glo hgl) hm hN hv d1 d2 g1 (of_decide_eq_true hz) g2
    · obtain ⟨z, h4, h5⟩ := Option.bind_eq_some_iff.mp hk
      obtain ⟨v, cv, g1, g2, _⟩ := kindOfN_get C hc h5
      obtain ⟨p2, e2⟩ := nameOf_get h4
      subst e2
      exact e_isx hx (C.F.exi c hc) (C.S.glo hgl) hm hN hv d1 d2 g1 g2
  · cases h
theorem okHotLn (C : Cxt X N sc T G k tx) {o : Expr} {f : Str} {pos : Pos} {c : E} (h : hotLn tx N sc o f = some c) : PE X (.Attribute o f pos) (tE X T G c) := by
  unfold hotLn at h
  obtain ⟨⟨i, cl⟩, h3, h5⟩ := Option.bind_eq_some_iff.mp h
  obtain ⟨h4, h6⟩ := grd_get h5
  obtain ⟨y, p1, e0, e1, hN, hv, d1, d2⟩ := hotName_get C h3
  have h4 := of_decide_eq_true h4
  clear h5 h h3
  cases h6
  subst e0
  subst h4
  obtain ⟨hx, hc⟩ := C.hot i cl e1
  dsimp only
  split
  · rename_i hl
    exact e_line hx (C.F.exi cl hc) (by rw [C.F.lnd cl hc, hl]) hN hv d1 d2
  · exact ⟨fun pins s σ H Q' I ⟨ρ, μ, Q, rs, rh, hw, p⟩ => (show False from hw).elim⟩
theorem okCall {n : Nat} (C : Cxt X N sc T G k tx) (hE : OkE G k tx N n) (hA : OkA G k tx N n) {x : Str} {es : List Expr} {c : E} {pp pos : Pos} (h : trE tx N (n + 1) sc (.Call (.Name x pp) es [] pos) = some c) : PE X (.Call (.Name x pp) es [] pos) (tE X T G c) := by
  unfold trE at h
  simp only at h
  split at h
  · rename_i b hb
    cases h
    exact okHotIs C hb
  rename_i hno
  clear hno
  replace h := grd_get h
  obtain ⟨h1, h⟩ := h
  simp only [Bool.and_eq_true] at h1
  obtain ⟨⟨⟨hd, hgl⟩, hst⟩, hcs⟩ := h1
  have ns : x ≠ "str" → MP.cold tx = true := fun n => by
    rw [Bool.or_eq_true] at hcs
    rcases hcs with h | h
    · exact h
    · exact absurd (by simpa using h) n
  have hg := C.S.glo hgl
  obtain ⟨d1, d2, d3⟩ := dbg_ok hd
  have st1 : ∀ {e r}, es = e :: r → starEach (e :: r) X.env = (false, eval e X.env) :: starEach r X.env ∧ (backTo pos (starEach r X.env)).any (·.1) = false := fun {e r} e0 => by
    subst e0
    rw [List.all_cons, Bool.and_eq_true] at hst
    exact ⟨star_cons hst.1, star_plain hst.2 _⟩
  cases hf : tx.fns.lookup x with
  | some fa =>
    obtain ⟨f, ar⟩ := fa
    rw [hf] at h
    simp only at h
    replace h := bind_get h
    obtain ⟨ca, h2, h⟩ := h
    replace h := grd_get h
    obtain ⟨h3, h⟩ := h
    cases h
    rw [Bool.and_eq_true] at h3
    obtain ⟨hco, h3⟩ := h3
    have h3 := of_decide_eq_true h3
    obtain ⟨fA, fd, ps, m1, F, hp⟩ := C.F.fns x f ar hf
    obtain ⟨q1, q2, q3⟩ := hA X sc C es ca h2
    cases es with
    | nil =>
      have e0 : ca = .nil := by
        cases n with
        | zero => simp [trA] at h2
        | succ n => unfold trA at h2; cases h2; rfl
      subst e0
      exact e_call0 F C.tk (C.room hco) hg m1 (by rw [hp]; exact h3) d1
    | cons e r =>
      obtain ⟨s1, s2⟩ := st1 rfl
      exact e_call F C.tk (C.room hco) hg m1 q1 (by rw [hp]; exact h3) d1 s1 s2
  | none =>
    rw [hf] at h
    simp only at h
    cases hc : tx.cls.lookup x with
    | some ca =>
      obtain ⟨cl, f, ar⟩ := ca
      rw [hc] at h
      simp only at h
      replace h := bind_get h
      obtain ⟨ca, h2, h⟩ := h
      replace h := grd_get h
      obtain ⟨h3, h⟩ := h
      cases h
      simp only [Bool.and_eq_true, decide_eq_true_eq] at h3
      obtain ⟨hco, h3⟩ := h3
      obtain ⟨fA, fd, ps, m1, M, hcl, F, hp⟩ := C.F.cls x cl f ar hc
      obtain ⟨q1, q2, q3⟩ := hA X sc C es ca h2
      obtain ⟨e, r, e0⟩ := alen_es q3 h3.2
      obtain ⟨s1, s2⟩ := st1 e0
      subst e0
      exact e_new M hcl F C.tk (C.hr hco) hg m1 q1 (by rw [hp]; exact h3.1) d1 s1 s2
    | none =>
      rw [hc] at h
      simp only at h
      cases hx0 : tx.exs.lookup x with
      | some c0 =>
        rw [hx0] at h
        simp only at h
        cases hn : tx.xn.lookup c0 with
        | some fa =>
          obtain ⟨f, ar⟩ := fa
          rw [hn] at h
          simp only at h
          replace h := bind_get h
          obtain ⟨ca, h2, h⟩ := h
          replace h := grd_get h
          obtain ⟨h3, h⟩ := h
          cases h
          simp only [Bool.and_eq_true, decide_eq_true_eq] at h3
          obtain ⟨hco, h3, h4, h5⟩ := h3
          obtain ⟨fA, fd, ps, m1, M, F, hp⟩ := C.F.xn x c0 f ar hx0 hn
          obtain ⟨q1, q2, q3⟩ := hA X sc C es ca h2
          obtain ⟨e, r, e0⟩ := alen_es q3 h4
          obtain ⟨s1, s2⟩ := st1 e0
          subst e0
          exact e_mkN M F C.tk (C.hr hco) hg m1 q1 (by rw [hp]; exact h3) h5 d1 s1 s2
        | none =>
          rw [hn] at h
          simp only at h
          replace h := bind_get h
          obtain ⟨a, h2, h⟩ := h
          replace h := bind_get h
          obtain ⟨ca, h3, h⟩ := h
          replace h := grd_get h
          obtain ⟨h4, h⟩ := h
          cases h
          have e0 := oneE_get h2
          obtain ⟨s1, _⟩ := st1 e0
          subst e0
          obtain ⟨m1, M, _⟩ := C.F.exs x c0 hx0 (by simpa using h4)
          exact e_mkE M hg m1 (hE X sc C a ca h3).1 s1 d1
      | none =>
      rw [hx0] at h
      simp only at h
      split at h
      · rename_i hx
        subst hx
        split at h
        · rename_i a l hv
          obtain ⟨ca, h3, rfl⟩ := map_get h
          unfold isvOf at hv
          replace hv := bind_get hv
          obtain ⟨⟨a', t⟩, h0, hh⟩ := hv
          obtain ⟨p2, e0⟩ := isiArgs_get h0
          replace hh := grd_get hh
          obtain ⟨_, hh⟩ := hh
          obtain ⟨l', h4, e4⟩ := map_get hh
          cases e4
          subst e0
          obtain ⟨v, cv, g1, g2⟩ := kinds_get C h4
          rw [List.all_cons, Bool.and_eq_true] at hst
          exact e_isv hg (blt_of C (by simp [bltNames])) g1 g2 (hE X sc C _ ca h3).1 (fun _ => star_cons hst.1)
        replace h := bind_get h
        obtain ⟨⟨a, t⟩, h0, hh⟩ := h
        obtain ⟨p2, e0⟩ := isiArgs_get h0
        replace hh := grd_get hh
        obtain ⟨h2, hh⟩ := hh
        replace hh := bind_get hh
        obtain ⟨ty, h3, hh⟩ := hh
        replace hh := bind_get hh
        obtain ⟨ca, h4, hh⟩ := hh
        cases hh
        obtain ⟨et, hm⟩ := tyOf_get h3
        simp only at et hm h2 h4
        subst et
        subst e0
        rw [List.all_cons, Bool.and_eq_true] at hst
        exact e_isi hg (blt_of C (by simp [bltNames])) (C.S.glo h2) (blt_of C hm) (hE X sc C a ca h4).1 (fun _ => star_cons hst.1)
      split at h
      · rename_i t rs hr
        obtain ⟨e1, p, p2, e2⟩ := rngArgs_get hr
        replace h := grd_get h
        obtain ⟨h2, h⟩ := h
        rw [Bool.and_eq_true] at h2
        have hco : MP.cold tx = true := ns (by rw [e1]; cases t <;> decide)
        have hg2 := C.S.glo h2.1
        have hm2 := blt_of C (x := "range") (by simp [bltNames])
        have hm1 : X.mg (rngTy t) = none := by cases t <;> exact blt_of C (by simp [rngTy, bltNames])
        subst e1
        subst e2
        split at h
        · rename_i a
          obtain ⟨ca, h3, rfl⟩ := map_get h
          have q2 := h2.2
          simp only [List.all_cons, Bool.and_eq_true] at q2
          exact e_rng1 (C.calm hco) hg hm1 hg2 hm2 (hE X sc C a ca h3).1 (star_cons q2.1)
        · rename_i a b
          replace h := bind_get h
          obtain ⟨ca, h3, h⟩ := h
          obtain ⟨cb, h4, rfl⟩ := map_get h
          have q2 := h2.2
          simp only [List.all_cons, Bool.and_eq_true] at q2
          exact e_rng2 (C.calm hco) hg hm1 hg2 hm2 (hE X sc C a ca h3).1 (hE X sc C b cb h4).1 (star_cons q2.1) (star_cons q2.2.1) (star_plain (by simp [q2.2.1]) _)
        · cases h
      · obtain ⟨p, h2, h⟩ := bind_get h
        replace h := bind_get h
        obtain ⟨ca, h3, h⟩ := h
        replace h := grd_get h
        obtain ⟨h4, h⟩ := h
        cases h
        obtain ⟨q1, q2, q3⟩ := hA X sc C es ca h3
        obtain ⟨e, r, e0⟩ := alen_es q3 (of_decide_eq_true h4)
        subst e0
        exact okPrim C hcs hg hd h2 q1 q2 q3
theorem okBm {n : Nat} (C : Cxt X N sc T G k tx) (hE : OkE G k tx N n) (hA : OkA G k tx N n) {o : Expr} {m : Str} {es : List Expr} {co ca : E} {apos pos : Pos} {p : Prim} (hb : baseOk o = true) (hst : es.all notStar = true) (hl : es.length < 20) (hline : (apos.endLine == pos.line) = true)
    {dv : Bool} (hp : bmOf dv m es.length = some p) (h4 : trE tx N n sc o = some co) (h5 : trA tx N n sc es = some ca) (h6 : alen ca = es.length) : PE X (.Call (.Attribute o m apos) es [] pos) (tE X T G (.bm p co ca)) := by
  have ho := (hE X sc C o co h4).1
  obtain ⟨ha, _, _⟩ := hA X sc C es ca h5
  have one : ∀ {p : Prim} {id : String} {e : Expr} {r : List Expr}, p ≠ .get → es = e :: r → PlainAttrs (recvT p) → Slot (recvT p) m id → typeOf (.builtin id) = pure (.type "method_descriptor") → MtR X id (rM X T p) → PE X (.Call (.Attribute o m apos) es [] pos) (tE X T G (.bm p co ca)) := fun {p id e r} ng e0 pa sl ty hm => by
    subst e0
    have hst' := hst
    rw [List.all_cons, Bool.and_eq_true] at hst'
    exact e_bm ng pa sl ty hm ho ha (base_ok hb) (few_ok hst hl pos) hline (star_cons hst'.1) (star_plain hst'.2 _)
  have nil : ∀ {p : Prim} {id : String}, p ≠ .get → es = [] → PlainAttrs (recvT p) → Slot (recvT p) m id → typeOf (.builtin id) = pure (.type "method_descriptor") → MtR X id (rM X T p) → PE X (.Call (.Attribute o m apos) es [] pos) (tE X T G (.bm p co ca)) := fun {p id} ng e0 pa sl ty hm => by
    subst e0
    have e1 : ca = .nil := by
      cases n with
      | zero => simp [trA] at h5
      | succ n => unfold trA at h5; cases h5; rfl
    subst e1
    exact e_bm0 ng pa sl ty hm ho (base_ok hb) hline
  unfold bmOf at hp
  split at hp
  · rename_i z
    cases hp
    obtain ⟨_, rfl, z⟩ := z
    obtain ⟨e, r, e0⟩ := alen_es h6 (by omega)
    exact one (by decide) e0 PySem.F.plainAttrs_dict PySem.F.slot_dict_pop rfl m_dpop1
  split at hp
  · rename_i z
    cases hp
    obtain ⟨rfl, z⟩ := z
    obtain ⟨e, r, e0⟩ := alen_es h6 (by omega)
    exact one (by decide) e0 PySem.F.plainAttrs_list PySem.F.slot_list_remove rfl m_remove
  split at hp
  · rename_i z
    cases hp
    obtain ⟨rfl, z⟩ := z
    obtain ⟨e, r, e0⟩ := alen_es h6 (by omega)
    exact one (by decide) e0 PySem.F.plainAttrs_list PySem.F.slot_list_count rfl (m_count C.hu)
  unfold bmOf0 at hp
  split at hp
  · rename_i z
    cases hp
    obtain ⟨rfl, z⟩ := z
    obtain ⟨e, r, e0⟩ := alen_es h6 (by omega)
    exact one (by decide) e0 PySem.F.plainAttrs_list PySem.F.slot_list_append rfl m_append
  split at hp
  · rename_i z
    cases hp
    obtain ⟨rfl, z⟩ := z
    exact nil (by decide) (List.eq_nil_of_length_eq_zero z) PySem.F.plainAttrs_list PySem.F.slot_list_pop rfl m_pop
  split at hp
  · rename_i z
    cases hp
    obtain ⟨rfl, z⟩ := z
    obtain ⟨e, r, e0⟩ := alen_es h6 (by omega)
    exact one (by decide) e0 PySem.F.plainAttrs_dict PySem.F.slot_dict_pop rfl m_dpop
  split at hp
  · rename_i z
    cases hp
    obtain ⟨rfl, z⟩ := z
    obtain ⟨e, r, e0⟩ := alen_es h6 (by omega)
    exact one (by decide) e0 PySem.F.plainAttrs_list PySem.F.slot_list_pop rfl m_popAt
  split at hp
  · rename_i z
    cases hp
    obtain ⟨rfl, z⟩ := z
    obtain ⟨e, r, e0⟩ := alen_es h6 (by omega)
    exact one (by decide) e0 PySem.F.plainAttrs_list PySem.F.slot_list_extend rfl m_extend
  split at hp
  · rename_i z
    cases hp
    obtain ⟨rfl, z⟩ := z
    obtain ⟨e, r, e0⟩ := alen_es h6 (by omega)
    exact one (by decide) e0 PySem.F.plainAttrs_list PySem.F.slot_list_insert rfl m_insert
  split at hp
  · rename_i z
    cases hp
    obtain ⟨rfl, z⟩ := z
    obtain ⟨e, r, e0⟩ := alen_es h6 (by omega)
    exact one (by decide) e0 PySem.F.plainAttrs_list PySem.F.slot_list_index rfl (m_index C.hu)
  split at hp
  · rename_i z
    cases hp
    obtain ⟨rfl, z⟩ := z
    obtain ⟨e, r, e0⟩ := alen_es h6 (by omega)
    exact one (by decide) e0 PySem.F.plainAttrs_str PySem.F.slot_str_join rfl m_join
  split at hp
  · rename_i z
    cases hp
    obtain ⟨rfl, z⟩ := z
    obtain ⟨e, r, e0⟩ := alen_es h6 (by omega)
    exact one (by decide) e0 PySem.F.plainAttrs_str PySem.F.slot_str_split rfl m_split
  · cases hp
theorem okMeth {n : Nat} (C : Cxt X N sc T G k tx) (hE : OkE G k tx N n) (hA : OkA G k tx N n) {o : Expr} {m : Str} {es : List Expr} {c : E} {apos pos : Pos} (h : trE tx N (n + 1) sc (.Call (.Attribute o m apos) es [] pos) = some c) : PE X (.Call (.Attribute o m apos) es [] pos) (tE X T G c) := by
  unfold trE at h
  simp only at h
  have hno : hotIs tx N sc (.Attribute o m apos) es = none := rfl
  rw [hno] at h
  simp only at h
  replace h := grd_get h
  obtain ⟨h1, h⟩ := h
  simp only [Bool.and_eq_true, decide_eq_true_eq] at h1
  obtain ⟨⟨⟨hb, hst⟩, hl⟩, hline⟩ := h1
  split at h
  · rename_i e f hg
    obtain ⟨rfl, rfl⟩ := getArgs_get hg
    replace h := bind_get h
    obtain ⟨co, h4, h⟩ := h
    replace h := bind_get h
    obtain ⟨ce, h5, h⟩ := h
    obtain ⟨cf, h6, rfl⟩ := map_get h
    have q2 := hst
    simp only [List.all_cons, Bool.and_eq_true] at q2
    refine e_get C.hu (hE X sc C o co h4).1 (hE X sc C e ce h5).1 (hE X sc C f cf h6).1 ⟨base_ok hb, few_ok hst hl pos, hline, ?_⟩
    rw [star_cons q2.1, star_cons q2.2.1]; rfl
  split at h
  · rename_i p hp
    replace h := bind_get h
    obtain ⟨co, h4, h⟩ := h
    replace h := bind_get h
    obtain ⟨ca, h5, h⟩ := h
    replace h := grd_get h
    obtain ⟨h6, h⟩ := h
    cases h
    exact okBm C hE hA hb hst hl hline hp h4 h5 (of_decide_eq_true h6)
  replace h := grd_get h
  obtain ⟨hco, h⟩ := h
  split at h
  · rename_i hm
    subst hm
    replace h := grd_get h
    obtain ⟨hv, h⟩ := h
    replace h := bind_get h
    obtain ⟨ca, h2, h⟩ := h
    replace h := grd_get h
    obtain ⟨h3, h⟩ := h
    cases h
    rw [Bool.and_eq_true] at h3
    have h4 := of_decide_eq_true h3.1
    have h5 := of_decide_eq_true h3.2
    unfold veiOk at hv
    split at hv
    · rename_i y hy
      simp only [Bool.and_eq_true] at hv
      obtain ⟨p1, e0⟩ := nameOf_get hy
      subst e0
      obtain ⟨B, m1, V0⟩ := C.F.vb y (List.contains_iff_mem.mp hv.2)
      obtain ⟨q1, q2, q3⟩ := hA X sc C es ca h2
      obtain ⟨e, r, e1⟩ := alen_es q3 h4
      have hm := meth_ok (env := X.env) (m := "__init__") (apos := apos) (pos := pos) hb hst hl hline
      subst e1
      have hst' := hst
      rw [List.all_cons, Bool.and_eq_true] at hst'
      exact e_vei V0 (C.S.glo hv.1.1) m1 (dbg_ok hv.1.2).1 q1 h5 hm (star_cons hst'.1) (star_plain hst'.2 _)
    · cases hv
  replace h := bind_get h
  obtain ⟨j, h2, h⟩ := h
  replace h := bind_get h
  obtain ⟨ar, h3, h⟩ := h
  replace h := bind_get h
  obtain ⟨co, h4, h⟩ := h
  replace h := bind_get h
  obtain ⟨ca, h5, h⟩ := h
  replace h := grd_get h
  obtain ⟨h6, h⟩ := h
  cases h
  have h6 := of_decide_eq_true h6
  have hm : T.fld[j]? = some m := by rw [C.F.fld]; exact findS_at h2
  obtain ⟨q1, q2, q3⟩ := hA X sc C es ca h5
  have hf : ∀ cl f, G.mt cl j = some f → ∃ fA fd ps, Meth X.K (T.cls cl) m fA ∧ FnX X T G k f fA fd ps ∧ alen ca + 1 = ps.length := fun cl f e => by
    obtain ⟨fA, fd, ps, hM, F, hp⟩ := C.F.mts cl j f m ar e (findS_at h2) h3
    exact ⟨fA, fd, ps, hM, F, by rw [hp]; exact h6⟩
  cases es with
  | nil =>
    have e0 : ca = .nil := by
      cases n with
      | zero => simp [trA] at h5
      | succ n => unfold trA at h5; cases h5; rfl
    subst e0
    exact e_meth0 hm hf C.tk (C.room hco) (hE X sc C o co h4).1 (meth_ok hb hst hl hline)
  | cons e r =>
    have hst' := hst
    rw [List.all_cons, Bool.and_eq_true] at hst'
    exact e_meth hm hf C.tk (C.room hco) (hE X sc C o co h4).1 q1 (star_cons hst'.1) (star_plain hst'.2 _) (meth_ok hb hst hl hline)
theorem okComp {n : Nat} (C : Cxt X N sc T G k tx) (hE : OkE G k tx N n) (hI : OkI G k tx N n) (hC : OkC G k tx N n) {elt : Expr} {gs : List Comprehension} {scope : Scope} {pos : Pos} {c : E} (h : trE tx N (n + 1) sc (.ListComp elt gs scope pos) = some c) :
    MP.cold tx = true ∧ ∃ tg iter ifs ce cc csrc p ki, gs = [⟨tg, iter, ifs, 0⟩] ∧ c = .comp ce p ki csrc cc ((ownOf N scope).map (·.2)) ∧ PI X tg iter (tI X T G ki csrc) ∧ BlkOk X.N X.env.scope scope (ownOf N scope) ∧
      (∀ s H C cl fp, PG (Blk X s H scope C cl fp) tg (tP X p)) ∧ (∀ s H C cl fp, PTs (Blk X s H scope C cl fp) ifs (tB X T.off G cc)) ∧ (∀ s H C cl fp, PE (Blk X s H scope C cl fp) elt (tE X T.off G ce)) ∧ (∀ x, foldedSetIterable iter X.env x = pure x) ∧ ∀ i ∈ slotsP p, i ∈ (ownOf N scope).map (·.2) := by
  unfold trE at h
  simp only at h
  split at h
  · rename_i tg iter ifs asy
    replace h := grd_get h
    obtain ⟨h1, h⟩ := h
    simp only [Bool.and_eq_true, decide_eq_true_eq] at h1
    obtain ⟨⟨⟨hco, rfl⟩, hns⟩, hblk⟩ := h1
    replace h := bind_get h
    obtain ⟨p, h2, h⟩ := h
    replace h := grd_get h
    obtain ⟨h3, h⟩ := h
    simp only [Bool.and_eq_true, List.all_eq_true, decide_eq_true_eq] at h3
    replace h := bind_get h
    obtain ⟨ki, h4, h⟩ := h
    replace h := bind_get h
    obtain ⟨ce, h5, h⟩ := h
    replace h := bind_get h
    obtain ⟨cc, h6, h⟩ := h
    cases h
    have ok := blkOk_by hblk
    exact ⟨hco, tg, iter, ifs, ce, cc, ki.2, p, ki.1, rfl, rfl, hI X sc C iter ki tg h4, C.S.blkOk ok, fun s H c cl fp => trP_ok (C.blk hco ok s H c cl fp).S (C.calm hco) h2 h3.1, fun s H c cl fp => hC _ scope (C.blk hco ok s H c cl fp) ifs cc h6, fun s H c cl fp => (hE _ scope (C.blk hco ok s H c cl fp) elt ce h5).1, folded_ok hns, h3.2⟩
  · cases h
theorem okE {n : Nat} (hE : OkE G k tx N n) (hA : OkA G k tx N n) (hB : OkB G k tx N n) (hO : OkO G k tx N n) (hC : OkC G k tx N n) (hI : OkI G k tx N n) (hD : OkD G k tx N n) : OkE G k tx N (n + 1) := by
  intro X sc T C e c h
  cases e with
  | Constant v kk pos =>
    unfold trE at h
    cases v with
    | none => cases h; exact both e_non rfl
    | bool b => cases h; exact both e_bl rfl
    | int i => cases h; exact both e_int rfl
    | str x => cases h; exact both e_str rfl
    | _ => cases h
  | Name x pos =>
    unfold trE at h
    replace h := grd_get h
    obtain ⟨h1, h⟩ := h
    obtain ⟨d1, d2, d3⟩ := dbg_ok h1
    refine both ?_ rfl
    split at h
    · rename_i hv
      replace h := bind_get h
      obtain ⟨i, h2, h⟩ := h
      obtain ⟨h3, h⟩ := grd_get h
      cases h
      exact e_var (by rw [C.S.n]; exact findS_at h2) (C.S.see hv) d1 d2 (C.nh h3)
    · obtain ⟨h2, h⟩ := grd_get h
      obtain ⟨j, h3, rfl⟩ := map_get h
      obtain ⟨d, v, u, m1, r, hk, rd⟩ := C.F.csts x j h3
      exact e_cst (C.S.glo h2) m1 r d1 hk rd
  | Tuple es kk pos =>
    unfold trE at h
    replace h := bind_get h
    obtain ⟨ca, h1, h⟩ := h
    replace h := grd_get h
    obtain ⟨h2, h⟩ := h
    cases h
    exact both (e_tup (hA X sc C es ca h1).1 (Nat.le_trans (of_decide_eq_true h2) (by decide))) rfl
  | List es pos =>
    unfold trE at h
    replace h := bind_get h
    obtain ⟨ca, h1, h⟩ := h
    replace h := grd_get h
    obtain ⟨h2, h⟩ := h
    cases h
    exact both (e_lst (hA X sc C es ca h1).1 (Nat.le_trans (of_decide_eq_true h2) (by decide))) rfl
  | Dict ks vs pos =>
    unfold trE at h
    simp only at h
    split at h
    · cases h
      refine both (pe_dnewK.imp fun σ H Q' ⟨ρ, μ, Q, rs, rh, hw, p⟩ q e => ?_) rfl
      exact p (.ref q) _ _ _ rfl (rh.newO e (ob := .dF []) ⟨[], L2.upd_same, rfl⟩) (Fr.newO e) (hw q (rh.free e))
    · replace h := grd_get h
      obtain ⟨h1, h⟩ := h
      simp only [Bool.and_eq_true, decide_eq_true_eq, Bool.not_eq_true', List.isEmpty_eq_false_iff] at h1
      obtain ⟨⟨⟨h15, hs⟩, hl⟩, h0⟩ := h1
      obtain ⟨cs, h2, rfl⟩ := map_get h
      exact both (e_dict C.hu (hD X sc C _ _ cs pos h2) hs hl h0 h15) rfl
  | BinOp a op b pos =>
    unfold trE at h
    replace h := bind_get h
    obtain ⟨o, h1, h⟩ := h
    replace h := bind_get h
    obtain ⟨ca, h2, h⟩ := h
    replace h := bind_get h
    obtain ⟨cb, h3, h⟩ := h
    cases h
    exact both (e_bin (op_bin h1) (hE X sc C a ca h2).1 (hE X sc C b cb h3).1) rfl
  | UnaryOp op a pos =>
    unfold trE at h
    cases op with
    | USub => obtain ⟨ca, h1, rfl⟩ := map_get h; exact both (e_neg (hE X sc C a ca h1).1) rfl
    | Not =>
      obtain ⟨ca, h1, rfl⟩ := map_get h
      cases a with
      | ListComp _ _ _ _ => exact ⟨e_notT (hE X sc C _ ca h1).1, t_not (t_tru (hE X sc C _ ca h1).1 fun _ => rfl)⟩
      | _ => exact ⟨e_not (hE X sc C _ ca h1).1, t_not (hE X sc C _ ca h1).2⟩
    | _ => cases h
  | Compare a ops bs pos =>
    unfold trE at h
    match ops, bs, h with
    | [op], [b], h =>
      replace h := grd_get h
      obtain ⟨h1, h⟩ := h
      replace h := bind_get h
      obtain ⟨o, h2, h⟩ := h
      replace h := bind_get h
      obtain ⟨ca, h3, h⟩ := h
      replace h := bind_get h
      obtain ⟨cb, h4, h⟩ := h
      cases h
      exact ⟨e_cmp C.hu h2 (hE X sc C a ca h3).1 (hE X sc C b cb h4).1 (behind_ok h1), t_cmp C.hu h2 (hE X sc C a ca h3).1 (hE X sc C b cb h4).1 (behind_ok h1)⟩
    | [op, op'], [b, b'], h =>
      replace h := grd_get h
      obtain ⟨h1, h⟩ := h
      replace h := bind_get h
      obtain ⟨o, h2, h⟩ := h
      replace h := bind_get h
      obtain ⟨o', h3, h⟩ := h
      replace h := bind_get h
      obtain ⟨ca, h4, h⟩ := h
      replace h := bind_get h
      obtain ⟨cb, h5, h⟩ := h
      replace h := bind_get h
      obtain ⟨cc, h6, h⟩ := h
      cases h
      have h1 : lastMarks [op, op'] [b, b'] = false := by simpa using h1
      exact ⟨e_cmp2 C.hu h2 h3 (hE X sc C a ca h4).1 (hE X sc C b cb h5).1 (hE X sc C b' cc h6).1 h1, t_cmp2 C.hu h2 h3 (hE X sc C a ca h4).1 (hE X sc C b cb h5).1 (hE X sc C b' cc h6).1 h1⟩
  | BoolOp op vs pos =>
    unfold trE at h
    obtain ⟨p1, p2⟩ := hB X sc C op vs c pos h
    exact ⟨p1, p2.pt⟩
  | Subscript a i pos =>
    unfold trE at h
    refine both ?_ rfl
    have gen : ∀ {i : Expr}, noSl i = true → (((trE tx N n sc a).bind fun ca => (trE tx N n sc i).bind fun ci => some (E.idx ca ci)) = some c) → PE X (.Subscript a i pos) (tE X T G c) := fun {i} hs h => by
      replace h := bind_get h
      obtain ⟨ca, h2, h⟩ := h
      replace h := bind_get h
      obtain ⟨ci, h3, h⟩ := h
      cases h
      exact e_idx C.hu (hE X sc C a ca h2).1 (hE X sc C i ci h3).1 (plainIx_ok hs)
    cases i with
    | Slice lo hi st p2 =>
      cases st with
      | none =>
        replace h := bind_get h
        obtain ⟨ca, h1, h⟩ := h
        replace h := bind_get h
        obtain ⟨cl, h2, h⟩ := h
        replace h := bind_get h
        obtain ⟨ch, h3, h⟩ := h
        cases h
        exact e_slc (hE X sc C a ca h1).1 (hO X sc C lo cl h2) (hO X sc C hi ch h3)
      | some s =>
        replace h := grd_get h
        obtain ⟨h1, h⟩ := h
        obtain ⟨rfl, rfl, k0, p3, p4, rfl⟩ := revStep_get h1
        obtain ⟨ca, h2, rfl⟩ := map_get h
        exact e_rev (hE X sc C a ca h2).1
    | _ => exact gen rfl (grd_get h).2
  | Attribute o f pos =>
    unfold trE at h
    dsimp only at h
    split at h
    · rename_i c1 hc1
      cases h
      exact both (okHotLn C hc1) rfl
    replace h := grd_get h
    obtain ⟨h1, h⟩ := h
    split at h
    · rename_i hf
      subst hf
      obtain ⟨co, h3, rfl⟩ := map_get h
      exact both (e_lin (hE X sc C o co h3).1 (base_ok h1)) rfl
    replace h := bind_get h
    obtain ⟨j, h2, h⟩ := h
    replace h := bind_get h
    obtain ⟨co, h3, h⟩ := h
    cases h
    exact both (e_attr (by rw [C.F.fld]; exact findS_at h2) (fun cl hf => C.F.fl cl j f hf (findS_at h2)) (hE X sc C o co h3).1 (base_ok h1)) rfl
  | Call f es ks pos =>
    cases ks with
    | cons kw kws =>
      unfold trE at h
      simp only at h
      replace h := bind_get h
      obtain ⟨l, h1, h⟩ := h
      replace h := bind_get h
      obtain ⟨a, h2, h⟩ := h
      replace h := grd_get h
      obtain ⟨h3, h⟩ := h
      obtain ⟨ca, h4, rfl⟩ := map_get h
      simp only [Bool.and_eq_true, decide_eq_true_eq] at h3
      obtain ⟨⟨⟨⟨⟨hco, g1⟩, g2⟩, g3⟩, g4⟩, g5⟩ := h3
      obtain ⟨kp, e1⟩ := keyLam_get h1
      obtain ⟨pf, rfl⟩ := nameOf_get g2
      rw [oneE_get h2, e1]
      obtain ⟨x, p, p1, p2, p3, k, sc2, lp, rfl, hsc⟩ := lamOk_get g4
      obtain ⟨s1, s2, s3, s4, s5⟩ := lamSc_get hsc
      exact both (e_skey C.hu (C.hr hco).depth (C.key g1) (C.S.glo g3) (blt_of C (by simp [bltNames])) (hE X sc C a ca h4).1 (fun _ => star_cons g5) s1 s2 s3 s4 s5) rfl
    | nil =>
      cases f with
      | Name x pp => exact both (okCall C hE hA h) rfl
      | Attribute o m apos => exact both (okMeth C hE hA h) rfl
      | _ => unfold trE at h; simp [hotIs] at h
  | ListComp elt gs scope pos =>
    obtain ⟨hco, tg, iter, ifs, ce, cc, csrc, p, ki, rfl, rfl, h1, h2, h3, h4, h5, h6, h7⟩ := okComp C hE hI hC h
    exact both (e_comp (C.gh0 hco) (C.calm hco) (by rw [C.S.n]; exact C.S.nd) h1 h2 h3 h4 h5 h6 h7) rfl
  | _ => unfold trE at h; cases h
theorem ok_all : ∀ n, OkE G k tx N n ∧ OkA G k tx N n ∧ OkB G k tx N n ∧ OkO G k tx N n ∧ OkC G k tx N n ∧ OkI G k tx N n ∧ OkD G k tx N n
  | 0 => ⟨fun X sc T C e c h => (by unfold trE at h; cases h), fun X sc T C e c h => (by unfold trA at h; cases h), fun X sc T C op vs c pos h => (by unfold trB at h; cases h), fun X sc T C o c h => (by unfold trO at h; cases h), fun X sc T C l c h => (by unfold trC at h; cases h), fun X sc T C e ki tg h => (by unfold trI at h; cases h), fun X sc T C ks vs cs pos h => (by unfold trD at h; cases h)⟩
  | n + 1 =>
    let ⟨h1, h2, h3, h4, h5, h6, h7⟩ := ok_all n
    ⟨okE h1 h2 h3 h4 h5 h6 h7, okA h1 h2, okB h1 h3, okO h1, okC h1, okI h1 h2, okD h1 h7⟩
end
end MP

set_option linter.all false
set_option maxRecDepth 100000
set_option maxHeartbeats 4000000
set_option Elab.async false
namespace MP
open PySem PySem.Spec PyProof.Rows L2
def notTup : Expr → Bool
  | .Tuple _ _ _ => false
  | _ => true
section
variable {env : PySem.Env} {e : Expr} {es : List Expr}
theorem stores_name {x : Str} {p : Pos} : swappedStores [.Name x p] e env = pure none := rfl
theorem stores_sub {o i : Expr} {p : Pos} : swappedStores [.Subscript o i p] e env = pure none := rfl
theorem stores_tup {ts : List Expr} {k : Nat} {p : Pos} (h : notTup e = true) : swappedStores [.Tuple ts k p] e env = pure none := by
  cases e <;> first | rfl | cases h
theorem stores_fold {ts vs : List Expr} {k k2 : Nat} {p p2 : Pos} (h : vs.all (foldedForSure 8) = true) : swappedStores [.Tuple ts k p] (.Tuple vs k2 p2) env = pure none := by
  unfold swappedStores
  dsimp only
  split
  · rfl
  split
  · rfl
  split
  · rfl
  first
    | rfl
    | rw [if_pos h]
theorem any_two {a b : Expr} {f : Expr → Bool} (ha : notStar a = true) (hb : notStar b = true) (h : ∀ e, notStar e = true → f e = false) : [a, b].any f = false := by
  rw [List.any_cons, List.any_cons, List.any_nil, h a ha, h b hb]; rfl
theorem stores_two {x y : Str} {px py p p2 : Pos} {a b : Expr} {k k2 : Nat} (hk : env.scope.kind = .function) (hx : env.scope.names.lookup x = some .local) (hy : env.scope.names.lookup y = some .local) (hn : ¬ x = y) (hl : (py.line == px.line) = true)
    (ha : notStar a = true) (hb : notStar b = true) (hf : [a, b].all (foldedForSure 8) = false) (hc : [a, b].all (constantsAlone 8) = false) : swappedStores [.Tuple [.Name x px, .Name y py] k p] (.Tuple [a, b] k2 p2) env = pure (some [x, y]) := by
  have kx : env.kindOf x = some .local := hx
  have ky : env.kindOf y = some .local := hy
  have hbk : env.blockKind = .function := by unfold Env.blockKind; rw [hk]; rfl
  have hn2 : ¬ y = x := fun z => hn z.symm
  have hl2 : py.line = px.line := by simpa using hl
  have hnm : ∀ f : Expr → Option Str, f (.Name x px) = some x → f (.Name y py) = some y → ([.Name x px, .Name y py] : List Expr).filterMap f = [x, y] := fun f h1 h2 => by
    rw [List.filterMap_cons, h1, List.filterMap_cons, h2]; rfl
  have hne : ([x, y] : List Str).eraseDups = [x, y] := by
    simp [List.eraseDups_cons, hn2]
  unfold swappedStores
  dsimp only
  refine (if_neg (by rw [hbk]; exact fun h => Bool.noConfusion (show false = true from h))).trans ?_
  refine (if_neg (Bool.eq_false_iff.mp (any_two ha hb fun e h => by cases e <;> first | rfl | cases h))).trans ?_
  rw [hnm]
  · rw [hne]
    refine (if_neg fun h => Bool.noConfusion (show false = true from h)).trans ?_
    rw [hf, hc]; rfl
  · show (if (env.kindOf x == some NameKind.local && px.line == px.line) = true then some x else none) = some x
    rw [kx, beq_self_eq_true, beq_self_eq_true]; rfl
  · show (if (env.kindOf y == some NameKind.local && py.line == px.line) = true then some y else none) = some y
    rw [ky, hl2, beq_self_eq_true, beq_self_eq_true]; rfl
theorem stores_cell {x y : Str} {px py p p2 : Pos} {a b : Expr} {k k2 : Nat} (hy : env.scope.names.lookup y = some .cell) : swappedStores [.Tuple [.Name x px, .Name y py] k p] (.Tuple [a, b] k2 p2) env = pure none := by
  have ky : env.kindOf y = some .cell := hy
  have hl : ∀ f : Expr → Option Str, f (.Name y py) = none → (([.Name x px, .Name y py] : List Expr).filterMap f).length < 2 := fun f h => by
    rw [List.filterMap_cons]
    cases f (.Name x px) <;> simp [List.filterMap_cons, h]
  unfold swappedStores
  dsimp only
  split
  · rfl
  split
  · rfl
  refine if_pos ?_
  rw [Bool.or_eq_true]
  refine .inl ?_
  refine bne_iff_ne.mpr (Nat.ne_of_lt (hl _ ?_))
  show (if (env.kindOf y == some NameKind.local && py.line == px.line) = true then some y else none) = none
  rw [ky]; rfl
theorem sole_ok {t : Expr} {l : Nat} (h : notComp e = true) : swapsWithSole [t] e l env = pure false := by
  show swapsWith e (some t) l env = pure false
  exact swaps_ok h
theorem sw_cell {elt : Expr} {gs : List Comprehension} {scope : Scope} {pos py : Pos} {y : Str} {l : Nat} (hy : env.scope.names.lookup y = some .cell) : swapsWith (.ListComp elt gs scope pos) (some (.Name y py)) l env = pure false := by
  have ky : env.kindOf y = some .cell := hy
  unfold swapsWith
  simp only [ky]
  have h0 : ((some NameKind.cell == some NameKind.local) : Bool) = false := rfl
  rw [h0]
  simp only [Bool.and_false, Bool.false_and]
end
def isDoc : Expr → Bool
  | .Constant (.str _) _ _ => true
  | _ => false
def isCell (sc : Scope) (x : Str) : Bool := match sc.names.lookup x with
  | some .cell => true
  | _ => false
def isLocal (sc : Scope) (x : Str) : Bool := match sc.names.lookup x with
  | some .local => true
  | _ => false
def nameOk (sc : Scope) (x : Str) (px : Pos) (e : Expr) : Bool := match e with
  | .ListComp _ _ scope pos => isCell sc x || (isLocal sc x && (px.line == pos.line) && !(scope.names.any fun (n, k) => n == x && (k == .local || k == .cell)))
  | e => notComp e
def pairOk (sc : Scope) (ts vs : List Expr) : Bool := match ts, vs with
  | [.Name x px, .Name y py], [a, b] => isLocal sc x && isLocal sc y && decide (¬ x = y) && (py.line == px.line) && notStar a && notStar b && !([a, b].all (foldedForSure 8)) && !([a, b].all (constantsAlone 8))
  | _, _ => false
def cellOk (sc : Scope) (ts vs : List Expr) : Bool := match ts, vs with
  | [.Name x px, .Name y py], [a, b] => isCell sc y
  | _, _ => false
def tupOk (sc : Scope) (ts : List Expr) (e : Expr) : Bool := match e with
  | .Tuple vs _ _ => (vs.all (foldedForSure 8) || cellOk sc ts vs) || pairOk sc ts vs
  | e => notComp e
def lstTo (tx : Tx) (ts : List Expr) : Bool := match ts with
  | .Name x _ :: _ => tx.dv.contains x
  | _ => false
def isCallE : Expr → Bool
  | .Call _ _ _ _ => true
  | _ => false
def dictVar (tx : Tx) (sc : Scope) (e : Expr) : Option Str := (nameOf e).bind fun x => grd (tx.dv.contains x && isVis sc x && !dbg x) (some x)
theorem dictVar_get {tx : Tx} {sc : Scope} {e : Expr} {x : Str} (h : dictVar tx sc e = some x) : (∃ p, e = .Name x p) ∧ isVis sc x = true ∧ (!dbg x) = true := by
  obtain ⟨y, h1, h2⟩ := Option.bind_eq_some_iff.mp h
  obtain ⟨h3, h4⟩ := grd_get h2
  cases h4
  simp only [Bool.and_eq_true] at h3
  exact ⟨nameOf_get h1, h3.1.2, h3.2⟩
def tgOk (tx : Tx) (N : List Str) (x : Str) : Bool := match findS N x 0 with
  | some i => !hotAt tx i
  | none => false
section
variable (tx : Tx) (N : List Str)
mutual
def trS : Nat → Scope → Stmt → Option St
  | 0, _, _ => none
  | n + 1, sc, st => match st with
    | .Expr e _ => if isDoc e = true then some .nop else grd (notComp e) ((trE tx N n sc e).map .expr)
    | .Return o _ => match o with
      | none => some (.ret .cn)
      | some e => (trE tx N n sc e).map .ret
    | .Pass _ => some .nop
    | .If c a b _ => (trE tx N n sc c).bind fun cc => (trSs n sc a).bind fun ca => (trSs n sc b).map fun cb => .ite cc ca cb
    | .While c a els _ => match els with
      | [] => grd (cold tx) ((trE tx N n sc c).bind fun cc => (trSs n sc a).map fun ca => .while cc ca)
      | _ => none
    | .For tg it a els _ => match els with
      | [] => grd (cold tx) <| match dictVar tx sc it with
        | some x => (trP N sc tg).bind fun p => grd (wfP p) ((findS N x 0).bind fun i => (trSs n sc a).map fun ca => .forD p i ca)
        | none => grd (notSet it) ((trP N sc tg).bind fun p => grd (wfP p) ((trI tx N n sc tg it).bind fun ki => (trSs n sc a).map fun ca => .for p ki.1 ki.2 ca))
      | _ => none
    | .Assign tgs e _ => match tgs with
      | [tg] => match tg with
        | .Name x px => grd (nameOk sc x px e && tgOk tx N x) ((trP N sc (.Name x px)).bind fun p => (trE tx N n sc e).map fun c => .set p c)
        | .Tuple ts k p => match lstTo tx ts with
          | true => grd (cold tx && isCallE e) ((trPs N sc ts).bind fun p => grd (wfP p) ((trE tx N n sc e).map fun c => .setL p c))
          | false => grd (cold tx && tupOk sc ts e) ((trP N sc (.Tuple ts k p)).bind fun p => grd (wfP p) ((trE tx N n sc e).map fun c => .set p c))
        | .Subscript o i _ => grd (noSl i && notComp e) ((trE tx N n sc o).bind fun co => (trE tx N n sc i).bind fun ci => (trE tx N n sc e).map fun ce => .setIdx co ci ce)
        | .Attribute o f _ => grd (notComp e) (if f = "line" then (trE tx N n sc o).bind fun co => (trE tx N n sc e).map fun ce => .setLn co ce else (findS tx.fld f 0).bind fun j => (trE tx N n sc o).bind fun co => (trE tx N n sc e).map fun ce => .setAttr co j ce)
        | _ => none
      | _ => none
    | .AugAssign tg op e _ => match op with
      | .Add => match tg with
        | .Name x _ => grd (isLoc sc x && tgOk tx N x) ((findS N x 0).bind fun i => (trE tx N n sc e).map fun c => .augVar i c)
        | .Attribute o f _ => (findS tx.fld f 0).bind fun j => (trE tx N n sc o).bind fun co => (trE tx N n sc e).map fun ce => .augAttr co j ce
        | _ => none
      | _ => none
    | .Raise x cs _ => match x with
      | some (.Call (.Name y _) [e] [] _) => match cs with
        | none => (tx.exs.lookup y).bind fun c => if tx.lnd.contains c = true then some (.expr .nil) else grd (cold tx && isGlo sc y && !dbg y && notStar e) ((trE tx N n sc e).map fun a => .raise c (.cons a .nil))
        | some _ => none
      | _ => none
    | _ => none
def trSs : Nat → Scope → List Stmt → Option St
  | 0, _, _ => none
  | n + 1, sc, l => match l with
    | [] => some .nop
    | s :: r => match r with
      | [] => trS n sc s
      | r => (trS n sc s).bind fun a => (trSs n sc r).map fun b => .seq a b
end
def trT : Nat → Scope → List Stmt → Option St
  | 0, _, _ => none
  | n + 1, sc, l => match l with
    | [] => some .nop
    | st :: r => match r with
      | [] => match st with
        | .If c a b _ => (trE tx N n sc c).bind fun cc => (trT n sc a).bind fun ca => (trT n sc b).map fun cb => .ite cc ca cb
        | .Assign tgs e _ => match tgs with
          | [.Name x px] => grd (notComp e) ((trP N sc (.Name x px)).bind fun p => (trE tx N n sc e).map fun c => .set p c)
          | _ => none
        | .Expr e _ => grd (notComp e) ((trE tx N n sc e).map .expr)
        | _ => none
      | _ => none
def asCl : List ExceptHandler → Option (Str × Str × List Stmt)
  | [.ExceptHandler (some (.Name x _)) (some n) (b :: r) _] => some (x, n, b :: r)
  | _ => none
def noCl : List ExceptHandler → Option (List (Str × List Stmt))
  | [] => some []
  | .ExceptHandler (some (.Name x _)) none (b :: r) _ :: q => (noCl q).map fun l => (x, b :: r) :: l
  | _ => none
def suiteC (n : Nat) (sc : Scope) (i c : Nat) (l : List Stmt) : Option (Option (Nat × St)) := (trSs { tx with hot := some (i, c) } N n sc l).map fun s => some (i, s)
def pickCl (n : Nat) (sc : Scope) (c : Nat) : List (Str × List Stmt) → Option (Option (Nat × St))
  | [] => some none
  | h :: r => (kindOfN tx sc c h.1).bind fun b => if b = true then suiteC tx N n sc N.length c h.2 else pickCl n sc c r
def trTry (n : Nat) (sc : Scope) (body : List Stmt) (hds : List ExceptHandler) : Option St := match asCl hds with
  | some (x, nm, l) => (findS N nm 0).bind fun i => grd (isLocal sc nm && tx.leaf.all (fun c => (kindOfN tx sc c x).isSome) && !tx.leaf.isEmpty) ((trT tx N n sc body).bind fun cb =>
      (hdsOf (fun c => (kindOfN tx sc c x).bind fun b => if b = true then suiteC tx N n sc i c l else some none) tx.leaf).map fun ch => .tri cb ch)
  | none => (noCl hds).bind fun l => grd (!l.isEmpty && !tx.leaf.isEmpty && tx.leaf.all fun c => l.all fun h => (kindOfN tx sc c h.1).isSome) ((trT tx N n sc body).bind fun cb => (hdsOf (fun c => pickCl tx N n sc c l) tx.leaf).map fun ch => .tri cb ch)
def trTp (n : Nat) (sc : Scope) (st : Stmt) : Option St := match st with
  | .Try body hds els fin _ => match els, fin with
    | [], [] => grd (cold tx) (trTry tx N n sc body hds)
    | _, _ => none
  | st => trS tx N n sc st
def trTop (n : Nat) (sc : Scope) : List Stmt → Option St
  | [] => some .nop
  | s :: r => match r with
    | [] => trTp tx N n sc s
    | r => (trTp tx N n sc s).bind fun a => (trTop n sc r).map fun b => .seq a b
end
structure Cxd (X : Cx) (N : List Str) (sc : Scope) (T : Tab) (G : Ctx) (k : Nat) (tx : Tx) : Prop extends Cxt X N sc T G k tx where
  kind : X.env.scope.kind = .function
  ps : PassesOwn (model X.prog X.w) X.A X.env X.xe
  flat : ∀ σ, T.S σ
  rz : tx.hot = none → Tk2 X T ∧ X.stack = X.env :: X.outer ∧ X.env.frame = some X.env.locals
section
variable {X : Cx} {N : List Str} {sc : Scope} {T : Tab} {G : Ctx} {tx : Tx} {k : Nat}
abbrev OkS (X : Cx) (sc : Scope) (T : Tab) (G : Ctx) (k : Nat) (tx : Tx) (N : List Str) (n : Nat) : Prop := ∀ st c, trS tx N n sc st = some c → PS X st (tS X T G c)
abbrev OkSs (X : Cx) (sc : Scope) (T : Tab) (G : Ctx) (k : Nat) (tx : Tx) (N : List Str) (n : Nat) : Prop := ∀ st c, trSs tx N n sc st = some c → PSs X st (tS X T G c)
theorem Cxt.nt (C : Cxt X N sc T G k tx) {x : Str} {i : Nat} (h : tgOk tx N x = true) (e : findS N x 0 = some i) : ∀ y, T.gh = some y → i ≠ y.1 := by
  unfold tgOk at h
  rw [e] at h
  exact C.nh h
theorem Cxt.nt0 (C : Cxt X N sc T G k tx) (h : MP.cold tx = true) {p : P} : NoT T.gh p := fun x hx => by
  rw [C.gh0 h] at hx; cases hx
theorem isLocal_get {x : Str} (h : isLocal sc x = true) : sc.names.lookup x = some .local := by
  unfold isLocal at h
  split at h
  · assumption
  · cases h
theorem isCell_get {x : Str} (h : isCell sc x = true) : sc.names.lookup x = some .cell := by
  unfold isCell at h
  split at h
  · assumption
  · cases h
theorem trP_name {x : Str} {px : Pos} {p : P} (h : trP N sc (.Name x px) = some p) : ∃ i, N[i]? = some x ∧ p = .v i ∧ isLoc sc x = true ∧ findS N x 0 = some i := by
  unfold trP at h
  obtain ⟨h1, h2⟩ := grd_get h
  obtain ⟨i, h3, rfl⟩ := Option.map_eq_some_iff.mp h2
  exact ⟨i, findS_at h3, rfl, h1, h3⟩
theorem okSs {n : Nat} (hf : ∀ σ, T.S σ) (hS : OkS X sc T G k tx N n) (hSs : OkSs X sc T G k tx N n) : OkSs X sc T G k tx N (n + 1) := by
  intro l c h
  unfold trSs at h
  match l, h with
  | [], h => cases h; exact ss_nil
  | [s], h => exact ss_one (hS s c h)
  | s :: t :: r, h =>
    replace h := bind_get h
    obtain ⟨a, h1, h⟩ := h
    obtain ⟨b, h2, rfl⟩ := map_get h
    exact ss_cons hf (hS s a h1) (hSs (t :: r) b h2)
theorem okName {n : Nat} (C : Cxd X N sc T G k tx) {x : Str} {px pos : Pos} {e : Expr} {c : MP.St} (h : trS tx N (n + 1) sc (.Assign [.Name x px] e pos) = some c) : PS X (.Assign [.Name x px] e pos) (tS X T G c) := by
  unfold trS at h
  dsimp only at h
  replace h := grd_get h
  obtain ⟨h1, h⟩ := h
  rw [Bool.and_eq_true] at h1
  obtain ⟨h1, htg⟩ := h1
  replace h := bind_get h
  obtain ⟨p, h2, h⟩ := h
  obtain ⟨ce, h3, rfl⟩ := map_get h
  have hE := (ok_all (G := G) (k := k) (tx := tx) (N := N) n).1
  have nt : NoT T.gh p := by
    obtain ⟨i, _, rfl, _, e⟩ := trP_name h2
    exact fun x hx z => C.nt htg e x hx (by
      have z : x.1 = i := by simpa [slotsP] using z
      exact z.symm)
  have plain : notComp e = true → PS X (.Assign [.Name x px] e pos) (tS X T G (.set p ce)) := fun hn =>
    s_set nt (hE X sc C.toCxt e ce h3).1 (trP_nm C.S h2) (sole_ok hn) stores_name rfl
  obtain ⟨i, hi, rfl, hl, _⟩ := trP_name h2
  have hi' : X.N[i]? = some x := by rw [C.S.n]; exact hi
  cases e with
  | ListComp elt gs scope lp =>
    have h1 : (isCell sc x || (isLocal sc x && (px.line == lp.line) && !(scope.names.any fun (n, k) => n == x && (k == .local || k == .cell)))) = true := h1
    rw [Bool.or_eq_true] at h1
    rcases h1 with h1 | h1
    · exact s_set nt (hE X sc C.toCxt _ ce h3).1 (trP_nm C.S h2) (sw_cell (l := pos.line) (C.S.look (isCell_get h1) (by decide))) stores_name rfl
    · simp only [Bool.and_eq_true, Bool.not_eq_true'] at h1
      obtain ⟨⟨l1, l2⟩, l3⟩ := h1
      have hx := C.S.look (isLocal_get l1) (by decide)
      cases n with
      | zero => unfold trE at h3; cases h3
      | succ n =>
        have oa := ok_all (G := G) (k := k) (tx := tx) (N := N) n
        obtain ⟨hco, tg, iter, ifs, ce, cc, csrc, p, ki, rfl, rfl, g1, g2, g3, g4, g5, g6, g7⟩ := okComp C.toCxt oa.1 oa.2.2.2.2.2.1 oa.2.2.2.2.1 h3
        exact s_setLc (C.gh0 hco) (C.calm hco) (by rw [C.S.n]; exact C.S.nd) hi' hx (sw_true C.kind hx l2 l3) g1 g2 g3 g4 g5 g6 g7
  | _ => exact plain h1
theorem okTup {n : Nat} (C : Cxd X N sc T G k tx) {ts : List Expr} {kk : Nat} {pp pos : Pos} {e : Expr} {c : MP.St} (h : trS tx N (n + 1) sc (.Assign [.Tuple ts kk pp] e pos) = some c) : PS X (.Assign [.Tuple ts kk pp] e pos) (tS X T G c) := by
  unfold trS at h
  dsimp only at h
  split at h
  · replace h := grd_get h
    obtain ⟨h1, h⟩ := h
    rw [Bool.and_eq_true] at h1
    obtain ⟨hco, h1⟩ := h1
    replace h := bind_get h
    obtain ⟨p, h2, h⟩ := h
    replace h := grd_get h
    obtain ⟨hw, h⟩ := h
    obtain ⟨ce, h3, rfl⟩ := map_get h
    have oa := ok_all (G := G) (k := k) (tx := tx) (N := N) n
    have he := (oa.1 X sc C.toCxt e ce h3).1
    obtain ⟨g1, g2, g3, g4⟩ := trPs_ok C.S (C.calm hco) h2 hw
    have nc : notTup e = true := by cases e <;> first | rfl | cases h1
    exact s_setL (C.nt0 hco) (C.calm hco) he g1 hw g2 (by rw [assign_len]; exact g4.symm) (assign_find g3) (by cases e <;> first | rfl | cases h1) (stores_tup nc) rfl
  rename_i hlst
  replace h := grd_get h
  obtain ⟨h1, h⟩ := h
  rw [Bool.and_eq_true] at h1
  obtain ⟨hco, h1⟩ := h1
  replace h := bind_get h
  obtain ⟨p, h2, h⟩ := h
  replace h := grd_get h
  obtain ⟨hw, h⟩ := h
  obtain ⟨ce, h3, rfl⟩ := map_get h
  have oa := ok_all (G := G) (k := k) (tx := tx) (N := N) n
  have he := (oa.1 X sc C.toCxt e ce h3).1
  have hg := trP_ok C.S (C.calm hco) h2 hw
  have nt : NoT T.gh p := C.nt0 hco
  cases e with
  | Tuple vs k2 p2 =>
    have h1 : ((vs.all (foldedForSure 8) || cellOk sc ts vs) || pairOk sc ts vs) = true := h1
    rw [Bool.or_eq_true, Bool.or_eq_true] at h1
    rcases h1 with (h1 | h1) | h1
    · exact s_set nt he hg rfl (stores_fold h1) rfl
    · unfold cellOk at h1
      split at h1
      · exact s_set nt he hg rfl (stores_cell (C.S.look (isCell_get h1) (by decide))) rfl
      · cases h1
    · unfold pairOk at h1
      split at h1
      · rename_i x px y py a b _
        simp only [Bool.and_eq_true, Bool.not_eq_true', decide_eq_true_eq] at h1
        obtain ⟨⟨⟨⟨⟨⟨⟨l1, l2⟩, l3⟩, l4⟩, l5⟩, l6⟩, l7⟩, l8⟩ := h1
        have hx := C.S.look (isLocal_get l1) (by decide)
        have hy := C.S.look (isLocal_get l2) (by decide)
        have q : trPs N sc [.Name x px, .Name y py] = some p := by simpa [trP] using h2
        unfold trPs at q
        obtain ⟨_, q⟩ := grd_get q
        cases q1 : trP N sc (.Name x px) with
        | none => rw [q1] at q; cases q
        | some pa =>
          cases q2 : trPs N sc [.Name y py] with
          | none => rw [q1, q2] at q; cases q
          | some pb =>
            rw [q1, q2] at q
            cases q
            unfold trPs at q2
            obtain ⟨_, q⟩ := grd_get q2
            cases q3 : trP N sc (.Name y py) with
            | none => rw [q3] at q; cases q
            | some pc =>
              rw [q3] at q
              have e0 : trPs N sc [] = some .nil := by simp [trPs]
              rw [e0] at q
              cases q
              obtain ⟨i, hi, rfl, _, _⟩ := trP_name q1
              obtain ⟨j, hj, rfl, _, _⟩ := trP_name q3
              have hij : i ≠ j := fun z => by subst z; rw [hi] at hj; exact l3 (Option.some.inj hj)
              cases n with
              | zero => unfold trE at h3; cases h3
              | succ n =>
                unfold trE at h3
                replace h3 := bind_get h3
                obtain ⟨ca, h3, h4⟩ := h3
                replace h4 := grd_get h4
                obtain ⟨_, h4⟩ := h4
                cases h4
                obtain ⟨a1, _, a3⟩ := (ok_all (G := G) (k := k) (tx := tx) (N := N) n).2.1 X sc C.toCxt [a, b] ca h3
                exact s_par (fun z hz => by rw [C.gh0 hco] at hz; cases hz) (C.calm hco) (by rw [C.S.n]; exact C.S.nd) (by rw [C.S.n]; exact hi) (by rw [C.S.n]; exact hj) hij hx hy a1 a3 (stores_two C.kind hx hy l3 l4 l5 l6 l7 l8) rfl
      · cases h1
  | ListComp _ _ _ _ => cases h1
  | SetComp _ _ _ _ => cases h1
  | DictComp _ _ _ _ _ => cases h1
  | _ => exact s_set nt he hg rfl (stores_tup rfl) rfl
theorem okS {n : Nat} (C : Cxd X N sc T G k tx) (hSs : OkSs X sc T G k tx N n) : OkS X sc T G k tx N (n + 1) := by
  intro st c h
  have oa := ok_all (G := G) (k := k) (tx := tx) (N := N) n
  have hE := fun e c h => oa.1 X sc C.toCxt e c h
  cases st with
  | Expr e pos =>
    unfold trS at h
    dsimp only at h
    split at h
    · rename_i hd
      cases h
      unfold isDoc at hd
      split at hd
      · exact (s_expr (T := T) (G := G) e_str rfl).imp fun D0 σ H h => h
      · cases hd
    · replace h := grd_get h
      obtain ⟨h1, h⟩ := h
      obtain ⟨c1, h2, rfl⟩ := map_get h
      exact s_expr (hE e c1 h2).1 (swaps_none h1)
  | Return o pos =>
    unfold trS at h
    cases o with
    | none => cases h; exact s_retN
    | some e => obtain ⟨c1, h2, rfl⟩ := map_get h; exact s_ret (hE e c1 h2).1
  | Pass pos => unfold trS at h; cases h; exact s_pass
  | If cd a b pos =>
    unfold trS at h
    dsimp only at h
    replace h := bind_get h
    obtain ⟨cc, h1, h⟩ := h
    replace h := bind_get h
    obtain ⟨ca, h2, h⟩ := h
    obtain ⟨cb, h3, rfl⟩ := map_get h
    exact s_if (hE cd cc h1).2 (hSs a ca h2) (hSs b cb h3)
  | While cd a els pos =>
    unfold trS at h
    cases els with
    | cons _ _ => cases h
    | nil =>
      replace h := grd_get h
      obtain ⟨hco, h⟩ := h
      replace h := bind_get h
      obtain ⟨cc, h1, h⟩ := h
      obtain ⟨ca, h2, rfl⟩ := map_get h
      exact s_while C.flat C.ps (hE cd cc h1).2 (hSs a ca h2)
  | For tg it a els pos =>
    unfold trS at h
    cases els with
    | cons _ _ => cases h
    | nil =>
      dsimp only at h
      replace h := grd_get h
      obtain ⟨hco, h⟩ := h
      split at h
      · rename_i x hx
        obtain ⟨⟨px, rfl⟩, hv, hdb⟩ := dictVar_get hx
        obtain ⟨d1, d2, _⟩ := dbg_ok hdb
        replace h := bind_get h
        obtain ⟨p, h1, h⟩ := h
        replace h := grd_get h
        obtain ⟨hw, h⟩ := h
        replace h := bind_get h
        obtain ⟨i, h2, h⟩ := h
        obtain ⟨ca, h3, rfl⟩ := map_get h
        exact s_forD C.flat (fun y hy => by rw [C.gh0 hco] at hy; cases hy) (C.nt0 hco) C.ps (C.calm hco) (by rw [C.S.n]; exact findS_at h2) (C.S.see hv) d1 d2 (trP_ok C.S (C.calm hco) h1 hw) (hSs a ca h3)
      replace h := grd_get h
      obtain ⟨h0, h⟩ := h
      replace h := bind_get h
      obtain ⟨p, h1, h⟩ := h
      replace h := grd_get h
      obtain ⟨hw, h⟩ := h
      replace h := bind_get h
      obtain ⟨ki, h2, h⟩ := h
      obtain ⟨ca, h3, rfl⟩ := map_get h
      exact s_for C.flat (C.nt0 hco) C.ps (C.calm hco) (oa.2.2.2.2.2.1 X sc C.toCxt it ki tg h2) (trP_ok C.S (C.calm hco) h1 hw) (hSs a ca h3) (folded_ok h0)
  | Assign tgs e pos =>
    match tgs, h with
    | [tg], h =>
      cases tg with
      | Name x px => exact okName C h
      | Tuple ts kk p => exact okTup C h
      | Subscript o i p2 =>
        unfold trS at h
        dsimp only at h
        replace h := grd_get h
        obtain ⟨h0, h⟩ := h
        simp only [Bool.and_eq_true] at h0
        replace h := bind_get h
        obtain ⟨co, h1, h⟩ := h
        replace h := bind_get h
        obtain ⟨ci, h2, h⟩ := h
        obtain ⟨ce, h3, rfl⟩ := map_get h
        exact s_setIdx C.hu (hE e ce h3).1 (hE o co h1).1 (hE i ci h2).1 h0.1 (sole_ok h0.2) stores_sub
      | Attribute o f p2 =>
        unfold trS at h
        dsimp only at h
        replace h := grd_get h
        obtain ⟨h0, h⟩ := h
        split at h
        · rename_i hf
          subst hf
          replace h := bind_get h
          obtain ⟨co, h2, h⟩ := h
          obtain ⟨ce, h3, rfl⟩ := map_get h
          exact s_setLn (hE o co h2).1 (hE e ce h3).1 (swaps_ok h0)
        replace h := bind_get h
        obtain ⟨j, h1, h⟩ := h
        replace h := bind_get h
        obtain ⟨co, h2, h⟩ := h
        obtain ⟨ce, h3, rfl⟩ := map_get h
        exact s_setAttr (by rw [C.F.fld]; exact findS_at h1) (fun cl hf => C.F.fl cl j f hf (findS_at h1)) (hE e ce h3).1 (hE o co h2).1 (swaps_ok h0)
      | _ => unfold trS at h; cases h
    | [], h => unfold trS at h; cases h
    | _ :: _ :: _, h => unfold trS at h; cases h
  | AugAssign tg op e pos =>
    cases op with
    | Add =>
      cases tg with
      | Name x p2 =>
        unfold trS at h
        dsimp only at h
        replace h := grd_get h
        obtain ⟨h0, h⟩ := h
        rw [Bool.and_eq_true] at h0
        obtain ⟨h0, htg⟩ := h0
        replace h := bind_get h
        obtain ⟨i, h1, h⟩ := h
        obtain ⟨c1, h2, rfl⟩ := map_get h
        obtain ⟨l1, l2⟩ := C.S.loc h0
        exact s_augVar (C.nt htg h1) (by rw [C.S.n]; exact C.S.nd) (by rw [C.S.n]; exact findS_at h1) l1 (hE e c1 h2).1 l2
      | Attribute o f p2 =>
        unfold trS at h
        dsimp only at h
        replace h := bind_get h
        obtain ⟨j, h1, h⟩ := h
        replace h := bind_get h
        obtain ⟨co, h2, h⟩ := h
        obtain ⟨ce, h3, rfl⟩ := map_get h
        exact s_augAttr (by rw [C.F.fld]; exact findS_at h1) (fun cl hf => C.F.fl cl j f hf (findS_at h1)) (hE e ce h3).1 (hE o co h2).1
      | _ => unfold trS at h; cases h
    | _ => unfold trS at h; cases h
  | Raise x cs pos =>
    unfold trS at h
    dsimp only at h
    split at h
    · rename_i y py e pe
      split at h
      · replace h := bind_get h
        obtain ⟨cl, h1, h⟩ := h
        split at h
        · cases h
          exact ⟨fun pins s σ H D0 I ⟨ρ, μ, R, rs, rh, hw, _⟩ => (show False from hw).elim⟩
        · rename_i hl
          replace h := grd_get h
          obtain ⟨h2, h⟩ := h
          obtain ⟨a, h3, rfl⟩ := map_get h
          simp only [Bool.and_eq_true] at h2
          obtain ⟨⟨⟨hco, hg⟩, hd⟩, hns⟩ := h2
          obtain ⟨m1, M, nl⟩ := C.F.exs y cl h1 (by simpa using hl)
          exact s_raise (C.calm hco) (C.rz (cold_get hco)).1 M nl (C.S.glo hg) m1 (hE e a h3).1 (star_cons hns) (dbg_ok hd).1
      · cases h
    · cases h
  | _ => unfold trS at h; cases h
theorem ok_body (C : Cxd X N sc T G k tx) : ∀ n, OkS X sc T G k tx N n ∧ OkSs X sc T G k tx N n
  | 0 => ⟨fun st c h => (by unfold trS at h; cases h), fun st c h => (by unfold trSs at h; cases h)⟩
  | n + 1 => let ⟨h1, h2⟩ := ok_body C n; ⟨okS C h2, okSs C.flat h1 h2⟩
theorem Cxt.tri (C : Cxt X N sc T G k tx) (hc : MP.cold tx = true) {Z : EX} {W : Nat → List D → Hp → Prop} {S : L2.St → Prop} {pn : List (Addr × Obj)} {xe : Value → Shared → Prop} (tk : Tk (X.tr pn xe) (T.try Z W S)) : Cxt (X.tr pn xe) N sc (T.try Z W S) G k tx :=
  ⟨⟨C.S.n, C.S.nd, C.S.vis, C.S.fn⟩, C.F, C.hu, C.key, tk, fun h => C.cold h, fun i c h => by rw [cold_get hc] at h; cases h⟩
theorem okT (C : Cxt X N sc T G k tx) (hc : MP.cold tx = true) : ∀ {n : Nat} {l : List Stmt} {c : MP.St}, trT tx N n sc l = some c → BodyOk X T G l c
  | 0, _, _, h => (by unfold trT at h; cases h)
  | n + 1, [], c, h => fun Z W S pn xe tk => by
    unfold trT at h
    cases h
    exact ss_nil (X := X.tr pn xe)
  | n + 1, st :: _ :: _, c, h => (by unfold trT at h; cases h)
  | n + 1, [st], c, h => fun Z W S pn xe tk => by
    have C2 := C.tri hc tk
    have hE := fun e c h => (ok_all (G := G) (k := k) (tx := tx) (N := N) n).1 _ sc C2 e c h
    unfold trT at h
    dsimp only at h
    refine ss_one (X := X.tr pn xe) ?_
    split at h
    · rename_i cd a b pos
      replace h := bind_get h
      obtain ⟨cc, h1, h⟩ := h
      replace h := bind_get h
      obtain ⟨ca, h2, h⟩ := h
      obtain ⟨cb, h3, rfl⟩ := map_get h
      exact s_if (X := X.tr pn xe) (hE cd cc h1).2 (okT C hc h2 Z W S pn xe tk) (okT C hc h3 Z W S pn xe tk)
    · split at h
      · replace h := grd_get h
        obtain ⟨h1, h⟩ := h
        replace h := bind_get h
        obtain ⟨p, h2, h⟩ := h
        obtain ⟨ce, h3, rfl⟩ := map_get h
        exact s_set (X := X.tr pn xe) (C2.nt0 hc) (hE _ ce h3).1 (trP_nm C2.S h2) (sole_ok h1) stores_name rfl
      · cases h
    · replace h := grd_get h
      obtain ⟨h1, h⟩ := h
      obtain ⟨ce, h3, rfl⟩ := map_get h
      exact s_expr (X := X.tr pn xe) (hE _ ce h3).1 (swaps_none h1)
    · cases h
theorem suite_ok (C : Cxd X N sc T G k tx) (hc : MP.cold tx = true) {n i c : Nat} {l : List Stmt} {s : MP.St} (hl : c ∈ tx.leaf) (h : trSs { tx with hot := some (i, c) } N n sc l = some s) : SuiteOk X T G l i c s := fun a oe o pn hz hf hx => by
  have F := C.F
  have C2 : Cxd (X.suite a ((a, oe) :: pn)) N sc (T.hot i a o) G k { tx with hot := some (i, c) } :=
    ⟨⟨⟨C.S.n, C.S.nd, C.S.vis, C.S.fn⟩, ⟨F.fns, F.cls, F.mts, F.fl, F.csts, F.blt, F.fld, F.exs, F.leaf, F.lnd, F.exi, F.kds, F.xn, F.vb⟩, C.hu, C.key, ⟨_, takes1_no, fun _ _ _ _ _ _ z => z.elim⟩, fun h => (by cases h), fun j d h => (by cases h; exact ⟨⟨X, a, oe, pn, o, rfl, hz, hf, rfl, hx⟩, hl⟩)⟩,
      C.kind, PassesOwn.never, fun _ => True.intro, fun h => (by cases h)⟩
  exact (ok_body C2 n).2 l s h
theorem asCl_get {hds : List ExceptHandler} {x n : Str} {l : List Stmt} (h : asCl hds = some (x, n, l)) : ∃ p q b r, hds = [.ExceptHandler (some (.Name x p)) (some n) (b :: r) q] ∧ l = b :: r := by
  unfold asCl at h
  split at h
  · cases h; exact ⟨_, _, _, _, rfl, rfl⟩
  · cases h
theorem kind_cv {x : Str} {v w : V} {cv cw : Value} (h1 : CNm X x v cv) (h2 : CNm X x w cw) : cv = cw := by
  obtain ⟨_, _, _, _, h1⟩ := h1
  obtain ⟨_, _, _, _, h2⟩ := h2
  rcases h1 with h1 | ⟨h1, g1, _⟩ <;> rcases h2 with h2 | ⟨h2, g2, _⟩
  · rw [h1] at h2; cases h2; rfl
  · rw [h1] at h2; cases h2
  · rw [h1] at h2; cases h2
  · rw [g1] at g2; cases g2; rfl
def kdOf (tx : Tx) (sc : Scope) (x : Str) (c : Nat) : Bool := match kindOfN tx sc c x with
  | some true => true
  | _ => false
theorem cla_of (C : Cxt X N sc T G k tx) {x : Str} (h0 : (!tx.leaf.isEmpty) = true) (h : ∀ c ∈ tx.leaf, (kindOfN tx sc c x).isSome = true) : ∃ v cv, CNm X x v cv ∧ ∀ c ∈ tx.leaf, PySem.W.exmOne X.K (.ref (T.ecl c)) cv = some (kdOf tx sc x c) := by
  cases hl : tx.leaf with
  | nil => rw [hl] at h0; cases h0
  | cons c0 r =>
    obtain ⟨b0, e0⟩ := Option.isSome_iff_exists.mp (h c0 (by rw [hl]; exact List.mem_cons_self))
    obtain ⟨v, cv, g1, _, _⟩ := kindOfN_get C (by rw [hl]; exact List.mem_cons_self) e0
    refine ⟨v, cv, g1, fun c hc => ?_⟩
    rw [← hl] at hc
    obtain ⟨b, e⟩ := Option.isSome_iff_exists.mp (h c hc)
    obtain ⟨w, cw, g2, _, g3⟩ := kindOfN_get C hc e
    rw [kind_cv g1 g2, g3]
    unfold kdOf
    rw [e]
    cases b <;> rfl
theorem hds_some {f : Nat → Option (Option (Nat × MP.St))} : ∀ {l : List Nat} {h : MP.St}, hdsOf f l = some h → ∀ c ∈ l, ∃ o, f c = some o
  | k :: l, h, e, c, m => by
    unfold hdsOf at e
    obtain ⟨o, h1, e1⟩ := Option.bind_eq_some_iff.mp e
    obtain ⟨t, h2, _⟩ := Option.map_eq_some_iff.mp e1
    rcases List.mem_cons.mp m with z | z
    · subst z; exact ⟨o, h1⟩
    · exact hds_some h2 c z
theorem noCl_ok (C : Cxd X N sc T G k tx) (hc : MP.cold tx = true) {n : Nat} (h0 : (!tx.leaf.isEmpty) = true) : ∀ {hds : List ExceptHandler} {l : List (Str × List Stmt)}, noCl hds = some l → (∀ c ∈ tx.leaf, ∀ h ∈ l, (kindOfN tx sc c h.1).isSome = true) →
    ∃ L : List Cla, ClaOk X hds L ∧ ∀ (f : Nat → Option (Option (Nat × MP.St))) c o, c ∈ tx.leaf → f c = some o → pickCl tx N n sc c l = some o → ClaAt X T G f N.length c L
  | [], l, e, _ => by
    unfold noCl at e
    cases e
    exact ⟨[], .nil, fun f c o _ h1 h2 => by unfold pickCl at h2; cases h2; exact h1⟩
  | hd :: q, l, e, hk => by
    unfold noCl at e
    split at e
    · rename_i hh
      cases hh
    · rename_i x p b r p2 q2 hh
      cases hh
      obtain ⟨l2, e2, rfl⟩ := map_get e
      obtain ⟨v, cv, g1, g2⟩ := cla_of C.toCxt h0 fun c hc => hk c hc (x, b :: r) List.mem_cons_self
      obtain ⟨L, g3, g4⟩ := noCl_ok C hc h0 e2 fun c hc h hm => hk c hc h (List.mem_cons_of_mem _ hm)
      refine ⟨⟨cv, b :: r, kdOf tx sc x⟩ :: L, .cons g1 g3, fun f c o hcl h1 h2 => ⟨g2 c hcl, ?_⟩⟩
      unfold pickCl at h2
      obtain ⟨b0, h3, h4⟩ := Option.bind_eq_some_iff.mp h2
      have h3 : kindOfN tx sc c x = some b0 := h3
      have ek : kdOf tx sc x c = b0 := by unfold kdOf; rw [h3]; cases b0 <;> rfl
      show match kdOf tx sc x c with
        | true => ∃ s, f c = some (some (N.length, s)) ∧ SuiteOk X T G (b :: r) N.length c s
        | false => ClaAt X T G f N.length c L
      rw [ek]
      cases b0 with
      | true =>
        rw [if_pos rfl] at h4
        unfold suiteC at h4
        obtain ⟨s, h5, rfl⟩ := Option.map_eq_some_iff.mp h4
        exact ⟨s, h1, suite_ok C hc hcl h5⟩
      | false =>
        rw [if_neg (by decide)] at h4
        exact g4 f c o hcl h1 h4
    · cases e
theorem okTry {n : Nat} (C : Cxd X N sc T G k tx) (hc : MP.cold tx = true) {body : List Stmt} {hds : List ExceptHandler} {pos : Pos} {c : MP.St} (h : trTry tx N n sc body hds = some c) : PS X (.Try body hds [] [] pos) (tS X T G c) := by
  obtain ⟨tk, hs, hf⟩ := C.rz (cold_get hc)
  have hg0 := C.gh0 hc
  unfold trTry at h
  split at h
  · rename_i x nm l hl
    obtain ⟨np, q, b0, r, rfl, rfl⟩ := asCl_get hl
    replace h := bind_get h
    obtain ⟨i, h1, h⟩ := h
    replace h := grd_get h
    obtain ⟨h2, h⟩ := h
    simp only [Bool.and_eq_true, List.all_eq_true] at h2
    obtain ⟨⟨hloc, hk⟩, h0⟩ := h2
    replace h := bind_get h
    obtain ⟨cb, h3, h⟩ := h
    obtain ⟨ch, h4, rfl⟩ := map_get h
    obtain ⟨v, cv, g1, g2⟩ := cla_of C.toCxt h0 hk
    have hkd : ∀ d ∈ tx.leaf, kindOfN tx sc d x = some (kdOf tx sc x d) := fun d hd => by
      obtain ⟨b, e⟩ := Option.isSome_iff_exists.mp (hk d hd)
      unfold kdOf
      rw [e]
      cases b <;> rfl
    refine s_tryAs (leaf := tx.leaf) (kd := kdOf tx sc x) hs hf (by rw [C.S.n]; exact C.S.nd) (by rw [C.S.n]; exact findS_at h1) (C.S.look (isLocal_get hloc) (by decide)) g1 tk hg0 C.F.leaf g2 (fun d hd e => ?_) (fun d hd e => ?_) h4 (okT C.toCxt hc h3)
    · rw [hkd d hd, e]; rfl
    · obtain ⟨o, ho⟩ := hds_some h4 d hd
      rw [hkd d hd, e] at ho ⊢
      have ho : suiteC tx N n sc i d (b0 :: r) = some o := ho
      show ∃ s, suiteC tx N n sc i d (b0 :: r) = some (some (i, s)) ∧ _
      unfold suiteC at ho ⊢
      obtain ⟨s, h5, _⟩ := Option.map_eq_some_iff.mp ho
      exact ⟨s, by rw [h5]; rfl, suite_ok C hc hd h5⟩
  · replace h := bind_get h
    obtain ⟨l, h1, h⟩ := h
    replace h := grd_get h
    obtain ⟨h2, h⟩ := h
    simp only [Bool.and_eq_true, List.all_eq_true] at h2
    obtain ⟨⟨hne, h0⟩, hk⟩ := h2
    replace h := bind_get h
    obtain ⟨cb, h3, h⟩ := h
    obtain ⟨ch, h4, rfl⟩ := map_get h
    obtain ⟨L, g1, g2⟩ := noCl_ok C hc (n := n) h0 h1 hk
    cases hds with
    | nil => unfold noCl at h1; cases h1; cases hne
    | cons hd q => exact s_tryMany (leaf := tx.leaf) hs hf (by rw [C.S.n]; exact Nat.le_refl _) tk hg0 C.F.leaf g1 (fun d hd => by
        obtain ⟨o, ho⟩ := hds_some h4 d hd
        exact g2 _ d o hd ho ho) h4 (okT C.toCxt hc h3)
theorem okTp {n : Nat} (C : Cxd X N sc T G k tx) {st : Stmt} {c : MP.St} (h : trTp tx N n sc st = some c) : PS X st (tS X T G c) := by
  unfold trTp at h
  split at h
  · split at h
    · replace h := grd_get h
      obtain ⟨h1, h⟩ := h
      exact okTry C h1 h
    · cases h
  · exact (ok_body C n).1 _ c h
theorem ok_top {n : Nat} (C : Cxd X N sc T G k tx) : ∀ {l : List Stmt} {c : MP.St}, trTop tx N n sc l = some c → PSs X l (tS X T G c)
  | [], c, h => by unfold trTop at h; cases h; exact ss_nil
  | [s], c, h => ss_one (okTp C h)
  | s :: t :: r, c, h => by
    unfold trTop at h
    replace h := bind_get h
    obtain ⟨a, h1, h⟩ := h
    obtain ⟨b, h2, rfl⟩ := map_get h
    exact ss_cons C.flat (okTp C h1) (ok_top C h2)
end
end MP

set_option linter.all false
set_option maxRecDepth 100000
set_option maxHeartbeats 4000000
set_option Elab.async false
namespace MP
open PySem PySem.Spec PyProof.Rows L2
theorem zip_look : ∀ {ns : List Str} {us : List Value}, ns.Nodup → us.length = ns.length → ∀ n ∈ ns, ((ns.zip us).lookup n).isNone = false
  | n :: ns, u :: us, nd, hl, m, hm => by
    rw [List.zip_cons_cons, List.lookup_cons]
    cases e : m == n with
    | true => rfl
    | false =>
      have ne : ¬ m = n := by simpa using e
      rcases List.mem_cons.mp hm with h | h
      · exact absurd h ne
      · exact zip_look (List.nodup_cons.mp nd).2 (by simpa using hl) m h
theorem zip_map : ∀ {ns : List Str} {us : List Value}, ns.Nodup → us.length = ns.length → ∀ f : Str → Option Value, (∀ p ∈ ns.zip us, f p.1 = some p.2) → ns.filterMap (fun n => (f n).map (n, ·)) = ns.zip us
  | [], [], _, _, _, _ => rfl
  | n :: ns, u :: us, nd, hl, f, h => by
    rw [List.zip_cons_cons, List.filterMap_cons, h (n, u) (by simp)]
    show (n, u) :: _ = _
    rw [zip_map (List.nodup_cons.mp nd).2 (by simpa using hl) f fun p hp => h p (by simp [hp])]
theorem zip_at : ∀ {ns : List Str} {us : List Value}, ns.Nodup → us.length = ns.length → ∀ p ∈ ns.zip us, (ns.zip us).lookup p.1 = some p.2
  | [], [], _, _, _, h => by simp at h
  | n :: ns, u :: us, nd, hl, p, h => by
    rw [List.zip_cons_cons] at h ⊢
    rw [List.lookup_cons]
    rcases List.mem_cons.mp h with e | e
    · subst e; simp
    · have h1 : p.1 ∈ ns := (List.of_mem_zip e).1
      have ne : (p.1 == n) = false := by
        have : ¬ p.1 = n := fun z => (List.nodup_cons.mp nd).1 (z ▸ h1)
        simpa using this
      rw [ne]
      exact zip_at (List.nodup_cons.mp nd).2 (by simpa using hl) p e
theorem bind_plain {as : List Arg} {x q : Str} {body : List Stmt} {scope : Scope} {kV doc pm : Value} {an : Option Addr} {cdv ct : Value} {us : List Value} (nd : (as.map (·.arg)).Nodup) (hl : us.length = (as.map (·.arg)).length) :
    bindArgs (PySem.W.fnOf x q ⟨[], as, none, [], [], none, []⟩ body scope .none kV doc pm an cdv ct) ⟨us, []⟩ = pure ((as.map (·.arg)).zip us) := by
  have hs : seqItems? Value.none = pure none := rfl
  unfold bindArgs
  dsimp only [PySem.W.fnOf]
  rw [hs]
  generalize as.map (·.arg) = ns at nd hl ⊢
  have h1 : ns.filter (fun n => ((ns.zip us).lookup n).isNone) = [] := List.filter_eq_nil_iff.mpr fun n hn => by rw [zip_look nd hl n hn]; decide
  have h2 := zip_map nd hl (fun n => (ns.zip us).lookup n) (zip_at nd hl)
  simp [h1, h2, hl]
structure DE where
  num : Nat
  cls : Option Str
  name : Str
  qual : Str
  st : Stmt
  N : List Str
  fd : FD
  /-- names that hold dicts where they are walked -/
  dv : List Str := []
def DE.par (d : DE) : List Str := (defArgs d.st).args.map (·.arg)
def DE.at_ (d : DE) : Str × Option Str := match d.cls with
  | none => (d.name, none)
  | some c => (c, some d.name)
def DE.dd (d : DE) : He.DefD := ⟨d.at_, d.name, d.qual, defArgs d.st, defBody d.st, defScope d.st, [], []⟩
def plainArgs : Arguments → Bool
  | ⟨[], _, none, [], [], none, []⟩ => true
  | _ => false
theorem plainArgs_ok {a : Arguments} (h : plainArgs a = true) : a = ⟨[], a.args, none, [], [], none, []⟩ := by
  obtain ⟨p, as, v, ko, kd, kw, df⟩ := a
  cases p <;> cases v <;> cases ko <;> cases kd <;> cases kw <;> cases df <;> first | rfl | cases h
def isFun : ScopeKind → Bool
  | .function => true
  | _ => false
def scOk (N ps : List Str) (sc : Scope) : Bool := isFun sc.kind && !sc.isCoroutine && !sc.isGenerator && decide N.Nodup && decide (N.take ps.length = ps) && ps.all (isLoc sc) && sc.names.all (fun y => match y.2 with
  | .free => false
  | _ => true)
theorem scOk_ok {N ps : List Str} {sc : Scope} (h : scOk N ps sc = true) : FnScope N ps sc := by
  unfold scOk at h
  simp only [Bool.and_eq_true, decide_eq_true_eq, Bool.not_eq_true', List.all_eq_true] at h
  obtain ⟨⟨⟨⟨⟨⟨h1, h2⟩, h3⟩, h4⟩, h5⟩, h6⟩, h7⟩ := h
  refine ⟨?_, h2, h3, h4, h5, fun x hx => ?_, fun y hy e => ?_⟩
  · unfold isFun at h1
    split at h1
    · assumption
    · cases h1
  · have q := h6 x hx
    unfold isLoc at q
    split at q
    · rename_i e; exact .inl e
    · rename_i e; exact .inr e
    · cases q
  · have q := h7 y hy
    rw [e] at q
    cases q
def DE.isKey (d : DE) : Bool := d.cls.isNone && d.name == "with_known" && d.qual == "with_known"
def DE.ok (tx : Tx) (d : DE) : Bool := decide (trTop { tx with key := d.isKey, dv := d.dv } d.N 100 (defScope d.st) (defBody d.st) = some d.fd.body) && decide (d.fd.np = d.par.length) && decide (d.fd.ns = d.N.length) && plainArgs (defArgs d.st) && scOk d.N d.par (defScope d.st) && decide d.par.Nodup
structure Txt where
  ds : List DE
  cn : List (Str × Nat)
  ci : List (Str × Nat × Int)
  cs : List (Str × Nat × Str)
  fld : List Str
  mt : List ((Nat × Nat) × Nat)
  fl : List (Nat × Nat)
  exs : List (Str × Nat)
  /-- names of the module that stand for (None, None) -/
  ct : List (Str × Nat) := []
  /-- the exceptions whose instances keep a line; of which class each exception is, by name -/
  lnd : List Nat := []
  ks : List ((Nat × Str) × Bool) := []
  /-- the exceptions with an own __init__; the classes whose __init__ is that of ValueError -/
  xn : List Nat := []
  vb : List Str := []
namespace Txt
variable (t : Txt)
def cname (c : Nat) : Str := ((t.cn.map fun e => (e.2, e.1)).lookup c).getD ""
def fname (i : Nat) : Str := (t.fld[i]?).getD ""
def initOf (x : Str) : Option DE := t.ds.find? fun d => d.cls == some x && d.name == "__init__"
def ename (c : Nat) : Str := ((t.exs.map fun e => (e.2, e.1)).lookup c).getD ""
def xc : List Str := t.xn.map t.ename
def tx : Tx where
  fns := t.ds.filterMap fun d => match d.cls with
    | none => some (d.name, d.num, d.fd.np)
    | some _ => none
  cls := t.cn.filterMap fun e => (t.initOf e.1).map fun d => (e.1, e.2, d.num, d.fd.np)
  csts := t.ci.map (fun e => (e.1, e.2.1)) ++ t.cs.map (fun e => (e.1, e.2.1)) ++ t.ct
  fld := t.fld
  mts := t.ds.filterMap fun d => match d.cls with
    | none => none
    | some _ => (findS t.fld d.name 0).map fun i => (i, d.fd.np)
  exs := t.exs
  leaf := t.exs.map (·.2)
  lnd := t.lnd
  kinds := t.ks
  xn := t.xn.filterMap fun c => (t.initOf (t.ename c)).map fun d => (c, d.num, d.fd.np)
  vb := t.vb
def tab : List (Nat × FD) := t.ds.map fun d => (d.num, d.fd)
def cst (c : Nat) : Option D := match (t.ci.map (·.2)).lookup c with
  | some i => some (.int i)
  | none => match (t.cs.map (·.2)).lookup c with
    | some s => some (.str s.cps.toList)
    | none => if (t.ct.map (·.2)).contains c = true then some (.tup [.non, .non]) else none
def lev (f : Nat → Fn) : Ctx where
  fn := f
  mt := fun c m => t.mt.lookup (c, m)
  fl := fun c i => t.fl.contains (c, i)
  cst := t.cst
def fnOf (G : Ctx) (f : Nat) : Fn := match t.tab.lookup f with
  | some fd => runF G fd
  | none => fun _ _ _ _ => False
def ctx : Nat → Ctx
  | 0 => t.lev fun _ _ _ _ _ => False
  | k + 1 => t.lev (t.fnOf (ctx k))
def fas : List He.Fa := t.ds.flatMap (fun d => match d.cls with
    | none => [.glo d.name]
    | some c => if t.xc.contains c = true then [] else [.meth c d.name]) ++ t.cn.flatMap (fun e => [.glo e.1, .cls e.1]) ++ t.cn.flatMap (fun e => match t.initOf e.1 with
    | some _ => [.mkr e.1]
    | none => []) ++ t.fl.map (fun e => .noat (t.cname e.1) (t.fname e.2)) ++ t.ci.map (fun e => .int e.1 e.2.2) ++ t.cs.map (fun e => .str e.1 e.2.2) ++ bltNames.map .free ++ (t.ct.map fun e => .glo e.1) ++ (t.exs.map (fun e => .glo e.1) ++ ((t.ks.map fun e => if e.1.2 = ("ValueError" : Str) then .free e.1.2 else .glo e.1.2) ++ t.vb.map .glo))
def kval (K : PySem.W.Frag) (y : Str) : Value := if y = ("ValueError" : Str) then .type "ValueError" else .ref (He.ga K y)
def tf : List He.Defn := if t.ds.any DE.isKey = true then [("with_known", none)] else []
def ex (K : PySem.W.Frag) : Bool := (t.ct.all fun e => He.tupB K e.1 [.non, .non]) && (t.exs.all (fun e => (t.lnd.contains e.2 || excMB K (He.ga K e.1)) && excIB K (He.ga K e.1)) &&
  ((t.ks.all fun e => decide (PySem.W.kitOne K (.ref (He.ga K (t.ename e.1.1))) (Txt.kval K e.1.2) = some e.2) && decide (PySem.W.exmOne K (.ref (He.ga K (t.ename e.1.1))) (Txt.kval K e.1.2) = some e.2)) &&
    ((t.xn.all fun c => exnB K (He.ga K (t.ename c)) (He.ma K (He.ga K (t.ename c)) "__init__")) && t.vb.all fun y => vebB K (He.ga K y))))
def dds : List He.DefD := t.ds.map DE.dd
def okDs : Bool := t.ds.all (DE.ok t.tx)
def okTab : Bool := decide (t.ds.map (·.num)).Nodup && decide t.fld.Nodup && t.cn.all (fun e => decide (t.cname e.2 = e.1)) &&
  t.mt.all (fun e => t.ds.any fun d => decide (d.num = e.2) && decide (d.cls = some (t.cname e.1.1)) && decide (t.fld[e.1.2]? = some d.name) && decide (t.tx.mts.lookup e.1.2 = some d.fd.np) && !(t.xc.contains (t.cname e.1.1))) &&
  t.ci.all (fun e => decide ((t.ci.map (·.2)).lookup e.2.1 = some e.2.2)) && t.cs.all (fun e => decide ((t.ci.map (·.2)).lookup e.2.1 = none) && decide ((t.cs.map (·.2)).lookup e.2.1 = some e.2.2)) && t.ct.all (fun e => decide ((t.ci.map (·.2)).lookup e.2 = none) && decide ((t.cs.map (·.2)).lookup e.2 = none)) &&
  (t.exs.all (fun e => decide (t.ename e.2 = e.1)) && t.ks.all (fun e => !(e.1.2 == ("__debug__" : Str))))
end Txt
theorem look_mem {α β : Type} [BEq α] [LawfulBEq α] : ∀ {l : List (α × β)} {x : α} {y : β}, l.lookup x = some y → (x, y) ∈ l
  | (a, b) :: r, x, y, h => by
    rw [List.lookup_cons] at h
    split at h
    · rename_i e
      cases h
      have e : x = a := by simpa using e
      rw [e]; exact List.mem_cons_self ..
    · exact List.mem_cons_of_mem _ (look_mem h)
theorem tab_at : ∀ {ds : List DE}, (ds.map (·.num)).Nodup → ∀ d ∈ ds, (ds.map fun d => (d.num, d.fd)).lookup d.num = some d.fd
  | e :: ds, nd, d, hd => by
    rw [List.map_cons, List.lookup_cons]
    rcases List.mem_cons.mp hd with h | h
    · subst h; simp
    · have nd : (e.num :: ds.map (·.num)).Nodup := nd
      have ne : (d.num == e.num) = false := by
        have : ¬ d.num = e.num := fun z => (List.nodup_cons.mp nd).1 (z ▸ List.mem_map_of_mem h)
        simpa using this
      rw [ne]
      exact tab_at (List.nodup_cons.mp nd).2 d h
theorem says_mem {fa : List He.Fa} {fn : List He.DefD} {K : PySem.W.Frag} (c : He.SaysD fa fn K) {f : He.Fa} (h : f ∈ fa) : f.ok K = true := by
  obtain ⟨i, hi, e⟩ := List.mem_iff_getElem.mp h
  exact c.fact i (by rw [List.getElem?_eq_getElem hi, e])
theorem says_def {fa : List He.Fa} {fn : List He.DefD} {K : PySem.W.Frag} (c : He.SaysD fa fn K) {d : He.DefD} (h : d ∈ fn) : ∃ fd, FunD K d.name d.qual d.params d.body d.scope (d.dvs K) (d.kws K) (He.fAd K d.at_) fd := by
  obtain ⟨i, hi, e⟩ := List.mem_iff_getElem.mp h
  exact c.def_ i (by rw [List.getElem?_eq_getElem hi, e])
section
variable {t : Txt} {P : Program} {w : World} {K : PySem.W.Frag} {mg : Str → Option Value} {base h : Heap}
def Txt.tabOf (t : Txt) (K : PySem.W.Frag) (nd : t.fld.Nodup) : Tab0 where
  fld := t.fld
  cls := fun c => He.ga K (t.cname c)
  nd := nd
  tabs := t.tf.map fun p => ((He.cT K p).2, "with_known" ++ ".<locals>." ++ "<lambda>")
  ecl := fun c => He.ga K (t.ename c)
  exk := fun c => if (t.exs.map (·.2)).contains c = true then some (t.lnd.contains c) else none
abbrev TBs (t : Txt) (K : PySem.W.Frag) (mg : Str → Option Value) (base : Heap) : Prop := ∀ p ∈ t.tf, LamX.TabB base mg (He.cT K p).1 (He.cT K p).2
def Lev (t : Txt) (P : Program) (w : World) (K : PySem.W.Frag) (mg : Str → Option Value) (base : Heap) (nd : t.fld.Nodup) (k : Nat) : Prop := ∀ d ∈ t.ds, ∀ fd, FunD K d.name d.qual (defArgs d.st) (defBody d.st) (defScope d.st) [] [] (He.fAd K d.at_) fd → FnI P w K mg base (t.tabOf K nd) (t.ctx k) (2 * k) d.num (He.fAd K d.at_) fd d.par
theorem initOf_get {x : Str} {d : DE} (e : t.initOf x = some d) : d ∈ t.ds ∧ d.cls = some x ∧ d.name = "__init__" := by
  unfold Txt.initOf at e
  have h1 := List.find?_some e
  simp only [Bool.and_eq_true, beq_iff_eq] at h1
  exact ⟨List.mem_of_find?_eq_some e, h1.1, h1.2⟩
theorem ctx_lev (k : Nat) : ∃ f, t.ctx k = t.lev f := by cases k <;> exact ⟨_, rfl⟩
theorem facts_ok (X : K.In h) (g : h.Ns mainGlobals mg) (c : He.SaysD t.fas t.dds K) (cx : t.ex K = true) (ht : t.okTab = true) (hd : t.okDs = true) (nd : t.fld.Nodup) {k : Nat} (L : Lev t P w K mg base nd k) : Facts P w K mg base (t.tabOf K nd) (t.ctx k) (2 * k) t.tx := by
  unfold Txt.okTab at ht
  simp only [Bool.and_eq_true, List.all_eq_true, List.any_eq_true, decide_eq_true_eq] at ht
  obtain ⟨⟨⟨⟨⟨⟨⟨t1, t2⟩, t3⟩, t4⟩, t5⟩, t6⟩, t7⟩, t8, t9⟩ := ht
  unfold Txt.ex at cx
  simp only [Bool.and_eq_true, List.all_eq_true, decide_eq_true_eq, Bool.or_eq_true] at cx
  obtain ⟨cx, cx2, cx3, cx4, cx5⟩ := cx
  have np : ∀ d ∈ t.ds, d.fd.np = d.par.length := fun d m => by
    have q := List.all_eq_true.mp hd d m
    unfold DE.ok at q
    simp only [Bool.and_eq_true, decide_eq_true_eq] at q
    exact q.1.1.1.1.2
  have fa : ∀ {f : He.Fa}, f ∈ t.fas → f.ok K = true := fun m => says_mem c m
  obtain ⟨f0, e0⟩ := ctx_lev (t := t) k
  refine ⟨fun x f n e => ?_, fun x cl f n e => ?_, fun cl m f mn ar e1 e2 e3 => ?_, fun cl i x e1 e2 => ?_, fun x cc e => ?_, fun x hx => ?_, rfl, fun x cc e hl => ?_, fun cc h => ?_, fun cc hc => ?_, fun cc hc => ?_, fun cc hc y b e => ?_, fun x ce f n e1 e2 => ?_, fun y hy => ?_⟩
  · have m := look_mem e
    obtain ⟨d, md, ed⟩ := List.mem_filterMap.mp m
    cases hc : d.cls with
    | some _ => rw [hc] at ed; cases ed
    | none =>
      rw [hc] at ed
      cases ed
      obtain ⟨fd, F0⟩ := says_def c (List.mem_map_of_mem md); have F := L d md fd F0
      refine ⟨_, fd, d.par, ?_, F, (np d md).symm⟩
      have q : (He.Fa.glo d.name) ∈ t.fas := by
        unfold Txt.fas
        simp only [List.mem_append, List.mem_flatMap]
        exact .inl (.inl (.inl (.inl (.inl (.inl (.inl (.inl ⟨d, md, by rw [hc]; exact List.mem_cons_self ..⟩)))))))
      have ea : He.fAd K d.at_ = He.ga K d.name := by unfold DE.at_; rw [hc]; rfl
      rw [ea]
      exact He.glo_ok X g (fa q)
  · have m := look_mem e
    obtain ⟨ec, mc, ed⟩ := List.mem_filterMap.mp m
    obtain ⟨d, hi, ed⟩ := Option.map_eq_some_iff.mp ed
    cases ed
    obtain ⟨md, hc, hn⟩ := initOf_get hi
    obtain ⟨fd, F0⟩ := says_def c (List.mem_map_of_mem md); have F := L d md fd F0
    have q1 : (He.Fa.glo ec.1) ∈ t.fas := by
      unfold Txt.fas
      simp only [List.mem_append, List.mem_flatMap]
      exact .inl (.inl (.inl (.inl (.inl (.inl (.inl (.inr ⟨ec, mc, List.mem_cons_self ..⟩)))))))
    have q2 : (He.Fa.cls ec.1) ∈ t.fas := by
      unfold Txt.fas
      simp only [List.mem_append, List.mem_flatMap]
      exact .inl (.inl (.inl (.inl (.inl (.inl (.inl (.inr ⟨ec, mc, List.mem_cons_of_mem _ (List.mem_cons_self ..)⟩)))))))
    have q3 : (He.Fa.mkr ec.1) ∈ t.fas := by
      unfold Txt.fas
      simp only [List.mem_append, List.mem_flatMap]
      exact .inl (.inl (.inl (.inl (.inl (.inl (.inr ⟨ec, mc, by rw [hi]; exact List.mem_cons_self ..⟩))))))
    have ea : He.fAd K d.at_ = He.ma K (He.ga K ec.1) "__init__" := by unfold DE.at_; rw [hc, hn]; rfl
    have et : (t.tabOf K nd).cls ec.2 = He.ga K ec.1 := by show He.ga K (t.cname ec.2) = _; rw [t3 ec mc]
    refine ⟨_, fd, d.par, ?_, ?_, ?_, F, (np d md).symm⟩
    · rw [et]; exact He.glo_ok X g (fa q1)
    · rw [et, ea]; exact He.mkr_ok (fa q3)
    · rw [et]; exact He.cls_ok (fa q2)
  · rw [e0] at e1
    obtain ⟨d, md, q⟩ := t4 _ (look_mem (show t.mt.lookup (cl, m) = some f from e1))
    obtain ⟨⟨⟨⟨q1, q2⟩, q3⟩, q4⟩, q6⟩ := q
    have e2 : t.fld[m]? = some mn := e2
    have e3 : t.tx.mts.lookup m = some ar := e3
    obtain ⟨fd, F0⟩ := says_def c (List.mem_map_of_mem md); have F := L d md fd F0
    have q1 : d.num = f := q1
    have q3 : t.fld[m]? = some d.name := q3
    have q4 : t.tx.mts.lookup m = some d.fd.np := q4
    have q2 : d.cls = some (t.cname cl) := q2
    rw [q3] at e2; cases e2
    rw [q4] at e3; cases e3
    subst q1
    have ea : He.fAd K d.at_ = He.ma K (He.ga K (t.cname cl)) d.name := by unfold DE.at_; rw [q2]; rfl
    refine ⟨_, fd, d.par, ?_, F, (np d md).symm⟩
    have q5 : (He.Fa.meth (t.cname cl) d.name) ∈ t.fas := by
      unfold Txt.fas
      simp only [List.mem_append, List.mem_flatMap]
      exact .inl (.inl (.inl (.inl (.inl (.inl (.inl (.inl ⟨d, md, by
        rw [q2]
        have q6 : (t.xc.contains (t.cname cl)) = false := by simpa using q6
        show _ ∈ (if t.xc.contains (t.cname cl) = true then [] else [He.Fa.meth (t.cname cl) d.name])
        rw [if_neg (by rw [q6]; decide)]
        exact List.mem_cons_self ..⟩)))))))
    rw [ea]
    exact He.meth_ok (fa q5)
  · rw [e0] at e1
    have e1 : t.fl.contains (cl, i) = true := e1
    have m : (cl, i) ∈ t.fl := by simpa using e1
    have e2 : t.fld[i]? = some x := e2
    have en : t.fname i = x := by unfold Txt.fname; rw [e2]; rfl
    have q5 : (He.Fa.noat (t.cname cl) x) ∈ t.fas := by
      unfold Txt.fas
      simp only [List.mem_append, List.mem_map]
      exact .inl (.inl (.inl (.inl (.inl (.inr ⟨(cl, i), m, by rw [en]⟩)))))
    exact He.noat_ok (fa q5)
  · have m := look_mem e
    rw [e0]
    rcases List.mem_append.mp m with m | m
    rcases List.mem_append.mp m with m | m
    · obtain ⟨q, mq, eq⟩ := List.mem_map.mp m
      cases eq
      have q5 : (He.Fa.int q.1 q.2.2) ∈ t.fas := by
        unfold Txt.fas
        simp only [List.mem_append, List.mem_map]
        exact .inl (.inl (.inl (.inl (.inr ⟨q, mq, rfl⟩))))
      obtain ⟨tk, em⟩ := He.int_ok X g (fa q5)
      refine ⟨.int q.2.2, .int q.2.2, _, em, ⟨tk, rfl⟩, ?_, fun _ => rfl⟩
      show t.cst q.2.1 = _
      unfold Txt.cst
      rw [t5 q mq]
    · obtain ⟨q, mq, eq⟩ := List.mem_map.mp m
      cases eq
      have q5 : (He.Fa.str q.1 q.2.2) ∈ t.fas := by
        unfold Txt.fas
        simp only [List.mem_append, List.mem_map]
        exact .inl (.inl (.inl (.inr ⟨q, mq, rfl⟩)))
      obtain ⟨tk, em⟩ := He.str_ok X g (fa q5)
      refine ⟨.str q.2.2.cps.toList, .str q.2.2, _, em, ⟨tk, rfl⟩, ?_, fun _ => ?_⟩
      · show t.cst q.2.1 = _
        unfold Txt.cst
        rw [(t6 q mq).1, (t6 q mq).2]
      · show V.str q.2.2 = V.str (toS q.2.2.cps.toList)
        rw [toS_cps]
    · have q5 : (He.Fa.glo x) ∈ t.fas := by
        unfold Txt.fas
        simp only [List.mem_append, List.mem_map]
        exact .inl (.inr ⟨(x, cc), m, rfl⟩)
      have em := He.glo_ok X g (fa q5)
      have et : He.tupB K x [.non, .non] = true := cx (x, cc) m
      refine ⟨.tup [.non, .non], .ref (He.ga K x), _, em, rfl, ?_, fun H => ⟨He.ga K x, [.non, .non], rfl, He.tupB_ok et H, ⟨.non, [.non], rfl, rfl, .non, [], rfl, rfl, rfl⟩⟩⟩
      show t.cst cc = _
      unfold Txt.cst
      have hc : (t.ct.map (·.2)).contains cc = true := List.contains_iff_mem.mpr (List.mem_map_of_mem (f := (·.2)) m)
      rw [(t7 (x, cc) m).1, (t7 (x, cc) m).2]
      dsimp only
      rw [if_pos hc]
  · have q5 : (He.Fa.free x) ∈ t.fas := by
      unfold Txt.fas
      simp only [List.mem_append, List.mem_map]
      exact .inl (.inl (.inr ⟨x, hx, rfl⟩))
    exact He.free_ok X g (fa q5)
  · have m := look_mem (show t.exs.lookup x = some cc from e)
    have en : t.ename cc = x := t8 (x, cc) m
    have q5 : (He.Fa.glo x) ∈ t.fas := by
      unfold Txt.fas
      simp only [List.mem_append, List.mem_map]
      exact .inr (.inl ⟨(x, cc), m, rfl⟩)
    have hM : ExcM K (He.ga K x) := by
      rcases (cx2 (x, cc) m).1 with h | h
      · rw [show t.lnd.contains cc = false from hl] at h; cases h
      · exact excMB_ok h
    refine ⟨?_, ?_, ?_⟩
    · show mg x = some (.ref (He.ga K (t.ename cc)))
      rw [en]; exact He.glo_ok X g (fa q5)
    · show ExcM K (He.ga K (t.ename cc))
      rw [en]; exact hM
    · show (if (t.exs.map (·.2)).contains cc = true then some (t.lnd.contains cc) else none) = some false
      have hc : (t.exs.map (·.2)).contains cc = true := List.contains_iff_mem.mpr (List.mem_map_of_mem (f := (·.2)) m)
      rw [if_pos hc, show t.lnd.contains cc = false from hl]
  · have h : (if (t.exs.map (·.2)).contains cc = true then some (t.lnd.contains cc) else none).isSome = true := h
    split at h
    · rename_i hc
      exact List.contains_iff_mem.mp hc
    · cases h
  · show (if (t.exs.map (·.2)).contains cc = true then some (t.lnd.contains cc) else none) = some (t.lnd.contains cc)
    rw [if_pos (List.contains_iff_mem.mpr (show cc ∈ t.exs.map (·.2) from hc))]
  · obtain ⟨q, mq, rfl⟩ := List.mem_map.mp (show cc ∈ t.exs.map (·.2) from hc)
    show ExcI K (He.ga K (t.ename q.2))
    rw [t8 q mq]
    exact excIB_ok (cx2 q mq).2
  · have m := look_mem (show t.ks.lookup (cc, y) = some b from e)
    have hd : (y == ("__debug__" : Str)) = false := by simpa using t9 _ m
    obtain ⟨k1, k2⟩ := cx3 _ m
    dsimp only at k1 k2
    have q5 : (if y = ("ValueError" : Str) then He.Fa.free y else .glo y) ∈ t.fas := by
      unfold Txt.fas
      simp only [List.mem_append, List.mem_map]
      exact .inr (.inr (.inl ⟨_, m, rfl⟩))
    unfold Txt.kval at k1 k2
    by_cases hv : y = ("ValueError" : Str)
    · subst hv
      rw [if_pos rfl] at k1 k2 q5
      exact ⟨.ty "ValueError", .type "ValueError", hd, rfl, fun _ z => z, .inr ⟨He.free_ok X g (fa q5), by first | rfl | decide +kernel, by decide⟩, k1, k2⟩
    · rw [if_neg hv] at k1 k2 q5
      exact ⟨.ref (He.ga K y), .ref (He.ga K y), hd, rfl, fun _ z => z, .inl (He.glo_ok X g (fa q5)), k1, k2⟩
  · have m := look_mem (show t.exs.lookup x = some ce from e1)
    have en : t.ename ce = x := t8 (x, ce) m
    have m2 := look_mem (show (t.xn.filterMap fun c => (t.initOf (t.ename c)).map fun d => (c, d.num, d.fd.np)).lookup ce = some (f, n) from e2)
    obtain ⟨c', mc, ed⟩ := List.mem_filterMap.mp m2
    obtain ⟨d, hi, ed⟩ := Option.map_eq_some_iff.mp ed
    cases ed
    obtain ⟨md, hc, hn⟩ := initOf_get hi
    obtain ⟨fd, F0⟩ := says_def c (List.mem_map_of_mem md); have F := L d md fd F0
    have q5 : (He.Fa.glo x) ∈ t.fas := by
      unfold Txt.fas
      simp only [List.mem_append, List.mem_map]
      exact .inr (.inl ⟨(x, ce), m, rfl⟩)
    have ea : He.fAd K d.at_ = He.ma K (He.ga K (t.ename ce)) "__init__" := by unfold DE.at_; rw [hc, hn]; rfl
    refine ⟨_, fd, d.par, ?_, ?_, F, (np d md).symm⟩
    · show mg x = some (.ref (He.ga K (t.ename ce)))
      rw [en]; exact He.glo_ok X g (fa q5)
    · rw [ea]
      exact exnB_ok (cx4 ce mc)
  · have q5 : (He.Fa.glo y) ∈ t.fas := by
      unfold Txt.fas
      simp only [List.mem_append, List.mem_map]
      exact .inr (.inr (.inr ⟨y, hy, rfl⟩))
    exact ⟨He.ga K y, He.glo_ok X g (fa q5), vebB_ok (cx5 y hy)⟩
theorem RepVs.ix {K : PySem.W.Frag} {H : Hp} {ds : List D} {vs : List V} (r : RepVs K H ds vs) {i : Nat} {d : D} (h : ds[i]? = some d) : ∃ v, vs[i]? = some v ∧ RepV K H d v := r.get h
theorem rep_start {N : List Str} {ds : List D} {vs : List V} {H : Hp} (r : RepVs K H ds vs) (hl : vs.length ≤ N.length) {ns np : Nat} (e1 : ns = N.length) (e2 : np = vs.length) : RepS0 K none H (ds.map some ++ List.replicate (ns - np) none) (L2.start N vs) := by
  subst e1 e2
  have el := r.length
  unfold L2.start
  refine ⟨by simp [el], fun i d e _ => ?_, fun _ _ _ z => (nomatch z)⟩
  by_cases hi : i < ds.length
  · rw [List.getElem?_append_left (by simpa using hi)] at e
    rw [List.getElem?_append_left (by simpa [← el] using hi)]
    have e : ds[i]? = some d := by
      rw [List.getElem?_map] at e
      cases q : ds[i]? with
      | none => rw [q] at e; cases e
      | some x => rw [q] at e; cases e; rfl
    obtain ⟨v, h1, h2⟩ := r.ix e
    exact ⟨v, by rw [List.getElem?_map, h1]; rfl, h2⟩
  · rw [List.getElem?_append_right (by simpa using hi)] at e
    rw [List.getElem?_replicate] at e
    split at e <;> cases e
theorem lev_zero (c : He.SaysD t.fas t.dds K) (hd : t.okDs = true) (nd : t.fld.Nodup) : Lev t P w K mg base nd 0 := fun d md fd F => by
  have q := List.all_eq_true.mp hd d md
  unfold DE.ok at q
  simp only [Bool.and_eq_true, decide_eq_true_eq] at q
  obtain ⟨⟨⟨⟨⟨q1, q2⟩, q3⟩, q4⟩, q5⟩, q6⟩ := q
  refine ⟨⟨fun vs H Q E h => h.1, fun A outer s H args us vs Q E hr he hb hv h => ?_⟩, ?_, F.kp⟩
  · obtain ⟨_, ds, μ, Q0, Z, _, _, hf, _⟩ := h
    exact hf.elim
  · have F' := F
    rw [plainArgs_ok q4] at F'
    exact F'.bindsN fun kV doc pm an cdv ct us hl => bind_plain (as := (defArgs d.st).args) q6 hl
theorem lev_succ (X : K.In h) (g : h.Ns mainGlobals mg) (c : He.SaysD t.fas t.dds K) (cx : t.ex K = true) (tb : TBs t K mg base) (ht : t.okTab = true) (hd : t.okDs = true) (nd : t.fld.Nodup) {k : Nat} (L : Lev t P w K mg base nd k) : Lev t P w K mg base nd (k + 1) := fun d md fd F => by
  have Fc := facts_ok X g c cx ht hd nd L
  have q := List.all_eq_true.mp hd d md
  unfold DE.ok at q
  simp only [Bool.and_eq_true, decide_eq_true_eq] at q
  obtain ⟨⟨⟨⟨⟨q1, q2⟩, q3⟩, q4⟩, q5⟩, q6⟩ := q
  have S := scOk_ok q5
  have t1 : (t.ds.map (·.num)).Nodup := by
    unfold Txt.okTab at ht
    simp only [Bool.and_eq_true, decide_eq_true_eq] at ht
    exact ht.1.1.1.1.1.1.1
  have hpl : d.par.length ≤ d.N.length := by have := congrArg List.length S.pre; rw [List.length_take] at this; omega
  refine ⟨?_, ?_, F.kp⟩
  · obtain ⟨oc, od, dV, kV, doc, pm, an, cdv, ct, osl, rfl, lk, hcd, _, _⟩ := F.ex
    refine fn_of (k := 2 * k + 1) lk hcd S (fun vs H Q E h => h.1) fun A outer s H vs Q E hr h => ?_
    obtain ⟨hl, ds, μ, Q0, Z, rv, rh, hf, hp, hx⟩ := h
    let T1 : Tab := { t.tabOf K nd with Z := Z, W := fun c cs H' => ∀ o, XD K (t.tabOf K nd) H' c cs o → E (.ref ((t.tabOf K nd).ecl c)) o H' }
    refine ⟨tS (cxOf (L2.CX P w) P w K mg base d.N d.qual (defScope d.st) (He.fAd K d.at_) cdv A outer s H E) T1 (t.ctx k) d.fd.body, ?_, ?_⟩
    · have hkey : d.isKey = true → KeyOk (cxOf (L2.CX P w) P w K mg base d.N d.qual (defScope d.st) (He.fAd K d.at_) cdv A outer s H E) T1 := fun hk => by
        have hk2 := hk
        unfold DE.isKey at hk2
        simp only [Bool.and_eq_true, beq_iff_eq, Option.isNone_iff_eq_none] at hk2
        obtain ⟨⟨k1, k2⟩, k3⟩ := hk2
        have et : t.tf = ([("with_known", none)] : List He.Defn) := by
          unfold Txt.tf
          rw [if_pos (List.any_eq_true.mpr ⟨d, md, hk⟩)]
        have ea : d.at_ = (("with_known", none) : He.Defn) := by unfold DE.at_; rw [k1, k2]
        obtain ⟨cc, ec⟩ := He.codeIn_ref hcd
        have e1 : He.codeOf K (("with_known", none) : He.Defn) = cc := by
          rw [← ea]; exact He.codeOf_eq lk ec
        have m : (("with_known", none) : He.Defn) ∈ t.tf := by rw [et]; exact List.mem_cons_self ..
        refine ⟨(He.cT K (("with_known", none) : He.Defn)).1, (He.cT K (("with_known", none) : He.Defn)).2, ?_, tb _ m, ?_⟩
        · show cdv = .ref (He.codeOf K (("with_known", none) : He.Defn))
          rw [e1]; exact ec
        · show t.tf.map _ = _
          rw [et]
          show [((He.cT K (("with_known", none) : He.Defn)).2, _)] = [((He.cT K (("with_known", none) : He.Defn)).2, (d.qual ++ ".<locals>.") ++ "<lambda>")]
          rw [k3]
      have tk2 : Tk2 (cxOf (L2.CX P w) P w K mg base d.N d.qual (defScope d.st) (He.fAd K d.at_) cdv A outer s H E) T1 := ⟨fun cls o _ H' => E cls o H', takes_of rfl rfl rfl rfl, fun c cs o σ H' _ h xd => h o xd⟩
      have C : Cxd (cxOf (L2.CX P w) P w K mg base d.N d.qual (defScope d.st) (He.fAd K d.at_) cdv A outer s H E) d.N (defScope d.st) T1 (t.ctx k) (2 * k) { t.tx with key := d.isKey, dv := d.dv } := ⟨⟨⟨rfl, S.nd, fun x k h => ⟨k, h, .inl rfl⟩, fun _ _ => rfl⟩, ⟨Fc.fns, Fc.cls, Fc.mts, Fc.fl, Fc.csts, Fc.blt, Fc.fld, Fc.exs, Fc.leaf, Fc.lnd, Fc.exi, Fc.kds, Fc.xn, Fc.vb⟩, by have := hr.un; show (A.deeper _).units + 65 < _; omega, hkey, tk2.tk, fun _ => ⟨rfl, rfl, hr⟩, fun i c h => (by cases h)⟩, S.kind, passes_of rfl, fun _ => True.intro, fun _ => ⟨tk2, rfl, rfl⟩⟩
      exact ok_top C q1
    · have hf : (t.fnOf (t.ctx k) d.num) ds μ Q0 Z := hf
      unfold Txt.fnOf Txt.tab at hf
      rw [tab_at t1 d md] at hf
      obtain ⟨_, hw⟩ := hf
      exact ⟨_, μ, _, ⟨rep_start rv (by omega) q3 (by omega), True.intro⟩, ⟨rh, fun H' μ' f' rh' c cs z o xd => hx c cs o H' μ' rh' f' z xd⟩, hw, rfl, fun ρ' σ' H' μ' _ rh' f' q' => hp .non .non H' μ' rfl rh'.toRepH0 f' q', fun d' v H' μ' rv' rh' f' q' => hp d' v H' μ' rv' rh'.toRepH0 f' q'⟩
  · have F' := F
    rw [plainArgs_ok q4] at F'
    exact F'.bindsN fun kV doc pm an cdv ct us hl => bind_plain (as := (defArgs d.st).args) q6 hl
theorem lev_all (X : K.In h) (g : h.Ns mainGlobals mg) (c : He.SaysD t.fas t.dds K) (cx : t.ex K = true) (tb : TBs t K mg base) (ht : t.okTab = true) (hd : t.okDs = true) (nd : t.fld.Nodup) : ∀ k, Lev t P w K mg base nd k
  | 0 => lev_zero c hd nd
  | k + 1 => lev_succ X g c cx tb ht hd nd (lev_all X g c cx tb ht hd nd k)
def spZ (sp : Sp) : Sp := fun vs H Q E => sp vs H Q E ∨ ∃ a l, vs = [.ref a] ∧ H a = some (.lst l) ∧ ∀ o, sp vs (L2.upd H a (.frz o (.lst l))) Q E
theorem fnOk_frz {CX : CXT} (hCX : ∀ H H' outer s E e s', CX outer H' s E e s' → (∀ H'', Un (frs outer) [] H' H'' s.heap s'.heap → Un (frs outer) [] H H'' s.heap s'.heap) → CX outer H s E e s') {k : Nat} {f : Addr} {fd : FuncData} {ps : List Str} {sp : Sp} (F : FnOk P w K mg base CX k f fd ps sp) : FnOk P w K mg base CX k f fd ps (spZ sp) := by
  refine ⟨fun vs H Q E h => ?_, fun A outer s H args us vs Q E hr e0 hb r h => ?_⟩
  · rcases h with h | ⟨a, l, _, _, h⟩
    · exact F.len _ _ _ _ h
    · exact F.len _ _ _ _ (h ⟨.none, none, .plain, #[]⟩)
  · rcases h with h | ⟨a, l, _, ha, h⟩
    · exact F.run A outer s H args us vs Q E hr e0 hb r h
    · obtain ⟨hz, its, n, rv, eo⟩ := e0.hok a _ ha
      have off : ∀ b u, H b = some u → u ≠ .lst l → b ≠ a := fun b u q nu z => by subst z; rw [ha] at q; cases q; exact nu rfl
      have offn : ∀ b, H b = none → b ≠ a := fun b q z => by subst z; rw [ha] at q; cases q
      let o : Obj := { cls := .type "list", data := .seq its.toArray n }
      have at_ : ∀ b u, H b = some u → u ≠ .lst l → L2.upd H a (.frz o (.lst l)) b = some u := fun b u q nu => by rw [L2.upd_ne (off b u q nu)]; exact q
      have atn : ∀ b, H b = none → L2.upd H a (.frz o (.lst l)) b = none := fun b q => by rw [L2.upd_ne (offn b q)]; exact q
      have un : ∀ H'' h'', Un (frs outer) [] (L2.upd H a (.frz o (.lst l))) H'' s.heap h'' → Un (frs outer) [] H H'' s.heap h'' := fun H'' h'' u =>
        ⟨fun b o q n h1 h2 => u.keep b o q (atn b n) h1 h2, fun b o q n h1 h2 => u.slot b o q (atn b n) h1 h2, fun b o q n h2 => u.free b o q (atn b n) h2, u.there, fun b xs q => u.tups b xs (at_ b _ q (by intro z; cases z)), fun b o x q => u.frzs b o x (at_ b _ q (by intro z; cases z)), fun b ps q => u.tbls b ps (at_ b _ q (by intro z; cases z))⟩
      have hok : HOk P w (L2.upd H a (.frz o (.lst l))) s.heap := fun b u q => by
        by_cases hb : b = a
        · subst hb
          rw [L2.upd_same] at q; cases q
          exact ⟨eo, hz, its, n, rv, eo⟩
        · rw [L2.upd_ne hb] at q
          exact (e0.hok b u q).stay (fun c v _ z => z) (fun c z => at_ c _ z (by intro z; cases z)) fun c xs z => at_ c _ z (by intro z; cases z)
      have e1 : Env0 P w K mg base A outer s (L2.upd H a (.frz o (.lst l))) := ⟨e0.frames, e0.mod, fun b o q => ⟨(e0.bs b o q).1, atn b (e0.bs b o q).2⟩, e0.bsz, e0.funs, fun b hb => atn b (e0.frf b hb), hok, e0.bare⟩
      refine codeAny_mono (F.run A outer s _ args us vs Q E hr e1 hb r (h o)) fun r s' q => ?_
      cases r with
      | error e => exact hCX _ _ _ _ _ _ _ q fun H'' u => un H'' _ u
      | ok fl =>
        cases fl with
        | ret u =>
          obtain ⟨v, H'', q1, q2, q3, q4⟩ := q
          exact ⟨v, H'', q1, q2, un H'' _ q3, q4⟩
        | next => exact q
        | brk => exact q
        | cont => exact q
theorem fnOk_still {k : Nat} {f : Addr} {fd : FuncData} {ps : List Str} {sp : Sp} (F : FnOk P w K mg base (L2.CX P w) k f fd ps sp) : FnOk P w K mg base CX0 k f fd ps (fun vs H Q _ => sp vs H Q fun _ _ _ => False) :=
  ⟨fun vs H Q E h => F.len _ _ _ _ h, fun A outer s H args us vs Q E hr e0 hb r h => codeAny_mono (F.run A outer s H args us vs Q _ hr e0 hb r h) fun r s' q => by
    cases r with
    | error e =>
      obtain ⟨_, _, _, _, _, _, _, _, _, _, _, _, z⟩ := q
      exact z.elim
    | ok fl => cases fl <;> exact q⟩
theorem law_facts {f : Addr} {d : DE} {x : Str} {n k : Nat} {l : PySem.W.OpenLaw} (hP : l.prog = P) (X : K.In h) (g : h.Ns mainGlobals mg) (hfa : mg ("law" : Str) = some (.ref f)) (c : He.SaysX t.fas t.dds [] t.tf t.ex w h K) (ht : t.okTab = true) (hd : t.okDs = true) (md : d ∈ t.ds) (hn : d.name = "law") (hc : d.cls = none) (hp : d.par = [x])
    (core : ∀ ns : List Int, ns.length ≤ n → (t.ctx k).fn d.num [.scr ns] (fun _ => none) (fun v _ => v = .bl true) XF) : LamX.LawAtS l w K CX0 (2 * k) n x mg f h := by
  have cd := c.t.d
  have nd : t.fld.Nodup := by
    unfold Txt.okTab at ht
    simp only [Bool.and_eq_true, decide_eq_true_eq] at ht
    exact ht.1.1.1.1.1.1.2
  obtain ⟨fd, F⟩ := says_def cd (List.mem_map_of_mem md)
  have F : FunD K d.name d.qual (defArgs d.st) (defBody d.st) (defScope d.st) [] [] (He.fAd K d.at_) fd := F
  have ea : He.fAd K d.at_ = He.ga K "law" := by unfold DE.at_; rw [hc, hn]; rfl
  have em : mg ("law" : Str) = some (.ref (He.ga K "law")) := by
    have q : (He.Fa.glo d.name) ∈ t.fas := by
      unfold Txt.fas
      simp only [List.mem_append, List.mem_flatMap]
      exact .inl (.inl (.inl (.inl (.inl (.inl (.inl (.inl ⟨d, md, by rw [hc]; exact List.mem_cons_self ..⟩)))))))
    rw [hn] at q
    exact He.glo_ok X g (says_mem cd q)
  have ef : f = He.ga K "law" := by
    rw [hfa] at em; cases em; rfl
  have q := List.all_eq_true.mp hd d md
  unfold DE.ok at q
  simp only [Bool.and_eq_true, decide_eq_true_eq] at q
  obtain ⟨⟨⟨⟨⟨q1, q2⟩, q3⟩, q4⟩, q5⟩, q6⟩ := q
  have cs : ∀ p ∈ t.tf.map (He.cT K), ∃ z ∈ t.tf, p = He.cT K z := fun p hp => by
    obtain ⟨z, h1, h2⟩ := List.mem_map.mp hp
    exact ⟨z, h1, h2.symm⟩
  have fin : ∀ (H : Hp) (a : Addr) (ns : List Int), ns.length ≤ n → (∀ p ∈ t.tf.map (He.cT K), H p.2 = some (.tbl #[])) → FrzL K H a (ns.map V.int) → spF w K (t.tabOf K nd) (t.ctx k) d.num 1 [.ref a] H (fun v _ => v = .bl true) fun _ _ _ => False := fun H a ns hl hT fz => by
    refine ⟨rfl, [.scr ns], fun _ => none, _, XF, ⟨_, _, rfl, ⟨a, rfl, fz⟩, rfl⟩, ⟨fun b o e => (by cases e), fun p hp => ?_⟩, core ns hl, fun d' v H' μ' rv _ _ q' => by
      have q' : d' = .bl true := q'
      subst q'
      exact rv, fun _ _ _ _ _ _ _ z => z.elim⟩
    obtain ⟨z, h1, rfl⟩ := List.mem_map.mp hp
    exact ⟨#[], hT _ (List.mem_map_of_mem h1), True.intro, fun pos cv hcv => by
      have z : codeAmong pos [] = some cv := hcv
      simp [codeAmong] at z⟩
  refine ⟨fd, t.tf.map (He.cT K), spZ (fun vs H Q _ => spF w K (t.tabOf K nd) (t.ctx k) d.num 1 vs H Q fun _ _ _ => False), fun p hp => ?_, fun p hp => ?_, fun p hp => ?_, fun s v => ?_, fun H a ns hl _ hT hs => ?_, fun base _ _ tb => ?_⟩
  · obtain ⟨z, h1, rfl⟩ := cs p hp; exact c.empty z h1
  · obtain ⟨z, h1, rfl⟩ := cs p hp; exact c.out z h1
  · obtain ⟨z, h1, rfl⟩ := cs p hp; exact PySem.W.codeHd_of_K X (c.hd z h1)
  · have F' := F
    rw [plainArgs_ok q4] at F'
    have := FunD.bindsA (ps := d.par) F' (fun kV doc pm an cdv ct us hl => bind_plain (as := (defArgs d.st).args) q6 hl) s [v] (by rw [hp]; rfl)
    rw [hp] at this
    exact this
  · rcases hs with hs | hs
    · rcases hs with hs | ⟨o, hs⟩
      · refine .inr ⟨a, _, rfl, hs, fun o => fin _ a ns hl (fun p hp => ?_) (.inl ⟨o, L2.upd_same⟩)⟩
        rw [L2.upd_ne (fun z => by have := hT p hp; rw [z, hs] at this; cases this)]
        exact hT p hp
      · exact .inl (fin H a ns hl hT (.inl ⟨o, hs⟩))
    · exact .inl (fin H a ns hl hT (.inr hs))
  · have := (lev_all (P := P) (w := w) (mg := mg) (base := base) X g cd c.more (fun p hp => tb _ (List.mem_map_of_mem hp)) ht hd nd k d md fd F).ok
    rw [hp] at this
    rw [ef, ← ea, hP]
    exact fnOk_frz (fun _ _ _ _ _ _ _ q _ => q) (fnOk_still this)
end
namespace Txt
variable (t : Txt)
theorem mono_lev {f : Nat → Fn} (h : ∀ n, MonoF (f n)) : Mono (t.lev f) := h
theorem mono_fn {G : Ctx} (hG : Mono G) (f : Nat) : MonoF (t.fnOf G f) := by
  unfold fnOf
  cases t.tab.lookup f with
  | none => exact fun _ _ q => q.elim
  | some fd => exact m_run hG fd
theorem mono_ctx : ∀ k, Mono (t.ctx k)
  | 0 => t.mono_lev fun _ => fun _ _ q => q.elim
  | k + 1 => t.mono_lev (t.mono_fn (mono_ctx k))
theorem fn_lev (k : Nat) {f : Nat} {fd : FD} (h : t.tab.lookup f = some fd) : (t.ctx (k + 1)).fn f = runF (t.ctx k) fd := by
  show t.fnOf (t.ctx k) f = _
  unfold fnOf
  rw [h]
theorem up {f : Nat} {fd : FD} (S : Fn → Prop) (h : t.tab.lookup f = some fd) (n : Nat) (ok : ∀ k, n ≤ k → S (runF (t.ctx k) fd)) : ∀ k, n + 1 ≤ k → S ((t.ctx k).fn f)
  | 0, z => absurd z (by omega)
  | k + 1, z => by rw [t.fn_lev k h]; exact ok k (by omega)
end Txt
end MP

set_option linter.all false
set_option maxRecDepth 100000
set_option Elab.async false
namespace MP
open PySem PySem.Spec PyProof.Rows L2 He
theorem says_frag {fa : List Fa} {fn : List DefD} {tf : List Defn} {ex : PySem.W.Frag → Bool} {w : World} {h : Heap} {as : List Addr} {K : PySem.W.Frag} (hK : K = frT h.get? as) (e1 : obsT fa fn [] K = valT fn [] w) (e2 : ex K = true) (e3 : tabsB h.get? tf K = true) : SaysX fa fn [] tf ex w h K := by
  subst hK
  have one : ∀ p ∈ tf, PySem.W.codeHdIn (frT h.get? as) (cT (frT h.get? as) p).1 (cT (frT h.get? as) p).2 = true ∧ ∃ o, h.get? (cT (frT h.get? as) p).2 = some o ∧ emptyTab o = true := by
    intro p hp
    have q := List.all_eq_true.mp (show tf.all _ = true from e3) p hp
    rw [Bool.and_eq_true] at q
    refine ⟨q.1, ?_⟩
    have q2 := q.2
    split at q2
    · rename_i o eo
      exact ⟨o, eo, q2⟩
    · cases q2
  refine ⟨e1, e2, fun p hp => (one p hp).1, fun p hp => ?_, fun p hp => ?_⟩
  · obtain ⟨_, o, eo, z⟩ := one p hp
    exact frT_none eo z
  · obtain ⟨_, o, eo, z⟩ := one p hp
    rw [eo, emptyTab_eq z]
def fragY (g : Addr → Option Obj) (n : Nat) : PySem.W.Frag := frT g (asD g n ++ [cStatics])
def obsY (n : Nat) (fa : List Fa) (fn : List DefD) (tf : List Defn) (ex : PySem.W.Frag → Bool) (g : Addr → Option Obj) : AlX := (obsT fa fn [] (fragY g n), ex (fragY g n) && tabsB g tf (fragY g n))
def hookY (n : Nat) (fa : List Fa) (fn : List DefD) (tf : List Defn) (ex : PySem.W.Frag → Bool) : PySem.W.Hook where
  α := AlX
  obs := fun s => obsY n fa fn tf ex s.heap.get?
  val := fun w => valX fn [] w
  says := fun w h => ∃ K : PySem.W.Frag, K.In h ∧ SaysX fa fn [] tf ex w h K
  of := fun w h e => ⟨_, frT_in, by
    have a := congrArg (fun z : AlX => z.1) e
    have b := congrArg (fun z : AlX => z.2) e
    have b : (ex _ && tabsB _ tf _) = true := b
    rw [Bool.and_eq_true] at b
    exact says_frag rfl a b.1 b.2⟩
  keeps := fun _ _ _ ⟨K, hK, c⟩ k => ⟨K, PySem.W.Frag.In.keeps hK k, ⟨c.t, c.more, c.hd, c.out, fun p hp => k _ _ (c.empty p hp)⟩⟩
theorem obsY_eq {n : Nat} {fa : List Fa} {fn : List DefD} {tf : List Defn} {ex : PySem.W.Frag → Bool} {g : Addr → Option Obj} {s : Shared} (h : ∀ a, g a = s.heap.get? a) : obsY n fa fn tf ex g = (hookY n fa fn tf ex).obs s := by
  rw [show g = s.heap.get? from funext h]; rfl
end MP

set_option linter.all false
set_option maxRecDepth 100000
set_option maxHeartbeats 1000000
set_option Elab.async false
namespace MP
def f_take : FD := ⟨2, 3, (.seq (.ite (.cmp .gt (.idx (.var 0) (.ci 0)) (.ci 0)) (.seq (.set (.v 2) (.bin .mod (.idx (.var 0) (.ci 0)) (.var 1))) (.seq (.setIdx (.var 0) (.ci 0) (.bin .fdiv (.idx (.var 0) (.ci 0)) (.var 1))) (.ret (.var 2)))) .nop) (.seq (.setIdx (.var 0) (.ci 1) (.bin .mod (.bin .mul (.idx (.var 0) (.ci 1)) (.ci 48271)) (.ci 2147483647))) (.ret (.bin .mod (.bin .fdiv (.bin .mod (.bin .mul (.idx (.var 0) (.ci 1)) (.idx (.var 0) (.ci 1))) (.ci 2147483629)) (.ci 64)) (.var 1)))))⟩
def f_bag : FD := ⟨2, 3, (.seq (.set (.v 2) (.ci 0)) (.seq (.ite (.cmp .lt (.var 1) (.prim .len (.cons (.var 0) .nil))) (.set (.v 2) (.bin .mod (.idx (.var 0) (.var 1)) (.bin .mul (.bin .pow (.ci 10) (.ci 60)) (.bin .pow (.ci 10) (.ci 60))))) .nop) (.seq (.ite (.cmp .lt (.var 2) (.bin .pow (.ci 10) (.ci 18))) (.ret (.lst (.cons (.ci 0) (.cons (.bin .add (.ci 1) (.bin .mod (.bin .add (.bin .mul (.var 2) (.ci 7919)) (.bin .mul (.ci 104729) (.var 1))) (.ci 2147483646))) .nil)))) .nop) (.ret (.lst (.cons (.var 2) (.cons (.bin .add (.ci 1) (.bin .mod (.bin .add (.var 2) (.var 1)) (.ci 2147483646))) .nil)))))))⟩
theorem take_ok (G : Ctx) : TakeS (runF G f_take) := by
  intro b m μ Q X hb hm hm2 q
  obtain ⟨x, y, hb, o1, o3, o4⟩ := hb
  have hs : Small m := small_of (by omega) (by have : (10 : Int) ^ 100 ≤ 10 ^ 200 := by decide
                                               omega)
  refine ⟨rfl, ?_⟩
  refine idx_lst hb rfl ⟨fun h => ?_, fun h => ?_⟩
  · have h := of_decide_eq_true h
    refine idx_lst hb rfl ⟨hm, ?_⟩
    refine idx_lst hb rfl ⟨hm, hs, ?_⟩
    refine setIdx_lst hb rfl ?_
    exact q _ _ (Int.emod_nonneg _ (by omega)) (Int.emod_lt_of_pos _ hm) ⟨_, _, up_same, Int.ediv_nonneg o1 (by omega), o3, o4⟩ (.set rfl)
  · have h := of_decide_eq_false h
    refine idx_lst hb rfl ⟨small_of (by omega) (by omega), small_of (by omega) (by omega), by omega, ?_⟩
    refine setIdx_lst hb rfl ?_
    refine idx_lst up_same rfl (idx_lst up_same rfl ?_)
    refine ⟨small_of (by omega) (by omega), small_of (by omega) (by omega), by omega, by omega, small_of (by omega) (by omega), hm, ?_⟩
    exact q _ _ (Int.emod_nonneg _ (by omega)) (Int.emod_lt_of_pos _ hm) ⟨_, _, up_same, o1, by omega, by omega⟩ (.set rfl)
theorem bag_ok (G : Ctx) : BagS (runF G f_bag) := by
  intro ns k μ Q X h0 h1 q
  refine ⟨rfl, ?_⟩
  have fin : ∀ c : Int, 0 ≤ c → c < 10 ^ 60 * 10 ^ 60 → wpS G (.seq (.ite (.cmp .lt (.var 2) (.bin .pow (.ci 10) (.ci 18))) (.ret (.lst (.cons (.ci 0) (.cons (.bin .add (.ci 1) (.bin .mod (.bin .add (.bin .mul (.var 2) (.ci 7919)) (.bin .mul (.ci 104729) (.var 1))) (.ci 2147483646))) .nil)))) .nop) (.ret (.lst (.cons (.var 2) (.cons (.bin .add (.ci 1) (.bin .mod (.bin .add (.var 2) (.var 1)) (.ci 2147483646))) .nil))))) [some (.scr ns), some (.int k), some (.int c)] μ ⟨fun _ μ1 => Q .non μ1, Q, X⟩ := fun c hc hc2 => by
    refine ⟨rfl, fun h => ?_, fun h => ?_⟩
    · have h : c < 10 ^ 18 := of_decide_eq_true h
      refine ⟨small_of (by omega) (by omega), small_of (by omega) (by omega), small_of (by omega) (by omega), small_of (by omega) (by omega), by decide, fun b hb => ?_⟩
      refine q b _ hb ⟨_, _, up_same, by omega, ?_, ?_⟩ (.new hb)
      · have := Int.emod_nonneg (c * 7919 + 104729 * k) (b := 2147483646) (by decide)
        omega
      · have := Int.emod_lt_of_pos (c * 7919 + 104729 * k) (b := 2147483646) (by decide)
        omega
    · refine ⟨by decide, fun b hb => ?_⟩
      refine q b _ hb ⟨_, _, up_same, hc, ?_, ?_⟩ (.new hb)
      · have := Int.emod_nonneg (c + k) (b := 2147483646) (by decide)
        omega
      · have := Int.emod_lt_of_pos (c + k) (b := 2147483646) (by decide)
        omega
  refine ⟨fun h => ?_, fun h => ?_⟩
  · have h : k < ns.length := of_decide_eq_true h
    have e : getI ns k = ns[k.toNat]? := by
      unfold getI ixN; rw [if_pos h0, if_pos h]
    have hk : k.toNat < ns.length := by omega
    show optP (getI ns k) _
    rw [e, List.getElem?_eq_getElem hk]
    refine ⟨rfl, rfl, small_of (by decide) (by decide), small_of (by decide) (by decide), by decide, ?_⟩
    exact fin _ (Int.emod_nonneg _ (by decide)) (Int.emod_lt_of_pos _ (by decide))
  · exact fin 0 (by decide) (by decide)
end MP

set_option linter.all false
set_option maxRecDepth 100000
set_option maxHeartbeats 1000000
set_option Elab.async false
namespace MP
def leE : D → D → Bool
  | .int i, .int j => decide (i ≤ j)
  | _, _ => true
def geLo (n : Int) : D → Bool
  | .int i => decide (i ≤ n)
  | _ => true
def leHi (n : Int) : D → Bool
  | .int i => decide (n ≤ i)
  | _ => true
end MP

set_option linter.all false
set_option maxRecDepth 100000
set_option maxHeartbeats 1000000
set_option Elab.async false
namespace MP
local macro_rules
  | `(tactic| simp_wf) => `(tactic| simp only [wpE, wpA, optP, getV, matP, List.set, List.getElem?_cons_succ, List.getElem?_cons_zero, primP, arg1, arg2, arg3, binP, intP, absP, min2P, max2P])
abbrev En := Option Int
def encE : En → D
  | none => .non
  | some i => .int i
abbrev Sh := En × En
def encS (s : Sh) : D := .tup [encE s.1, encE s.2]
def gE : En → En → En
  | none, b => b
  | some i, none => some i
  | some i, some j => if i < j then some j else some i
def lE : En → En → En
  | none, b => b
  | some i, none => some i
  | some i, some j => if j < i then some j else some i
def okSh : Sh → Bool
  | (some i, some j) => decide (i ≤ j)
  | _ => true
def betw (s : Sh) (lo hi : En) : Option Sh := if okSh (gE s.1 lo, lE s.2 hi) = true then some (gE s.1 lo, lE s.2 hi) else none
def part (s : Sh) (less : Bool) (n : Int) (side : Bool) : Option Sh :=
  if less = true then (if side = true then betw s none (some (n - 1)) else betw s (some n) none)
  else if side = true then betw s (some n) (some n)
  else if s = (some n, some n) then none
  else if s.1 = some n then some (some (n + 1), s.2)
  else if s.2 = some n then some (s.1, some (n - 1))
  else some s
end MP

set_option linter.all false
set_option maxRecDepth 100000
set_option maxHeartbeats 1000000
set_option Elab.async false
namespace MP
local macro_rules
  | `(tactic| simp_wf) => `(tactic| simp only [wpE, wpA, optP, getV, matP, List.set, List.getElem?_cons_succ, List.getElem?_cons_zero, primP, arg1, arg2, arg3, binP, intP, absP, min2P, max2P])
abbrev Nm := List Nat
inductive Deed where
  | put (a : Nm) (n : Int) | copy (a b : Nm) | add (a : Nm) (n : Int) | read (a : Nm) | tell (a : Nm)
  deriving DecidableEq, Repr
inductive Ed where
  | stop | go (p : Nat) | test (less : Bool) (a : Nm) (n : Int) (y z : Nat)
  deriving DecidableEq, Repr
abbrev Pc := List Deed × Ed
abbrev Plan := List Pc
def wPut : List Nat := [112, 117, 116]
def wCopy : List Nat := [99, 111, 112, 121]
def wAdd : List Nat := [97, 100, 100]
def wRead : List Nat := [114, 101, 97, 100]
def wTell : List Nat := [116, 101, 108, 108]
def wStop : List Nat := [115, 116, 111, 112]
def wGo : List Nat := [103, 111]
def wLess : List Nat := [108, 101, 115, 115]
def wIs : List Nat := [105, 115]
def wTest (less : Bool) : List Nat := if less = true then wLess else wIs
def encD : Deed → D
  | .put a n => .tup [.str wPut, .str a, .int n]
  | .copy a b => .tup [.str wCopy, .str a, .str b]
  | .add a n => .tup [.str wAdd, .str a, .int n]
  | .read a => .tup [.str wRead, .str a]
  | .tell a => .tup [.str wTell, .str a]
abbrev encN (n : Nat) : D := .int n
def encEd : Ed → D
  | .stop => .tup [.str wStop]
  | .go p => .tup [.str wGo, encN p]
  | .test l a n y z => .tup [.str (wTest l), .str a, .int n, encN y, encN z]
def encDs (ds : List Deed) : D := .tup (ds.map encD)
def encPc (p : Pc) : D := .tup [encDs p.1, encEd p.2]
def encPl (p : Plan) : D := .tup (p.map encPc)
def okNm (a : Nm) : Prop := 1 ≤ a.length ∧ a.length ≤ 8 ∧ ∀ c ∈ a, 97 ≤ c ∧ c ≤ 122
def ok40 (n : Int) : Prop := -(10 ^ 40) < n ∧ n < 10 ^ 40
def okDeed (ns : List Nm) : Deed → Prop
  | .put a n => a ∈ ns ∧ ok40 n
  | .copy a b => a ∈ ns ∧ b ∈ ns
  | .add a n => a ∈ ns ∧ ok40 n
  | .read a => a ∈ ns
  | .tell a => a ∈ ns
def okEd (ns : List Nm) (k : Nat) : Ed → Prop
  | .stop => True
  | .go p => p < k
  | .test _ a n y z => a ∈ ns ∧ ok40 n ∧ y < k ∧ z < k
structure OkPl (ns : List Nm) (most : Nat) (pl : Plan) : Prop where
  names : ∀ a ∈ ns, okNm a
  deeds : ∀ p ∈ pl, p.1.length ≤ most ∧ ∀ d ∈ p.1, okDeed ns d
  ends : ∀ p ∈ pl, okEd ns pl.length p.2
local macro_rules
  | `(tactic| clean_wf) => `(tactic| simp only [wpE, wpA, opt_some, gv_0, gv_s, matP, List.set, b_add, b_addS, b_addT, b_sub, b_mul, b_div, b_mod, b_pow])
variable {μ μ' μ1 μ2 : Sto} {a b p q : Nat} {l : List D} {i : Int} {x y d : D} {o : Ob} {ρ : Env}
theorem str_ok {z : List Nat} (h : ∀ c ∈ z, c < 1114112) : D.ok 60 (.str z) = true := List.all_eq_true.mpr fun c hc => decide_eq_true (h c hc)
theorem okNm_lt {z : Nm} (h : okNm z) : ∀ c ∈ z, c < 1114112 := fun c hc => by have := (h.2.2 c hc).2; omega
end MP

set_option linter.all false
set_option maxRecDepth 100000
set_option maxHeartbeats 1000000
set_option Elab.async false
namespace MP
local macro_rules
  | `(tactic| clean_wf) => `(tactic| simp only [ws_set, ws_set1, ws_ret, ws_nop, ws_exp, ws_exp1, ws_sidx, ws_sidx1, ws_satt, ws_satt1, ws_aat, ws_aat1, ws_avar, ws_avar1, augK_int, ws_for, ws_forS, wpE, wpA, opt_some, gv_0, gv_s, matP, List.set, b_add, b_addS, b_addT, b_sub, b_mul, b_div, b_mod, b_pow, c_len, c_lenT, c_int, c_intB, c_abs, c_min, c_max, c_tupT, c_eqI, c_neI, c_eqS, c_neS, c_lt, c_le, c_gt, c_ge, c_is, c_isnot, c_isB, c_isnotB, c_idxT, g_0, g_1, g_2, g_3, g_4, g_5, g_6, o_non, o_int, Bool.not_true, Bool.not_false, br_t, br_f, c_itA, c_itT, c_itS])
local macro_rules
  | `(tactic| sizeOf_list_dec) => `(tactic| first
    | assumption
    | exact Ne.symm (by assumption)
    | exact ne_new (by assumption) (by assumption)
    | exact Ne.symm (ne_new (by assumption) (by assumption))
    | exact BagAt.ne (by assumption) (by assumption)
    | exact Ne.symm (BagAt.ne (by assumption) (by assumption))
    | exact id)
local macro_rules
  | `(tactic| array_mem_dec) => `(tactic| first
    | assumption
    | exact up_same
    | (refine (up_ne (by sizeOf_list_dec)).trans ?_; array_mem_dec)
    | (refine (by assumption : Kept _ _ _) _ _ (by sizeOf_list_dec) ?_; array_mem_dec)
    | (refine BagAt.new ?_ (by assumption); array_mem_dec)
    | (refine BagAt.off ?_ (by sizeOf_list_dec); array_mem_dec)
    | (refine BagAt.keep ?_ (by assumption) (by sizeOf_list_dec); array_mem_dec)
    | exact Kept.refl
    | exact Kept.new (by assumption)
    | (refine Kept.trans ?_ (by assumption); array_mem_dec)
    | (refine Kept.loc (by assumption) ?_; array_mem_dec)
    | (refine Kept.nw (by assumption) ?_; array_mem_dec))
variable {μ μ' μ1 μ2 : Sto} {a b p q : Nat} {l : List D} {i : Int} {x y d : D} {o : Ob} {ρ : Env}
def encI (ns : List Int) : D := .tup (ns.map D.int)
end MP

set_option linter.all false
set_option maxRecDepth 100000
set_option maxHeartbeats 1000000
set_option Elab.async false
namespace MP
local macro_rules
  | `(tactic| clean_wf) => `(tactic| simp only [ws_set, ws_set1, ws_ret, ws_nop, ws_exp, ws_exp1, ws_sidx, ws_sidx1, ws_satt, ws_satt1, ws_aat, ws_aat1, ws_avar, ws_avar1, augK_int, ws_for, ws_forS, wpE, wpA, opt_some, gv_0, gv_s, matP, List.set, b_add, b_addS, b_addT, b_sub, b_mul, b_div, b_mod, b_pow, c_len, c_lenT, c_int, c_intB, c_abs, c_min, c_max, c_tupT, c_eqI, c_neI, c_eqS, c_neS, c_lt, c_le, c_gt, c_ge, c_is, c_isnot, c_isB, c_isnotB, c_idxT, g_0, g_1, g_2, g_3, g_4, g_5, g_6, o_non, o_int, Bool.not_true, Bool.not_false, br_t, br_f, c_itA, c_itT, c_itS])
local macro_rules
  | `(tactic| sizeOf_list_dec) => `(tactic| first
    | assumption
    | exact Ne.symm (by assumption)
    | exact ne_new (by assumption) (by assumption)
    | exact Ne.symm (ne_new (by assumption) (by assumption))
    | exact BagAt.ne (by assumption) (by assumption)
    | exact Ne.symm (BagAt.ne (by assumption) (by assumption))
    | exact id)
local macro_rules
  | `(tactic| array_mem_dec) => `(tactic| first
    | assumption
    | exact up_same
    | (refine (up_ne (by sizeOf_list_dec)).trans ?_; array_mem_dec)
    | (refine (by assumption : Kept _ _ _) _ _ (by sizeOf_list_dec) ?_; array_mem_dec)
    | (refine BagAt.new ?_ (by assumption); array_mem_dec)
    | (refine BagAt.off ?_ (by sizeOf_list_dec); array_mem_dec)
    | (refine BagAt.keep ?_ (by assumption) (by sizeOf_list_dec); array_mem_dec)
    | exact Kept.refl
    | exact Kept.new (by assumption)
    | (refine Kept.trans ?_ (by assumption); array_mem_dec)
    | (refine Kept.loc (by assumption) ?_; array_mem_dec)
    | (refine Kept.nw (by assumption) ?_; array_mem_dec))
variable {μ μ' μ1 μ2 : Sto} {a b p q : Nat} {l : List D} {i : Int} {x y d : D} {o : Ob} {ρ : Env}
def ins {α : Type} (le : α → α → Bool) (x : α) : List α → List α
  | [] => [x]
  | y :: r => if le x y = true then x :: y :: r else y :: ins le x r
def isort {α : Type} (le : α → α → Bool) : List α → List α
  | [] => []
  | x :: r => ins le x (isort le r)
theorem ins_perm {α : Type} {le : α → α → Bool} {x : α} : ∀ {l : List α}, (ins le x l).Perm (x :: l)
  | [] => .refl _
  | y :: r => by
    unfold ins
    split
    · exact .refl _
    · exact (List.Perm.cons y ins_perm).trans (.swap x y r)
theorem isort_perm {α : Type} {le : α → α → Bool} : ∀ {l : List α}, (isort le l).Perm l
  | [] => .refl _
  | x :: r => ins_perm.trans (.cons x isort_perm)
def leNm (a b : Nm) : Bool := !strLt b a
def leNt (a b : Nat) : Bool := decide (a ≤ b)
def sortNm : List Nm → List Nm := isort leNm
def sortNt : List Nat → List Nat := isort leNt
def addK {α : Type} [DecidableEq α] (ks : List α) (x : α) : List α := if x ∈ ks then ks else ks ++ [x]
section
variable {α : Type} [DecidableEq α] {f : α → D} {ks : List α} {z : α}
theorem mem_addK {x : α} : x ∈ addK ks z ↔ x ∈ ks ∨ x = z := by
  unfold addK
  split
  · rename_i h; exact ⟨.inl, fun q => q.elim id fun e => by subst e; exact h⟩
  · rw [List.mem_append, List.mem_singleton]
theorem nodup_addK (h : ks.Nodup) : (addK ks z).Nodup := by
  unfold addK
  split
  · exact h
  · rename_i hz
    exact List.nodup_append.mpr ⟨h, by simp, fun x hx y hy => by rw [List.mem_singleton.mp hy]; exact fun w => by subst w; exact hz hx⟩
theorem nodup_le : ∀ {l m : List α}, l.Nodup → (∀ x ∈ l, x ∈ m) → l.length ≤ m.length
  | [], _, _, _ => Nat.zero_le _
  | x :: l, m, h, hs => by
    have hx := hs x (List.mem_cons_self ..)
    rw [List.nodup_cons] at h
    have := nodup_le (l := l) (m := m.erase x) h.2 fun y hy => (List.mem_erase_of_ne (fun e => by subst e; exact h.1 hy)).mpr (hs y (List.mem_cons_of_mem _ hy))
    have h2 := (List.perm_cons_erase hx).length_eq
    rw [List.length_cons] at h2 ⊢
    omega
end
def waysE : Ed → List Nat
  | .stop => []
  | .go p => [p]
  | .test _ _ _ y z => [y, z]
def nmD : Deed → List Nm
  | .put a _ => [a]
  | .copy a b => [a, b]
  | .add a _ => [a]
  | .read a => [a]
  | .tell a => [a]
def nmE : Ed → List Nm
  | .test _ a _ _ _ => [a]
  | _ => []
def nmDs (ds : List Deed) : List Nm := ds.flatMap nmD
def nmPc (p : Pc) : List Nm := nmDs p.1 ++ nmE p.2
def nmPl (pl : Plan) : List Nm := pl.flatMap nmPc
def addKs {α : Type} [DecidableEq α] (ks l : List α) : List α := l.foldl addK ks
def namesK (pl : Plan) : List Nm := addKs [] (nmPl pl)
def namesOf (pl : Plan) : List Nm := sortNm (namesK pl)
theorem mem_addKs {α : Type} [DecidableEq α] {x : α} : ∀ {l ks : List α}, x ∈ addKs ks l ↔ x ∈ ks ∨ x ∈ l
  | [], ks => by simp [addKs]
  | y :: r, ks => by
    show x ∈ addKs (addK ks y) r ↔ _
    rw [mem_addKs, mem_addK, List.mem_cons]
    constructor
    · rintro ((h | h) | h)
      · exact .inl h
      · exact .inr (.inl h)
      · exact .inr (.inr h)
    · rintro (h | h | h)
      · exact .inl (.inl h)
      · exact .inl (.inr h)
      · exact .inr h
theorem nodup_addKs {α : Type} [DecidableEq α] : ∀ {l ks : List α}, ks.Nodup → (addKs ks l).Nodup
  | [], ks, h => h
  | y :: r, ks, h => nodup_addKs (l := r) (nodup_addK h)
theorem okNmD {ns : List Nm} {d : Deed} (h : okDeed ns d) : ∀ z ∈ nmD d, z ∈ ns := by
  intro z hz
  cases d <;> simp only [nmD, List.mem_cons, List.not_mem_nil, or_false] at hz <;> simp only [okDeed] at h
  · subst hz; exact h.1
  · rcases hz with rfl | rfl
    · exact h.1
    · exact h.2
  · subst hz; exact h.1
  · subst hz; exact h
  · subst hz; exact h
theorem okNmE {ns : List Nm} {k : Nat} {e : Ed} (h : okEd ns k e) : ∀ z ∈ nmE e, z ∈ ns := by
  intro z hz
  cases e <;> simp only [nmE, List.mem_cons, List.not_mem_nil, or_false] at hz <;> simp only [okEd] at h
  subst hz; exact h.1
theorem OkPl.sub {ns : List Nm} {m : Nat} {pl : Plan} (h : OkPl ns m pl) : ∀ z ∈ nmPl pl, z ∈ ns := by
  intro z hz
  obtain ⟨p, hp, hz⟩ := List.mem_flatMap.mp hz
  rcases List.mem_append.mp hz with hz | hz
  · obtain ⟨d, hd, hz⟩ := List.mem_flatMap.mp hz
    exact okNmD ((h.deeds p hp).2 d hd) z hz
  · exact okNmE (h.ends p hp) z hz
theorem namesK_le {ns : List Nm} {pl : Plan} (h : ∀ z ∈ nmPl pl, z ∈ ns) : (namesK pl).length ≤ ns.length :=
  nodup_le (nodup_addKs .nil) fun x hx => h x ((mem_addKs.mp hx).resolve_left (by simp))
theorem nmDs_cons {d : Deed} {r : List Deed} : nmDs (d :: r) = nmD d ++ nmDs r := rfl
theorem nmD_len (d : Deed) : (nmD d).length ≤ 2 := by cases d <;> simp [nmD]
theorem nmDs_len : ∀ ds : List Deed, (nmDs ds).length ≤ 2 * ds.length
  | [] => by simp [nmDs]
  | d :: r => by rw [nmDs_cons, List.length_append, List.length_cons]; have := nmD_len d; have := nmDs_len r; omega
theorem nmPc_len (p : Pc) : (nmPc p).length ≤ 2 * p.1.length + 1 := by
  unfold nmPc
  rw [List.length_append]
  have := nmDs_len p.1
  have : (nmE p.2).length ≤ 1 := by cases p.2 <;> simp [nmE]
  omega
theorem nmPl_len {m : Nat} : ∀ {pl : Plan}, (∀ p ∈ pl, p.1.length ≤ m) → (nmPl pl).length ≤ pl.length * (2 * m + 1)
  | [], _ => by simp [nmPl]
  | p :: r, h => by
    have h1 := nmPl_len (pl := r) fun p hp => h p (List.mem_cons_of_mem _ hp)
    have h2 := nmPc_len p
    have h3 := h p (List.mem_cons_self ..)
    show (nmPc p ++ nmPl r).length ≤ _
    rw [List.length_append, List.length_cons, Nat.succ_mul]; omega
theorem map_get? {α : Type} {f : α → D} {l : List α} {i : Nat} {d : D} (h : (l.map f)[i]? = some d) : ∃ x, l[i]? = some x ∧ d = f x := by
  rw [List.getElem?_map] at h
  obtain ⟨x, e, rfl⟩ := Option.map_eq_some_iff.mp h
  exact ⟨x, e, rfl⟩
structure Few (pl : Plan) : Prop where
  len : pl.length ≤ 1000
  deeds : ∀ p ∈ pl, p.1.length ≤ 40
  names : (namesK pl).length < 200
theorem Few.all {pl : Plan} (h : Few pl) : (nmPl pl).length ≤ 81000 := by
  have h1 := nmPl_len (m := 40) h.deeds
  have h2 := h.len
  omega
def okWays (pl : Plan) : Prop := ∀ p ∈ pl, ∀ w ∈ waysE p.2, w < pl.length
theorem okEd_ways {ns : List Nm} {k : Nat} {e : Ed} (h : okEd ns k e) : ∀ w ∈ waysE e, w < k := by
  intro w hw
  cases e <;> simp only [waysE, List.mem_cons, List.not_mem_nil, or_false] at hw <;> simp only [okEd] at h
  · subst hw; exact h
  · rcases hw with rfl | rfl
    · exact h.2.2.1
    · exact h.2.2.2
theorem OkPl.ways {ns : List Nm} {m : Nat} {pl : Plan} (h : OkPl ns m pl) : okWays pl := fun p hp => okEd_ways (h.ends p hp)
def waysAt (pl : Plan) (k : Nat) : List Nat := ((pl[k]?).map fun p => waysE p.2).getD []
inductive Reach (pl : Plan) : Nat → Prop
  | zero : Reach pl 0
  | step {k w : Nat} : Reach pl k → w ∈ waysAt pl k → Reach pl w
open Classical in
noncomputable def reachedOf (pl : Plan) : List Nat := (List.range pl.length).filter fun k => decide (Reach pl k)
theorem waysAt_lt {pl : Plan} (h : okWays pl) {k w : Nat} (hw : w ∈ waysAt pl k) : w < pl.length := by
  unfold waysAt at hw
  cases e : pl[k]? with
  | none => rw [e] at hw; simp at hw
  | some p => rw [e] at hw; exact h p (List.mem_of_getElem? e) w hw
theorem Reach.lt {pl : Plan} (h : okWays pl) (h0 : 0 < pl.length) {k : Nat} (r : Reach pl k) : k < pl.length := by
  cases r with
  | zero => exact h0
  | step _ hw => exact waysAt_lt h hw
open Classical in
theorem mem_reached {pl : Plan} (h : okWays pl) (h0 : 0 < pl.length) {k : Nat} : k ∈ reachedOf pl ↔ Reach pl k := by
  unfold reachedOf
  rw [List.mem_filter, List.mem_range, decide_eq_true_eq]
  exact ⟨fun h => h.2, fun r => ⟨r.lt h h0, r⟩⟩
structure Seek (pl : Plan) (found waits : List Nat) : Prop where
  nd : found.Nodup
  wnd : waits.Nodup
  zero : 0 ∈ found
  reach : ∀ k ∈ found, Reach pl k
  sub : ∀ k ∈ waits, k ∈ found
  done : ∀ k ∈ found, k ∈ waits ∨ ∀ w ∈ waysAt pl k, w ∈ found
theorem Seek.fin {pl : Plan} {found : List Nat} (s : Seek pl found []) : ∀ k, k ∈ found ↔ Reach pl k := fun k => ⟨s.reach k, fun r => by
  induction r with
  | zero => exact s.zero
  | step _ hw ih => exact ((s.done _ ih).resolve_left (by simp)) _ hw⟩
theorem waysAt_eq {pl : Plan} {k : Nat} {p : Pc} (h : pl[k]? = some p) : waysAt pl k = waysE p.2 := by unfold waysAt; rw [h]; rfl
def headW (pl : Plan) (k : Nat) : List Nat := (waysAt pl k).filter fun w => decide (w ≤ k)
def headKs (pl : Plan) (l : List Nat) : List Nat := addKs [] (l.flatMap (headW pl))
noncomputable def headsOf (pl : Plan) : List Nat := sortNt (headKs pl (reachedOf pl))
theorem mem_heads {pl : Plan} (hw : okWays pl) (h0 : 0 < pl.length) {h : Nat} : h ∈ headsOf pl ↔ ∃ k, Reach pl k ∧ h ∈ waysAt pl k ∧ h ≤ k := by
  unfold headsOf headKs
  rw [show (h ∈ sortNt (addKs [] ((reachedOf pl).flatMap (headW pl))) ↔ h ∈ addKs [] ((reachedOf pl).flatMap (headW pl))) from (isort_perm).mem_iff, mem_addKs, List.mem_flatMap]
  simp only [List.not_mem_nil, false_or, headW, List.mem_filter, decide_eq_true_eq, mem_reached hw h0]
theorem heads_nodup {pl : Plan} : (headsOf pl).Nodup := (isort_perm (le := leNt)).nodup_iff.mpr (nodup_addKs .nil)
structure Seek2 (pl : Plan) (found : List Nat) (at_ : Nat) : Prop where
  nd : found.Nodup
  zero : 0 ∈ found
  reach : ∀ k ∈ found, Reach pl k
  done : ∀ j k, j < at_ → found[j]? = some k → ∀ w ∈ waysAt pl k, w ∈ found
theorem Seek2.fin {pl : Plan} {found : List Nat} {n : Nat} (s : Seek2 pl found n) (h : found.length ≤ n) : ∀ k, k ∈ found ↔ Reach pl k := fun k => ⟨s.reach k, fun r => by
  induction r with
  | zero => exact s.zero
  | step _ hw ih =>
    obtain ⟨j, hj⟩ := List.mem_iff_getElem?.mp ih
    exact s.done j _ (by have := (List.getElem?_eq_some_iff.mp hj).1; omega) hj _ hw⟩
theorem Seek2.le {pl : Plan} {found : List Nat} {n : Nat} (s : Seek2 pl found n) (hw : okWays pl) (h0 : 0 < pl.length) : found.length ≤ pl.length := by
  have := nodup_le (m := List.range pl.length) s.nd fun x hx => List.mem_range.mpr ((s.reach x hx).lt hw h0)
  rw [List.length_range] at this; exact this
theorem Seek2.add {pl : Plan} {found : List Nat} {n k w : Nat} (s : Seek2 pl found n) (hk : Reach pl k) (hw : w ∈ waysAt pl k) (hn : w ∉ found) (hl : n ≤ found.length) : Seek2 pl (found ++ [w]) n :=
  ⟨List.nodup_append.mpr ⟨s.nd, by simp, fun x hx y hy => by rw [List.mem_singleton.mp hy]; exact fun z => by subst z; exact hn hx⟩, List.mem_append.mpr (.inl s.zero), fun x hx => (List.mem_append.mp hx).elim (s.reach x) fun h => by rw [List.mem_singleton.mp h]; exact .step hk hw,
    fun j k hj e w hw => by
      rw [List.getElem?_append_left (by omega)] at e
      exact List.mem_append.mpr (.inl (s.done j k hj e w hw))⟩
end MP

set_option linter.all false
set_option maxRecDepth 100000
set_option maxHeartbeats 1000000
set_option Elab.async false
namespace MP
local macro_rules
  | `(tactic| clean_wf) => `(tactic| simp only [ws_set, ws_set1, ws_ret, ws_nop, ws_exp, ws_exp1, ws_sidx, ws_sidx1, ws_satt, ws_satt1, ws_aat, ws_aat1, ws_avar, ws_avar1, augK_int, ws_for, ws_forS, wpE, wpA, opt_some, gv_0, gv_s, matP, List.set, b_add, b_addS, b_addT, b_sub, b_mul, b_div, b_mod, b_pow, c_len, c_lenT, c_int, c_intB, c_abs, c_min, c_max, c_tupT, c_eqI, c_neI, c_eqS, c_neS, c_lt, c_le, c_gt, c_ge, c_is, c_isnot, c_isB, c_isnotB, c_idxT, g_0, g_1, g_2, g_3, g_4, g_5, g_6, o_non, o_int, Bool.not_true, Bool.not_false, br_t, br_f, c_itA, c_itT, c_itS])
local macro_rules
  | `(tactic| sizeOf_list_dec) => `(tactic| first
    | assumption
    | exact Ne.symm (by assumption)
    | exact ne_new (by assumption) (by assumption)
    | exact Ne.symm (ne_new (by assumption) (by assumption))
    | exact BagAt.ne (by assumption) (by assumption)
    | exact Ne.symm (BagAt.ne (by assumption) (by assumption))
    | exact id)
local macro_rules
  | `(tactic| array_mem_dec) => `(tactic| first
    | assumption
    | exact up_same
    | (refine (up_ne (by sizeOf_list_dec)).trans ?_; array_mem_dec)
    | (refine (by assumption : Kept _ _ _) _ _ (by sizeOf_list_dec) ?_; array_mem_dec)
    | (refine BagAt.new ?_ (by assumption); array_mem_dec)
    | (refine BagAt.off ?_ (by sizeOf_list_dec); array_mem_dec)
    | (refine BagAt.keep ?_ (by assumption) (by sizeOf_list_dec); array_mem_dec)
    | exact Kept.refl
    | exact Kept.new (by assumption)
    | (refine Kept.trans ?_ (by assumption); array_mem_dec)
    | (refine Kept.loc (by assumption) ?_; array_mem_dec)
    | (refine Kept.nw (by assumption) ?_; array_mem_dec))
variable {μ μ' μ1 μ2 : Sto} {a b p q : Nat} {l : List D} {i : Int} {x y d : D} {o : Ob} {ρ : Env}
mutual
theorem eqb_refl : ∀ {n : Nat} {d : D}, D.ok n d = true → D.eqb d d = true
  | 0, _, h => by simp [D.ok] at h
  | n + 1, .tup xs, h => by
    have h : xs.all (D.ok n) = true := by simpa [D.ok] using h
    exact eqbs_refl h
  | n + 1, .non, _ => rfl
  | n + 1, .bl b, _ => by show (b == b) = true; simp
  | n + 1, .int b, _ => by show (b == b) = true; simp
  | n + 1, .str b, _ => by show (b == b) = true; simp
  | n + 1, .ref _, h => by simp [D.ok] at h
  | n + 1, .scr _, h => by simp [D.ok] at h
theorem eqbs_refl : ∀ {n : Nat} {ds : List D}, ds.all (D.ok n) = true → D.eqbs ds ds = true
  | _, [], _ => rfl
  | n, d :: r, h => by
    rw [List.all_cons, Bool.and_eq_true] at h
    show (D.eqb d d && D.eqbs r r) = true
    rw [eqb_refl h.1, eqbs_refl h.2]; rfl
end
theorem OkPl.few {ns : List Nm} {m : Nat} {pl : Plan} (h : OkPl ns m pl) (hm : m ≤ 40) (hn : ns.length < 200) (hl : pl.length ≤ 1000) : Few pl :=
  ⟨hl, fun p hp => Nat.le_trans (h.deeds p hp).1 hm, Nat.lt_of_le_of_lt (namesK_le h.sub) hn⟩
theorem mem_namesOf {pl : Plan} {z : Nm} : z ∈ namesOf pl ↔ z ∈ nmPl pl := by
  unfold namesOf sortNm namesK
  rw [(isort_perm).mem_iff, mem_addKs]; simp
end MP

set_option linter.all false
set_option maxRecDepth 100000
set_option maxHeartbeats 1000000
set_option Elab.async false
namespace MP
local macro_rules
  | `(tactic| clean_wf) => `(tactic| simp only [ws_set, ws_set1, ws_ret, ws_nop, ws_exp, ws_exp1, ws_sidx, ws_sidx1, ws_satt, ws_satt1, ws_aat, ws_aat1, ws_avar, ws_avar1, augK_int, ws_for, ws_forS, wpE, wpA, opt_some, gv_0, gv_s, matP, List.set, b_add, b_addS, b_addT, b_sub, b_mul, b_div, b_mod, b_pow, c_len, c_lenT, c_int, c_intB, c_abs, c_min, c_max, c_tupT, c_eqI, c_neI, c_eqS, c_neS, c_lt, c_le, c_gt, c_ge, c_is, c_isnot, c_isB, c_isnotB, c_idxT, g_0, g_1, g_2, g_3, g_4, g_5, g_6, o_non, o_int, Bool.not_true, Bool.not_false, br_t, br_f, c_itA, c_itT, c_itS])
local macro_rules
  | `(tactic| sizeOf_list_dec) => `(tactic| first
    | assumption
    | exact Ne.symm (by assumption)
    | exact ne_new (by assumption) (by assumption)
    | exact Ne.symm (ne_new (by assumption) (by assumption))
    | exact BagAt.ne (by assumption) (by assumption)
    | exact Ne.symm (BagAt.ne (by assumption) (by assumption))
    | exact id)
local macro_rules
  | `(tactic| array_mem_dec) => `(tactic| first
    | assumption
    | exact up_same
    | (refine (up_ne (by sizeOf_list_dec)).trans ?_; array_mem_dec)
    | (refine (by assumption : Kept _ _ _) _ _ (by sizeOf_list_dec) ?_; array_mem_dec)
    | (refine BagAt.new ?_ (by assumption); array_mem_dec)
    | (refine BagAt.off ?_ (by sizeOf_list_dec); array_mem_dec)
    | (refine BagAt.keep ?_ (by assumption) (by sizeOf_list_dec); array_mem_dec)
    | exact Kept.refl
    | exact Kept.new (by assumption)
    | (refine Kept.trans ?_ (by assumption); array_mem_dec)
    | (refine Kept.loc (by assumption) ?_; array_mem_dec)
    | (refine Kept.nw (by assumption) ?_; array_mem_dec))
variable {μ μ' μ1 μ2 : Sto} {a b p q : Nat} {l : List D} {i : Int} {x y d : D} {o : Ob} {ρ : Env}
end MP

set_option linter.all false
set_option maxRecDepth 100000
set_option maxHeartbeats 1000000
set_option Elab.async false
namespace MP
local macro_rules
  | `(tactic| clean_wf) => `(tactic| simp only [ws_set, ws_set1, ws_ret, ws_nop, ws_exp, ws_exp1, ws_sidx, ws_sidx1, ws_satt, ws_satt1, ws_aat, ws_aat1, ws_avar, ws_avar1, augK_int, ws_for, ws_forS, wpE, wpA, opt_some, gv_0, gv_s, matP, List.set, b_add, b_addS, b_addT, b_sub, b_mul, b_div, b_mod, b_pow, c_len, c_lenT, c_int, c_intB, c_abs, c_min, c_max, c_tupT, c_eqI, c_neI, c_eqS, c_neS, c_lt, c_le, c_gt, c_ge, c_is, c_isnot, c_isB, c_isnotB, c_idxT, g_0, g_1, g_2, g_3, g_4, g_5, g_6, o_non, o_int, Bool.not_true, Bool.not_false, br_t, br_f, c_itA, c_itT, c_itS])
local macro_rules
  | `(tactic| sizeOf_list_dec) => `(tactic| first
    | assumption
    | exact Ne.symm (by assumption)
    | exact ne_new (by assumption) (by assumption)
    | exact Ne.symm (ne_new (by assumption) (by assumption))
    | exact BagAt.ne (by assumption) (by assumption)
    | exact Ne.symm (BagAt.ne (by assumption) (by assumption))
    | exact id)
local macro_rules
  | `(tactic| array_mem_dec) => `(tactic| first
    | assumption
    | exact up_same
    | (refine (up_ne (by sizeOf_list_dec)).trans ?_; array_mem_dec)
    | (refine (by assumption : Kept _ _ _) _ _ (by sizeOf_list_dec) ?_; array_mem_dec)
    | (refine BagAt.new ?_ (by assumption); array_mem_dec)
    | (refine BagAt.off ?_ (by sizeOf_list_dec); array_mem_dec)
    | (refine BagAt.keep ?_ (by assumption) (by sizeOf_list_dec); array_mem_dec)
    | exact Kept.refl
    | exact Kept.new (by assumption)
    | (refine Kept.trans ?_ (by assumption); array_mem_dec)
    | (refine Kept.loc (by assumption) ?_; array_mem_dec)
    | (refine Kept.nw (by assumption) ?_; array_mem_dec))
variable {μ μ' μ1 μ2 : Sto} {a b p q : Nat} {l : List D} {i : Int} {x y d : D} {o : Ob} {ρ : Env}
def alook {α : Type} : List (Nm × α) → Nm → Option α
  | [], _ => none
  | (k, v) :: r, x => if k = x then some v else alook r x
def aput {α : Type} : List (Nm × α) → Nm → α → List (Nm × α)
  | [], x, y => [(x, y)]
  | (k, v) :: r, x, y => if k = x then (k, y) :: r else (k, v) :: aput r x y
def akeys {α : Type} (l : List (Nm × α)) : List Nm := l.map (·.1)
def encA {α : Type} (g : α → D) (l : List (Nm × α)) : List (D × D) := l.map fun p => (D.str p.1, g p.2)
section
variable {α : Type} {g : α → D} {l : List (Nm × α)} {z k : Nm} {v : α}
theorem alook_none : ∀ {l : List (Nm × α)}, alook l z = none ↔ z ∉ akeys l
  | [] => by simp [alook, akeys]
  | (k, v) :: r => by
    unfold alook
    have ih := alook_none (l := r)
    unfold akeys at ih ⊢
    by_cases h : k = z
    · subst h; simp
    · rw [if_neg h, ih]; simp [Ne.symm h]
theorem aput_new : ∀ {l : List (Nm × α)}, z ∉ akeys l → aput l z v = l ++ [(z, v)]
  | [], _ => rfl
  | (k, u) :: r, h => by
    have h1 : ¬ k = z := fun e => h (by simp [akeys, e])
    have h2 : z ∉ akeys r := fun e => h (by simp [akeys] at e ⊢; exact .inr e)
    show (if k = z then _ else _) = _
    rw [if_neg h1, aput_new h2]; rfl
theorem aput_keys (h : z ∈ akeys l) : akeys (aput l z v) = akeys l := by
  induction l with
  | nil => simp [akeys] at h
  | cons p r ih =>
    obtain ⟨k, u⟩ := p
    show akeys (if k = z then _ else _) = _
    by_cases e : k = z
    · rw [if_pos e]; rfl
    · rw [if_neg e]
      have h2 : z ∈ akeys r := by simp [akeys, Ne.symm e] at h ⊢; exact h
      show k :: akeys (aput r z v) = k :: akeys r
      rw [ih h2]
theorem aput_map (nd : (akeys l).Nodup) (h : z ∈ akeys l) : aput l z v = l.map fun p => if p.1 = z then (p.1, v) else p := by
  induction l with
  | nil => simp [akeys] at h
  | cons p r ih =>
    obtain ⟨k, u⟩ := p
    have nd' : k ∉ akeys r ∧ (akeys r).Nodup := List.nodup_cons.mp nd
    show (if k = z then _ else _) = _
    rw [List.map_cons]
    by_cases e : k = z
    · rw [if_pos e, if_pos e]
      congr 1
      symm
      have : ∀ q ∈ r, (if q.1 = z then (q.1, v) else q) = q := fun q hq => if_neg fun w => nd'.1 (by rw [e, ← w]; exact List.mem_map_of_mem hq)
      rw [List.map_congr_left this, List.map_id']
    · rw [if_neg e, if_neg e]
      have h2 : z ∈ akeys r := by simp [akeys, Ne.symm e] at h ⊢; exact h
      rw [ih nd'.2 h2]
theorem aput_nodup (nd : (akeys l).Nodup) : (akeys (aput l z v)).Nodup := by
  by_cases h : z ∈ akeys l
  · rw [aput_keys h]; exact nd
  · rw [aput_new h]
    unfold akeys
    rw [List.map_append]
    exact List.nodup_append.mpr ⟨nd, by simp, fun x hx y hy => by rw [List.mem_singleton.mp hy]; exact fun w => by subst w; exact h hx⟩
theorem aput_len : (aput l z v).length ≤ l.length + 1 := by
  by_cases h : z ∈ akeys l
  · have := congrArg List.length (aput_keys (v := v) h)
    unfold akeys at this
    rw [List.length_map, List.length_map] at this; omega
  · rw [aput_new h]; simp
end
inductive Wd where
  | on | stop | dry
  deriving DecidableEq, Repr
def wdC : Wd → List Nat
  | .on => [111, 110]
  | .stop => [115, 116, 111, 112]
  | .dry => [100, 114, 121]
structure RS where
  been : List Nat
  place : Nat
  ws : List (Nm × Int)
  taken : Nat
  said : List Int
  stand : Wd
def worthOf (ws : List (Nm × Int)) (a : Nm) : Int := (alook ws a).getD 0
def RS.cur (s : RS) : Nat := s.been.getLastD 0
def pcAt (pl : Plan) (k : Nat) : Pc := (pl[k]?).getD ([], .stop)
def RS.sz (s : RS) : Nat := s.ws.length + s.said.length + s.been.length
structure WfR (pl : Plan) (nums : List Int) (s : RS) : Prop where
  been : ∀ k ∈ s.been, k < pl.length
  ne : s.been ≠ []
  place : s.place ≤ (pcAt pl s.cur).1.length
  taken : s.taken ≤ nums.length
  nd : (akeys s.ws).Nodup
theorem pcAt_get {pl : Plan} {k : Nat} (h : k < pl.length) : pl[k]? = some (pcAt pl k) := by unfold pcAt; rw [List.getElem?_eq_getElem h]; rfl
theorem pcAt_mem {pl : Plan} {k : Nat} (h : k < pl.length) : pcAt pl k ∈ pl := List.mem_of_getElem? (pcAt_get h)
structure RunnerG (G : Ctx) : Prop where
  fl : ∀ f ∈ [15, 23, 41, 48, 36, 30, 31, 38], G.fl 3 f = true
  worth : G.mt 3 47 = some 26
  do_ : G.mt 3 4 = some 22
  yes : G.mt 3 11 = some 23
  lead : G.mt 3 16 = some 24
  step : G.mt 3 39 = some 25
def runFs (pl : Plan) (nums : List Int) (s : RS) (w sd pc : Nat) (q : Int) : List (Nat × D) := [(15, encPl pl), (23, encI nums), (41, encN s.taken), (48, .ref w), (36, .ref sd), (30, .ref pc), (31, .int q), (38, .str (wdC s.stand))]
structure RunAt (μ : Sto) (r w sd pc : Nat) (pl : Plan) (nums : List Int) (q : Int) (s : RS) : Prop where
  obj : μ r = some (.ins 3 (runFs pl nums s w sd pc q))
  hw : μ w = some (.dF (encA D.int s.ws))
  hs : μ sd = some (.lst (s.said.map D.int))
  hp : μ pc = some (.lst (s.been.map encN))
  ne : sd ≠ pc
abbrev Rs (r w sd pc : Nat) : Nat → Prop := fun q => q = r ∨ q = w ∨ q = sd ∨ q = pc
section
variable {r w sd pc : Nat} {pl : Plan} {nums : List Int} {s : RS} {pq : Int}
theorem RunAt.rw_ (h : RunAt μ r w sd pc pl nums pq s) : r ≠ w ∧ r ≠ sd ∧ r ≠ pc ∧ w ≠ sd ∧ w ≠ pc := by
  refine ⟨fun e => ?_, fun e => ?_, fun e => ?_, fun e => ?_, fun e => ?_⟩
  · have := h.obj; rw [e, h.hw] at this; cases this
  · have := h.obj; rw [e, h.hs] at this; cases this
  · have := h.obj; rw [e, h.hp] at this; cases this
  · have := h.hw; rw [e, h.hs] at this; cases this
  · have := h.hw; rw [e, h.hp] at this; cases this
theorem RunAt.keep {S : Nat → Prop} (h : RunAt μ r w sd pc pl nums pq s) (k : Kept S μ μ') (hs : ∀ q, Rs r w sd pc q → ¬ S q) : RunAt μ' r w sd pc pl nums pq s :=
  ⟨k _ _ (hs _ (.inl rfl)) h.obj, k _ _ (hs _ (.inr (.inl rfl))) h.hw, k _ _ (hs _ (.inr (.inr (.inl rfl)))) h.hs, k _ _ (hs _ (.inr (.inr (.inr rfl)))) h.hp, h.ne⟩
theorem RunAt.ob (h : RunAt μ r w sd pc pl nums pq s) {t : Nat} {st : Wd} {pq' : Int} {nums' : List Int} : RunAt (upd μ r (.ins 3 (runFs pl nums' { s with taken := t, stand := st } w sd pc pq'))) r w sd pc pl nums' pq' { s with taken := t, stand := st } := by
  obtain ⟨n1, n2, n3, n4, n5⟩ := h.rw_
  exact ⟨up_same, by rw [up_ne (Ne.symm n1)]; exact h.hw, by rw [up_ne (Ne.symm n2)]; exact h.hs, by rw [up_ne (Ne.symm n3)]; exact h.hp, h.ne⟩
end
end MP

set_option linter.all false
set_option maxRecDepth 100000
set_option maxHeartbeats 1000000
set_option Elab.async false
namespace MP
local macro_rules
  | `(tactic| clean_wf) => `(tactic| simp only [ws_set, ws_set1, ws_ret, ws_nop, ws_exp, ws_exp1, ws_sidx, ws_sidx1, ws_satt, ws_satt1, ws_aat, ws_aat1, ws_avar, ws_avar1, augK_int, ws_for, ws_forS, wpE, wpA, opt_some, gv_0, gv_s, matP, List.set, b_add, b_addS, b_addT, b_sub, b_mul, b_div, b_mod, b_pow, c_len, c_lenT, c_int, c_intB, c_abs, c_min, c_max, c_tupT, c_eqI, c_neI, c_eqS, c_neS, c_lt, c_le, c_gt, c_ge, c_is, c_isnot, c_isB, c_isnotB, c_idxT, g_0, g_1, g_2, g_3, g_4, g_5, g_6, o_non, o_int, Bool.not_true, Bool.not_false, br_t, br_f, c_itA, c_itT, c_itS])
local macro_rules
  | `(tactic| sizeOf_list_dec) => `(tactic| first
    | assumption
    | exact Ne.symm (by assumption)
    | exact ne_new (by assumption) (by assumption)
    | exact Ne.symm (ne_new (by assumption) (by assumption))
    | exact BagAt.ne (by assumption) (by assumption)
    | exact Ne.symm (BagAt.ne (by assumption) (by assumption))
    | exact id)
local macro_rules
  | `(tactic| array_mem_dec) => `(tactic| first
    | assumption
    | exact up_same
    | (refine (up_ne (by sizeOf_list_dec)).trans ?_; array_mem_dec)
    | (refine (by assumption : Kept _ _ _) _ _ (by sizeOf_list_dec) ?_; array_mem_dec)
    | (refine BagAt.new ?_ (by assumption); array_mem_dec)
    | (refine BagAt.off ?_ (by sizeOf_list_dec); array_mem_dec)
    | (refine BagAt.keep ?_ (by assumption) (by sizeOf_list_dec); array_mem_dec)
    | exact Kept.refl
    | exact Kept.new (by assumption)
    | (refine Kept.trans ?_ (by assumption); array_mem_dec)
    | (refine Kept.loc (by assumption) ?_; array_mem_dec)
    | (refine Kept.nw (by assumption) ?_; array_mem_dec))
variable {μ μ' μ1 μ2 : Sto} {a b p q : Nat} {l : List D} {i : Int} {x y d : D} {o : Ob} {ρ : Env}
structure WkAt (μ : Sto) (w sd pc : Nat) (s : RS) : Prop where
  hw : μ w = some (.dF (encA D.int s.ws))
  hs : μ sd = some (.lst (s.said.map D.int))
  hp : μ pc = some (.lst (s.been.map encN))
  ne : sd ≠ pc
abbrev Ws (w sd pc : Nat) : Nat → Prop := fun q => q = w ∨ q = sd ∨ q = pc
section
variable {w sd pc : Nat} {s : RS}
theorem WkAt.rw_ (h : WkAt μ w sd pc s) : w ≠ sd ∧ w ≠ pc := by
  refine ⟨fun e => ?_, fun e => ?_⟩
  · have := h.hw; rw [e, h.hs] at this; cases this
  · have := h.hw; rw [e, h.hp] at this; cases this
theorem WkAt.keep {S : Nat → Prop} (h : WkAt μ w sd pc s) (k : Kept S μ μ') (hs : ∀ q, Ws w sd pc q → ¬ S q) : WkAt μ' w sd pc s :=
  ⟨k _ _ (hs _ (.inl rfl)) h.hw, k _ _ (hs _ (.inr (.inl rfl))) h.hs, k _ _ (hs _ (.inr (.inr rfl))) h.hp, h.ne⟩
end
end MP

set_option linter.all false
set_option maxRecDepth 100000
set_option maxHeartbeats 1000000
set_option Elab.async false
namespace MP
local macro_rules
  | `(tactic| simp_wf) => `(tactic| simp only [wpE, wpA, optP, getV, matP, List.set, List.getElem?_cons_succ, List.getElem?_cons_zero, primP, arg1, arg2, arg3, binP, intP, absP, min2P, max2P])
def EndB (B : Int) (d : D) : Prop := d = .non ∨ ∃ i : Int, d = .int i ∧ -B ≤ i ∧ i ≤ B
theorem EndB.mono {B C : Int} {d : D} (h : EndB B d) (hb : B ≤ C) : EndB C d := by
  rcases h with rfl | ⟨i, rfl, h1, h2⟩
  · exact .inl rfl
  · exact .inr ⟨i, rfl, by omega, by omega⟩
def StB (B : Int) (d : D) : Prop := ∃ x y, d = .tup [x, y] ∧ EndB B x ∧ EndB B y ∧ leE x y = true
def wiB (x y x' y' : D) : Bool := (isNon x' || (!isNon x && leE x' x)) && (isNon y' || (!isNon y && leE y y'))
theorem StB.mono {B C : Int} {d : D} (h : StB B d) (hb : B ≤ C) : StB C d := by
  obtain ⟨x, y, e, ex, ey, le⟩ := h
  exact ⟨x, y, e, ex.mono hb, ey.mono hb, le⟩
end MP

set_option linter.all false
set_option maxRecDepth 100000
set_option maxHeartbeats 1000000
set_option Elab.async false
namespace MP
local macro_rules
  | `(tactic| clean_wf) => `(tactic| simp only [ws_set, ws_set1, ws_ret, ws_nop, ws_exp, ws_exp1, ws_sidx, ws_sidx1, ws_satt, ws_satt1, ws_aat, ws_aat1, ws_avar, ws_avar1, augK_int, ws_for, ws_forS, wpE, wpA, opt_some, gv_0, gv_s, matP, List.set, b_add, b_addS, b_addT, b_sub, b_mul, b_div, b_mod, b_pow, c_len, c_lenT, c_int, c_intB, c_abs, c_min, c_max, c_tupT, c_eqI, c_neI, c_eqS, c_neS, c_lt, c_le, c_gt, c_ge, c_is, c_isnot, c_isB, c_isnotB, c_idxT, g_0, g_1, g_2, g_3, g_4, g_5, g_6, o_non, o_int, Bool.not_true, Bool.not_false, br_t, br_f, c_itA, c_itT, c_itS, wipe])
local macro_rules
  | `(tactic| sizeOf_list_dec) => `(tactic| first
    | assumption
    | exact Ne.symm (by assumption)
    | exact ne_new (by assumption) (by assumption)
    | exact Ne.symm (ne_new (by assumption) (by assumption))
    | exact BagAt.ne (by assumption) (by assumption)
    | exact Ne.symm (BagAt.ne (by assumption) (by assumption))
    | exact id)
local macro_rules
  | `(tactic| array_mem_dec) => `(tactic| first
    | assumption
    | exact up_same
    | (refine (up_ne (by sizeOf_list_dec)).trans ?_; array_mem_dec)
    | (refine (by assumption : Kept _ _ _) _ _ (by sizeOf_list_dec) ?_; array_mem_dec)
    | (refine BagAt.new ?_ (by assumption); array_mem_dec)
    | (refine BagAt.off ?_ (by sizeOf_list_dec); array_mem_dec)
    | (refine BagAt.keep ?_ (by assumption) (by sizeOf_list_dec); array_mem_dec)
    | exact Kept.refl
    | exact Kept.new (by assumption)
    | (refine Kept.trans ?_ (by assumption); array_mem_dec)
    | (refine Kept.loc (by assumption) ?_; array_mem_dec)
    | (refine Kept.nw (by assumption) ?_; array_mem_dec))
variable {μ μ' μ1 μ2 : Sto} {a b p q : Nat} {l : List D} {i : Int} {x y d : D} {o : Ob} {ρ : Env}
abbrev Fs := List (Nm × Sh)
abbrev ALL : Sh := (none, none)
def encP (p : Nm × Sh) : D := .tup [.str p.1, encS p.2]
def encF (f : Fs) : D := .tup (f.map encP)
def Rise (f : Fs) : Prop := f.Pairwise fun a b => strLt a.1 b.1 = true
def knownF (f : Fs) (z : Nm) : Sh := (alook f z).getD ALL
def insF (p : Nm × Sh) : Fs → Fs
  | [] => [p]
  | q :: r => if strLt p.1 q.1 = true then p :: q :: r else q :: insF p r
def dropF (f : Fs) (z : Nm) : Fs := f.filter fun p => !decide (p.1 = z)
def withF (f : Fs) (z : Nm) (s : Sh) : Fs := if s = ALL then dropF f z else insF (z, s) (dropF f z)
theorem lt_irr (a : Nm) : strLt a a = false := by rw [strLt_dec]; exact decide_eq_false (List.lt_irrefl a)
theorem lt_tr {a b c : Nm} (h1 : strLt a b = true) (h2 : strLt b c = true) : strLt a c = true := by
  rw [strLt_dec, decide_eq_true_eq] at *; exact List.lt_trans h1 h2
theorem lt_tot {a b : Nm} (h1 : strLt a b = false) (h2 : strLt b a = false) : a = b := by
  rw [strLe_dec] at h1 h2; exact List.le_antisymm h2 h1
theorem Rise.drop {f : Fs} (h : Rise f) (z : Nm) : Rise (dropF f z) := List.Pairwise.filter _ h
theorem mem_dropF {f : Fs} {z : Nm} {p : Nm × Sh} : p ∈ dropF f z ↔ p ∈ f ∧ p.1 ≠ z := by
  unfold dropF
  rw [List.mem_filter]; simp
theorem mem_insF {p q : Nm × Sh} : ∀ {f : Fs}, q ∈ insF p f ↔ q = p ∨ q ∈ f
  | [] => by simp [insF]
  | x :: r => by
    unfold insF
    split
    · rw [List.mem_cons]
    · rw [List.mem_cons, mem_insF, List.mem_cons]
      constructor
      · rintro (h | h | h)
        · exact .inr (.inl h)
        · exact .inl h
        · exact .inr (.inr h)
      · rintro (h | h | h)
        · exact .inr (.inl h)
        · exact .inl h
        · exact .inr (.inr h)
theorem insF_perm {p : Nm × Sh} : ∀ {f : Fs}, (insF p f).Perm (p :: f)
  | [] => .refl _
  | x :: r => by
    unfold insF
    split
    · exact .refl _
    · exact (List.Perm.cons x insF_perm).trans (.swap p x r)
theorem Rise.ins {p : Nm × Sh} : ∀ {f : Fs}, Rise f → (∀ q ∈ f, q.1 ≠ p.1) → Rise (insF p f)
  | [], _, _ => List.pairwise_singleton _ _
  | x :: r, h, hn => by
    have h' := List.pairwise_cons.mp h
    unfold insF
    split
    · rename_i e
      refine List.pairwise_cons.mpr ⟨fun q hq => ?_, h⟩
      rcases List.mem_cons.mp hq with rfl | hq
      · exact e
      · exact lt_tr e (h'.1 q hq)
    · rename_i e
      refine List.pairwise_cons.mpr ⟨fun q hq => ?_, Rise.ins h'.2 fun q hq => hn q (List.mem_cons_of_mem _ hq)⟩
      rcases mem_insF.mp hq with rfl | hq
      · cases e2 : strLt x.1 q.1 with
        | true => rfl
        | false => exact absurd (lt_tot e2 (by simpa using e)) (hn x (List.mem_cons_self ..))
      · exact h'.1 q hq
theorem Rise.with {f : Fs} (h : Rise f) (z : Nm) (s : Sh) : Rise (withF f z s) := by
  unfold withF
  split
  · exact h.drop z
  · exact (h.drop z).ins fun q hq => (mem_dropF.mp hq).2
theorem Rise.nodup {f : Fs} (h : Rise f) : (akeys f).Nodup := by
  unfold akeys
  rw [List.Nodup, List.pairwise_map]
  exact h.imp fun {a b} e z => by rw [z, lt_irr] at e; cases e
theorem alook_mem {α : Type} : ∀ {f : List (Nm × α)} {z : Nm} {s : α}, alook f z = some s → (z, s) ∈ f
  | (k, v) :: r, z, s, h => by
    unfold alook at h
    split at h
    · rename_i e; subst e; cases h; exact List.mem_cons_self ..
    · exact List.mem_cons_of_mem _ (alook_mem h)
theorem alook_of {α : Type} : ∀ {f : List (Nm × α)} {z : Nm} {s : α}, (akeys f).Nodup → (z, s) ∈ f → alook f z = some s
  | (k, v) :: r, z, s, nd, h => by
    have nd' : k ∉ akeys r ∧ (akeys r).Nodup := List.nodup_cons.mp nd
    unfold alook
    rcases List.mem_cons.mp h with e | h
    · cases e; rw [if_pos rfl]
    · rw [if_neg fun e => nd'.1 (by rw [e]; exact List.mem_map_of_mem h)]
      exact alook_of nd'.2 h
theorem alook_iff {α : Type} {f : List (Nm × α)} (nd : (akeys f).Nodup) {z : Nm} {s : α} : alook f z = some s ↔ (z, s) ∈ f := ⟨alook_mem, alook_of nd⟩
def NoAll (f : Fs) : Prop := ∀ p ∈ f, p.2 ≠ ALL
theorem NoAll.with {f : Fs} (h : NoAll f) (z : Nm) (s : Sh) : NoAll (withF f z s) := by
  intro p hp
  unfold withF at hp
  split at hp
  · exact h p (mem_dropF.mp hp).1
  · rename_i hs
    rcases mem_insF.mp hp with rfl | hp
    · exact hs
    · exact h p (mem_dropF.mp hp).1
theorem insF_len {p : Nm × Sh} {f : Fs} : (insF p f).length = f.length + 1 := by rw [insF_perm.length_eq, List.length_cons]
theorem dropF_len {z : Nm} {f : Fs} : (dropF f z).length ≤ f.length := List.length_filter_le _ _
theorem withF_len {f : Fs} {z : Nm} {s : Sh} : (withF f z s).length ≤ f.length + 1 := by
  have := dropF_len (z := z) (f := f)
  unfold withF
  split
  · omega
  · rw [insF_len]; omega
theorem comp_fm {α : Type} {chk : Sto → Prop} {turn : D → Sto → (Option D → Sto → Prop) → Prop} {K : List D → Sto → Prop} (enc : α → D) (h : α → Option D) (I : Sto → Prop) (hc : ∀ μ, I μ → chk μ) : ∀ {xs : List α} {acc : List D} {μ : Sto},
    (∀ x ∈ xs, ∀ μ (K' : Option D → Sto → Prop), I μ → (∀ μ', I μ' → K' (h x) μ') → turn (enc x) μ K') → acc.length + xs.length ≤ sizeMax → I μ → (∀ μ', I μ' → K (acc ++ xs.filterMap h) μ') → compP chk turn K (xs.map enc) acc μ
  | [], acc, μ, _, _, hi, hk => ⟨hc _ hi, by simpa using hk μ hi⟩
  | x :: xs, acc, μ, ht, hz, hi, hk => by
    rw [List.length_cons] at hz
    refine ⟨hc _ hi, ht x (List.mem_cons_self ..) μ _ hi fun μ' h' => ?_⟩
    have ht' := fun y hy => ht y (List.mem_cons_of_mem _ hy)
    cases e : h x with
    | none =>
      refine comp_fm enc h I hc ht' (by omega) h' fun μ2 h2 => ?_
      have := hk μ2 h2
      rw [List.filterMap_cons, e] at this
      exact this
    | some y =>
      refine ⟨by omega, comp_fm enc h I hc ht' (by rw [List.length_append, List.length_singleton]; omega) h' fun μ2 h2 => ?_⟩
      have := hk μ2 h2
      rw [List.filterMap_cons, e] at this
      rw [List.append_assoc]; exact this
theorem comp_mp {α : Type} {chk : Sto → Prop} {turn : D → Sto → (Option D → Sto → Prop) → Prop} {K : List D → Sto → Prop} (enc : α → D) (g : α → D) (I : Sto → Prop) (hc : ∀ μ, I μ → chk μ) {xs : List α} {μ : Sto}
    (ht : ∀ x ∈ xs, ∀ μ (K' : Option D → Sto → Prop), I μ → (∀ μ', I μ' → K' (some (g x)) μ') → turn (enc x) μ K') (hz : xs.length ≤ sizeMax) (hi : I μ) (hk : ∀ μ', I μ' → K (xs.map g) μ') : compP chk turn K (xs.map enc) [] μ :=
  comp_fm enc (fun x => some (g x)) I hc ht (by simpa using hz) hi fun μ' h' => by
    have e : xs.filterMap (fun x => some (g x)) = xs.map g := by rw [← List.filterMap_eq_map]; rfl
    rw [List.nil_append, e]; exact hk μ' h'
structure FactG (G : Ctx) : Prop where
  all : G.cst 0 = some (.tup [.non, .non])
def liesB (n : Int) (s : Sh) : Bool := geLo n (encE s.1) && leHi n (encE s.2)
def holdsF (f : Fs) (w : List (Nm × Int)) : Bool := f.all fun p => liesB ((alook w p.1).getD 0) p.2
def withinB (s t : Sh) : Bool := wiB (encE s.1) (encE s.2) (encE t.1) (encE t.2)
def coversF (f g : Fs) : Bool := f.all fun p => withinB (knownF g p.1) p.2
def movedE (e : En) (n : Int) : En := e.map (· + n)
def bh1 (f : Fs) : Deed → Fs
  | .put a n => withF f a (some n, some n)
  | .copy a b => withF f a (knownF f b)
  | .add a n => withF f a (movedE (knownF f a).1 n, movedE (knownF f a).2 n)
  | .read a => withF f a ALL
  | .tell _ => f
def bhF (f : Fs) (ds : List Deed) : Fs := ds.foldl bh1 f
structure OkF (f : Fs) : Prop where
  rise : Rise f
  noall : NoAll f
  ok : ∀ p ∈ f, okSh p.2 = true
theorem OkF.nil : OkF [] := ⟨.nil, fun _ h => (nomatch h), fun _ h => (nomatch h)⟩
theorem OkF.with {f : Fs} (h : OkF f) (z : Nm) {s : Sh} (hs : okSh s = true) : OkF (withF f z s) := by
  refine ⟨h.rise.with z s, h.noall.with z s, fun p hp => ?_⟩
  unfold withF at hp
  split at hp
  · exact h.ok p (mem_dropF.mp hp).1
  · rcases mem_insF.mp hp with rfl | hp
    · exact hs
    · exact h.ok p (mem_dropF.mp hp).1
theorem OkF.known {f : Fs} (h : OkF f) (z : Nm) : okSh (knownF f z) = true := by
  unfold knownF
  cases e : alook f z with
  | none => rfl
  | some s => exact h.ok _ (alook_mem e)
theorem okSh_moved {s : Sh} {n : Int} (h : okSh s = true) : okSh (movedE s.1 n, movedE s.2 n) = true := by
  obtain ⟨a, b⟩ := s
  cases a with
  | none => cases b <;> rfl
  | some i =>
    cases b with
    | none => rfl
    | some j =>
      have h : decide (i ≤ j) = true := h
      show decide (i + n ≤ j + n) = true
      simpa using h
theorem OkF.bh1 {f : Fs} (h : OkF f) (d : Deed) : OkF (bh1 f d) := by
  cases d with
  | put a n => exact h.with a (by show decide (n ≤ n) = true; simp)
  | copy a b => exact h.with a (h.known b)
  | add a n => exact h.with a (okSh_moved (h.known a))
  | read a => exact h.with a rfl
  | tell a => exact h
theorem OkF.bh {f : Fs} (h : OkF f) (ds : List Deed) : OkF (bhF f ds) := by
  induction ds generalizing f with
  | nil => exact h
  | cons d r ih => exact ih (h.bh1 d)
theorem part_okSh {s t : Sh} {l side : Bool} {n : Int} (h : okSh s = true) (e : part s l n side = some t) : okSh t = true := by
  have bt : ∀ {lo hi : En}, betw s lo hi = some t → okSh t = true := fun {lo hi} e => by
    unfold betw at e
    split at e
    · cases e; assumption
    · cases e
  obtain ⟨a, b⟩ := s
  cases l with
  | true => cases side <;> exact bt e
  | false =>
    cases side with
    | true => exact bt e
    | false =>
      have e : (if (a, b) = ((some n, some n) : Sh) then none else if a = some n then some (some (n + 1), b) else if b = some n then some (a, some (n - 1)) else some (a, b)) = some t := e
      split at e
      · cases e
      rename_i h0
      split at e
      · rename_i h1
        cases e
        subst h1
        cases b with
        | none => rfl
        | some j =>
          have h : decide (n ≤ j) = true := h
          have : n ≠ j := fun z => h0 (by rw [z])
          show decide (n + 1 ≤ j) = true
          simp at h ⊢; omega
      · rename_i h1
        split at e
        · rename_i h2
          cases e
          subst h2
          cases a with
          | none => rfl
          | some i =>
            have h : decide (i ≤ n) = true := h
            have : i ≠ n := fun z => h1 (by rw [z])
            show decide (i ≤ n - 1) = true
            simp at h ⊢; omega
        · cases e; exact h
abbrev Lead := Option Bool × Nat × Fs
def sideL (o : Option Sh) (b : Bool) (k : Nat) (f : Fs) (a : Nm) : List Lead := match o with
  | some t => [(some b, k, withF f a t)]
  | none => []
def sidedF (f : Fs) : Ed → List Lead
  | .stop => []
  | .go p => [(none, p, f)]
  | .test l a n y z => sideL (part (knownF f a) l n true) true y f a ++ sideL (part (knownF f a) l n false) false z f a
def leadsF (f : Fs) (e : Ed) : List (Nat × Fs) := (sidedF f e).map fun x => (x.2.1, x.2.2)
def encC (c : Nat × Fs) : D := .tup [encN c.1, encF c.2]
theorem OkF.sided {f : Fs} (h : OkF f) {e : Ed} : ∀ x ∈ sidedF f e, OkF x.2.2 ∧ x.2.2.length ≤ f.length + 1 := by
  have sl : ∀ {o : Option Sh} {b : Bool} {k : Nat} {a : Nm}, (∀ t, o = some t → okSh t = true) → ∀ x ∈ sideL o b k f a, OkF x.2.2 ∧ x.2.2.length ≤ f.length + 1 := fun {o b k a} ho x hx => by
    cases o with
    | none => cases hx
    | some t =>
      rw [show x = (some b, k, withF f a t) from List.mem_singleton.mp hx]
      exact ⟨h.with a (ho t rfl), withF_len⟩
  intro x hx
  cases e with
  | stop => cases hx
  | go p => rw [show x = (none, p, f) from List.mem_singleton.mp hx]; exact ⟨h, Nat.le_succ _⟩
  | test l a n y z =>
    rcases List.mem_append.mp hx with hx | hx
    · exact sl (fun t => part_okSh (h.known a)) x hx
    · exact sl (fun t => part_okSh (h.known a)) x hx
theorem sided_len {f : Fs} {e : Ed} : (sidedF f e).length ≤ 2 := by
  cases e with
  | stop => simp [sidedF]
  | go p => simp [sidedF]
  | test l a n y z =>
    show (sideL _ _ _ _ _ ++ sideL _ _ _ _ _).length ≤ 2
    rw [List.length_append]
    cases part (knownF f a) l n true <;> cases part (knownF f a) l n false <;> simp [sideL]
def startF (pl : Plan) : Fs := (namesOf pl).map fun z => (z, (some 0, some 0))
theorem sortNm_rise {l : List Nm} (nd : l.Nodup) : (sortNm l).Pairwise fun a b => strLt a b = true := by
  have key : ∀ (l : List Nm), l.Nodup → (isort leNm l).Pairwise fun a b => strLt a b = true := by
    have hins : ∀ (x : Nm) (l : List Nm), x ∉ l → l.Pairwise (fun a b => strLt a b = true) → (ins leNm x l).Pairwise fun a b => strLt a b = true := by
      intro x l
      induction l with
      | nil => exact fun _ _ => List.pairwise_singleton _ _
      | cons y r ih =>
        intro hn h
        have h' := List.pairwise_cons.mp h
        have nxy : ¬ x = y := fun e => hn (by rw [e]; exact List.mem_cons_self ..)
        unfold ins
        split
        · rename_i e
          have e : strLt y x = false := by unfold leNm at e; simpa using e
          have e2 : strLt x y = true := by
            cases q : strLt x y with
            | true => rfl
            | false => exact absurd (lt_tot q e) nxy
          refine List.pairwise_cons.mpr ⟨fun w hw => ?_, h⟩
          rcases List.mem_cons.mp hw with rfl | hw
          · exact e2
          · exact lt_tr e2 (h'.1 w hw)
        · rename_i e
          have e : strLt y x = true := by unfold leNm at e; simpa using e
          refine List.pairwise_cons.mpr ⟨fun w hw => ?_, ih (fun z => hn (List.mem_cons_of_mem _ z)) h'.2⟩
          rcases List.mem_cons.mp (ins_perm.mem_iff.mp hw) with rfl | hw
          · exact e
          · exact h'.1 w hw
    intro l
    induction l with
    | nil => exact fun _ => .nil
    | cons x r ih =>
      intro nd
      have nd' := List.nodup_cons.mp nd
      exact hins x _ (fun z => nd'.1 (isort_perm.mem_iff.mp z)) (ih nd'.2)
  exact key l nd
theorem startF_ok (pl : Plan) : OkF (startF pl) := by
  refine ⟨?_, fun p hp => ?_, fun p hp => ?_⟩
  · unfold Rise startF
    rw [List.pairwise_map]
    exact sortNm_rise (nodup_addKs .nil)
  · obtain ⟨z, _, rfl⟩ := List.mem_map.mp hp
    exact fun e => nomatch e
  · obtain ⟨z, _, rfl⟩ := List.mem_map.mp hp
    rfl
end MP

set_option linter.all false
set_option maxRecDepth 100000
set_option maxHeartbeats 1000000
set_option Elab.async false
namespace MP
local macro_rules
  | `(tactic| clean_wf) => `(tactic| simp only [ws_set, ws_set1, ws_ret, ws_nop, ws_exp, ws_exp1, ws_sidx, ws_sidx1, ws_satt, ws_satt1, ws_aat, ws_aat1, ws_avar, ws_avar1, augK_int, ws_for, ws_forS, wpE, wpA, opt_some, gv_0, gv_s, matP, List.set, b_add, b_addS, b_addT, b_sub, b_mul, b_div, b_mod, b_pow, c_len, c_lenT, c_int, c_intB, c_abs, c_min, c_max, c_tupT, c_eqI, c_neI, c_eqS, c_neS, c_lt, c_le, c_gt, c_ge, c_is, c_isnot, c_isB, c_isnotB, c_idxT, g_0, g_1, g_2, g_3, g_4, g_5, g_6, o_non, o_int, Bool.not_true, Bool.not_false, br_t, br_f, c_itA, c_itT, c_itS, wipe])
local macro_rules
  | `(tactic| sizeOf_list_dec) => `(tactic| first
    | assumption
    | exact Ne.symm (by assumption)
    | exact ne_new (by assumption) (by assumption)
    | exact Ne.symm (ne_new (by assumption) (by assumption))
    | exact BagAt.ne (by assumption) (by assumption)
    | exact Ne.symm (BagAt.ne (by assumption) (by assumption))
    | exact id)
local macro_rules
  | `(tactic| array_mem_dec) => `(tactic| first
    | assumption
    | exact up_same
    | (refine (up_ne (by sizeOf_list_dec)).trans ?_; array_mem_dec)
    | (refine (by assumption : Kept _ _ _) _ _ (by sizeOf_list_dec) ?_; array_mem_dec)
    | (refine BagAt.new ?_ (by assumption); array_mem_dec)
    | (refine BagAt.off ?_ (by sizeOf_list_dec); array_mem_dec)
    | (refine BagAt.keep ?_ (by assumption) (by sizeOf_list_dec); array_mem_dec)
    | exact Kept.refl
    | exact Kept.new (by assumption)
    | (refine Kept.trans ?_ (by assumption); array_mem_dec)
    | (refine Kept.loc (by assumption) ?_; array_mem_dec)
    | (refine Kept.nw (by assumption) ?_; array_mem_dec))
variable {μ μ' μ1 μ2 : Sto} {a b p q : Nat} {l : List D} {i : Int} {x y d : D} {o : Ob} {ρ : Env}
def toldF (T : Fs) : Fs := (sortNm (akeys T)).map fun z => (z, knownF T z)
theorem told_keys {T : Fs} : akeys (toldF T) = sortNm (akeys T) := by
  unfold toldF akeys; rw [List.map_map]; exact List.map_id _
theorem toldF_rise {T : Fs} (nd : (akeys T).Nodup) : Rise (toldF T) := by
  unfold Rise toldF
  rw [List.pairwise_map]
  exact sortNm_rise nd
theorem alook_known {T : Fs} {z : Nm} (h : z ∈ akeys T) : alook T z = some (knownF T z) := by
  unfold knownF
  cases e : alook T z with
  | some s => rfl
  | none => exact absurd h (alook_none.mp e)
theorem alook_told {T : Fs} (nd : (akeys T).Nodup) (z : Nm) : alook (toldF T) z = alook T z := by
  by_cases h : z ∈ akeys T
  · rw [alook_known h]
    exact (alook_iff (toldF_rise nd).nodup).mpr (List.mem_map.mpr ⟨z, isort_perm.mem_iff.mpr h, rfl⟩)
  · rw [alook_none.mpr h, alook_none, told_keys]
    exact fun w => h (isort_perm.mem_iff.mp w)
theorem known_told {T : Fs} (nd : (akeys T).Nodup) (z : Nm) : knownF (toldF T) z = knownF T z := by unfold knownF; rw [alook_told nd]
theorem mem_told {T : Fs} (nd : (akeys T).Nodup) {p : Nm × Sh} : p ∈ toldF T ↔ p ∈ T := by
  rw [show p = (p.1, p.2) from rfl, ← alook_iff (toldF_rise nd).nodup, alook_told nd, alook_iff nd]
structure OkT (T : Fs) : Prop where
  nd : (akeys T).Nodup
  noall : NoAll T
  ok : ∀ p ∈ T, okSh p.2 = true
theorem OkT.told {T : Fs} (h : OkT T) : OkF (toldF T) := ⟨toldF_rise h.nd, fun p hp => h.noall p ((mem_told h.nd).mp hp), fun p hp => h.ok p ((mem_told h.nd).mp hp)⟩
theorem OkT.nil : OkT [] := ⟨.nil, fun _ h => (nomatch h), fun _ h => (nomatch h)⟩
theorem OkT.known {T : Fs} (h : OkT T) (z : Nm) : okSh (knownF T z) = true := by
  rw [← known_told h.nd]; exact h.told.known z
def adel {α : Type} (T : List (Nm × α)) (z : Nm) : List (Nm × α) := T.filter fun p => !decide (p.1 = z)
theorem mem_adel {α : Type} {T : List (Nm × α)} {z : Nm} {p : Nm × α} : p ∈ adel T z ↔ p ∈ T ∧ p.1 ≠ z := by unfold adel; rw [List.mem_filter]; simp
theorem adel_keys {α : Type} {T : List (Nm × α)} {z : Nm} : z ∉ akeys (adel T z) := fun h => by
  obtain ⟨p, hp, e⟩ := List.mem_map.mp h
  exact (mem_adel.mp hp).2 e
theorem adel_nodup {α : Type} {T : List (Nm × α)} {z : Nm} (nd : (akeys T).Nodup) : (akeys (adel T z)).Nodup := by
  unfold akeys at *
  exact nd.sublist ((List.filter_sublist ..).map _)
def withT (T : Fs) (z : Nm) (s : Sh) : Fs := if s = ALL then adel T z else aput (adel T z) z s
theorem withT_nodup {T : Fs} {z : Nm} {s : Sh} (nd : (akeys T).Nodup) : (akeys (withT T z s)).Nodup := by
  unfold withT
  split
  · exact adel_nodup nd
  · exact aput_nodup (adel_nodup nd)
theorem mem_withT {T : Fs} {z : Nm} {s : Sh} {p : Nm × Sh} (h : p ∈ withT T z s) : p ∈ T ∨ (p = (z, s) ∧ s ≠ ALL) := by
  unfold withT at h
  split at h
  · exact .inl (mem_adel.mp h).1
  · rename_i e
    rw [aput_new adel_keys] at h
    rcases List.mem_append.mp h with h | h
    · exact .inl (mem_adel.mp h).1
    · exact .inr ⟨List.mem_singleton.mp h, e⟩
theorem OkT.with {T : Fs} (h : OkT T) (z : Nm) {s : Sh} (hs : okSh s = true) : OkT (withT T z s) := by
  refine ⟨withT_nodup h.nd, fun p hp => ?_, fun p hp => ?_⟩
  · rcases mem_withT hp with hp | ⟨rfl, e⟩
    · exact h.noall p hp
    · exact e
  · rcases mem_withT hp with hp | ⟨rfl, e⟩
    · exact h.ok p hp
    · exact hs
theorem withT_len {T : Fs} {z : Nm} {s : Sh} : (withT T z s).length ≤ T.length + 1 := by
  have h : (adel T z).length ≤ T.length := List.length_filter_le _ _
  unfold withT
  split
  · omega
  · have := aput_len (l := adel T z) (z := z) (v := s); omega
theorem leE_self {e : En} : leE (encE e) (encE e) = true := by
  cases e with
  | none => rfl
  | some i => exact decide_eq_true (Int.le_refl i)
theorem within_self {s : Sh} : withinB s s = true := by
  obtain ⟨u, v⟩ := s
  show ((isNon (encE u) || (!isNon (encE u) && leE (encE u) (encE u))) && (isNon (encE v) || (!isNon (encE v) && leE (encE v) (encE v)))) = true
  rw [leE_self, leE_self]
  cases u <;> cases v <;> rfl
end MP

set_option linter.all false
set_option maxRecDepth 100000
set_option maxHeartbeats 1000000
set_option Elab.async false
namespace MP
local macro_rules
  | `(tactic| clean_wf) => `(tactic| simp only [ws_set, ws_set1, ws_ret, ws_nop, ws_exp, ws_exp1, ws_sidx, ws_sidx1, ws_satt, ws_satt1, ws_aat, ws_aat1, ws_avar, ws_avar1, augK_int, ws_for, ws_forS, wpE, wpA, opt_some, gv_0, gv_s, matP, List.set, b_add, b_addS, b_addT, b_sub, b_mul, b_div, b_mod, b_pow, c_len, c_lenT, c_int, c_intB, c_abs, c_min, c_max, c_tupT, c_eqI, c_neI, c_eqS, c_neS, c_lt, c_le, c_gt, c_ge, c_is, c_isnot, c_isB, c_isnotB, c_idxT, g_0, g_1, g_2, g_3, g_4, g_5, g_6, o_non, o_int, Bool.not_true, Bool.not_false, br_t, br_f, c_itA, c_itT, c_itS, wipe])
local macro_rules
  | `(tactic| sizeOf_list_dec) => `(tactic| first
    | assumption
    | exact Ne.symm (by assumption)
    | exact ne_new (by assumption) (by assumption)
    | exact Ne.symm (ne_new (by assumption) (by assumption))
    | exact BagAt.ne (by assumption) (by assumption)
    | exact Ne.symm (BagAt.ne (by assumption) (by assumption))
    | exact id)
local macro_rules
  | `(tactic| array_mem_dec) => `(tactic| first
    | assumption
    | exact up_same
    | (refine (up_ne (by sizeOf_list_dec)).trans ?_; array_mem_dec)
    | (refine (by assumption : Kept _ _ _) _ _ (by sizeOf_list_dec) ?_; array_mem_dec)
    | (refine BagAt.new ?_ (by assumption); array_mem_dec)
    | (refine BagAt.off ?_ (by sizeOf_list_dec); array_mem_dec)
    | (refine BagAt.keep ?_ (by assumption) (by sizeOf_list_dec); array_mem_dec)
    | exact Kept.refl
    | exact Kept.new (by assumption)
    | (refine Kept.trans ?_ (by assumption); array_mem_dec)
    | (refine Kept.loc (by assumption) ?_; array_mem_dec)
    | (refine Kept.nw (by assumption) ?_; array_mem_dec))
variable {μ μ' μ1 μ2 : Sto} {a b p q : Nat} {l : List D} {i : Int} {x y d : D} {o : Ob} {ρ : Env}
theorem mem_aput {α : Type} {T : List (Nm × α)} {z : Nm} {s : α} (nd : (akeys T).Nodup) {p : Nm × α} (h : p ∈ aput T z s) : p ∈ T ∨ p = (z, s) := by
  by_cases hz : z ∈ akeys T
  · rw [aput_map nd hz] at h
    obtain ⟨q, hq, rfl⟩ := List.mem_map.mp h
    split
    · rename_i e; exact .inr (by rw [← e])
    · exact .inl hq
  · rw [aput_new hz] at h
    exact (List.mem_append.mp h).imp id fun h => List.mem_singleton.mp h
theorem OkT.put {T : Fs} (h : OkT T) (z : Nm) {s : Sh} (hs : okSh s = true) (ha : s ≠ ALL) : OkT (aput T z s) :=
  ⟨aput_nodup h.nd, fun p hp => (mem_aput h.nd hp).elim (h.noall p) fun e => by rw [e]; exact ha, fun p hp => (mem_aput h.nd hp).elim (h.ok p) fun e => by rw [e]; exact hs⟩
def bhT1 (T : Fs) : Deed → Fs
  | .put a n => withT T a (some n, some n)
  | .copy a b => withT T a (knownF T b)
  | .add a n => withT T a (movedE (knownF T a).1 n, movedE (knownF T a).2 n)
  | .read a => withT T a ALL
  | .tell a => withT T a (knownF T a)
def bhT (T : Fs) (ds : List Deed) : Fs := ds.foldl bhT1 T
theorem OkT.bh1 {T : Fs} (h : OkT T) (d : Deed) : OkT (bhT1 T d) := by
  cases d with
  | put a n => exact h.with a (by show decide (n ≤ n) = true; simp)
  | copy a b => exact h.with a (h.known b)
  | add a n => exact h.with a (okSh_moved (h.known a))
  | read a => exact h.with a rfl
  | tell a => exact h.with a (h.known a)
theorem OkT.bh {T : Fs} (h : OkT T) (ds : List Deed) : OkT (bhT T ds) := by
  induction ds generalizing T with
  | nil => exact h
  | cons d r ih => exact ih (h.bh1 d)
def HoldsI (f : Nm → Sh) (W : List (Nm × Int)) : Prop := ∀ z, liesB (worthOf W z) (f z) = true
end MP

set_option linter.all false
set_option maxRecDepth 100000
set_option maxHeartbeats 1000000
set_option Elab.async false
namespace MP
local macro_rules
  | `(tactic| clean_wf) => `(tactic| simp only [ws_set, ws_set1, ws_ret, ws_nop, ws_exp, ws_exp1, ws_sidx, ws_sidx1, ws_satt, ws_satt1, ws_aat, ws_aat1, ws_avar, ws_avar1, augK_int, ws_for, ws_forS, wpE, wpA, opt_some, gv_0, gv_s, matP, List.set, b_add, b_addS, b_addT, b_sub, b_mul, b_div, b_mod, b_pow, c_len, c_lenT, c_int, c_intB, c_abs, c_min, c_max, c_tupT, c_eqI, c_neI, c_eqS, c_neS, c_lt, c_le, c_gt, c_ge, c_is, c_isnot, c_isB, c_isnotB, c_idxT, g_0, g_1, g_2, g_3, g_4, g_5, g_6, o_non, o_int, Bool.not_true, Bool.not_false, br_t, br_f, c_itA, c_itT, c_itS, wipe])
local macro_rules
  | `(tactic| sizeOf_list_dec) => `(tactic| first
    | assumption
    | exact Ne.symm (by assumption)
    | exact ne_new (by assumption) (by assumption)
    | exact Ne.symm (ne_new (by assumption) (by assumption))
    | exact BagAt.ne (by assumption) (by assumption)
    | exact Ne.symm (BagAt.ne (by assumption) (by assumption))
    | exact id)
local macro_rules
  | `(tactic| array_mem_dec) => `(tactic| first
    | assumption
    | exact up_same
    | (refine (up_ne (by sizeOf_list_dec)).trans ?_; array_mem_dec)
    | (refine (by assumption : Kept _ _ _) _ _ (by sizeOf_list_dec) ?_; array_mem_dec)
    | (refine BagAt.new ?_ (by assumption); array_mem_dec)
    | (refine BagAt.off ?_ (by sizeOf_list_dec); array_mem_dec)
    | (refine BagAt.keep ?_ (by assumption) (by sizeOf_list_dec); array_mem_dec)
    | exact Kept.refl
    | exact Kept.new (by assumption)
    | (refine Kept.trans ?_ (by assumption); array_mem_dec)
    | (refine Kept.loc (by assumption) ?_; array_mem_dec)
    | (refine Kept.nw (by assumption) ?_; array_mem_dec))
variable {μ μ' μ1 μ2 : Sto} {a b p q : Nat} {l : List D} {i : Int} {x y d : D} {o : Ob} {ρ : Env}
end MP

set_option linter.all false
set_option maxRecDepth 100000
set_option maxHeartbeats 1000000
set_option Elab.async false
namespace MP
local macro_rules
  | `(tactic| clean_wf) => `(tactic| simp only [ws_set, ws_set1, ws_ret, ws_nop, ws_exp, ws_exp1, ws_sidx, ws_sidx1, ws_satt, ws_satt1, ws_aat, ws_aat1, ws_avar, ws_avar1, augK_int, ws_for, ws_forS, wpE, wpA, opt_some, gv_0, gv_s, matP, List.set, b_add, b_addS, b_addT, b_sub, b_mul, b_div, b_mod, b_pow, c_len, c_lenT, c_int, c_intB, c_abs, c_min, c_max, c_tupT, c_eqI, c_neI, c_eqS, c_neS, c_lt, c_le, c_gt, c_ge, c_is, c_isnot, c_isB, c_isnotB, c_idxT, g_0, g_1, g_2, g_3, g_4, g_5, g_6, o_non, o_int, Bool.not_true, Bool.not_false, br_t, br_f, c_itA, c_itT, c_itS, wipe])
local macro_rules
  | `(tactic| sizeOf_list_dec) => `(tactic| first
    | assumption
    | exact Ne.symm (by assumption)
    | exact ne_new (by assumption) (by assumption)
    | exact Ne.symm (ne_new (by assumption) (by assumption))
    | exact BagAt.ne (by assumption) (by assumption)
    | exact Ne.symm (BagAt.ne (by assumption) (by assumption))
    | exact id)
local macro_rules
  | `(tactic| array_mem_dec) => `(tactic| first
    | assumption
    | exact up_same
    | (refine (up_ne (by sizeOf_list_dec)).trans ?_; array_mem_dec)
    | (refine (by assumption : Kept _ _ _) _ _ (by sizeOf_list_dec) ?_; array_mem_dec)
    | (refine BagAt.new ?_ (by assumption); array_mem_dec)
    | (refine BagAt.off ?_ (by sizeOf_list_dec); array_mem_dec)
    | (refine BagAt.keep ?_ (by assumption) (by sizeOf_list_dec); array_mem_dec)
    | exact Kept.refl
    | exact Kept.new (by assumption)
    | (refine Kept.trans ?_ (by assumption); array_mem_dec)
    | (refine Kept.loc (by assumption) ?_; array_mem_dec)
    | (refine Kept.nw (by assumption) ?_; array_mem_dec))
variable {μ μ' μ1 μ2 : Sto} {a b p q : Nat} {l : List D} {i : Int} {x y d : D} {o : Ob} {ρ : Env}
def sideT (o : Option Sh) (b : Bool) (k : Nat) (T : Fs) (a : Nm) : List Lead := match o with
  | some t => [(some b, k, withT T a t)]
  | none => []
def sidedT (T : Fs) : Ed → List Lead
  | .stop => []
  | .go p => [(none, p, T)]
  | .test l a n y z => sideT (part (knownF T a) l n true) true y T a ++ sideT (part (knownF T a) l n false) false z T a
theorem OkT.sided {T : Fs} (h : OkT T) {e : Ed} : ∀ x ∈ sidedT T e, OkT x.2.2 ∧ x.2.2.length ≤ T.length + 1 := by
  have sl : ∀ {o : Option Sh} {b : Bool} {k : Nat} {a : Nm}, (∀ t, o = some t → okSh t = true) → ∀ x ∈ sideT o b k T a, OkT x.2.2 ∧ x.2.2.length ≤ T.length + 1 := fun {o b k a} ho x hx => by
    cases o with
    | none => cases hx
    | some t =>
      rw [show x = (some b, k, withT T a t) from List.mem_singleton.mp hx]
      exact ⟨h.with a (ho t rfl), withT_len⟩
  intro x hx
  cases e with
  | stop => cases hx
  | go p => rw [show x = (none, p, T) from List.mem_singleton.mp hx]; exact ⟨h, Nat.le_succ _⟩
  | test l a n y z =>
    rcases List.mem_append.mp hx with hx | hx
    · exact sl (fun t => part_okSh (h.known a)) x hx
    · exact sl (fun t => part_okSh (h.known a)) x hx
end MP

set_option linter.all false
set_option maxRecDepth 100000
set_option maxHeartbeats 1000000
set_option Elab.async false
namespace MP
local macro_rules
  | `(tactic| clean_wf) => `(tactic| simp only [ws_set, ws_set1, ws_ret, ws_nop, ws_exp, ws_exp1, ws_sidx, ws_sidx1, ws_satt, ws_satt1, ws_aat, ws_aat1, ws_avar, ws_avar1, augK_int, ws_for, ws_forS, wpE, wpA, opt_some, gv_0, gv_s, matP, List.set, b_add, b_addS, b_addT, b_sub, b_mul, b_div, b_mod, b_pow, c_len, c_lenT, c_int, c_intB, c_abs, c_min, c_max, c_tupT, c_eqI, c_neI, c_eqS, c_neS, c_lt, c_le, c_gt, c_ge, c_is, c_isnot, c_isB, c_isnotB, c_idxT, g_0, g_1, g_2, g_3, g_4, g_5, g_6, o_non, o_int, Bool.not_true, Bool.not_false, br_t, br_f, c_itA, c_itT, c_itS, wipe])
local macro_rules
  | `(tactic| sizeOf_list_dec) => `(tactic| first
    | assumption
    | exact Ne.symm (by assumption)
    | exact ne_new (by assumption) (by assumption)
    | exact Ne.symm (ne_new (by assumption) (by assumption))
    | exact BagAt.ne (by assumption) (by assumption)
    | exact Ne.symm (BagAt.ne (by assumption) (by assumption))
    | exact id)
local macro_rules
  | `(tactic| array_mem_dec) => `(tactic| first
    | assumption
    | exact up_same
    | (refine (up_ne (by sizeOf_list_dec)).trans ?_; array_mem_dec)
    | (refine (by assumption : Kept _ _ _) _ _ (by sizeOf_list_dec) ?_; array_mem_dec)
    | (refine BagAt.new ?_ (by assumption); array_mem_dec)
    | (refine BagAt.off ?_ (by sizeOf_list_dec); array_mem_dec)
    | (refine BagAt.keep ?_ (by assumption) (by sizeOf_list_dec); array_mem_dec)
    | exact Kept.refl
    | exact Kept.new (by assumption)
    | (refine Kept.trans ?_ (by assumption); array_mem_dec)
    | (refine Kept.loc (by assumption) ?_; array_mem_dec)
    | (refine Kept.nw (by assumption) ?_; array_mem_dec))
variable {μ μ' μ1 μ2 : Sto} {a b p q : Nat} {l : List D} {i : Int} {x y d : D} {o : Ob} {ρ : Env}
def opL (a b : En) : En := match a with
  | none => none
  | some i => match b with
    | none => none
    | some j => if j < i then none else some i
def opH (a b : En) : En := match a with
  | none => none
  | some i => match b with
    | none => none
    | some j => if i < j then none else some i
def openS (s t : Sh) : Sh := (opL s.1 t.1, opH s.2 t.2)
def wid1 (g : Fs) (p : Nm × Sh) : Option (Nm × Sh) := if openS p.2 (knownF g p.1) = ALL then none else some (p.1, openS p.2 (knownF g p.1))
def widF (f g : Fs) : Fs := f.filterMap (wid1 g)
abbrev Tbl := List (Option Fs)
def at? (t : Tbl) (k : Nat) : Option Fs := (t[k]?).getD none
def tells (t : Tbl) (c : Nat × Fs) : Bool := match at? t c.1 with
  | none => false
  | some g => coversF g c.2
def closed1 (t : Tbl) (p : Pc) (o : Option Fs) : Bool := match o with
  | none => true
  | some f => (leadsF (bhF f p.1) p.2).all (tells t)
def standsB (pl : Plan) (t : Tbl) : Bool := decide (t.length = pl.length) && ((match at? t 0 with
  | none => false
  | some f => holdsF f []) && (pl.zip t).all fun x => closed1 t x.1 x.2)
structure OkTb (t : Tbl) : Prop where
  ok : ∀ f, some f ∈ t → OkF f
  len : ∀ f, some f ∈ t → f.length ≤ 800000
theorem mem_leads {f : Fs} {e : Ed} {c : Nat × Fs} (h : c ∈ leadsF f e) : c.1 ∈ waysE e := by
  obtain ⟨x, hx, rfl⟩ := List.mem_map.mp h
  have sl : ∀ {o : Option Sh} {b : Bool} {k : Nat} {a : Nm}, x ∈ sideL o b k f a → x.2.1 = k := fun {o b k a} h => by
    cases o with
    | none => cases h
    | some t => rw [show x = (some b, k, withF f a t) from List.mem_singleton.mp h]
  cases e with
  | stop => cases hx
  | go p => rw [show x = (none, p, f) from List.mem_singleton.mp hx]; simp [waysE]
  | test l a n y z =>
    rcases List.mem_append.mp hx with hx | hx
    · rw [sl hx]; simp [waysE]
    · rw [sl hx]; simp [waysE]
abbrev TSt := Tbl × List Nat
def newFc (t : Tbl) (c : Nat × Fs) : Fs := match at? t c.1 with
  | none => c.2
  | some g => widF g c.2
def lead1 (s : TSt) (c : Nat × Fs) : TSt := if tells s.1 c = true then s else (s.1.set c.1 (some (newFc s.1 c)), addK s.2 c.1)
def minOf : List Nat → Nat
  | [] => 0
  | [x] => x
  | x :: r => min x (minOf r)
def factsAt (t : Tbl) (k : Nat) : Fs := (at? t k).getD []
def stepL (pl : Plan) (t : Tbl) (k : Nat) : List (Nat × Fs) := leadsF (bhF (factsAt t k) (pcAt pl k).1) (pcAt pl k).2
def stepW (pl : Plan) (s : TSt) : TSt := if s.2 = [] then s else (stepL pl s.1 (minOf s.2)).foldl lead1 (s.1, s.2.erase (minOf s.2))
def iter {α : Type} (f : α → α) : Nat → α → α
  | 0, s => s
  | n + 1, s => f (iter f n s)
def tab0 (pl : Plan) : TSt := (some (startF pl) :: List.replicate (pl.length - 1) none, [0])
def Made (pl : Plan) (t : Tbl) : Prop := ∃ n, iter (stepW pl) n (tab0 pl) = (t, [])
theorem iter_add {α : Type} {f : α → α} {s : α} (n m : Nat) : iter f (n + m) s = iter f m (iter f n s) := by
  induction m with
  | zero => rfl
  | succ m ih => show f (iter f (n + m) s) = f (iter f m (iter f n s)); rw [ih]
theorem iter_fix {α : Type} {f : α → α} {s : α} (h : f s = s) : ∀ n, iter f n s = s
  | 0 => rfl
  | n + 1 => by show f (iter f n s) = s; rw [iter_fix h n, h]
theorem Made.uniq {pl : Plan} {t u : Tbl} (h1 : Made pl t) (h2 : Made pl u) : t = u := by
  obtain ⟨n, hn⟩ := h1
  obtain ⟨m, hm⟩ := h2
  have fx : ∀ t : Tbl, stepW pl (t, []) = (t, []) := fun t => if_pos rfl
  rcases Nat.le_total n m with h | h
  · obtain ⟨d, rfl⟩ := Nat.exists_eq_add_of_le h
    rw [iter_add, hn, iter_fix (fx t)] at hm
    injection hm
  · obtain ⟨d, rfl⟩ := Nat.exists_eq_add_of_le h
    rw [iter_add, hm, iter_fix (fx u)] at hn
    injection hn with h; exact h.symm
theorem minOf_mem : ∀ {l : List Nat}, l ≠ [] → minOf l ∈ l
  | [x], _ => List.mem_singleton.mpr rfl
  | x :: y :: r, _ => by
    have := minOf_mem (l := y :: r) (by simp)
    show min x (minOf (y :: r)) ∈ _
    rcases Nat.le_total x (minOf (y :: r)) with h | h
    · rw [Nat.min_eq_left h]; exact List.mem_cons_self ..
    · rw [Nat.min_eq_right h]; exact List.mem_cons_of_mem _ this
theorem within_open1 {s t : Sh} : withinB t (openS s t) = true := by
  obtain ⟨u, v⟩ := s
  obtain ⟨u', v'⟩ := t
  show ((isNon (encE (opL u u')) || (!isNon (encE u') && leE (encE (opL u u')) (encE u'))) && (isNon (encE (opH v v')) || (!isNon (encE v') && leE (encE v') (encE (opH v v'))))) = true
  rw [Bool.and_eq_true]
  refine ⟨?_, ?_⟩
  · cases u with
    | none => rfl
    | some i =>
      cases u' with
      | none => rfl
      | some j =>
        show (isNon (encE (if j < i then none else some i)) || (true && leE (encE (if j < i then none else some i)) (.int j))) = true
        by_cases h : j < i
        · rw [if_pos h]; rfl
        · rw [if_neg h]
          show decide (i ≤ j) = true
          exact decide_eq_true (by omega)
  · cases v with
    | none => rfl
    | some i =>
      cases v' with
      | none => rfl
      | some j =>
        show (isNon (encE (if i < j then none else some i)) || (true && leE (.int j) (encE (if i < j then none else some i)))) = true
        by_cases h : i < j
        · rw [if_pos h]; rfl
        · rw [if_neg h]
          show decide (j ≤ i) = true
          exact decide_eq_true (by omega)
theorem opL_cases (a b : En) : opL a b = none ∨ opL a b = a := by
  cases a with
  | none => exact .inl rfl
  | some i =>
    cases b with
    | none => exact .inl rfl
    | some j => show (if j < i then none else some i) = none ∨ _; by_cases h : j < i
                · exact .inl (if_pos h)
                · exact .inr (if_neg h)
theorem opH_cases (a b : En) : opH a b = none ∨ opH a b = a := by
  cases a with
  | none => exact .inl rfl
  | some i =>
    cases b with
    | none => exact .inl rfl
    | some j => show (if i < j then none else some i) = none ∨ _; by_cases h : i < j
                · exact .inl (if_pos h)
                · exact .inr (if_neg h)
theorem within_open2 {s t w : Sh} (h : withinB w s = true) : withinB w (openS s t) = true := by
  obtain ⟨u, v⟩ := s
  obtain ⟨x, y⟩ := w
  have h : ((isNon (encE u) || (!isNon (encE x) && leE (encE u) (encE x))) && (isNon (encE v) || (!isNon (encE y) && leE (encE y) (encE v)))) = true := h
  rw [Bool.and_eq_true] at h
  show ((isNon (encE (opL u t.1)) || (!isNon (encE x) && leE (encE (opL u t.1)) (encE x))) && (isNon (encE (opH v t.2)) || (!isNon (encE y) && leE (encE y) (encE (opH v t.2))))) = true
  rw [Bool.and_eq_true]
  refine ⟨?_, ?_⟩
  · rcases opL_cases u t.1 with e | e
    · rw [e]; rfl
    · rw [e]; exact h.1
  · rcases opH_cases v t.2 with e | e
    · rw [e]; rfl
    · rw [e]; exact h.2
theorem okSh_open {s t : Sh} (h : okSh s = true) : okSh (openS s t) = true := by
  obtain ⟨u, v⟩ := s
  show okSh (opL u t.1, opH v t.2) = true
  rcases opL_cases u t.1 with e | e <;> rcases opH_cases v t.2 with e2 | e2 <;> rw [e, e2]
  · rfl
  · cases v <;> rfl
  · cases u <;> rfl
  · exact h
theorem mem_wid {f g : Fs} {p : Nm × Sh} (h : p ∈ widF f g) : ∃ s, (p.1, s) ∈ f ∧ p.2 = openS s (knownF g p.1) ∧ p.2 ≠ ALL := by
  obtain ⟨⟨z, s⟩, hm, e⟩ := List.mem_filterMap.mp h
  unfold wid1 at e
  split at e
  · cases e
  · rename_i hne
    cases e
    exact ⟨s, hm, rfl, hne⟩
theorem covers_wid1 {f g : Fs} : coversF (widF f g) g = true := by
  unfold coversF
  rw [List.all_eq_true]
  intro p hp
  obtain ⟨s, _, e, _⟩ := mem_wid hp
  rw [e]; exact within_open1
theorem covers_wid2 {f g m : Fs} (h : coversF f m = true) : coversF (widF f g) m = true := by
  unfold coversF at *
  rw [List.all_eq_true] at *
  intro p hp
  obtain ⟨s, hs, e, _⟩ := mem_wid hp
  rw [e]; exact within_open2 (h _ hs)
theorem covers_rfl {f : Fs} (h : Rise f) : coversF f f = true := by
  unfold coversF
  rw [List.all_eq_true]
  intro p hp
  have : knownF f p.1 = p.2 := by unfold knownF; rw [(alook_iff h.nodup (z := p.1) (s := p.2)).mpr hp]; rfl
  rw [this]; exact within_self
theorem rise_wid {f g : Fs} (h : Rise f) : Rise (widF f g) := by
  unfold Rise widF
  rw [List.pairwise_filterMap]
  refine h.imp fun {a b} hab x hx y hy => ?_
  unfold wid1 at hx hy
  split at hx
  · cases hx
  · split at hy
    · cases hy
    · cases hx; cases hy; exact hab
theorem OkF.wid {f g : Fs} (h : OkF f) : OkF (widF f g) := ⟨rise_wid h.rise, fun p hp => (mem_wid hp).choose_spec.2.2, fun p hp => by
  obtain ⟨s, hs, e, _⟩ := mem_wid hp
  rw [e]; exact okSh_open (h.ok _ hs)⟩
theorem keys_wid {f g : Fs} {z : Nm} (h : z ∈ akeys (widF f g)) : z ∈ akeys f := by
  obtain ⟨p, hp, rfl⟩ := List.mem_map.mp h
  obtain ⟨s, hs, _⟩ := mem_wid hp
  exact List.mem_map.mpr ⟨_, hs, rfl⟩
theorem keys_withF {f : Fs} {z w : Nm} {s : Sh} (h : w ∈ akeys (withF f z s)) : w ∈ akeys f ∨ w = z := by
  obtain ⟨p, hp, rfl⟩ := List.mem_map.mp h
  unfold withF at hp
  split at hp
  · exact .inl (List.mem_map.mpr ⟨p, (mem_dropF.mp hp).1, rfl⟩)
  · rcases mem_insF.mp hp with rfl | hp
    · exact .inr rfl
    · exact .inl (List.mem_map.mpr ⟨p, (mem_dropF.mp hp).1, rfl⟩)
theorem keys_bh1F {f : Fs} {d : Deed} {z : Nm} (h : z ∈ akeys (bh1 f d)) : z ∈ akeys f ∨ z ∈ nmD d := by
  cases d with
  | put a n => exact (keys_withF h).imp id fun e => by rw [e]; simp [nmD]
  | copy a b => exact (keys_withF h).imp id fun e => by rw [e]; simp [nmD]
  | add a n => exact (keys_withF h).imp id fun e => by rw [e]; simp [nmD]
  | read a => exact (keys_withF h).imp id fun e => by rw [e]; simp [nmD]
  | tell a => exact .inl h
theorem keys_bhF {f : Fs} {ds : List Deed} {z : Nm} (h : z ∈ akeys (bhF f ds)) : z ∈ akeys f ∨ z ∈ nmDs ds := by
  induction ds generalizing f with
  | nil => exact .inl h
  | cons d r ih =>
    rcases ih (f := bh1 f d) h with h | h
    · rcases keys_bh1F h with h | h
      · exact .inl h
      · exact .inr (List.mem_append_left _ h)
    · exact .inr (List.mem_append_right _ h)
theorem keys_leadsF {f : Fs} {e : Ed} {c : Nat × Fs} (hc : c ∈ leadsF f e) {z : Nm} (h : z ∈ akeys c.2) : z ∈ akeys f ∨ z ∈ nmE e := by
  obtain ⟨x, hx, rfl⟩ := List.mem_map.mp hc
  have one : ∀ (o : Option Sh) b k a, x ∈ sideL o b k f a → z ∈ akeys f ∨ z ∈ [a] := fun o b k a hx => by
    cases o with
    | none => cases hx
    | some t =>
      rw [show x = (some b, k, withF f a t) from List.mem_singleton.mp hx] at h
      exact (keys_withF h).imp id fun h => List.mem_singleton.mpr h
  cases e with
  | stop => cases hx
  | go p => rw [show x = (none, p, f) from List.mem_singleton.mp hx] at h; exact .inl h
  | test l a n y w => exact (List.mem_append.mp hx).elim (fun h => one _ _ _ _ h) fun h => one _ _ _ _ h
structure PlF (pl : Plan) (f : Fs) : Prop where
  ok : OkF f
  nm : ∀ z ∈ akeys f, z ∈ nmPl pl
theorem mem_namesK {pl : Plan} {z : Nm} (h : z ∈ nmPl pl) : z ∈ namesK pl := by
  have := mem_namesOf.mpr h
  unfold namesOf at this
  exact isort_perm.mem_iff.mp this
theorem PlF.len {pl : Plan} {f : Fs} (h : PlF pl f) (few : Few pl) : f.length < 200 := by
  have h1 := nodup_le h.ok.rise.nodup fun z hz => mem_namesK (h.nm z hz)
  have h2 := few.names
  unfold akeys at h1
  rw [List.length_map] at h1; omega
theorem mem_nmPl {pl : Plan} {p : Pc} (hp : p ∈ pl) {z : Nm} (h : z ∈ nmDs p.1 ∨ z ∈ nmE p.2) : z ∈ nmPl pl := List.mem_flatMap.mpr ⟨p, hp, List.mem_append.mpr h⟩
theorem PlF.leads {pl : Plan} {f : Fs} (h : PlF pl f) {p : Pc} (hp : p ∈ pl) {c : Nat × Fs} (hc : c ∈ leadsF (bhF f p.1) p.2) : PlF pl c.2 := by
  refine ⟨?_, fun z hz => ?_⟩
  · obtain ⟨x, hx, rfl⟩ := List.mem_map.mp hc
    exact ((h.ok.bh p.1).sided x hx).1
  · rcases keys_leadsF hc hz with hz | hz
    · rcases keys_bhF hz with hz | hz
      · exact h.nm z hz
      · exact mem_nmPl hp (.inl hz)
    · exact mem_nmPl hp (.inr hz)
theorem PlF.wid {pl : Plan} {f g : Fs} (h : PlF pl f) : PlF pl (widF f g) := ⟨h.ok.wid, fun z hz => h.nm z (keys_wid hz)⟩
theorem PlF.start (pl : Plan) : PlF pl (startF pl) := ⟨startF_ok pl, fun z hz => by
  unfold startF akeys at hz
  rw [List.map_map] at hz
  obtain ⟨y, hy, rfl⟩ := List.mem_map.mp hz
  exact mem_namesOf.mp hy⟩
theorem at_set {t : Tbl} {k j : Nat} {o : Option Fs} (hk : k < t.length) : at? (t.set k o) j = if k = j then o else at? t j := by
  unfold at?
  rw [List.getElem?_set]
  by_cases e : k = j
  · subst e; rw [if_pos rfl, if_pos hk, if_pos rfl]; rfl
  · rw [if_neg e, if_neg e]
theorem addK_mem {l : List Nat} {x k : Nat} : k ∈ addK l x ↔ k ∈ l ∨ k = x := mem_addK
structure TInv (pl : Plan) (s : TSt) : Prop where
  len : s.1.length = pl.length
  ok : ∀ k f, at? s.1 k = some f → PlF pl f
  wnd : s.2.Nodup
  wlt : ∀ k ∈ s.2, k < pl.length ∧ at? s.1 k ≠ none
  zero : ∃ f, at? s.1 0 = some f ∧ holdsF f [] = true
theorem newFc_ok {pl : Plan} {s : TSt} (h : TInv pl s) {c : Nat × Fs} (hc : PlF pl c.2) : PlF pl (newFc s.1 c) := by
  unfold newFc
  cases e : at? s.1 c.1 with
  | none => exact hc
  | some g => exact (h.ok _ g e).wid
theorem holds_wid {f g : Fs} {W : List (Nm × Int)} (h : holdsF f W = true) : holdsF (widF f g) W = true := by
  unfold holdsF at *
  rw [List.all_eq_true] at *
  intro p hp
  obtain ⟨s, hs, e, _⟩ := mem_wid hp
  rw [e]
  have h1 := h _ hs
  have h1 : (geLo ((alook W p.1).getD 0) (encE s.1) && leHi ((alook W p.1).getD 0) (encE s.2)) = true := h1
  rw [Bool.and_eq_true] at h1
  show (geLo _ (encE (opL s.1 _)) && leHi _ (encE (opH s.2 _))) = true
  rw [Bool.and_eq_true]
  refine ⟨?_, ?_⟩
  · rcases opL_cases s.1 (knownF g p.1).1 with e | e
    · rw [e]; rfl
    · rw [e]; exact h1.1
  · rcases opH_cases s.2 (knownF g p.1).2 with e | e
    · rw [e]; rfl
    · rw [e]; exact h1.2
theorem TInv.lead {pl : Plan} {s : TSt} (h : TInv pl s) {c : Nat × Fs} (hk : c.1 < pl.length) (hc : PlF pl c.2) : TInv pl (lead1 s c) := by
  unfold lead1
  split
  · exact h
  have hk' : c.1 < s.1.length := by rw [h.len]; exact hk
  refine ⟨by show (s.1.set _ _).length = _; rw [List.length_set]; exact h.len, fun k f e => ?_, nodup_addK h.wnd, fun k hk2 => ?_, ?_⟩
  · have e : at? (s.1.set c.1 (some (newFc s.1 c))) k = some f := e
    rw [at_set hk'] at e
    split at e
    · cases e; exact newFc_ok h hc
    · exact h.ok k f e
  · show k < pl.length ∧ at? (s.1.set c.1 (some (newFc s.1 c))) k ≠ none
    rw [at_set hk']
    by_cases e : c.1 = k
    · rw [if_pos e]; exact ⟨by omega, fun z => nomatch z⟩
    · rw [if_neg e]
      rcases addK_mem.mp hk2 with h2 | h2
      · exact h.wlt k h2
      · exact absurd h2.symm e
  · obtain ⟨f, e, hf⟩ := h.zero
    show ∃ g, at? (s.1.set c.1 (some (newFc s.1 c))) 0 = some g ∧ _
    rw [at_set hk']
    by_cases e0 : c.1 = 0
    · rw [if_pos e0]
      refine ⟨_, rfl, ?_⟩
      unfold newFc
      rw [e0, e]; exact holds_wid hf
    · rw [if_neg e0]; exact ⟨f, e, hf⟩
theorem tells_lead {pl : Plan} {s : TSt} (h : TInv pl s) {c c' : Nat × Fs} (hk : c.1 < pl.length) (ht : tells s.1 c' = true) : tells (lead1 s c).1 c' = true := by
  unfold lead1
  split
  · exact ht
  have hk' : c.1 < s.1.length := by rw [h.len]; exact hk
  show tells (s.1.set c.1 (some (newFc s.1 c))) c' = true
  unfold tells at ht ⊢
  rw [at_set hk']
  by_cases e : c.1 = c'.1
  · rw [if_pos e]
    rw [← e] at ht
    unfold newFc
    cases e2 : at? s.1 c.1 with
    | none => rw [e2] at ht; cases ht
    | some g => rw [e2] at ht; exact covers_wid2 ht
  · rw [if_neg e]; exact ht
theorem tells_self {pl : Plan} {s : TSt} (h : TInv pl s) {c : Nat × Fs} (hk : c.1 < pl.length) (hc : PlF pl c.2) : tells (lead1 s c).1 c = true := by
  unfold lead1
  split
  · assumption
  have hk' : c.1 < s.1.length := by rw [h.len]; exact hk
  show tells (s.1.set c.1 (some (newFc s.1 c))) c = true
  unfold tells
  rw [at_set hk', if_pos rfl]
  unfold newFc
  cases e2 : at? s.1 c.1 with
  | none => exact covers_rfl hc.ok.rise
  | some g => exact covers_wid1
theorem lead_same {s : TSt} {c : Nat × Fs} {k : Nat} (hk : c.1 < s.1.length) (h : k ∉ (lead1 s c).2) : k ∉ s.2 ∧ at? (lead1 s c).1 k = at? s.1 k := by
  unfold lead1 at h ⊢
  split
  · rename_i e; rw [if_pos e] at h; exact ⟨h, rfl⟩
  · rename_i e
    rw [if_neg e] at h
    have h : k ∉ addK s.2 c.1 := h
    refine ⟨fun z => h (addK_mem.mpr (.inl z)), ?_⟩
    show at? (s.1.set _ _) k = _
    rw [at_set hk, if_neg fun z => h (addK_mem.mpr (.inr z.symm))]
structure SInv (pl : Plan) (s : TSt) : Prop where
  inv : TInv pl s
  cl : ∀ j, j < pl.length → j ∉ s.2 → closed1 s.1 (pcAt pl j) (at? s.1 j) = true
theorem closed_mono {t t' : Tbl} {p : Pc} {o : Option Fs} (h : closed1 t p o = true) (m : ∀ c, tells t c = true → tells t' c = true) : closed1 t' p o = true := by
  cases o with
  | none => rfl
  | some f =>
    have h : (leadsF (bhF f p.1) p.2).all (tells t) = true := h
    show (leadsF (bhF f p.1) p.2).all (tells t') = true
    rw [List.all_eq_true] at *
    exact fun c hc => m c (h c hc)
structure FInv (pl : Plan) (k : Nat) (t0 : Tbl) (s : TSt) (done : List (Nat × Fs)) : Prop where
  inv : TInv pl s
  told : ∀ c ∈ done, tells s.1 c = true
  cl : ∀ j, j < pl.length → j ∉ s.2 → j ≠ k → closed1 s.1 (pcAt pl j) (at? s.1 j) = true
  same : k ∉ s.2 → at? s.1 k = at? t0 k
theorem FInv.lead {pl : Plan} {k : Nat} {t0 : Tbl} {s : TSt} {done : List (Nat × Fs)} (h : FInv pl k t0 s done) {c : Nat × Fs} (hk : c.1 < pl.length) (hc : PlF pl c.2) : FInv pl k t0 (lead1 s c) (done ++ [c]) := by
  have hk' : c.1 < s.1.length := by rw [h.inv.len]; exact hk
  refine ⟨h.inv.lead hk hc, fun c' hc' => ?_, fun j hj hn hjk => ?_, fun hn => ?_⟩
  · rcases List.mem_append.mp hc' with h2 | h2
    · exact tells_lead h.inv hk (h.told c' h2)
    · rw [List.mem_singleton.mp h2]; exact tells_self h.inv hk hc
  · obtain ⟨h1, h2⟩ := lead_same hk' hn
    rw [h2]
    exact closed_mono (h.cl j hj h1 hjk) fun c' => tells_lead h.inv hk
  · obtain ⟨h1, h2⟩ := lead_same hk' hn
    rw [h2]; exact h.same h1
theorem FInv.fold {pl : Plan} {k : Nat} {t0 : Tbl} : ∀ {l : List (Nat × Fs)} {s : TSt} {done : List (Nat × Fs)}, FInv pl k t0 s done → (∀ c ∈ l, c.1 < pl.length ∧ PlF pl c.2) → FInv pl k t0 (l.foldl lead1 s) (done ++ l)
  | [], s, done, h, _ => by rw [List.append_nil]; exact h
  | c :: r, s, done, h, hl => by
    have h1 := hl c (List.mem_cons_self ..)
    have := FInv.fold (h.lead h1.1 h1.2) fun x hx => hl x (List.mem_cons_of_mem _ hx)
    rw [List.append_assoc] at this; exact this
theorem SInv.begin {pl : Plan} {s : TSt} (h : SInv pl s) (hw : s.2 ≠ []) : FInv pl (minOf s.2) s.1 (s.1, s.2.erase (minOf s.2)) [] := by
  refine ⟨⟨h.inv.len, h.inv.ok, h.inv.wnd.erase _, fun k hk => h.inv.wlt k (List.mem_of_mem_erase hk), h.inv.zero⟩, fun _ h => (nomatch h), fun j hj hn hjk => h.cl j hj fun hm => hn ?_, fun _ => rfl⟩
  exact (List.mem_erase_of_ne hjk).mpr hm
theorem SInv.leads {pl : Plan} {s : TSt} (hok : okWays pl) (h : TInv pl s) {k : Nat} (hk : k ∈ s.2) : ∀ c ∈ stepL pl s.1 k, c.1 < pl.length ∧ PlF pl c.2 := by
  intro c hc
  obtain ⟨h1, h2⟩ := h.wlt k hk
  have hp := pcAt_mem h1
  have hf : PlF pl (factsAt s.1 k) := by
    unfold factsAt
    cases e : at? s.1 k with
    | none => exact absurd e h2
    | some f => exact h.ok k f e
  exact ⟨hok _ hp c.1 (mem_leads hc), hf.leads hp hc⟩
theorem SInv.done {pl : Plan} {k : Nat} {t0 : Tbl} {s : TSt} (h : FInv pl k t0 s (stepL pl t0 k)) : SInv pl s := by
  refine ⟨h.inv, fun j hj hn => ?_⟩
  by_cases e : j = k
  · subst e
    rw [h.same hn]
    cases e : at? t0 j with
    | none => rfl
    | some f =>
      show (leadsF (bhF f (pcAt pl j).1) (pcAt pl j).2).all (tells s.1) = true
      rw [List.all_eq_true]
      intro c hc
      refine h.told c ?_
      unfold stepL factsAt
      rw [e]; exact hc
  · exact h.cl j hj hn e
theorem SInv.step {pl : Plan} (hok : okWays pl) {s : TSt} (h : SInv pl s) : SInv pl (stepW pl s) := by
  unfold stepW
  split
  · exact h
  · rename_i hw
    have := (h.begin hw).fold (SInv.leads hok h.inv (minOf_mem hw))
    exact SInv.done this
theorem SInv.zero {pl : Plan} (h0 : 0 < pl.length) : SInv pl (tab0 pl) := by
  have at0 : ∀ j, at? (tab0 pl).1 j = if j = 0 then some (startF pl) else none := fun j => by
    unfold at? tab0
    cases j with
    | zero => rfl
    | succ j =>
      rw [if_neg (by omega)]
      show ((List.replicate (pl.length - 1) (none : Option Fs))[j]?).getD none = none
      rw [List.getElem?_replicate]
      split <;> rfl
  refine ⟨⟨?_, fun k f e => ?_, by show [0].Nodup; simp, fun k hk => ?_, startF pl, by rw [at0, if_pos rfl], ?_⟩, fun j hj hn => ?_⟩
  · show (some (startF pl) :: List.replicate (pl.length - 1) none).length = _
    rw [List.length_cons, List.length_replicate]; omega
  · rw [at0] at e
    split at e
    · cases e; exact PlF.start pl
    · cases e
  · have : k = 0 := List.mem_singleton.mp hk
    subst this
    exact ⟨h0, by rw [at0, if_pos rfl]; exact fun z => nomatch z⟩
  · unfold holdsF
    rw [List.all_eq_true]
    intro p hp
    obtain ⟨z, _, rfl⟩ := List.mem_map.mp hp
    rfl
  · have : j ≠ 0 := fun z => hn (by rw [z]; exact List.mem_singleton.mpr rfl)
    rw [at0, if_neg this]; rfl
theorem SInv.iter {pl : Plan} (hok : okWays pl) (h0 : 0 < pl.length) : ∀ n, SInv pl (iter (stepW pl) n (tab0 pl))
  | 0 => SInv.zero h0
  | n + 1 => SInv.step hok (SInv.iter hok h0 n)
theorem Made.inv {pl : Plan} (hok : okWays pl) (h0 : 0 < pl.length) {t : Tbl} (h : Made pl t) : SInv pl (t, []) := by
  obtain ⟨n, hn⟩ := h
  rw [← hn]; exact SInv.iter hok h0 n
theorem stands_of {pl : Plan} {t : Tbl} (hl : t.length = pl.length) (h0 : ∃ f, at? t 0 = some f ∧ holdsF f [] = true) (hc : ∀ j, j < pl.length → closed1 t (pcAt pl j) (at? t j) = true) : standsB pl t = true := by
  unfold standsB
  obtain ⟨f, e, hf⟩ := h0
  rw [decide_eq_true hl, e]
  show (true && (holdsF f [] && _)) = true
  rw [hf, Bool.true_and, Bool.true_and, List.all_eq_true]
  intro x hx
  obtain ⟨j, hj, rfl⟩ := List.mem_iff_getElem.mp hx
  have hj2 : j < pl.length := by rw [List.length_zip] at hj; omega
  have := hc j hj2
  rw [List.getElem_zip]
  have e1 : pcAt pl j = pl[j] := by unfold pcAt; rw [List.getElem?_eq_getElem hj2]; rfl
  have e2 : at? t j = t[j]'(by omega) := by unfold at?; rw [List.getElem?_eq_getElem (by omega)]; rfl
  rw [e1, e2] at this
  exact this
theorem Made.stands {pl : Plan} (hok : okWays pl) (h0 : 0 < pl.length) {t : Tbl} (h : Made pl t) : standsB pl t = true := by
  have i := h.inv hok h0
  exact stands_of i.inv.len i.inv.zero fun j hj => i.cl j hj (by simp)
theorem wlt_len {l : List Nat} {n : Nat} (nd : l.Nodup) (h : ∀ k ∈ l, k < n) : l.length ≤ n := by
  have := nodup_le (m := List.range n) nd fun x hx => List.mem_range.mpr (h x hx)
  rw [List.length_range] at this; exact this
end MP

set_option linter.all false
set_option maxRecDepth 100000
set_option maxHeartbeats 1000000
set_option Elab.async false
namespace MP
local macro_rules
  | `(tactic| clean_wf) => `(tactic| simp only [ws_set, ws_set1, ws_ret, ws_nop, ws_exp, ws_exp1, ws_sidx, ws_sidx1, ws_satt, ws_satt1, ws_aat, ws_aat1, ws_avar, ws_avar1, augK_int, ws_for, ws_forS, wpE, wpA, opt_some, gv_0, gv_s, matP, List.set, b_add, b_addS, b_addT, b_sub, b_mul, b_div, b_mod, b_pow, c_len, c_lenT, c_int, c_intB, c_abs, c_min, c_max, c_tupT, c_eqI, c_neI, c_eqS, c_neS, c_lt, c_le, c_gt, c_ge, c_is, c_isnot, c_isB, c_isnotB, c_idxT, g_0, g_1, g_2, g_3, g_4, g_5, g_6, o_non, o_int, Bool.not_true, Bool.not_false, br_t, br_f, c_itA, c_itT, c_itS, wipe])
local macro_rules
  | `(tactic| sizeOf_list_dec) => `(tactic| first
    | assumption
    | exact Ne.symm (by assumption)
    | exact ne_new (by assumption) (by assumption)
    | exact Ne.symm (ne_new (by assumption) (by assumption))
    | exact BagAt.ne (by assumption) (by assumption)
    | exact Ne.symm (BagAt.ne (by assumption) (by assumption))
    | exact id)
local macro_rules
  | `(tactic| array_mem_dec) => `(tactic| first
    | assumption
    | exact up_same
    | (refine (up_ne (by sizeOf_list_dec)).trans ?_; array_mem_dec)
    | (refine (by assumption : Kept _ _ _) _ _ (by sizeOf_list_dec) ?_; array_mem_dec)
    | (refine BagAt.new ?_ (by assumption); array_mem_dec)
    | (refine BagAt.off ?_ (by sizeOf_list_dec); array_mem_dec)
    | (refine BagAt.keep ?_ (by assumption) (by sizeOf_list_dec); array_mem_dec)
    | exact Kept.refl
    | exact Kept.new (by assumption)
    | (refine Kept.trans ?_ (by assumption); array_mem_dec)
    | (refine Kept.loc (by assumption) ?_; array_mem_dec)
    | (refine Kept.nw (by assumption) ?_; array_mem_dec))
variable {μ μ' μ1 μ2 : Sto} {a b p q : Nat} {l : List D} {i : Int} {x y d : D} {o : Ob} {ρ : Env}
theorem OkF.tab {f : Fs} (h : OkF f) : OkT f := ⟨h.rise.nodup, h.noall, h.ok⟩
def LimF (N : Nat) (t : Tbl) : Prop := ∀ f, some f ∈ t → OkF f ∧ f.length ≤ N
theorem LimF.set {N : Nat} {t : Tbl} (h : LimF N t) {k : Nat} {o : Option Fs} (ho : ∀ f, o = some f → OkF f ∧ f.length ≤ N + 1) : LimF (N + 1) (t.set k o) := fun f hf => by
  rcases List.mem_or_eq_of_mem_set hf with hf | hf
  · exact ⟨(h f hf).1, Nat.le_succ_of_le (h f hf).2⟩
  · exact ho f hf.symm
theorem LimF.mono {N M : Nat} {t : Tbl} (h : LimF N t) (hm : N ≤ M) : LimF M t := fun f hf => ⟨(h f hf).1, Nat.le_trans (h f hf).2 hm⟩
end MP

set_option linter.all false
set_option maxRecDepth 100000
set_option maxHeartbeats 1000000
set_option Elab.async false
namespace MP
local macro_rules
  | `(tactic| clean_wf) => `(tactic| simp only [ws_set, ws_set1, ws_ret, ws_nop, ws_exp, ws_exp1, ws_sidx, ws_sidx1, ws_satt, ws_satt1, ws_aat, ws_aat1, ws_avar, ws_avar1, augK_int, ws_for, ws_forS, wpE, wpA, opt_some, gv_0, gv_s, matP, List.set, b_add, b_addS, b_addT, b_sub, b_mul, b_div, b_mod, b_pow, c_len, c_lenT, c_int, c_intB, c_abs, c_min, c_max, c_tupT, c_eqI, c_neI, c_eqS, c_neS, c_lt, c_le, c_gt, c_ge, c_is, c_isnot, c_isB, c_isnotB, c_idxT, g_0, g_1, g_2, g_3, g_4, g_5, g_6, o_non, o_int, Bool.not_true, Bool.not_false, br_t, br_f, c_itA, c_itT, c_itS, wipe])
local macro_rules
  | `(tactic| sizeOf_list_dec) => `(tactic| first
    | assumption
    | exact Ne.symm (by assumption)
    | exact ne_new (by assumption) (by assumption)
    | exact Ne.symm (ne_new (by assumption) (by assumption))
    | exact BagAt.ne (by assumption) (by assumption)
    | exact Ne.symm (BagAt.ne (by assumption) (by assumption))
    | exact id)
local macro_rules
  | `(tactic| array_mem_dec) => `(tactic| first
    | assumption
    | exact up_same
    | (refine (up_ne (by sizeOf_list_dec)).trans ?_; array_mem_dec)
    | (refine (by assumption : Kept _ _ _) _ _ (by sizeOf_list_dec) ?_; array_mem_dec)
    | (refine BagAt.new ?_ (by assumption); array_mem_dec)
    | (refine BagAt.off ?_ (by sizeOf_list_dec); array_mem_dec)
    | (refine BagAt.keep ?_ (by assumption) (by sizeOf_list_dec); array_mem_dec)
    | exact Kept.refl
    | exact Kept.new (by assumption)
    | (refine Kept.trans ?_ (by assumption); array_mem_dec)
    | (refine Kept.loc (by assumption) ?_; array_mem_dec)
    | (refine Kept.nw (by assumption) ?_; array_mem_dec))
variable {μ μ' μ1 μ2 : Sto} {a b p q : Nat} {l : List D} {i : Int} {x y d : D} {o : Ob} {ρ : Env}
theorem LimF.ok {N : Nat} {t : Tbl} (h : LimF N t) (hN : N ≤ 1000) : OkTb t := ⟨fun f hf => (h f hf).1, fun f hf => by have := (h f hf).2; omega⟩
structure PlG (pl : Plan) : Prop where
  pos : 0 < pl.length
  len : pl.length ≤ 400
  ways : okWays pl
  few : Few pl
  deeds : ∀ p ∈ pl, p.1.length ≤ 4
  nm : ∃ ns : List Nm, ns.length ≤ 60 ∧ (∀ z ∈ nmPl pl, z ∈ ns) ∧ ∀ z ∈ ns, okNm z
theorem PlG.of {ns : List Nm} {m : Nat} {pl : Plan} (ok : OkPl ns m pl) (hm : m ≤ 4) (hn : ns.length ≤ 60) (h0 : 0 < pl.length) (hl : pl.length ≤ 400) : PlG pl :=
  ⟨h0, hl, ok.ways, ok.few (by omega) (by omega) (by omega), fun p hp => Nat.le_trans (ok.deeds p hp).1 hm, ns, hn, ok.sub, ok.names⟩
theorem PlG.fl {pl : Plan} (h : PlG pl) {f : Fs} (hf : PlF pl f) : f.length ≤ 60 := by
  obtain ⟨ns, h1, h2, _⟩ := h.nm
  have := nodup_le hf.ok.rise.nodup fun z hz => h2 z (hf.nm z hz)
  unfold akeys at this
  rw [List.length_map] at this; omega
theorem PlG.made {pl : Plan} (h : PlG pl) {t : Tbl} (ht : Made pl t) : t.length = pl.length ∧ LimF 60 t ∧ standsB pl t = true := by
  have i := ht.inv h.ways h.pos
  refine ⟨i.inv.len, fun f hf => ?_, ht.stands h.ways h.pos⟩
  obtain ⟨k, hk⟩ := List.mem_iff_getElem?.mp hf
  have hp : PlF pl f := i.inv.ok k f (by unfold at?; show ((t[k]?).getD none) = _; rw [hk]; rfl)
  exact ⟨hp.ok, h.fl hp⟩
end MP

set_option linter.all false
set_option maxRecDepth 100000
set_option maxHeartbeats 1000000
set_option Elab.async false
namespace MP
local macro_rules
  | `(tactic| clean_wf) => `(tactic| simp only [ws_set, ws_set1, ws_ret, ws_nop, ws_exp, ws_exp1, ws_sidx, ws_sidx1, ws_satt, ws_satt1, ws_aat, ws_aat1, ws_avar, ws_avar1, augK_int, ws_for, ws_forS, wpE, wpA, opt_some, gv_0, gv_s, matP, List.set, b_add, b_addS, b_addT, b_sub, b_mul, b_div, b_mod, b_pow, c_len, c_lenT, c_int, c_intB, c_abs, c_min, c_max, c_tupT, c_eqI, c_neI, c_eqS, c_neS, c_lt, c_le, c_gt, c_ge, c_is, c_isnot, c_isB, c_isnotB, c_idxT, g_0, g_1, g_2, g_3, g_4, g_5, g_6, o_non, o_int, Bool.not_true, Bool.not_false, br_t, br_f, c_itA, c_itT, c_itS, wipe])
local macro_rules
  | `(tactic| sizeOf_list_dec) => `(tactic| first
    | assumption
    | exact Ne.symm (by assumption)
    | exact ne_new (by assumption) (by assumption)
    | exact Ne.symm (ne_new (by assumption) (by assumption))
    | exact BagAt.ne (by assumption) (by assumption)
    | exact Ne.symm (BagAt.ne (by assumption) (by assumption))
    | exact id)
local macro_rules
  | `(tactic| array_mem_dec) => `(tactic| first
    | assumption
    | exact up_same
    | (refine (up_ne (by sizeOf_list_dec)).trans ?_; array_mem_dec)
    | (refine (by assumption : Kept _ _ _) _ _ (by sizeOf_list_dec) ?_; array_mem_dec)
    | (refine BagAt.new ?_ (by assumption); array_mem_dec)
    | (refine BagAt.off ?_ (by sizeOf_list_dec); array_mem_dec)
    | (refine BagAt.keep ?_ (by assumption) (by sizeOf_list_dec); array_mem_dec)
    | exact Kept.refl
    | exact Kept.new (by assumption)
    | (refine Kept.trans ?_ (by assumption); array_mem_dec)
    | (refine Kept.loc (by assumption) ?_; array_mem_dec)
    | (refine Kept.nw (by assumption) ?_; array_mem_dec))
variable {μ μ' μ1 μ2 : Sto} {a b p q : Nat} {l : List D} {i : Int} {x y d : D} {o : Ob} {ρ : Env}
def factsIn (pl : Plan) (t : Tbl) (s : RS) : Fs := bhF (factsAt t s.cur) ((pcAt pl s.cur).1.take s.place)
structure RunF (pl : Plan) (t : Tbl) (s : RS) : Prop where
  told : s.stand = .on → at? t s.cur ≠ none
  holds : s.stand = .on → HoldsI (knownF (factsIn pl t s)) s.ws
end MP

set_option linter.all false
set_option maxRecDepth 100000
set_option maxHeartbeats 1000000
set_option Elab.async false
namespace MP
local macro_rules
  | `(tactic| clean_wf) => `(tactic| simp only [ws_set, ws_set1, ws_ret, ws_nop, ws_exp, ws_exp1, ws_sidx, ws_sidx1, ws_satt, ws_satt1, ws_aat, ws_aat1, ws_avar, ws_avar1, augK_int, ws_for, ws_forS, wpE, wpA, opt_some, gv_0, gv_s, matP, List.set, b_add, b_addS, b_addT, b_sub, b_mul, b_div, b_mod, b_pow, c_len, c_lenT, c_int, c_intB, c_abs, c_min, c_max, c_tupT, c_eqI, c_neI, c_eqS, c_neS, c_lt, c_le, c_gt, c_ge, c_is, c_isnot, c_isB, c_isnotB, c_idxT, g_0, g_1, g_2, g_3, g_4, g_5, g_6, o_non, o_int, Bool.not_true, Bool.not_false, br_t, br_f, c_itA, c_itT, c_itS])
local macro_rules
  | `(tactic| sizeOf_list_dec) => `(tactic| first
    | assumption
    | exact Ne.symm (by assumption)
    | exact ne_new (by assumption) (by assumption)
    | exact Ne.symm (ne_new (by assumption) (by assumption))
    | exact BagAt.ne (by assumption) (by assumption)
    | exact Ne.symm (BagAt.ne (by assumption) (by assumption))
    | exact id)
local macro_rules
  | `(tactic| array_mem_dec) => `(tactic| first
    | assumption
    | exact up_same
    | (refine (up_ne (by sizeOf_list_dec)).trans ?_; array_mem_dec)
    | (refine (by assumption : Kept _ _ _) _ _ (by sizeOf_list_dec) ?_; array_mem_dec)
    | (refine BagAt.new ?_ (by assumption); array_mem_dec)
    | (refine BagAt.off ?_ (by sizeOf_list_dec); array_mem_dec)
    | (refine BagAt.keep ?_ (by assumption) (by sizeOf_list_dec); array_mem_dec)
    | exact Kept.refl
    | exact Kept.new (by assumption)
    | (refine Kept.trans ?_ (by assumption); array_mem_dec)
    | (refine Kept.loc (by assumption) ?_; array_mem_dec)
    | (refine Kept.nw (by assumption) ?_; array_mem_dec))
variable {μ μ' μ1 μ2 : Sto} {a b p q : Nat} {l : List D} {i : Int} {x y d : D} {o : Ob} {ρ : Env}
def strlt (a : Nm) : Prop := ∀ c ∈ a, c < 1114112
def PcT (p : Pc) : Prop := (∀ d ∈ p.1, ∀ a ∈ nmD d, strlt a) ∧ ∀ a ∈ nmE p.2, strlt a
structure PlT (pl : Plan) : Prop where
  ways : okWays pl
  pos : 0 < pl.length
  len : pl.length ≤ 1000
  tx : ∀ p ∈ pl, PcT p
theorem OkPl.tx {ns : List Nm} {m : Nat} {pl : Plan} (h : OkPl ns m pl) : ∀ p ∈ pl, PcT p := fun p hp =>
  ⟨fun d hd a ha => okNm_lt (h.names _ (okNmD ((h.deeds p hp).2 d hd) a ha)), fun a ha => okNm_lt (h.names _ (okNmE (h.ends p hp) a ha))⟩
def isGo : Ed → Bool
  | .go _ => true
  | _ => false
def nxtE : Ed → Nat
  | .go p => p
  | _ => 0
def idleP (p : Pc) : Bool := p.1.isEmpty && isGo p.2
def minN (l : List Nat) : Nat := l.min?.getD 0
def folF (pl : Plan) : Nat → List Nat → Nat → Nat
  | 0, _, n => n
  | k + 1, path, n => if idleP (pcAt pl n) = true then (if n ∈ path then minN (path.drop (path.idxOf n)) else folF pl k (path ++ [n]) (nxtE (pcAt pl n).2)) else n
def folOf (pl : Plan) (n : Nat) : Nat := folF pl (pl.length + 1) [] n
theorem nxt_lt {pl : Plan} (h : okWays pl) (h0 : 0 < pl.length) {n : Nat} (hn : n < pl.length) : nxtE (pcAt pl n).2 < pl.length := by
  have := h _ (pcAt_mem hn)
  cases e : (pcAt pl n).2 with
  | go p => rw [e] at this; exact this p (by simp [waysE])
  | _ => exact h0
theorem fol_lt {pl : Plan} (h : okWays pl) (h0 : 0 < pl.length) : ∀ {k : Nat} {path : List Nat} {n : Nat}, n < pl.length → (∀ x ∈ path, x < pl.length) → folF pl k path n < pl.length
  | 0, _, _, hn, _ => hn
  | k + 1, path, n, hn, hp => by
    unfold folF
    split
    · split
      · rename_i hm
        have hne : path.drop (path.idxOf n) ≠ [] := by
          have := List.idxOf_lt_length_iff.mpr hm
          intro e
          have := congrArg List.length e
          rw [List.length_drop] at this; simp at this; omega
        cases e : (path.drop (path.idxOf n)).min? with
        | none => exact absurd (List.min?_eq_none_iff.mp e) hne
        | some m =>
          unfold minN; rw [e]
          exact hp m (List.mem_of_mem_drop (List.min?_eq_some_iff.mp e).1)
      · refine fol_lt h h0 (nxt_lt h h0 hn) fun x hx => ?_
        rcases List.mem_append.mp hx with hx | hx
        · exact hp x hx
        · rw [List.mem_singleton.mp hx]; exact hn
    · exact hn
def byE (e : Ed) (ws : List Nat) : Ed := match e with
  | .stop => .stop
  | .go _ => .go (ws.getD 0 0)
  | .test l a n _ _ => .test l a n (ws.getD 0 0) (ws.getD 1 0)
abbrev SH := List Nat × List Pc
def keepS (pl : Plan) (k : Nat) (ks : List Nat) : List Nat := addKs ks ((waysAt pl k).map (folOf pl))
def stepSh (pl : Plan) (s : SH) : SH :=
  (keepS pl (s.1.getD s.2.length 0) s.1, s.2 ++ [((pcAt pl (s.1.getD s.2.length 0)).1, byE (pcAt pl (s.1.getD s.2.length 0)).2 ((waysAt pl (s.1.getD s.2.length 0)).map fun w => (keepS pl (s.1.getD s.2.length 0) s.1).idxOf (folOf pl w)))])
theorem keep_sub {α : Type} [DecidableEq α] {ks l : List α} : ∃ m, addKs ks l = ks ++ m := by
  induction l generalizing ks with
  | nil => exact ⟨[], by simp [addKs]⟩
  | cons x l ih =>
    obtain ⟨m, e⟩ := ih (ks := addK ks x)
    show ∃ m, addKs (addK ks x) l = ks ++ m
    rw [e]
    unfold addK
    split
    · exact ⟨m, rfl⟩
    · exact ⟨[x] ++ m, by rw [List.append_assoc]⟩
structure WfSh (pl : Plan) (s : SH) : Prop where
  nd : s.1.Nodup
  lt : ∀ k ∈ s.1, k < pl.length
  le : s.2.length ≤ s.1.length
  tx : ∀ p ∈ s.2, PcT p
theorem by_tx {e : Ed} {ws : List Nat} (h : ∀ a ∈ nmE e, strlt a) : ∀ a ∈ nmE (byE e ws), strlt a := by cases e <;> exact h
theorem waysAt_pc {pl : Plan} {k : Nat} (h : k < pl.length) : waysAt pl k = waysE (pcAt pl k).2 := waysAt_eq (pcAt_get h)
theorem WfSh.step {pl : Plan} {s : SH} (hp : PlT pl) (h : WfSh pl s) (hl : s.2.length < s.1.length) : WfSh pl (stepSh pl s) := by
  have hm : s.1.getD s.2.length 0 ∈ s.1 := by rw [List.getD_eq_getElem?_getD, List.getElem?_eq_getElem hl]; exact List.getElem_mem hl
  have hk := h.lt _ hm
  refine ⟨nodup_addKs h.nd, fun k hkk => ?_, ?_, fun p hpp => ?_⟩
  · rcases mem_addKs.mp hkk with h1 | h1
    · exact h.lt k h1
    · obtain ⟨w, hw, rfl⟩ := List.mem_map.mp h1
      exact fol_lt hp.ways hp.pos (waysAt_lt hp.ways hw) (by simp)
  · obtain ⟨m, e⟩ := keep_sub (ks := s.1) (l := (waysAt pl (s.1.getD s.2.length 0)).map (folOf pl))
    show (s.2 ++ [_]).length ≤ (addKs s.1 _).length
    rw [e, List.length_append, List.length_append]; simp; omega
  · rcases List.mem_append.mp hpp with h1 | h1
    · exact h.tx p h1
    · rw [List.mem_singleton.mp h1]
      have := hp.tx _ (pcAt_mem hk)
      exact ⟨this.1, by_tx this.2⟩
theorem WfSh.len {pl : Plan} {s : SH} (h : WfSh pl s) : s.1.length ≤ pl.length := by
  have := nodup_le (m := List.range pl.length) h.nd fun x hx => List.mem_range.mpr (h.lt x hx)
  rw [List.length_range] at this; exact this
theorem WfSh.start {pl : Plan} (hp : PlT pl) : WfSh pl ([folOf pl 0], []) := ⟨by simp, fun k hk => by rw [List.mem_singleton.mp hk]; exact fol_lt hp.ways hp.pos hp.pos (by simp), Nat.zero_le _, fun p h => nomatch h⟩
end MP

set_option linter.all false
set_option maxRecDepth 100000
set_option maxHeartbeats 1000000
set_option Elab.async false
namespace MP
local macro_rules
  | `(tactic| clean_wf) => `(tactic| simp only [ws_set, ws_set1, ws_ret, ws_nop, ws_exp, ws_exp1, ws_sidx, ws_sidx1, ws_satt, ws_satt1, ws_aat, ws_aat1, ws_avar, ws_avar1, augK_int, ws_for, ws_forS, wpE, wpA, opt_some, gv_0, gv_s, matP, List.set, b_add, b_addS, b_addT, b_sub, b_mul, b_div, b_mod, b_pow, c_len, c_lenT, c_int, c_intB, c_abs, c_min, c_max, c_tupT, c_eqI, c_neI, c_eqS, c_neS, c_lt, c_le, c_gt, c_ge, c_is, c_isnot, c_isB, c_isnotB, c_idxT, g_0, g_1, g_2, g_3, g_4, g_5, g_6, o_non, o_int, Bool.not_true, Bool.not_false, br_t, br_f, c_itA, c_itT, c_itS, wipe])
local macro_rules
  | `(tactic| sizeOf_list_dec) => `(tactic| first
    | assumption
    | exact Ne.symm (by assumption)
    | exact ne_new (by assumption) (by assumption)
    | exact Ne.symm (ne_new (by assumption) (by assumption))
    | exact BagAt.ne (by assumption) (by assumption)
    | exact Ne.symm (BagAt.ne (by assumption) (by assumption))
    | exact id)
local macro_rules
  | `(tactic| array_mem_dec) => `(tactic| first
    | assumption
    | exact up_same
    | (refine (up_ne (by sizeOf_list_dec)).trans ?_; array_mem_dec)
    | (refine (by assumption : Kept _ _ _) _ _ (by sizeOf_list_dec) ?_; array_mem_dec)
    | (refine BagAt.new ?_ (by assumption); array_mem_dec)
    | (refine BagAt.off ?_ (by sizeOf_list_dec); array_mem_dec)
    | (refine BagAt.keep ?_ (by assumption) (by sizeOf_list_dec); array_mem_dec)
    | exact Kept.refl
    | exact Kept.new (by assumption)
    | (refine Kept.trans ?_ (by assumption); array_mem_dec)
    | (refine Kept.loc (by assumption) ?_; array_mem_dec)
    | (refine Kept.nw (by assumption) ?_; array_mem_dec))
variable {μ μ' μ1 μ2 : Sto} {a b p q : Nat} {l : List D} {i : Int} {x y d : D} {o : Ob} {ρ : Env}
abbrev Cp := Nat × Fs
def encNum (k : Nat) : List Cp → List (D × D)
  | [] => []
  | c :: r => (encC c, encN k) :: encNum (k + 1) r
def NumAt (μ : Sto) (a : Nat) (l : List Cp) : Prop := if l = [] then μ a = some (.dF []) else μ a = some (.dT (encNum 0 l))
theorem NumAt.keep {S : Nat → Prop} {l : List Cp} (h : NumAt μ a l) (k : Kept S μ μ') (hs : ¬ S a) : NumAt μ' a l := by
  unfold NumAt at *
  split at h
  · rename_i e; rw [if_pos e]; exact k _ _ hs h
  · rename_i e; rw [if_neg e]; exact k _ _ hs h
structure CopG (G : Ctx) : Prop where
  fl : ∀ f ∈ [15, 22, 10, 7, 23], G.fl 0 f = true
  to : G.mt 0 42 = some 2
  piece : G.mt 0 29 = some 1
  most : G.cst 6 = some (.int 60)
def copFs (pl : Plan) (most : En) (hd : List Nat) (fr nr : Nat) : List (Nat × D) := [(15, encPl pl), (22, encE most), (10, .tup (hd.map encN)), (7, .ref fr), (23, .ref nr)]
structure CopAt (μ : Sto) (p fr nr : Nat) (pl : Plan) (most : En) (hd : List Nat) (fd : List Cp) : Prop where
  obj : μ p = some (.ins 0 (copFs pl most hd fr nr))
  hf : μ fr = some (.lst (fd.map encC))
  hn : NumAt μ nr fd
section
variable {fr nr : Nat} {pl : Plan} {most : En} {hd : List Nat} {fd : List Cp}
theorem NumAt.ne (h : NumAt μ a fd) : (∀ l, μ a ≠ some (.lst l)) ∧ ∀ c l, μ a ≠ some (.ins c l) := by
  unfold NumAt at h
  split at h <;> exact ⟨fun l e => (by rw [h] at e; cases e), fun c l e => (by rw [h] at e; cases e)⟩
theorem CopAt.ne (h : CopAt μ p fr nr pl most hd fd) : p ≠ fr ∧ p ≠ nr ∧ fr ≠ nr := by
  refine ⟨fun e => ?_, fun e => ?_, fun e => ?_⟩
  · have := h.obj; rw [e, h.hf] at this; cases this
  · exact h.hn.ne.2 _ _ (e ▸ h.obj)
  · exact h.hn.ne.1 _ (e ▸ h.hf)
theorem CopAt.keep {S : Nat → Prop} (h : CopAt μ p fr nr pl most hd fd) (k : Kept S μ μ') (h1 : ¬ S p) (h2 : ¬ S fr) (h3 : ¬ S nr) : CopAt μ' p fr nr pl most hd fd := ⟨k _ _ h1 h.obj, k _ _ h2 h.hf, h.hn.keep k h3⟩
end
def fullE (most : En) (n : Nat) : Bool := match most with
  | none => false
  | some m => decide (m ≤ n)
def cutC (hd : List Nat) (c : Cp) : Cp := if c.1 ∈ hd then (c.1, []) else c
def limC (most : En) (fd : List Cp) (c : Cp) : Cp := if c ∉ fd ∧ fullE most fd.length = true then (c.1, []) else c
def theC (hd : List Nat) (most : En) (fd : List Cp) (c : Cp) : Cp := limC most fd (cutC hd c)
def step1 (hd : List Nat) (most : En) (s : List Cp × List Nat) (c : Cp) : List Cp × List Nat :=
  (addK s.1 (theC hd most s.1 c), s.2 ++ [(addK s.1 (theC hd most s.1 c)).idxOf (theC hd most s.1 c)])
def stepC (pl : Plan) (c : Cp) : List Cp := leadsF (bhF c.2 (pcAt pl c.1).1) (pcAt pl c.1).2
def mkE (e : Ed) (ws : List Nat) : Ed := match ws, e with
  | [], _ => .stop
  | [w], _ => .go w
  | w :: v :: _, .test l a n _ _ => .test l a n w v
  | _, _ => .stop
abbrev LSt := Plan × List Cp
def pieceE (pl : Plan) (hd : List Nat) (most : En) (fd : List Cp) (c : Cp) : Pc × List Cp :=
  (((pcAt pl c.1).1, mkE (pcAt pl c.1).2 ((stepC pl c).foldl (step1 hd most) (fd, [])).2), ((stepC pl c).foldl (step1 hd most) (fd, [])).1)
def stepE (pl : Plan) (hd : List Nat) (most : En) (s : LSt) : LSt := match s.2[s.1.length]? with
  | none => s
  | some c => (s.1 ++ [(pieceE pl hd most s.2 c).1], (pieceE pl hd most s.2 c).2)
def led0 (pl : Plan) (hd : List Nat) (most : En) : LSt := ([], addK [] (theC hd most [] (0, startF pl)))
structure FdI (pl : Plan) (m : Nat) (fd : List Cp) : Prop where
  nd : fd.Nodup
  ok : ∀ c ∈ fd, c.1 < pl.length ∧ PlF pl c.2
  past : ∀ c ∈ fd.drop m, c.2 = []
theorem PlF.nil (pl : Plan) : PlF pl [] := ⟨.nil, fun _ h => nomatch h⟩
theorem theC_fst {hd : List Nat} {most : En} {fd : List Cp} {c : Cp} : (theC hd most fd c).1 = c.1 := by
  unfold theC limC cutC
  split <;> split <;> rfl
theorem theC_snd {hd : List Nat} {most : En} {fd : List Cp} {c : Cp} : (theC hd most fd c).2 = c.2 ∨ (theC hd most fd c).2 = [] := by
  unfold theC limC cutC
  split <;> split <;> first | exact .inr rfl | exact .inl rfl
theorem theC_ok {pl : Plan} {hd : List Nat} {most : En} {fd : List Cp} {c : Cp} (h : c.1 < pl.length ∧ PlF pl c.2) : (theC hd most fd c).1 < pl.length ∧ PlF pl (theC hd most fd c).2 := by
  rw [theC_fst]
  refine ⟨h.1, ?_⟩
  rcases theC_snd (hd := hd) (most := most) (fd := fd) (c := c) with e | e
  · rw [e]; exact h.2
  · rw [e]; exact .nil pl
theorem FdI.len {pl : Plan} {m : Nat} {fd : List Cp} (h : FdI pl m fd) : fd.length ≤ m + pl.length := by
  have h1 : ((fd.drop m).map (·.1)).Nodup := by
    rw [List.Nodup, List.pairwise_map]
    refine (List.Pairwise.and_mem.mp (h.nd.sublist (List.drop_sublist ..))).imp fun {a b} ⟨ha, hb, hab⟩ e => hab ?_
    have e1 := h.past a ha
    have e2 := h.past b hb
    exact Prod.ext e (by rw [e1, e2])
  have h2 := wlt_len h1 fun k hk => by
    obtain ⟨c, hc, rfl⟩ := List.mem_map.mp hk
    exact (h.ok c (List.mem_of_mem_drop hc)).1
  rw [List.length_map, List.length_drop] at h2
  omega
theorem FdI.add {pl : Plan} {m : Nat} {fd : List Cp} (h : FdI pl m fd) {hd : List Nat} {c : Cp} (hc : c.1 < pl.length ∧ PlF pl c.2) : FdI pl m (addK fd (theC hd (some (m : Int)) fd c)) := by
  refine ⟨nodup_addK h.nd, fun e he => ?_, fun e he => ?_⟩
  · rcases mem_addK.mp he with he | rfl
    · exact h.ok e he
    · exact theC_ok hc
  · unfold addK at he
    split at he
    · exact h.past e he
    · rename_i hn
      rw [List.drop_append] at he
      rcases List.mem_append.mp he with he | he
      · exact h.past e he
      · have hm : m ≤ fd.length := by
          cases Nat.lt_or_ge fd.length m with
          | inl h =>
            have : ([theC hd (some (m : Int)) fd c] : List Cp).drop (m - fd.length) = [] := List.drop_eq_nil_of_le (by simp; omega)
            rw [this] at he; cases he
          | inr h => exact h
        have e1 : e = theC hd (some (m : Int)) fd c := by
          have := List.mem_of_mem_drop he
          exact List.mem_singleton.mp this
        rw [e1]
        unfold theC at hn ⊢
        by_cases hcut : cutC hd c ∈ fd
        · exact absurd (show limC (some (m : Int)) fd (cutC hd c) ∈ fd by
            unfold limC; rw [if_neg fun z => z.1 hcut]; exact hcut) hn
        · unfold limC
          rw [if_pos ⟨hcut, decide_eq_true (by omega)⟩]
theorem step_leads {pl : Plan} (hw : okWays pl) {c : Cp} (h : c.1 < pl.length ∧ PlF pl c.2) : ∀ e ∈ stepC pl c, e.1 < pl.length ∧ PlF pl e.2 := fun e he =>
  ⟨hw _ (pcAt_mem h.1) e.1 (mem_leads he), h.2.leads (pcAt_mem h.1) he⟩
theorem FdI.fold {pl : Plan} {m : Nat} {hd : List Nat} : ∀ {l : List Cp} {s : List Cp × List Nat}, FdI pl m s.1 → (∀ e ∈ l, e.1 < pl.length ∧ PlF pl e.2) → FdI pl m (l.foldl (step1 hd (some (m : Int))) s).1
  | [], s, h, _ => h
  | c :: r, s, h, hl => FdI.fold (l := r) (s := step1 hd (some (m : Int)) s c) (h.add (hl c (List.mem_cons_self ..))) fun e he => hl e (List.mem_cons_of_mem _ he)
theorem foldC_mono {hd : List Nat} {most : En} : ∀ {l : List Cp} {s : List Cp × List Nat}, s.1.length ≤ (l.foldl (step1 hd most) s).1.length
  | [], s => Nat.le_refl _
  | c :: r, s => by
    refine Nat.le_trans ?_ (foldC_mono (l := r) (s := step1 hd most s c))
    show s.1.length ≤ (addK s.1 _).length
    unfold addK
    split
    · exact Nat.le_refl _
    · rw [List.length_append]; omega
structure LInv (pl : Plan) (m : Nat) (s : LSt) : Prop where
  fd : FdI pl m s.2
  le : s.1.length ≤ s.2.length
theorem LInv.zero {pl : Plan} {m : Nat} {hd : List Nat} (h0 : 0 < pl.length) : LInv pl m (led0 pl hd (some (m : Int))) :=
  ⟨FdI.add ⟨.nil, fun _ h => (nomatch h), fun c h => by simp at h⟩ ⟨h0, PlF.start pl⟩, Nat.zero_le _⟩
theorem LInv.step {pl : Plan} (hw : okWays pl) {m : Nat} {hd : List Nat} {s : LSt} (h : LInv pl m s) : LInv pl m (stepE pl hd (some (m : Int)) s) := by
  unfold stepE
  cases e : s.2[s.1.length]? with
  | none => exact h
  | some c =>
    have hc := h.fd.ok c (List.mem_of_getElem? e)
    refine ⟨FdI.fold (s := (s.2, [])) h.fd (step_leads hw hc), ?_⟩
    have hlt : s.1.length < s.2.length := (List.getElem?_eq_some_iff.mp e).1
    have := foldC_mono (hd := hd) (most := some (m : Int)) (l := stepC pl c) (s := (s.2, []))
    show (s.1 ++ [_]).length ≤ ((stepC pl c).foldl (step1 hd (some (m : Int))) (s.2, [])).1.length
    rw [List.length_append, List.length_singleton]
    have this : s.2.length ≤ ((stepC pl c).foldl (step1 hd (some (m : Int))) (s.2, [])).1.length := this
    omega
theorem LInv.iter {pl : Plan} (hw : okWays pl) (h0 : 0 < pl.length) {m : Nat} {hd : List Nat} : ∀ n, LInv pl m (iter (stepE pl hd (some (m : Int))) n (led0 pl hd (some (m : Int))))
  | 0 => .zero h0
  | n + 1 => .step hw (LInv.iter hw h0 n)
def Led (pl : Plan) (m : Nat) (s : LSt) : Prop := s.1.length = s.2.length ∧ ∃ n, iter (stepE pl (headsOf pl) (some (m : Int))) n (led0 pl (headsOf pl) (some (m : Int))) = s
theorem stepE_fix {pl : Plan} {hd : List Nat} {most : En} {s : LSt} (h : s.1.length = s.2.length) : stepE pl hd most s = s := by
  unfold stepE
  rw [h, List.getElem?_eq_none (Nat.le_refl _)]
theorem Led.uniq {pl : Plan} {m : Nat} {s t : LSt} (h1 : Led pl m s) (h2 : Led pl m t) : s = t := by
  obtain ⟨f1, n, hn⟩ := h1
  obtain ⟨f2, k, hk⟩ := h2
  rcases Nat.le_total n k with h | h
  · obtain ⟨d, rfl⟩ := Nat.exists_eq_add_of_le h
    rw [iter_add, hn, iter_fix (stepE_fix f1)] at hk
    exact hk
  · obtain ⟨d, rfl⟩ := Nat.exists_eq_add_of_le h
    rw [iter_add, hk, iter_fix (stepE_fix f2)] at hn
    exact hn.symm
theorem leads_len {f : Fs} {e : Ed} : (leadsF f e).length ≤ 2 := by unfold leadsF; rw [List.length_map]; exact sided_len
theorem fold_ws {hd : List Nat} {most : En} : ∀ {l : List Cp} {s : List Cp × List Nat}, (l.foldl (step1 hd most) s).2.length = s.2.length + l.length
  | [], s => rfl
  | c :: r, s => by
    rw [List.foldl_cons, fold_ws]
    show (s.2 ++ [_]).length + r.length = s.2.length + (r.length + 1)
    rw [List.length_append, List.length_singleton]; omega
end MP

set_option linter.all false
set_option maxRecDepth 100000
set_option maxHeartbeats 1000000
set_option Elab.async false
namespace MP
local macro_rules
  | `(tactic| clean_wf) => `(tactic| simp only [ws_set, ws_set1, ws_ret, ws_nop, ws_exp, ws_exp1, ws_sidx, ws_sidx1, ws_satt, ws_satt1, ws_aat, ws_aat1, ws_avar, ws_avar1, augK_int, ws_for, ws_forS, wpE, wpA, opt_some, gv_0, gv_s, matP, List.set, b_add, b_addS, b_addT, b_sub, b_mul, b_div, b_mod, b_pow, c_len, c_lenT, c_int, c_intB, c_abs, c_min, c_max, c_tupT, c_eqI, c_neI, c_eqS, c_neS, c_lt, c_le, c_gt, c_ge, c_is, c_isnot, c_isB, c_isnotB, c_idxT, g_0, g_1, g_2, g_3, g_4, g_5, g_6, o_non, o_int, Bool.not_true, Bool.not_false, br_t, br_f, c_itA, c_itT, c_itS, wipe])
local macro_rules
  | `(tactic| sizeOf_list_dec) => `(tactic| first
    | assumption
    | exact Ne.symm (by assumption)
    | exact ne_new (by assumption) (by assumption)
    | exact Ne.symm (ne_new (by assumption) (by assumption))
    | exact BagAt.ne (by assumption) (by assumption)
    | exact Ne.symm (BagAt.ne (by assumption) (by assumption))
    | exact id)
local macro_rules
  | `(tactic| array_mem_dec) => `(tactic| first
    | assumption
    | exact up_same
    | (refine (up_ne (by sizeOf_list_dec)).trans ?_; array_mem_dec)
    | (refine (by assumption : Kept _ _ _) _ _ (by sizeOf_list_dec) ?_; array_mem_dec)
    | (refine BagAt.new ?_ (by assumption); array_mem_dec)
    | (refine BagAt.off ?_ (by sizeOf_list_dec); array_mem_dec)
    | (refine BagAt.keep ?_ (by assumption) (by sizeOf_list_dec); array_mem_dec)
    | exact Kept.refl
    | exact Kept.new (by assumption)
    | (refine Kept.trans ?_ (by assumption); array_mem_dec)
    | (refine Kept.loc (by assumption) ?_; array_mem_dec)
    | (refine Kept.nw (by assumption) ?_; array_mem_dec))
variable {μ μ' μ1 μ2 : Sto} {a b p q : Nat} {l : List D} {i : Int} {x y d : D} {o : Ob} {ρ : Env}
mutual
def toW : D → W
  | .bl b => .bl b
  | .int i => .int i
  | .str x => .str x
  | .tup xs => .tup (toWs xs)
  | _ => .non
def toWs : List D → List W
  | [] => []
  | x :: r => toW x :: toWs r
end
mutual
theorem toW_is : ∀ {n : Nat} {d : D}, D.ok n d = true → isW μ (toW d) d ∧ W.ok n (toW d) = true ∧ W.eqb (toW d) (toW d) = true
  | 0, d, h => by cases d <;> cases h
  | n + 1, .non, h => ⟨rfl, rfl, rfl⟩
  | n + 1, .bl b, h => ⟨rfl, rfl, by cases b <;> rfl⟩
  | n + 1, .int i, h => ⟨rfl, rfl, by show (i == i) = true; simp⟩
  | n + 1, .str x, h => ⟨rfl, h, by show (x == x) = true; simp⟩
  | n + 1, .tup xs, h => by
    obtain ⟨h1, h2, h3⟩ := toWs_is (n := n) (l := xs) h
    exact ⟨⟨xs, rfl, h1⟩, h2, h3⟩
  | n + 1, .ref a, h => by cases h
  | n + 1, .scr l, h => by cases h
theorem toWs_is : ∀ {n : Nat} {l : List D}, l.all (D.ok n) = true → isWs μ (toWs l) l ∧ (toWs l).all (W.ok n) = true ∧ W.eqbs (toWs l) (toWs l) = true
  | n, [], _ => ⟨rfl, rfl, rfl⟩
  | n, x :: r, h => by
    rw [List.all_cons, Bool.and_eq_true] at h
    obtain ⟨a1, a2, a3⟩ := toW_is h.1
    obtain ⟨b1, b2, b3⟩ := toWs_is h.2
    refine ⟨⟨x, r, rfl, a1, b1⟩, ?_, ?_⟩
    · show (W.ok n (toW x) && (toWs r).all (W.ok n)) = true
      rw [a2, b2]; rfl
    · show (W.eqb (toW x) (toW x) && W.eqbs (toWs r) (toWs r)) = true
      rw [a3, b3]; rfl
end
def GoodW (pl : Plan) (fd : List Cp) (c : Cp) (ws : List Nat) : Prop :=
  ws.length = (stepC pl c).length ∧ ∀ (j w : Nat) (e : Cp), ws[j]? = some w → (stepC pl c)[j]? = some e → ∃ c' : Cp, fd[w]? = some c' ∧ c'.1 = e.1 ∧ (c'.2 = e.2 ∨ c'.2 = [])
def PInv (pl : Plan) (s : LSt) : Prop := (∃ c : Cp, s.2[0]? = some c ∧ c.1 = 0 ∧ (c.2 = startF pl ∨ c.2 = [])) ∧ ∀ (i : Nat) (p : Pc), s.1[i]? = some p → ∃ (c : Cp) (ws : List Nat), s.2[i]? = some c ∧ p = ((pcAt pl c.1).1, mkE (pcAt pl c.1).2 ws) ∧ GoodW pl s.2 c ws
theorem addK_get {l : List Cp} {x : Cp} {i : Nat} {c : Cp} (h : l[i]? = some c) : (addK l x)[i]? = some c := by
  unfold addK
  split
  · exact h
  · rw [List.getElem?_append_left (List.getElem?_eq_some_iff.mp h).1]; exact h
theorem addK_idx {l : List Cp} {x : Cp} : (addK l x)[(addK l x).idxOf x]? = some x := by
  have hm : x ∈ addK l x := mem_addK.mpr (.inr rfl)
  have := List.idxOf_lt_length_of_mem hm
  rw [List.getElem?_eq_getElem this, List.getElem_idxOf]
theorem fold_get {hd : List Nat} {most : En} : ∀ {l : List Cp} {s : List Cp × List Nat} {i : Nat} {c : Cp}, s.1[i]? = some c → (l.foldl (step1 hd most) s).1[i]? = some c
  | [], s, i, c, h => h
  | e :: r, s, i, c, h => fold_get (l := r) (s := step1 hd most s e) (addK_get h)
theorem fold_ok {hd : List Nat} {most : En} : ∀ {l : List Cp} {s : List Cp × List Nat} (pre : List Cp), s.2.length = pre.length → (∀ (j w : Nat) (e : Cp), s.2[j]? = some w → pre[j]? = some e → ∃ c' : Cp, s.1[w]? = some c' ∧ c'.1 = e.1 ∧ (c'.2 = e.2 ∨ c'.2 = [])) →
    ∀ (j w : Nat) (e : Cp), (l.foldl (step1 hd most) s).2[j]? = some w → (pre ++ l)[j]? = some e → ∃ c' : Cp, (l.foldl (step1 hd most) s).1[w]? = some c' ∧ c'.1 = e.1 ∧ (c'.2 = e.2 ∨ c'.2 = [])
  | [], s, pre, hl, h => by rw [List.append_nil]; exact h
  | e :: r, s, pre, hl, h => by
    have := fold_ok (hd := hd) (most := most) (l := r) (s := step1 hd most s e) (pre ++ [e]) (by show (s.2 ++ [_]).length = _; rw [List.length_append, List.length_append, hl]; rfl) fun j w x hj hx => by
      have hj : (s.2 ++ [(addK s.1 (theC hd most s.1 e)).idxOf (theC hd most s.1 e)])[j]? = some w := hj
      by_cases hlt : j < s.2.length
      · rw [List.getElem?_append_left hlt] at hj
        rw [List.getElem?_append_left (by omega)] at hx
        obtain ⟨c', h1, h2⟩ := h j w x hj hx
        exact ⟨c', addK_get h1, h2⟩
      · have hj2 : j = s.2.length := by
          have := (List.getElem?_eq_some_iff.mp hj).1
          rw [List.length_append, List.length_singleton] at this; omega
        subst hj2
        rw [List.getElem?_append_right (Nat.le_refl _), Nat.sub_self] at hj
        rw [hl, List.getElem?_append_right (Nat.le_refl _), Nat.sub_self] at hx
        cases hj; cases hx
        exact ⟨_, addK_idx, theC_fst, theC_snd⟩
    rw [List.append_assoc] at this
    exact this
theorem PInv.zero {pl : Plan} {hd : List Nat} {most : En} : PInv pl (led0 pl hd most) := by
  refine ⟨⟨theC hd most [] (0, startF pl), rfl, theC_fst, theC_snd⟩, fun i p h => by cases h⟩
theorem PInv.step {pl : Plan} {hd : List Nat} {most : En} {s : LSt} (h : PInv pl s) : PInv pl (stepE pl hd most s) := by
  unfold stepE
  cases e : s.2[s.1.length]? with
  | none => exact h
  | some c =>
    have keep : ∀ {i c'}, s.2[i]? = some c' → (pieceE pl hd most s.2 c).2[i]? = some c' := fun h => fold_get (s := (s.2, [])) h
    obtain ⟨⟨c0, h0, h1⟩, hp⟩ := h
    refine ⟨⟨c0, keep h0, h1⟩, fun i p hi => ?_⟩
    have hi : (s.1 ++ [(pieceE pl hd most s.2 c).1])[i]? = some p := hi
    by_cases hlt : i < s.1.length
    · rw [List.getElem?_append_left hlt] at hi
      obtain ⟨c', ws, g1, g2, g3, g4⟩ := hp i p hi
      refine ⟨c', ws, keep g1, g2, g3, fun j w x hj hx => ?_⟩
      obtain ⟨c'', k1, k2⟩ := g4 j w x hj hx
      exact ⟨c'', keep k1, k2⟩
    · have hi2 : i = s.1.length := by
        have := (List.getElem?_eq_some_iff.mp hi).1
        rw [List.length_append, List.length_singleton] at this; omega
      subst hi2
      rw [List.getElem?_append_right (Nat.le_refl _), Nat.sub_self] at hi
      cases hi
      refine ⟨c, ((stepC pl c).foldl (step1 hd most) (s.2, [])).2, keep e, rfl, ?_, ?_⟩
      · rw [fold_ws]; simp
      · intro j w x hj hx
        exact fold_ok (hd := hd) (most := most) (l := stepC pl c) (s := (s.2, [])) [] rfl (fun j w e h => by cases h) j w x hj (by rw [List.nil_append]; exact hx)
theorem PInv.iter {pl : Plan} {hd : List Nat} {most : En} : ∀ n, PInv pl (iter (stepE pl hd most) n (led0 pl hd most))
  | 0 => .zero
  | n + 1 => .step (PInv.iter n)
def cAt (fd : List Cp) (i : Nat) : Cp := (fd[i]?).getD (0, [])
structure SimR (pl : Plan) (fd : List Cp) (x : RS) (B : List Nat) : Prop where
  been : B.map (fun i => (cAt fd i).1) = x.been
  lt : ∀ i ∈ B, i < fd.length
  ne : B ≠ []
  holds : x.stand = .on → HoldsI (knownF (bhF (cAt fd (B.getLastD 0)).2 ((pcAt pl x.cur).1.take x.place))) x.ws
structure LOk (pl : Plan) (m : Nat) (s : LSt) : Prop where
  inv : LInv pl m s
  pinv : PInv pl s
  len : s.1.length = s.2.length
theorem Led.ok {pl : Plan} (hw : okWays pl) (h0 : 0 < pl.length) {m : Nat} {s : LSt} (h : Led pl m s) : LOk pl m s := by
  obtain ⟨hl, n, hn⟩ := h
  exact ⟨by rw [← hn]; exact LInv.iter hw h0 n, by rw [← hn]; exact PInv.iter n, hl⟩
theorem LOk.piece {pl : Plan} {m : Nat} {s : LSt} (h : LOk pl m s) {k : Nat} (hk : k < s.2.length) : ∃ ws, pcAt s.1 k = ((pcAt pl (cAt s.2 k).1).1, mkE (pcAt pl (cAt s.2 k).1).2 ws) ∧ GoodW pl s.2 (cAt s.2 k) ws := by
  have hk1 : k < s.1.length := by rw [h.len]; exact hk
  obtain ⟨c, ws, h1, h2, h3⟩ := h.pinv.2 k _ (pcAt_get hk1)
  have ec : cAt s.2 k = c := by unfold cAt; rw [h1]; rfl
  rw [ec]
  exact ⟨ws, h2, h3⟩
theorem LOk.copy {pl : Plan} {m : Nat} {s : LSt} (h : LOk pl m s) {k : Nat} (hk : k < s.2.length) : (cAt s.2 k).1 < pl.length ∧ PlF pl (cAt s.2 k).2 := by
  have e : s.2[k]? = some s.2[k] := List.getElem?_eq_getElem hk
  have ec : cAt s.2 k = s.2[k] := by unfold cAt; rw [e]; rfl
  rw [ec]
  exact h.inv.fd.ok _ (List.getElem_mem hk)
theorem mkE_cases {e : Ed} {ws : List Nat} {k : Nat} : k ∈ waysE (mkE e ws) → k ∈ ws := fun h => by
  match ws, e, h with
  | [], _, h => simp [mkE, waysE] at h
  | [w], _, h => simpa [mkE, waysE] using h
  | w :: v :: r, .test l a n y z, h =>
    have : k = w ∨ k = v := by simpa [mkE, waysE] using h
    rcases this with rfl | rfl
    · exact List.mem_cons_self ..
    · exact List.mem_cons_of_mem _ (List.mem_cons_self ..)
  | w :: v :: r, .stop, h => simp [mkE, waysE] at h
  | w :: v :: r, .go p, h => simp [mkE, waysE] at h
theorem GoodW.lt {pl : Plan} {fd : List Cp} {c : Cp} {ws : List Nat} (h : GoodW pl fd c ws) : ∀ w ∈ ws, w < fd.length := fun w hw => by
  obtain ⟨j, hj⟩ := List.mem_iff_getElem?.mp hw
  have hjl := (List.getElem?_eq_some_iff.mp hj).1
  have hj2 : j < (stepC pl c).length := by rw [← h.1]; exact hjl
  obtain ⟨c', h1, _⟩ := h.2 j w _ hj (List.getElem?_eq_getElem hj2)
  exact (List.getElem?_eq_some_iff.mp h1).1
theorem LOk.ways {pl : Plan} {m : Nat} {s : LSt} (h : LOk pl m s) : okWays s.1 := fun p hp w hw => by
  obtain ⟨k, hk⟩ := List.mem_iff_getElem?.mp hp
  obtain ⟨c, ws, h1, h2, h3⟩ := h.pinv.2 k p hk
  rw [h2] at hw
  rw [h.len]
  exact h3.lt w (mkE_cases hw)
theorem LOk.pos {pl : Plan} {m : Nat} {s : LSt} (h : LOk pl m s) : 0 < s.2.length := by
  obtain ⟨⟨c, h0, _⟩, _⟩ := h.pinv
  exact (List.getElem?_eq_some_iff.mp h0).1
end MP

set_option linter.all false
set_option maxRecDepth 100000
set_option maxHeartbeats 1000000
set_option Elab.async false
namespace MP
theorem theC_cut {hd : List Nat} {m : Nat} {fd : List Cp} {c : Cp} (h : fd.length < m) : theC hd (some (m : Int)) fd c = cutC hd c := by
  unfold theC limC
  rw [if_neg]
  rintro ⟨_, z⟩
  have z : (m : Int) ≤ fd.length := of_decide_eq_true z
  omega
def ExactW (pl : Plan) (hd : List Nat) (fd : List Cp) (c : Cp) (ws : List Nat) : Prop :=
  ws.length = (stepC pl c).length ∧ ∀ (j w : Nat) (e : Cp), ws[j]? = some w → (stepC pl c)[j]? = some e → fd[w]? = some (cutC hd e)
def EInv (pl : Plan) (hd : List Nat) (m : Nat) (s : LSt) : Prop := s.2.length < m → s.2[0]? = some (cutC hd (0, startF pl)) ∧ ∀ (i : Nat) (p : Pc), s.1[i]? = some p → ∃ (c : Cp) (ws : List Nat), s.2[i]? = some c ∧ p = ((pcAt pl c.1).1, mkE (pcAt pl c.1).2 ws) ∧ ExactW pl hd s.2 c ws
theorem fold_exact {hd : List Nat} {m : Nat} : ∀ {l : List Cp} {s : List Cp × List Nat} (pre : List Cp), (l.foldl (step1 hd (some (m : Int))) s).1.length < m → s.2.length = pre.length → (∀ (j w : Nat) (e : Cp), s.2[j]? = some w → pre[j]? = some e → s.1[w]? = some (cutC hd e)) →
    ∀ (j w : Nat) (e : Cp), (l.foldl (step1 hd (some (m : Int))) s).2[j]? = some w → (pre ++ l)[j]? = some e → (l.foldl (step1 hd (some (m : Int))) s).1[w]? = some (cutC hd e)
  | [], s, pre, _, hl, h => by rw [List.append_nil]; exact h
  | e :: r, s, pre, hm, hl, h => by
    have hlt : s.1.length < m := Nat.lt_of_le_of_lt (foldC_mono (hd := hd) (most := some (m : Int)) (l := e :: r) (s := s)) hm
    have := fold_exact (hd := hd) (m := m) (l := r) (s := step1 hd (some (m : Int)) s e) (pre ++ [e]) hm (by show (s.2 ++ [_]).length = _; rw [List.length_append, List.length_append, hl]; rfl) fun j w x hj hx => by
      have hj : (s.2 ++ [(addK s.1 (theC hd (some (m : Int)) s.1 e)).idxOf (theC hd (some (m : Int)) s.1 e)])[j]? = some w := hj
      by_cases hlt2 : j < s.2.length
      · rw [List.getElem?_append_left hlt2] at hj
        rw [List.getElem?_append_left (by omega)] at hx
        exact addK_get (h j w x hj hx)
      · have hj2 : j = s.2.length := by
          have := (List.getElem?_eq_some_iff.mp hj).1
          rw [List.length_append, List.length_singleton] at this; omega
        subst hj2
        rw [List.getElem?_append_right (Nat.le_refl _), Nat.sub_self] at hj
        rw [hl, List.getElem?_append_right (Nat.le_refl _), Nat.sub_self] at hx
        cases hj; cases hx
        have := addK_idx (l := s.1) (x := theC hd (some (m : Int)) s.1 e)
        show (addK s.1 (theC hd (some (m : Int)) s.1 e))[_]? = _
        rw [this, theC_cut hlt]
    rw [List.append_assoc] at this
    exact this
theorem EInv.zero {pl : Plan} {hd : List Nat} {m : Nat} : EInv pl hd m (led0 pl hd (some (m : Int))) := fun hm => by
  refine ⟨?_, fun i p h => by cases h⟩
  have h0 : ([] : List Cp).length < m := Nat.lt_of_le_of_lt (Nat.zero_le _) hm
  show ([theC hd (some (m : Int)) [] (0, startF pl)] : List Cp)[0]? = _
  rw [theC_cut h0]; rfl
theorem EInv.step {pl : Plan} {hd : List Nat} {m : Nat} {s : LSt} (h : EInv pl hd m s) : EInv pl hd m (stepE pl hd (some (m : Int)) s) := by
  unfold stepE
  cases e : s.2[s.1.length]? with
  | none => exact h
  | some c =>
    intro hm
    have hm : (pieceE pl hd (some (m : Int)) s.2 c).2.length < m := hm
    have keep : ∀ {i c'}, s.2[i]? = some c' → (pieceE pl hd (some (m : Int)) s.2 c).2[i]? = some c' := fun h => fold_get (s := (s.2, [])) h
    have hlt : s.2.length < m := Nat.lt_of_le_of_lt (foldC_mono (hd := hd) (most := some (m : Int)) (l := stepC pl c) (s := (s.2, []))) hm
    obtain ⟨h0, hp⟩ := h hlt
    refine ⟨keep h0, fun i p hi => ?_⟩
    have hi : (s.1 ++ [(pieceE pl hd (some (m : Int)) s.2 c).1])[i]? = some p := hi
    by_cases hl : i < s.1.length
    · rw [List.getElem?_append_left hl] at hi
      obtain ⟨c', ws, g1, g2, g3, g4⟩ := hp i p hi
      exact ⟨c', ws, keep g1, g2, g3, fun j w x hj hx => keep (g4 j w x hj hx)⟩
    · have hi2 : i = s.1.length := by
        have := (List.getElem?_eq_some_iff.mp hi).1
        rw [List.length_append, List.length_singleton] at this; omega
      subst hi2
      rw [List.getElem?_append_right (Nat.le_refl _), Nat.sub_self] at hi
      cases hi
      refine ⟨c, ((stepC pl c).foldl (step1 hd (some (m : Int))) (s.2, [])).2, keep e, rfl, ?_, ?_⟩
      · rw [fold_ws]; simp
      · intro j w x hj hx
        exact fold_exact (hd := hd) (m := m) (l := stepC pl c) (s := (s.2, [])) [] hm rfl (fun j w e h => by cases h) j w x hj (by rw [List.nil_append]; exact hx)
theorem EInv.iter {pl : Plan} {hd : List Nat} {m : Nat} : ∀ n, EInv pl hd m (iter (stepE pl hd (some (m : Int))) n (led0 pl hd (some (m : Int))))
  | 0 => .zero
  | n + 1 => .step (EInv.iter n)
theorem Led.exact {pl : Plan} {m : Nat} {s : LSt} (h : Led pl m s) (hm : s.2.length < m) : s.2[0]? = some (cutC (headsOf pl) (0, startF pl)) ∧ ∀ (i : Nat) (p : Pc), s.1[i]? = some p → ∃ (c : Cp) (ws : List Nat), s.2[i]? = some c ∧ p = ((pcAt pl c.1).1, mkE (pcAt pl c.1).2 ws) ∧ ExactW pl (headsOf pl) s.2 c ws := by
  obtain ⟨_, n, hn⟩ := h
  have := EInv.iter (pl := pl) (hd := headsOf pl) (m := m) n
  rw [hn] at this
  exact this hm
end MP

set_option linter.all false
set_option maxRecDepth 100000
set_option maxHeartbeats 1000000
set_option Elab.async false
namespace MP
local macro_rules
  | `(tactic| clean_wf) => `(tactic| simp only [ws_set, ws_set1, ws_ret, ws_nop, ws_exp, ws_exp1, ws_sidx, ws_sidx1, ws_satt, ws_satt1, ws_aat, ws_aat1, ws_avar, ws_avar1, augK_int, ws_for, ws_forS, wpE, wpA, opt_some, gv_0, gv_s, matP, List.set, b_add, b_addS, b_addT, b_sub, b_mul, b_div, b_mod, b_pow, c_len, c_lenT, c_int, c_intB, c_abs, c_min, c_max, c_tupT, c_eqI, c_neI, c_eqS, c_neS, c_lt, c_le, c_gt, c_ge, c_is, c_isnot, c_isB, c_isnotB, c_idxT, g_0, g_1, g_2, g_3, g_4, g_5, g_6, o_non, o_int, Bool.not_true, Bool.not_false, br_t, br_f, c_itA, c_itT, c_itS, wipe])
local macro_rules
  | `(tactic| sizeOf_list_dec) => `(tactic| first
    | assumption
    | exact Ne.symm (by assumption)
    | exact ne_new (by assumption) (by assumption)
    | exact Ne.symm (ne_new (by assumption) (by assumption))
    | exact BagAt.ne (by assumption) (by assumption)
    | exact Ne.symm (BagAt.ne (by assumption) (by assumption))
    | exact id)
local macro_rules
  | `(tactic| array_mem_dec) => `(tactic| first
    | assumption
    | exact up_same
    | (refine (up_ne (by sizeOf_list_dec)).trans ?_; array_mem_dec)
    | (refine (by assumption : Kept _ _ _) _ _ (by sizeOf_list_dec) ?_; array_mem_dec)
    | (refine BagAt.new ?_ (by assumption); array_mem_dec)
    | (refine BagAt.off ?_ (by sizeOf_list_dec); array_mem_dec)
    | (refine BagAt.keep ?_ (by assumption) (by sizeOf_list_dec); array_mem_dec)
    | exact Kept.refl
    | exact Kept.new (by assumption)
    | (refine Kept.trans ?_ (by assumption); array_mem_dec)
    | (refine Kept.loc (by assumption) ?_; array_mem_dec)
    | (refine Kept.nw (by assumption) ?_; array_mem_dec))
variable {μ μ' μ1 μ2 : Sto} {a b p q : Nat} {l : List D} {i : Int} {x y d : D} {o : Ob} {ρ : Env}
end MP

set_option linter.all false
set_option maxRecDepth 100000
set_option maxHeartbeats 1000000
set_option Elab.async false
namespace MP
local macro_rules
  | `(tactic| clean_wf) => `(tactic| simp only [ws_set, ws_set1, ws_ret, ws_nop, ws_exp, ws_exp1, ws_sidx, ws_sidx1, ws_satt, ws_satt1, ws_aat, ws_aat1, ws_avar, ws_avar1, augK_int, ws_for, ws_forS, wpE, wpA, opt_some, gv_0, gv_s, matP, List.set, b_add, b_addS, b_addT, b_sub, b_mul, b_div, b_mod, b_pow, c_len, c_lenT, c_int, c_intB, c_abs, c_min, c_max, c_tupT, c_eqI, c_neI, c_eqS, c_neS, c_lt, c_le, c_gt, c_ge, c_is, c_isnot, c_isB, c_isnotB, c_idxT, g_0, g_1, g_2, g_3, g_4, g_5, g_6, o_non, o_int, Bool.not_true, Bool.not_false, br_t, br_f, c_itA, c_itT, c_itS, wipe])
local macro_rules
  | `(tactic| sizeOf_list_dec) => `(tactic| first
    | assumption
    | exact Ne.symm (by assumption)
    | exact ne_new (by assumption) (by assumption)
    | exact Ne.symm (ne_new (by assumption) (by assumption))
    | exact BagAt.ne (by assumption) (by assumption)
    | exact Ne.symm (BagAt.ne (by assumption) (by assumption))
    | exact id)
local macro_rules
  | `(tactic| array_mem_dec) => `(tactic| first
    | assumption
    | exact up_same
    | (refine (up_ne (by sizeOf_list_dec)).trans ?_; array_mem_dec)
    | (refine (by assumption : Kept _ _ _) _ _ (by sizeOf_list_dec) ?_; array_mem_dec)
    | (refine BagAt.new ?_ (by assumption); array_mem_dec)
    | (refine BagAt.off ?_ (by sizeOf_list_dec); array_mem_dec)
    | (refine BagAt.keep ?_ (by assumption) (by sizeOf_list_dec); array_mem_dec)
    | exact Kept.refl
    | exact Kept.new (by assumption)
    | (refine Kept.trans ?_ (by assumption); array_mem_dec)
    | (refine Kept.loc (by assumption) ?_; array_mem_dec)
    | (refine Kept.nw (by assumption) ?_; array_mem_dec))
variable {μ μ' μ1 μ2 : Sto} {a b p q : Nat} {l : List D} {i : Int} {x y d : D} {o : Ob} {ρ : Env}
theorem ite_M28 {G : Ctx} (hG : Mono G) {c : E} {s : St} {ρ : Env} {μ : Sto} {R : Post} (M : Bool → Sto → Prop) (hc : wpE G c ρ μ (fun d μ1 => ∃ b, d = .bl b ∧ M b μ1) NoX) (h1 : ∀ μ1, M true μ1 → wpS G s ρ μ1 R) (h2 : ∀ μ1, M false μ1 → R.nx ρ μ1) : wpS G (.ite c s .nop) ρ μ R :=
  ev hG _ hc fun d μ1 ⟨b, e1, m⟩ => by subst e1; exact ⟨fun z => h1 _ (z ▸ m), fun z => h2 _ (z ▸ m)⟩
structure KeepG (G : Ctx) : Prop where
  fl : ∀ f ∈ [13, 22, 20, 25, 3], G.fl 2 f = true
  make : G.mt 2 19 = some 15
  first : G.mt 2 6 = some 13
  piece : G.mt 2 28 = some 18
end MP

set_option linter.all false
set_option maxRecDepth 100000
set_option maxHeartbeats 1000000
set_option Elab.async false
namespace MP
local macro_rules
  | `(tactic| clean_wf) => `(tactic| simp only [ws_set, ws_set1, ws_ret, ws_nop, ws_exp, ws_exp1, ws_sidx, ws_sidx1, ws_satt, ws_satt1, ws_aat, ws_aat1, ws_avar, ws_avar1, augK_int, ws_for, ws_forS, wpE, wpA, opt_some, gv_0, gv_s, matP, List.set, b_add, b_addS, b_addT, b_sub, b_mul, b_div, b_mod, b_pow, c_len, c_lenT, c_int, c_intB, c_abs, c_min, c_max, c_tupT, c_eqI, c_neI, c_eqS, c_neS, c_lt, c_le, c_gt, c_ge, c_is, c_isnot, c_isB, c_isnotB, c_idxT, g_0, g_1, g_2, g_3, g_4, g_5, g_6, o_non, o_int, Bool.not_true, Bool.not_false, br_t, br_f, c_itA, c_itT, c_itS, wipe])
local macro_rules
  | `(tactic| sizeOf_list_dec) => `(tactic| first
    | assumption
    | exact Ne.symm (by assumption)
    | exact ne_new (by assumption) (by assumption)
    | exact Ne.symm (ne_new (by assumption) (by assumption))
    | exact BagAt.ne (by assumption) (by assumption)
    | exact Ne.symm (BagAt.ne (by assumption) (by assumption))
    | exact id)
local macro_rules
  | `(tactic| array_mem_dec) => `(tactic| first
    | assumption
    | exact up_same
    | (refine (up_ne (by sizeOf_list_dec)).trans ?_; array_mem_dec)
    | (refine (by assumption : Kept _ _ _) _ _ (by sizeOf_list_dec) ?_; array_mem_dec)
    | (refine BagAt.new ?_ (by assumption); array_mem_dec)
    | (refine BagAt.off ?_ (by sizeOf_list_dec); array_mem_dec)
    | (refine BagAt.keep ?_ (by assumption) (by sizeOf_list_dec); array_mem_dec)
    | exact Kept.refl
    | exact Kept.new (by assumption)
    | (refine Kept.trans ?_ (by assumption); array_mem_dec)
    | (refine Kept.loc (by assumption) ?_; array_mem_dec)
    | (refine Kept.nw (by assumption) ?_; array_mem_dec))
variable {μ μ' μ1 μ2 : Sto} {a b p q : Nat} {l : List D} {i : Int} {x y d : D} {o : Ob} {ρ : Env}
inductive Desc (pl : Plan) (r : Cp) : Nat → Cp → Prop
  | zero : Desc pl r 0 r
  | step {j : Nat} {c e : Cp} : Desc pl r j c → e ∈ stepC pl c → c.1 < e.1 → Desc pl r (j + 1) e
def ext (pl : Plan) : Nat → Cp → List Cp
  | 0, c => [c]
  | k + 1, c => c :: (stepC pl c).flatMap (ext pl k)
theorem ext_len {pl : Plan} : ∀ {k : Nat} {c : Cp}, (ext pl k c).length ≤ 2 ^ (k + 1) - 1
  | 0, c => Nat.le_refl _
  | k + 1, c => by
    show ((stepC pl c).flatMap (ext pl k)).length + 1 ≤ _
    have hl : (stepC pl c).length ≤ 2 := leads_len
    have sum : ∀ l : List Cp, (l.flatMap (ext pl k)).length ≤ l.length * (2 ^ (k + 1) - 1) := by
      intro l
      induction l with
      | nil => simp
      | cons c l ih =>
        have h1 := ext_len (pl := pl) (k := k) (c := c)
        rw [List.flatMap_cons, List.length_append, List.length_cons, Nat.add_mul, Nat.one_mul]
        omega
    have h1 := sum (stepC pl c)
    have h2 : (stepC pl c).length * (2 ^ (k + 1) - 1) ≤ 2 * (2 ^ (k + 1) - 1) := Nat.mul_le_mul_right _ hl
    have h3 : 2 ^ (k + 1 + 1) = 2 * 2 ^ (k + 1) := by rw [Nat.pow_succ, Nat.mul_comm]
    have h4 : 1 ≤ 2 ^ (k + 1) := Nat.one_le_two_pow
    omega
theorem ext_self {pl : Plan} {k : Nat} {c : Cp} : c ∈ ext pl k c := by cases k <;> simp [ext]
theorem ext_next {pl : Plan} : ∀ {k : Nat} {r c e : Cp}, c ∈ ext pl k r → e ∈ stepC pl c → e ∈ ext pl (k + 1) r
  | 0, r, c, e, hc, he => by
    rw [List.mem_singleton.mp (show c ∈ [r] from hc)] at he
    exact List.mem_cons_of_mem _ (List.mem_flatMap.mpr ⟨e, he, ext_self⟩)
  | k + 1, r, c, e, hc, he => by
    rcases List.mem_cons.mp (show c ∈ r :: _ from hc) with rfl | hc
    · exact List.mem_cons_of_mem _ (List.mem_flatMap.mpr ⟨e, he, ext_self⟩)
    · obtain ⟨x, hx, hc⟩ := List.mem_flatMap.mp hc
      exact List.mem_cons_of_mem _ (List.mem_flatMap.mpr ⟨x, hx, ext_next hc he⟩)
theorem ext_mono {pl : Plan} : ∀ {k : Nat} {r c : Cp}, c ∈ ext pl k r → c ∈ ext pl (k + 1) r
  | 0, r, c, h => by rw [List.mem_singleton.mp (show c ∈ [r] from h)]; exact ext_self
  | k + 1, r, c, h => by
    rcases List.mem_cons.mp (show c ∈ r :: _ from h) with rfl | h
    · exact ext_self
    · obtain ⟨x, hx, h⟩ := List.mem_flatMap.mp h
      exact List.mem_cons_of_mem _ (List.mem_flatMap.mpr ⟨x, hx, ext_mono h⟩)
theorem ext_le {pl : Plan} {k m : Nat} {r c : Cp} (h : c ∈ ext pl k r) (hm : k ≤ m) : c ∈ ext pl m r := by
  induction hm with
  | refl => exact h
  | step _ ih => exact ext_mono ih
theorem Desc.ext {pl : Plan} {r c : Cp} {j : Nat} (h : Desc pl r j c) : c ∈ MP.ext pl j r := by
  induction h with
  | zero => exact ext_self
  | step _ he _ ih => exact ext_next ih he
theorem Desc.rise {pl : Plan} {r c : Cp} {j : Nat} (h : Desc pl r j c) : r.1 + j ≤ c.1 := by
  induction h with
  | zero => exact Nat.le_refl _
  | step _ _ hl ih => omega
def rootsOf (pl : Plan) (hd : List Nat) : List Cp := if 0 ∈ hd then hd.map fun h => (h, []) else (0, startF pl) :: hd.map fun h => (h, [])
structure Dn (pl : Plan) (fd : List Cp) : Prop where
  nd : fd.Nodup
  ok : ∀ c ∈ fd, c.1 < pl.length ∧ PlF pl c.2
  rt : ∀ c ∈ fd, Reach pl c.1 ∧ ∃ r ∈ rootsOf pl (headsOf pl), ∃ j, Desc pl r j c
theorem theC_none {hd : List Nat} {fd : List Cp} {c : Cp} : theC hd none fd c = cutC hd c := by
  unfold theC limC
  rw [if_neg]
  intro z; cases z.2
theorem root_head {pl : Plan} {hd : List Nat} {h : Nat} (hh : h ∈ hd) : ((h, []) : Cp) ∈ rootsOf pl hd := by
  unfold rootsOf
  split
  · exact List.mem_map.mpr ⟨h, hh, rfl⟩
  · exact List.mem_cons_of_mem _ (List.mem_map.mpr ⟨h, hh, rfl⟩)
theorem Dn.add {pl : Plan} {fd : List Cp} (h : Dn pl fd) {e : Cp} (h1 : e.1 < pl.length ∧ PlF pl e.2) (h2 : Reach pl e.1) (h3 : e.1 ∈ headsOf pl ∨ ∃ r ∈ rootsOf pl (headsOf pl), ∃ j, Desc pl r j e) : Dn pl (addK fd (theC (headsOf pl) none fd e)) := by
  rw [theC_none]
  refine ⟨nodup_addK h.nd, fun c hc => ?_, fun c hc => ?_⟩
  · rcases mem_addK.mp hc with hc | rfl
    · exact h.ok c hc
    · unfold cutC
      split
      · exact ⟨h1.1, .nil pl⟩
      · exact h1
  · rcases mem_addK.mp hc with hc | rfl
    · exact h.rt c hc
    · unfold cutC
      split
      · rename_i hh
        exact ⟨h2, _, root_head hh, 0, .zero⟩
      · rename_i hh
        exact ⟨h2, h3.resolve_left hh⟩
theorem Dn.start {pl : Plan} (h0 : 0 < pl.length) : Dn pl (led0 pl (headsOf pl) none).2 := by
  refine Dn.add ⟨.nil, fun _ h => (nomatch h), fun _ h => (nomatch h)⟩ ⟨h0, PlF.start pl⟩ .zero ?_
  by_cases hh : 0 ∈ headsOf pl
  · exact .inl hh
  · refine .inr ⟨(0, startF pl), ?_, 0, .zero⟩
    unfold rootsOf
    rw [if_neg hh]
    exact List.mem_cons_self ..
theorem Dn.fold {pl : Plan} (hw : okWays pl) (h0 : 0 < pl.length) : ∀ {l : List Cp} {s : List Cp × List Nat}, Dn pl s.1 → (∀ e ∈ l, (e.1 < pl.length ∧ PlF pl e.2) ∧ Reach pl e.1 ∧ (e.1 ∈ headsOf pl ∨ ∃ r ∈ rootsOf pl (headsOf pl), ∃ j, Desc pl r j e)) → Dn pl (l.foldl (step1 (headsOf pl) none) s).1
  | [], s, h, _ => h
  | c :: r, s, h, hl => by
    have hc := hl c (List.mem_cons_self ..)
    exact Dn.fold hw h0 (l := r) (s := step1 (headsOf pl) none s c) (h.add hc.1 hc.2.1 hc.2.2) fun e he => hl e (List.mem_cons_of_mem _ he)
theorem Dn.next {pl : Plan} (hw : okWays pl) (h0 : 0 < pl.length) {fd : List Cp} (h : Dn pl fd) {c : Cp} (hc : c ∈ fd) : Dn pl ((stepC pl c).foldl (step1 (headsOf pl) none) (fd, [])).1 := by
  refine Dn.fold hw h0 (s := (fd, [])) h fun e he => ?_
  have ok := h.ok c hc
  obtain ⟨rc, r, hr, j, hd⟩ := h.rt c hc
  have hm : e.1 ∈ waysAt pl c.1 := by rw [waysAt_pc ok.1]; exact mem_leads he
  have re : Reach pl e.1 := .step rc hm
  refine ⟨step_leads hw ok e he, re, ?_⟩
  by_cases hl : e.1 ≤ c.1
  · exact .inl ((mem_heads hw h0).mpr ⟨c.1, rc, hm, hl⟩)
  · exact .inr ⟨r, hr, j + 1, .step hd he (by omega)⟩
theorem sum_le40 {f : Nat → Nat} : ∀ {l m : List Nat}, l.Nodup → (∀ x ∈ l, x ∈ m) → (l.map f).sum ≤ (m.map f).sum
  | [], m, _, _ => Nat.zero_le _
  | x :: l, m, nd, h => by
    have hx := h x (List.mem_cons_self ..)
    obtain ⟨nx, nd'⟩ := List.nodup_cons.mp nd
    have ih := sum_le40 (f := f) (m := m.erase x) nd' fun y hy => by
      have : y ≠ x := fun z => nx (z ▸ hy)
      exact (List.mem_erase_of_ne this).mpr (h y (List.mem_cons_of_mem _ hy))
    have pm := (List.perm_cons_erase hx).map f
    have : (m.map f).sum = ((x :: m.erase x).map f).sum := pm.sum_nat
    rw [this, List.map_cons, List.map_cons, List.sum_cons, List.sum_cons]
    omega
theorem roots40_nd {pl : Plan} : ((rootsOf pl (headsOf pl)).map (·.1)).Nodup := by
  have e : ((headsOf pl).map fun h => ((h, []) : Cp)).map (·.1) = headsOf pl := by rw [List.map_map]; exact List.map_id _
  unfold rootsOf
  split
  · rw [e]; exact heads_nodup
  · rename_i h
    rw [List.map_cons, e]
    exact List.nodup_cons.mpr ⟨h, heads_nodup⟩
theorem Dn.len {pl : Plan} (hw : okWays pl) (h0 : 0 < pl.length) (h7 : pl.length ≤ 7) {fd : List Cp} (h : Dn pl fd) : fd.length ≤ 247 := by
  have sub : fd.length ≤ ((rootsOf pl (headsOf pl)).flatMap fun r => ext pl (6 - r.1) r).length := nodup_le h.nd fun c hc => by
    obtain ⟨_, r, hr, j, hd⟩ := h.rt c hc
    have := hd.rise
    have := (h.ok c hc).1
    exact List.mem_flatMap.mpr ⟨r, hr, ext_le hd.ext (by omega)⟩
  have l1 : ∀ l : List Cp, (l.flatMap fun r => ext pl (6 - r.1) r).length ≤ ((l.map (·.1)).map fun k => 2 ^ (7 - k) - 1).sum + 2 * (l.filter fun r => decide (7 ≤ r.1)).length := by
    intro l
    induction l with
    | nil => simp
    | cons r l ih =>
      rw [List.flatMap_cons, List.length_append, List.map_cons, List.map_cons, List.sum_cons, List.filter_cons]
      have h1 := ext_len (pl := pl) (k := 6 - r.1) (c := r)
      by_cases c : 7 ≤ r.1
      · rw [if_pos (decide_eq_true c), List.length_cons]
        rw [show 6 - r.1 + 1 = 1 by omega] at h1
        omega
      · rw [if_neg (by simpa using c)]
        rw [show 6 - r.1 + 1 = 7 - r.1 by omega] at h1
        omega
  have h2 := l1 (rootsOf pl (headsOf pl))
  have lt : ∀ r ∈ rootsOf pl (headsOf pl), r.1 < 7 := fun r hr => by
    have hh : ∀ k ∈ headsOf pl, k < 7 := fun k hk => by
      obtain ⟨_, rk, hm, _⟩ := (mem_heads hw h0).mp hk
      have := waysAt_lt hw hm
      omega
    unfold rootsOf at hr
    split at hr
    · obtain ⟨k, hk, rfl⟩ := List.mem_map.mp hr; exact hh k hk
    · rcases List.mem_cons.mp hr with rfl | hr
      · show 0 < 7; omega
      · obtain ⟨k, hk, rfl⟩ := List.mem_map.mp hr; exact hh k hk
  have h3 : ((rootsOf pl (headsOf pl)).filter fun r => decide (7 ≤ r.1)) = [] := List.filter_eq_nil_iff.mpr fun r hr => by
    have := lt r hr
    simp; omega
  rw [h3] at h2
  have h4 := sum_le40 (f := fun k => 2 ^ (7 - k) - 1) (m := List.range 7) roots40_nd fun k hk => by
    obtain ⟨r, hr, rfl⟩ := List.mem_map.mp hk
    exact List.mem_range.mpr (lt r hr)
  have h5 : ((List.range 7).map fun k => 2 ^ (7 - k) - 1).sum = 247 := by decide
  simp only [List.length_nil] at h2
  omega
theorem Dn.iter {pl : Plan} (hw : okWays pl) (h0 : 0 < pl.length) : ∀ n, Dn pl (iter (stepE pl (headsOf pl) none) n (led0 pl (headsOf pl) none)).2
  | 0 => .start h0
  | n + 1 => by
    show Dn pl (stepE pl (headsOf pl) none (MP.iter (stepE pl (headsOf pl) none) n (led0 pl (headsOf pl) none))).2
    have ih := Dn.iter hw h0 n
    generalize MP.iter (stepE pl (headsOf pl) none) n (led0 pl (headsOf pl) none) = s at ih
    unfold stepE
    cases e : s.2[s.1.length]? with
    | none => exact ih
    | some c => exact ih.next hw h0 (List.mem_of_getElem? e)
def Need (pl : Plan) (n : Nat) : Prop := ∃ k, (iter (stepE pl (headsOf pl) none) k (led0 pl (headsOf pl) none)).1.length = n ∧ (iter (stepE pl (headsOf pl) none) k (led0 pl (headsOf pl) none)).2.length = n
theorem Need.uniq {pl : Plan} {n m : Nat} (h1 : Need pl n) (h2 : Need pl m) : n = m := by
  obtain ⟨k, a1, a2⟩ := h1
  obtain ⟨j, b1, b2⟩ := h2
  have fx : ∀ {k : Nat}, (iter (stepE pl (headsOf pl) none) k (led0 pl (headsOf pl) none)).1.length = (iter (stepE pl (headsOf pl) none) k (led0 pl (headsOf pl) none)).2.length → ∀ d, iter (stepE pl (headsOf pl) none) (k + d) (led0 pl (headsOf pl) none) = iter (stepE pl (headsOf pl) none) k (led0 pl (headsOf pl) none) := fun {k} h d => by
    rw [iter_add, iter_fix (stepE_fix h)]
  rcases Nat.le_total k j with h | h
  · obtain ⟨d, rfl⟩ := Nat.exists_eq_add_of_le h
    rw [fx (a1.trans a2.symm) d] at b1
    exact a1.symm.trans b1
  · obtain ⟨d, rfl⟩ := Nat.exists_eq_add_of_le h
    rw [fx (b1.trans b2.symm) d] at a1
    exact a1.symm.trans b1
structure NeedG (G : Ctx) : Prop where
  most : G.cst 3 = some (.int 300)
end MP

set_option linter.all false
set_option maxRecDepth 100000
set_option maxHeartbeats 1000000
set_option Elab.async false
namespace MP
local macro_rules
  | `(tactic| clean_wf) => `(tactic| simp only [ws_set, ws_set1, ws_ret, ws_nop, ws_exp, ws_exp1, ws_sidx, ws_sidx1, ws_satt, ws_satt1, ws_aat, ws_aat1, ws_avar, ws_avar1, augK_int, ws_for, ws_forS, wpE, wpA, opt_some, gv_0, gv_s, matP, List.set, b_add, b_addS, b_addT, b_sub, b_mul, b_div, b_mod, b_pow, c_len, c_lenT, c_int, c_intB, c_abs, c_min, c_max, c_tupT, c_eqI, c_neI, c_eqS, c_neS, c_lt, c_le, c_gt, c_ge, c_is, c_isnot, c_isB, c_isnotB, c_idxT, g_0, g_1, g_2, g_3, g_4, g_5, g_6, o_non, o_int, Bool.not_true, Bool.not_false, br_t, br_f, c_itA, c_itT, c_itS, wipe])
local macro_rules
  | `(tactic| sizeOf_list_dec) => `(tactic| first
    | assumption
    | exact Ne.symm (by assumption)
    | exact ne_new (by assumption) (by assumption)
    | exact Ne.symm (ne_new (by assumption) (by assumption))
    | exact BagAt.ne (by assumption) (by assumption)
    | exact Ne.symm (BagAt.ne (by assumption) (by assumption))
    | exact id)
local macro_rules
  | `(tactic| array_mem_dec) => `(tactic| first
    | assumption
    | exact up_same
    | (refine (up_ne (by sizeOf_list_dec)).trans ?_; array_mem_dec)
    | (refine (by assumption : Kept _ _ _) _ _ (by sizeOf_list_dec) ?_; array_mem_dec)
    | (refine BagAt.new ?_ (by assumption); array_mem_dec)
    | (refine BagAt.off ?_ (by sizeOf_list_dec); array_mem_dec)
    | (refine BagAt.keep ?_ (by assumption) (by sizeOf_list_dec); array_mem_dec)
    | exact Kept.refl
    | exact Kept.new (by assumption)
    | (refine Kept.trans ?_ (by assumption); array_mem_dec)
    | (refine Kept.loc (by assumption) ?_; array_mem_dec)
    | (refine Kept.nw (by assumption) ?_; array_mem_dec))
variable {μ μ' μ1 μ2 : Sto} {a b p q : Nat} {l : List D} {i : Int} {x y d : D} {o : Ob} {ρ : Env}
mutual
theorem toW_eqbX : ∀ {n m : Nat} {d e : D}, D.ok n d = true → D.ok m e = true → W.eqb (toW d) (toW e) = D.eqb d e
  | 0, _, d, _, h, _ => by cases d <;> cases h
  | _ + 1, 0, _, e, _, h => by cases e <;> cases h
  | n + 1, m + 1, d, e, h1, h2 => by
    cases d with
    | tup xs =>
      cases e with
      | tup ys => exact toWs_eqbX (n := n) (m := m) h1 h2
      | ref b => cases h2
      | scr b => cases h2
      | _ => rfl
    | ref b => cases h1
    | scr b => cases h1
    | _ =>
      cases e with
      | ref b => cases h2
      | scr b => cases h2
      | _ => rfl
theorem toWs_eqbX : ∀ {n m : Nat} {l r : List D}, l.all (D.ok n) = true → r.all (D.ok m) = true → W.eqbs (toWs l) (toWs r) = D.eqbs l r
  | _, _, [], [], _, _ => rfl
  | _, _, [], _ :: _, _, _ => rfl
  | _, _, _ :: _, [], _, _ => rfl
  | n, m, x :: l, y :: r, h1, h2 => by
    rw [List.all_cons, Bool.and_eq_true] at h1 h2
    show (W.eqb (toW x) (toW y) && W.eqbs (toWs l) (toWs r)) = (D.eqb x y && D.eqbs l r)
    rw [toW_eqbX h1.1 h2.1, toWs_eqbX h1.2 h2.2]
end
theorem eqP_dl {l r : List D} {k : Bool → Prop} (ha : μ a = some (.lst l)) (hb : μ b = some (.lst r)) (h : l.all (D.ok 59) = true) (h' : r.all (D.ok 59) = true) (q : k (D.eqbs l r)) : eqP (.ref a) (.ref b) μ k := by
  obtain ⟨h1, h2, _⟩ := toWs_is (μ := μ) h
  obtain ⟨g1, g2, _⟩ := toWs_is (μ := μ) h'
  refine .inr (.inl ⟨.lst (toWs l), .lst (toWs r), ⟨a, l, rfl, ha, h1⟩, ⟨b, r, rfl, hb, g1⟩, h2, g2, ?_⟩)
  show k (W.eqbs (toWs l) (toWs r))
  rw [toWs_eqbX h h']; exact q
theorem ne_dl {l r : List D} {k : Bool → Prop} (ha : μ a = some (.lst l)) (hb : μ b = some (.lst r)) (h : l.all (D.ok 59) = true) (h' : r.all (D.ok 59) = true) (q : k (!D.eqbs l r)) : cmpP .ne (.ref a) (.ref b) μ k := eqP_dl (k := fun b => k (!b)) ha hb h h' q
end MP

set_option linter.all false
set_option maxRecDepth 100000
set_option maxHeartbeats 1000000
set_option Elab.async false
namespace MP
local macro_rules
  | `(tactic| clean_wf) => `(tactic| simp only [ws_set, ws_set1, ws_ret, ws_nop, ws_exp, ws_exp1, ws_sidx, ws_sidx1, ws_satt, ws_satt1, ws_aat, ws_aat1, ws_avar, ws_avar1, augK_int, ws_for, ws_forS, wpE, wpA, opt_some, gv_0, gv_s, matP, List.set, b_add, b_addS, b_addT, b_sub, b_mul, b_div, b_mod, b_pow, c_len, c_lenT, c_int, c_intB, c_abs, c_min, c_max, c_tupT, c_eqI, c_neI, c_eqS, c_neS, c_lt, c_le, c_gt, c_ge, c_is, c_isnot, c_isB, c_isnotB, c_idxT, g_0, g_1, g_2, g_3, g_4, g_5, g_6, o_non, o_int, Bool.not_true, Bool.not_false, br_t, br_f, c_itA, c_itT, c_itS, wipe])
local macro_rules
  | `(tactic| sizeOf_list_dec) => `(tactic| first
    | assumption
    | exact Ne.symm (by assumption)
    | exact ne_new (by assumption) (by assumption)
    | exact Ne.symm (ne_new (by assumption) (by assumption))
    | exact BagAt.ne (by assumption) (by assumption)
    | exact Ne.symm (BagAt.ne (by assumption) (by assumption))
    | exact id)
local macro_rules
  | `(tactic| array_mem_dec) => `(tactic| first
    | assumption
    | exact up_same
    | (refine (up_ne (by sizeOf_list_dec)).trans ?_; array_mem_dec)
    | (refine (by assumption : Kept _ _ _) _ _ (by sizeOf_list_dec) ?_; array_mem_dec)
    | (refine BagAt.new ?_ (by assumption); array_mem_dec)
    | (refine BagAt.off ?_ (by sizeOf_list_dec); array_mem_dec)
    | (refine BagAt.keep ?_ (by assumption) (by sizeOf_list_dec); array_mem_dec)
    | exact Kept.refl
    | exact Kept.new (by assumption)
    | (refine Kept.trans ?_ (by assumption); array_mem_dec)
    | (refine Kept.loc (by assumption) ?_; array_mem_dec)
    | (refine Kept.nw (by assumption) ?_; array_mem_dec))
variable {μ μ' μ1 μ2 : Sto} {a b p q : Nat} {l : List D} {i : Int} {x y d : D} {o : Ob} {ρ : Env}
def f_NoPlan___init__ : FD := ⟨2, 2, (.seq (.expr (.vei (.cons (.var 0) (.cons (.cs [97, 32, 108, 105, 110, 101, 32, 119, 114, 105, 116, 101, 115, 32, 110, 111, 32, 112, 105, 101, 99, 101]) .nil)))) (.setLn (.var 0) (.var 1)))⟩
def f_kinds : FD := ⟨1, 2, (.seq (.set (.v 1) (.lst (.cons (.isx (.var 0) [(0, false), (1, false), (2, false), (3, false), (5, true)]) (.cons (.isx (.var 0) [(0, true), (1, false), (2, false), (3, false), (5, false)]) (.cons (.isx (.var 0) [(0, false), (1, false), (2, true), (3, false), (5, false)]) (.cons (.isx (.var 0) [(0, false), (1, false), (2, false), (3, true), (5, false)]) .nil)))))) (.ret (.bin .add (.var 1) (.lst (.cons (.isx (.var 0) [(0, false), (1, true), (2, false), (3, false), (5, false)]) (.cons (.isx (.var 0) [(0, true), (1, true), (2, true), (3, true), (5, true)]) (.cons (.isx (.var 0) [(0, true), (1, true), (2, true), (3, true), (5, true)]) .nil)))))))⟩
def f_law_k23 : FD := ⟨1, 8, (.seq (.for (.v 1) .range (.cons (.bin .add (.ci 1) (.prim .min2 (.cons (.prim .len (.cons (.var 0) .nil)) (.cons (.ci 20) .nil)))) .nil) (.seq (.set (.v 2) (.call 42 (.cons (.var 0) (.cons (.var 1) .nil)))) (.seq (.set (.v 3) (.idx (.lst (.cons (.cs []) (.cons (.cs [97, 32, 116, 101, 120, 116]) (.cons (.cs [110, 111]) .nil)))) (.call 136 (.cons (.var 2) (.cons (.ci 3) .nil))))) (.seq (.set (.v 4) (.idx (.lst (.cons (.call 136 (.cons (.var 2) (.cons (.ci 400) .nil))) (.cons (.call 136 (.cons (.var 2) (.cons (.bin .pow (.ci 10) (.ci 39)) .nil))) .nil))) (.call 136 (.cons (.var 2) (.cons (.ci 2) .nil))))) (.seq (.set (.v 5) (.lst (.cons (.mkE 5 (.var 3)) (.cons (.mkE 0 (.var 3)) (.cons (.mkE 2 (.var 3)) (.cons (.mkE 3 (.var 3)) (.cons (.mkN 1 20 (.cons (.var 4) .nil)) .nil))))))) (.seq (.for (.v 6) .range (.cons (.ci 5) .nil) (.ite (.cmp .ne (.call 79 (.cons (.idx (.var 5) (.var 6)) .nil)) (.bin .add (.comp (.cmp .eq (.var 7) (.var 6)) (.v 7) .range (.cons (.ci 5) .nil) (.cb true) [7]) (.lst (.cons (.cb true) (.cons (.cb true) .nil))))) (.ret (.cb false)) .nop)) (.ite (.or (.cmp .ne (.lin (.idx (.var 5) (.ci 4))) (.var 4)) (.isi (.lin (.idx (.var 5) (.ci 4))) .bool)) (.ret (.cb false)) .nop))))))) (.ret (.cb true)))⟩
abbrev NpInitS (F : Fn) : Prop := ∀ {p c : Nat} {d : D} {μ : Sto} {Q : D → Sto → Prop} {X : EX}, μ p = some (.exn c) → Q .non (upd μ p (.exc c (some d))) → F [.ref p, d] μ Q X
theorem exn_at {c : Nat} {K : Nat → Nat → Prop} (h : μ a = some (.exn c)) (q : K a c) : exnP (.ref a) μ K := by
  unfold exnP; simp only [h]; exact q
theorem exc_at {c : Nat} {o : Option D} {K : Nat → Option D → Prop} (h : μ a = some (.exc c o)) (q : K c o) : excP (.ref a) μ K := by
  unfold excP; simp only [h]; exact q
theorem npinit_ok (G : Ctx) : NpInitS (runF G f_NoPlan___init__) := by
  intro p c d μ Q X h q
  refine ⟨rfl, ?_⟩
  show wpS G f_NoPlan___init__.body [some (.ref p), some d] μ _
  unfold f_NoPlan___init__
  clean_wf
  refine exn_at h ?_
  show exnP (.ref p) μ fun p c => Q .non (upd μ p (.exc c (some d)))
  refine exn_at h ?_
  exact q
def kdsL (c : Nat) : List D := [.bl (c == 5), .bl (c == 0), .bl (c == 2), .bl (c == 3), .bl (c == 1), .bl true, .bl true]
abbrev KindsS (F : Fn) : Prop := ∀ {a c : Nat} {o : Option D} {μ : Sto} {Q : D → Sto → Prop} {X : EX}, μ a = some (.exc c o) → c ∈ [5, 0, 2, 3, 1] → (∀ r μ', μ' r = some (.lst (kdsL c)) → Kn μ μ' → Q (.ref r) μ') → F [.ref a] μ Q X
theorem kinds_ok (G : Ctx) : KindsS (runF G f_kinds) := by
  intro a c o μ Q X h hc k
  refine ⟨rfl, ?_⟩
  show wpS G f_kinds.body [some (.ref a), none] μ _
  unfold f_kinds
  clean_wf
  simp only [List.mem_cons, List.not_mem_nil, or_false] at hc
  have fin : ∀ {l1 l2 : List D}, l1 ++ l2 = kdsL c → l1.length + l2.length ≤ 100 → ∀ p1, μ p1 = none → ∀ p2, (upd μ p1 (.lst l1)) p2 = none → binP .add (.ref p1) (.ref p2) (upd (upd μ p1 (.lst l1)) p2 (.lst l2)) Q := fun {l1 l2} e hl p1 h1 p2 h2 => by
    refine add_lst (up_old up_same h2) up_same (by omega) fun d hd => ?_
    rw [e]
    exact k d _ up_same (Kept.nw hd (Kept.nw h2 (Kept.new h1)))
  rcases hc with rfl | rfl | rfl | rfl | rfl
  all_goals
    refine exc_at h (opt_of rfl ?_)
    refine exc_at h (opt_of rfl ?_)
    refine exc_at h (opt_of rfl ?_)
    refine exc_at h (opt_of rfl ?_)
    intro p1 h1
    clean_wf
    refine exc_at (up_old h h1) (opt_of rfl ?_)
    refine exc_at (up_old h h1) (opt_of rfl ?_)
    refine exc_at (up_old h h1) (opt_of rfl ?_)
    intro p2 h2
    exact fin rfl (by decide) p1 h1 p2 h2
theorem it_range23 {n : Nat} {k : List D → (Sto → Prop) → Prop} (h : n ≤ 1000000) (q : k ((List.range n).map encN) fun _ => True) : iterP .range [.int (n : Int)] μ k := by
  refine ⟨⟨by omega, by omega⟩, ?_⟩
  show k (rangeL 0 (n : Int).toNat 1) _
  have e : rangeL 0 n 1 = (List.range n).map encN := by
    unfold rangeL
    refine List.map_congr_left fun i _ => ?_
    show D.int (0 + (i : Int) * 1) = .int (i : Int)
    rw [show 0 + (i : Int) * 1 = i by omega]
  rw [show (n : Int).toNat = n by omega, e]; exact q
abbrev cls23 : List Nat := [5, 0, 2, 3, 1]
theorem kds_ix {j : Nat} (hj : j < 5) : ∃ c, cls23[j]? = some c ∧ c ∈ cls23 ∧ kdsL c = (List.range 5).map (fun (i : Nat) => D.bl (decide ((i : Int) = (j : Int)))) ++ [.bl true, .bl true] := by
  have : j = 0 ∨ j = 1 ∨ j = 2 ∨ j = 3 ∨ j = 4 := by omega
  rcases this with rfl | rfl | rfl | rfl | rfl
  · exact ⟨5, rfl, by decide, rfl⟩
  · exact ⟨0, rfl, by decide, rfl⟩
  · exact ⟨2, rfl, by decide, rfl⟩
  · exact ⟨3, rfl, by decide, rfl⟩
  · exact ⟨1, rfl, by decide, rfl⟩
theorem kds_ok {c : Nat} : (kdsL c).all (D.ok 59) = true := rfl
theorem law23_ok {G : Ctx} (hG : Mono G) (hB : BagS (G.fn 42)) (hT : TakeS (G.fn 136)) (hN : NpInitS (G.fn 20)) (hK : KindsS (G.fn 79))
    {ns : List Int} (hn : ns.length ≤ 63) {X : EX} : runF G f_law_k23 [.scr ns] (fun _ => none) (fun v _ => v = .bl true) X := by
  refine ⟨rfl, ?_⟩
  show wpS G f_law_k23.body [some (.scr ns), none, none, none, none, none, none, none] _ _
  unfold f_law_k23
  clean_wf
  show lenP (.scr ns) _ _
  rw [show lenP (.scr ns) = fun μ Q => Q (.int ns.length) μ from rfl]
  dsimp only
  rw [c_min]
  clean_wf
  rw [show (1 : Int) + min (ns.length : Int) 20 = ((1 + min ns.length 20 : Nat) : Int) by omega]
  have hturns : 1 + min ns.length 20 ≤ 21 := by omega
  generalize 1 + min ns.length 20 = turns at hturns ⊢
  refine it_range23 (by omega) ?_
  refine for_ix (fun i ρ μ' => ∃ o1 o2 o3 o4 o5 o6 : Option D, ρ = [some (.scr ns), o1, o2, o3, o4, o5, o6, none]) (fun _ _ _ _ => trivial) ?_ ?_ ⟨_, _, _, _, _, _, rfl⟩
  · rintro i dd hdd ρ μ1 K ⟨o1, o2, o3, o4, o5, o6, rfl⟩ hK'
    obtain ⟨i', hi', rfl⟩ := map_get? hdd
    have hil : i < turns := by
      have := (List.getElem?_eq_some_iff.mp hi').1
      rw [List.length_range] at this; exact this
    rw [List.getElem?_range hil] at hi'
    cases hi'
    clean_wf
    refine hB (by omega) (by omega) fun b μ2 hb b2 k2 => ?_
    clean_wf
    intro a ha
    refine hT (b2.new ha) (by decide) (by decide) fun r1 μ3 r10 r11 b3 k3 => ?_
    have e3 := k3 a _ (b2.ne ha) up_same
    obtain ⟨w, ew⟩ : ∃ w, getI [D.str [], .str [97, 32, 116, 101, 120, 116], .str [110, 111]] r1 = some (.str w) := by
      have : r1 = 0 ∨ r1 = 1 ∨ r1 = 2 := by omega
      rcases this with rfl | rfl | rfl <;> exact ⟨_, rfl⟩
    refine idx_lst e3 ew ?_
    clear ew e3 k3 ha b2 k2 hb
    clean_wf
    refine hT b3 (by decide) (by decide) fun r2 μ4 r20 r21 b4 k4 => ?_
    refine ⟨by decide, ?_⟩
    refine hT b4 (by decide) (by decide) fun r3 μ5 r30 r31 b5 k5 => ?_
    intro c hc
    refine hT (b5.new hc) (by decide) (by decide) fun r4 μ6 r40 r41 b6 k6 => ?_
    have e6 := k6 c _ (b5.ne hc) up_same
    obtain ⟨n, en⟩ : ∃ n : Int, getI [D.int r2, .int r3] r4 = some (.int n) := by
      have : r4 = 0 ∨ r4 = 1 := by omega
      rcases this with rfl | rfl <;> exact ⟨_, rfl⟩
    refine idx_lst e6 en ?_
    clear e6 en k6 hc b5 k5 b4 k4 b3
    clean_wf
    intro p5 h5 p0 h0 p2 h2 p3 h3 p1 h1
    refine hN up_same ⟨rfl, ?_⟩
    intro v hv
    have f1 : ∀ {o : Ob} {q : Nat}, upd (upd (upd (upd (upd (upd μ6 p5 (.exc 5 none)) p0 (.exc 0 none)) p2 (.exc 2 none)) p3 (.exc 3 none)) p1 (.exn 1)) p1 (.exc 1 (some (.int n))) q = some o → upd (upd (upd (upd (upd (upd (upd μ6 p5 (.exc 5 none)) p0 (.exc 0 none)) p2 (.exc 2 none)) p3 (.exc 3 none)) p1 (.exn 1)) p1 (.exc 1 (some (.int n)))) v (.lst [.ref p5, .ref p0, .ref p2, .ref p3, .ref p1]) q = some o := fun e => up_old e hv
    have u3 : ∀ {o : Ob} {q : Nat}, upd (upd (upd (upd μ6 p5 (.exc 5 none)) p0 (.exc 0 none)) p2 (.exc 2 none)) p3 (.exc 3 none) q = some o → upd (upd (upd (upd (upd (upd μ6 p5 (.exc 5 none)) p0 (.exc 0 none)) p2 (.exc 2 none)) p3 (.exc 3 none)) p1 (.exn 1)) p1 (.exc 1 (some (.int n))) q = some o := fun e => by rw [up_ne (ne_new e h1)]; exact up_old e h1
    have g5 := f1 (u3 (up_old (up_old (up_old (o' := .exc 0 none) (up_same (μ := μ6) (a := p5) (o := .exc 5 none)) h0) h2) h3))
    have g0 := f1 (u3 (up_old (up_old (o' := .exc 2 none) (up_same (μ := upd μ6 p5 (.exc 5 none)) (a := p0) (o := .exc 0 none)) h2) h3))
    have g2 := f1 (u3 (up_old (o' := .exc 3 none) (up_same (μ := upd (upd μ6 p5 (.exc 5 none)) p0 (.exc 0 none)) (a := p2) (o := .exc 2 none)) h3))
    have g3 := f1 (u3 (up_same (μ := upd (upd (upd μ6 p5 (.exc 5 none)) p0 (.exc 0 none)) p2 (.exc 2 none)) (a := p3) (o := .exc 3 none)))
    have g1 := f1 (up_same (μ := upd (upd (upd (upd (upd μ6 p5 (.exc 5 none)) p0 (.exc 0 none)) p2 (.exc 2 none)) p3 (.exc 3 none)) p1 (.exn 1)) (a := p1) (o := .exc 1 (some (.int n))))
    have gv := up_same (μ := upd (upd (upd (upd (upd (upd μ6 p5 (.exc 5 none)) p0 (.exc 0 none)) p2 (.exc 2 none)) p3 (.exc 3 none)) p1 (.exn 1)) p1 (.exc 1 (some (.int n)))) (a := v) (o := .lst [.ref p5, .ref p0, .ref p2, .ref p3, .ref p1])
    clear f1 u3
    generalize upd _ v _ = μ7 at g5 g0 g2 g3 g1 gv ⊢
    clear hv h1 h3 h2 h0 h5 b6
    clean_wf
    refine it_range23 (n := 5) (by decide) ?_
    refine for_ix (fun _ ρ μ' => Kn μ7 μ' ∧ ∃ o6, ρ = [some (.scr ns), some (encN i), some (.ref b), some (.str w), some (.int n), some (.ref v), o6, none]) (fun _ _ _ _ => trivial) ?_ ?_ ⟨.refl, _, rfl⟩
    · rintro j dd hdd ρ μ8 K2 ⟨k8, o6, rfl⟩ hK2
      obtain ⟨j', hj', rfl⟩ := map_get? hdd
      have hjl : j < 5 := by
        have := (List.getElem?_eq_some_iff.mp hj').1
        rw [List.length_range] at this; exact this
      rw [List.getElem?_range hjl] at hj'
      cases hj'
      obtain ⟨c, ec, hc, ek⟩ := kds_ix hjl
      obtain ⟨q, o, eq1, eq2⟩ : ∃ q o, getI [D.ref p5, .ref p0, .ref p2, .ref p3, .ref p1] (j : Int) = some (.ref q) ∧ μ7 q = some (.exc c o) := by
        have : j = 0 ∨ j = 1 ∨ j = 2 ∨ j = 3 ∨ j = 4 := by omega
        rcases this with rfl | rfl | rfl | rfl | rfl <;> cases ec
        · exact ⟨_, _, rfl, g5⟩
        · exact ⟨_, _, rfl, g0⟩
        · exact ⟨_, _, rfl, g2⟩
        · exact ⟨_, _, rfl, g3⟩
        · exact ⟨_, _, rfl, g1⟩
      refine ite_M28 hG (fun b' μ' => b' = false ∧ Kn μ7 μ') ?_ (fun _ h => nomatch h.1) fun μ9 ⟨_, k9⟩ => ?_
      · clean_wf
        refine idx_lst (k8 _ _ id gv) eq1 ?_
        refine hK (k8 _ _ id eq2) hc fun r μ9 er k9 => ?_
        refine it_range23 (n := 5) (by decide) ?_
        refine comp_mp encN (fun (i : Nat) => D.bl (decide ((i : Int) = (j : Int)))) (fun μ' => μ' = μ9) (fun _ _ => trivial) (fun i hi μ10 K' e10 hK' => ?_) (by decide) rfl fun μ10 e10 => ?_
        · subst e10
          clean_wf
          exact hK' _ rfl
        subst e10
        intro f hf
        clean_wf
        intro f2 hf2
        refine add_lst (up_old up_same hf2) up_same (by simp) fun f3 hf3 => ?_
        have k12 := Kept.nw (S := fun _ => False) (o := .lst ((List.range 5).map (fun (i : Nat) => D.bl (decide ((i : Int) = (j : Int)))) ++ [.bl true, .bl true])) hf3 (Kept.nw (o := .lst [.bl true, .bl true]) hf2 (Kept.new (o := .lst ((List.range 5).map (fun (i : Nat) => D.bl (decide ((i : Int) = (j : Int)))))) hf))
        rw [← ek] at k12 ⊢
        refine ne_dl (k12 _ _ id er) up_same kds_ok kds_ok ?_
        refine ⟨_, rfl, ?_, k8.trans (k9.trans k12)⟩
        simp only [List.mem_cons, List.not_mem_nil, or_false] at hc
        rcases hc with rfl | rfl | rfl | rfl | rfl <;> rfl
      · exact hK2 _ _ ⟨k9, _, rfl⟩
    · rintro ρ μ8 ⟨k8, o6, rfl⟩
      refine ite_M28 hG (fun b' μ' => b' = false ∧ μ' = μ8) ?_ (fun _ h => nomatch h.1) fun μ9 _ => ?_
      · clean_wf
        refine idx_lst (k8 _ _ id gv) (x := .ref p1) rfl ?_
        refine exc_at (k8 _ _ id g1) (opt_of rfl ?_)
        rw [c_neI]
        rw [decide_eq_true rfl]
        refine nay ?_
        refine idx_lst (k8 _ _ id gv) (x := .ref p1) rfl ?_
        refine exc_at (k8 _ _ id g1) (opt_of rfl ?_)
        exact ⟨True.intro, _, rfl, rfl, by trivial⟩
      · exact hK' _ _ ⟨_, _, _, _, _, _, rfl⟩
  · rintro ρ μ1 ⟨o1, o2, o3, o4, o5, o6, rfl⟩
    clean_wf
end MP

set_option linter.all false
set_option maxRecDepth 100000
set_option maxHeartbeats 0
set_option Elab.async false
namespace MP
open PySem
def fldG : List Str := ((["__init__", "alone", "apart", "copies", "do", "exchange", "first_for", "found", "go", "hand", "heads", "is_yes", "keep", "kept", "lacks", "laid", "lead_on", "line", "made", "make", "makings", "many", "most", "numbers", "other", "other_kept", "paper", "piece", "piece_for", "piece_of"] : List Str) ++ (["pieces", "place", "places", "plan", "plans", "runner", "said", "say", "stand", "step", "steps", "taken", "to_copy", "told", "undone", "with_piece", "word", "worth", "worths"] : List Str))
def exsG : List (Str × Nat) := [("NoPiece", 0), ("NoPlan", 1), ("NoRow", 2), ("NothingLeft", 3), ("PlanError", 4), ("TooMany", 5)]
end MP
namespace MP.K23
open PySem PySem.Spec PyProof.Rows L2 MP
def top (i : Nat) : Stmt := (PySem.Challenge.pw_ledpast_k23_refusals_apart).main.body.getD i (.Pass ⟨0, 0, 0, 0⟩)
def clsBody : Stmt → List Stmt
  | .ClassDef _ _ _ b _ _ _ _ _ _ _ => b
  | _ => []
def sub (i j : Nat) : Stmt := (clsBody (top i)).getD j (.Pass ⟨0, 0, 0, 0⟩)

def d0 : DE := ⟨20, (some "NoPlan"), "__init__", "NoPlan.__init__", (sub 6 0), ["self", "line"], f_NoPlan___init__, []⟩
def d1 : DE := ⟨42, none, "_law_bag", "_law_bag", (top 8), ["script", "k", "cell"], f_bag, []⟩
def d2 : DE := ⟨136, none, "_law_take", "_law_take", (top 9), ["bag", "many", "found"], f_take, []⟩
def d3 : DE := ⟨79, none, "_law_kinds", "_law_kinds", (top 10), ["e", "kinds"], f_kinds, []⟩
def d4 : DE := ⟨187, none, "law", "law", (top 11), ["script", "k", "bag", "word", "line", "made", "j", "i"], f_law_k23, []⟩
def ds : List DE := ([d0, d1, d2, d3, d4] : List DE)
def txt : Txt where
  ds := ds
  cn := []
  ci := []
  cs := []
  fld := fldG
  mt := []
  fl := []
  exs := [("NoPiece", 0), ("NoPlan", 1), ("NoRow", 2), ("NothingLeft", 3), ("TooMany", 5)]
  ct := []
  lnd := [1]
  ks := (([((0, "TooMany"), false), ((0, "NoPiece"), true), ((0, "NoRow"), false), ((0, "NothingLeft"), false), ((0, "NoPlan"), false), ((0, "PlanError"), true), ((0, "ValueError"), true), ((1, "TooMany"), false), ((1, "NoPiece"), false), ((1, "NoRow"), false), ((1, "NothingLeft"), false), ((1, "NoPlan"), true)] : List ((Nat × Str) × Bool)) ++ ([((1, "PlanError"), true), ((1, "ValueError"), true), ((2, "TooMany"), false), ((2, "NoPiece"), false), ((2, "NoRow"), true), ((2, "NothingLeft"), false), ((2, "NoPlan"), false), ((2, "PlanError"), true), ((2, "ValueError"), true), ((3, "TooMany"), false), ((3, "NoPiece"), false), ((3, "NoRow"), false)] : List ((Nat × Str) × Bool)) ++ ([((3, "NothingLeft"), true), ((3, "NoPlan"), false), ((3, "PlanError"), true), ((3, "ValueError"), true), ((5, "TooMany"), true), ((5, "NoPiece"), false), ((5, "NoRow"), false), ((5, "NothingLeft"), false), ((5, "NoPlan"), false), ((5, "PlanError"), true), ((5, "ValueError"), true)] : List ((Nat × Str) × Bool)))
  xn := [1]
  vb := ["PlanError"]
theorem okTab : txt.okTab = true := by decide +kernel
theorem okDs : txt.okDs = true := by decide +kernel
theorem m42 : ∀ k, 1 ≤ k → BagS ((txt.ctx k).fn 42) := txt.up (f := 42) (fd := f_bag) (fun F => BagS F) rfl 0 fun k hk => bag_ok _
theorem m136 : ∀ k, 1 ≤ k → TakeS ((txt.ctx k).fn 136) := txt.up (f := 136) (fd := f_take) (fun F => TakeS F) rfl 0 fun k hk => take_ok _
theorem m20 : ∀ k, 1 ≤ k → NpInitS ((txt.ctx k).fn 20) := txt.up (f := 20) (fd := f_NoPlan___init__) (fun F => NpInitS F) rfl 0 fun k hk => npinit_ok _
theorem m79 : ∀ k, 1 ≤ k → KindsS ((txt.ctx k).fn 79) := txt.up (f := 79) (fd := f_kinds) (fun F => KindsS F) rfl 0 fun k hk => kinds_ok _
theorem core : ∀ ns : List Int, ns.length ≤ 63 → (txt.ctx 2).fn 187 [.scr ns] (fun _ => none) (fun v _ => v = .bl true) XF := by
  intro ns hn
  have k : Nat := 0
  rw [txt.fn_lev 1 (f := 187) (fd := f_law_k23) rfl]
  exact law23_ok (txt.mono_ctx 1) (m42 1 (by decide)) (m136 1 (by decide)) (m20 1 (by decide)) (m79 1 (by decide)) hn
abbrev R : PySem.W.OpenRow := PySem.W.OpenLaw.row PySem.Challenge.rw_ledpast_k23_refusals_apart
abbrev hk : PySem.W.Hook := MP.hookY 5 txt.fas txt.dds txt.tf txt.ex
def ob (s : PySem.W.SharedT) : He.AlX := MP.obsY 5 txt.fas txt.dds txt.tf txt.ex (HandSHeadRun.getT s)
theorem ob_eq (s : PySem.W.SharedT) : ob s = hk.obs s.abs := MP.obsY_eq (HandSHeadRun.getT_eq s)
def looseL : List PySem.Str := ["PlanError", "TooMany", "NoPiece", "NoRow", "NothingLeft", "NoPlan", "_law_bag", "_law_take", "_law_kinds"]
theorem run (w : World) : HandSHeadRun.RunEq R (PySem.W.view R.prog [11]) hk ob 4000 looseL w := by
  intro os
  kernel_rfl
end MP.K23
open PySem PySem.W PySem.Calls PyProof.Rows
set_option maxRecDepth 100000 in
set_option maxHeartbeats 0 in
theorem PySem.Challenge.cw_ledpast_k23_refusals_apart_holds : PySem.Challenge.rw_ledpast_k23_refusals_apart.Holds := by
  w_on; o_law
  refine HandSHeadRun.head_any (r := OpenLaw.row PySem.Challenge.rw_ledpast_k23_refusals_apart) (q := view (OpenLaw.row PySem.Challenge.rw_ledpast_k23_refusals_apart).prog [11]) (H := MP.K23.hk) (ob := MP.K23.ob) (M := 4000) (loose := MP.K23.looseL) (d := HandSHeadRun.topDef (OpenLaw.row PySem.Challenge.rw_ledpast_k23_refusals_apart).prog 11) (kwd := []) MP.K23.ob_eq
    (by kernel_rfl) (fun s => by kernel_rfl) MP.K23.run (by kernel_rfl) (by kernel_rfl) (by kernel_rfl) (by rfl) (by first | assumption | decide +kernel) (by decide +kernel) ⟨rfl, rfl, rfl, rfl, rfl, by decide +kernel⟩ ?hw ?hc
  case hw => w_witness2
  case hc =>
    refine LamX.walk_ofTsE (l := PySem.Challenge.rw_ledpast_k23_refusals_apart) (n := 63) (k := 4) (x := "script") (CX := fun _ => L2.CX0) rfl (by decide) (by kernel_rfl) ⟨rfl, by decide, by decide⟩ ?F (fun _ _ _ _ _ z => z)
    intro w mg fa h Y G hmg0
    obtain ⟨K, KX, c⟩ := Y
    have hmg : mg ("law" : PySem.Str) = some (.ref fa) := by
      have e : (HandSHeadRun.topDef (OpenLaw.row PySem.Challenge.rw_ledpast_k23_refusals_apart).prog 11).name = ("law" : PySem.Str) := by kernel_rfl
      rw [← e]
      exact hmg0
    exact ⟨K, KX, MP.law_facts (d := MP.K23.d4) (x := "script") (n := 63) (k := 2) (l := PySem.Challenge.rw_ledpast_k23_refusals_apart) (P := (PySem.Challenge.rw_ledpast_k23_refusals_apart).prog) (w := w) rfl KX G hmg c MP.K23.okTab MP.K23.okDs (List.getElem_mem (l := MP.K23.ds) (n := 4) (by decide +kernel)) rfl rfl (by decide +kernel) MP.K23.core⟩
