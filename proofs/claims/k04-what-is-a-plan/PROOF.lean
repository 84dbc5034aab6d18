import PyProof.Rows.All
import Wide.All
import OpenK.AllK
import Wide.FinOn
import KE.KStateDown
import PySem.Str
import HandS.ForMost
import HandS.Wide
import HandS.TupAny
import HandS.Deep
import HandS.Lambda
import KE.KDictKeyed
import HandS.TupMul
import HandS.Style
import HandS.Flow
import HandS.DictComp
import HandS.IsInst
import HandS.More
import HandS.TupLen
import HandS.Text
import KE.IntTextLaws
import HandS.Conv
import HandS.SortInts
import HandS.Codes
import HandS.RaiseMore
import HandS.Remove
import HandS.SetFor
import HandS.SortKw
import KE.SortKeyHeap
import HandS.Iter
import KE.GoesEnum
import HandS.Zip
import HandS.HeadWalk
import HandS.Ends
import HandS.Words
import HandS.Defaults
import HandS.Head0
import HandS.Head1
import HandS.Head2
import HandS.HeadEnd
import HandS.HeadHook1
import HandS.HeadHook2
import HandS.HeadHook3
import HandS.HeadHook4
import HandS.EndTab
import HandS.NestedK
import PySem.Challenge.RW_ledpast_k04_what_is_a_plan
set_option linter.all false
set_option linter.all false
set_option maxRecDepth 100000
/-! MP0: a small core language (data, store, expressions, statements) and its weakest preconditions. -/
namespace MP
/-- data: tuples by value, lists, dicts and instances by address -/
inductive D where
  | non | bl (b : Bool) | int (i : Int) | str (x : List Nat) | tup (xs : List D) | ref (a : Nat)
  /-- the script: a list of ints that is only read -/
  | scr (l : List Int)
  deriving Repr, Inhabited
inductive Ob where
  | lst (l : List D)
  /-- a dict with keys that are ints and texts; one with keys that are tuples -/
  | dF (l : List (D × D)) | dT (l : List (D × D))
  /-- a dict that is walked just now: read, never written -/
  | dL (l : List (D × D))
  /-- an instance: its class, its fields -/
  | ins (c : Nat) (l : List (Nat × D))
  deriving Inhabited
abbrev Sto := Nat → Option Ob
abbrev Env := List (Option D)
def upd (μ : Sto) (a : Nat) (o : Ob) : Sto := fun b => if b = a then some o else μ b

inductive BOp where
  | add | sub | mul | fdiv | mod | pow
  deriving DecidableEq, Repr
inductive COp where
  | eq | ne | lt | le | gt | ge | isin | notin | is | isnot
  deriving DecidableEq, Repr
inductive Ty where
  | int | bool | tuple | str
  deriving DecidableEq, Repr
inductive Prim where
  | len | abs | min2 | max2 | min1 | max1 | int | str | list | tuple | dict | sorted | all
  | append | pop | popAt | dpop | dpop1 | get | insert | remove | index | count | extend | join | split
  deriving DecidableEq, Repr
/-- how an iterable is made -/
inductive IK where
  | any | range | enum | zip
  deriving DecidableEq, Repr
/-- a target of names: one name; a tuple (nil, cons) -/
inductive P where
  | v (i : Nat) | nil | cons (a b : P)
  deriving DecidableEq, Repr
/-- expressions; nil and cons make the lists of arguments -/
inductive E where
  | var (i : Nat)
  | cn | cb (b : Bool) | ci (i : Int) | cs (x : List Nat) | cst (k : Nat)
  | nil | cons (e r : E)
  | tup (a : E) | lst (a : E) | dnew | dict (a : E)
  | bin (o : BOp) (a b : E) | neg (a : E)
  | cmp (o : COp) (a b : E) | cmp2 (o p : COp) (a b c : E)
  | and (a b : E) | or (a b : E) | not (a : E)
  | idx (a i : E) | part (a : E) | slc (a lo hi : E) | rev (a : E)
  | call (f : Nat) (a : E) | new (c f : Nat) (a : E) | meth (m : Nat) (o a : E)
  | prim (p : Prim) (a : E) | bm (p : Prim) (o a : E) | isi (a : E) (t : Ty) | attr (o : E) (f : Nat)
  | comp (elt : E) (p : P) (k : IK) (src cond : E) (own : List Nat)
  | skey (a : E) | tru (a : E)
  /-- list(range(..)), tuple(range(..)); a value, or a new dict in the place of one that is None or empty -/
  | rng (t : Bool) (a : E) | orD (a : E)
  deriving DecidableEq, Repr
inductive St where
  | nop | seq (a b : St)
  | set (p : P) (e : E) | setIdx (o i e : E) | setAttr (o : E) (f : Nat) (e : E)
  | augVar (i : Nat) (e : E) | augAttr (o : E) (f : Nat) (e : E)
  | expr (e : E) | ret (e : E) | ite (c : E) (a b : St)
  | for (p : P) (k : IK) (src : E) (body : St) | while (c : E) (body : St)
  /-- a loop over the keys of the dict that a name holds -/
  | forD (p : P) (i : Nat) (body : St)
  | raise (c : Nat) (a : E)
  deriving DecidableEq, Repr

/-! ### data -/
/-- no address within, at most n deep -/
def D.ok : Nat → D → Bool
  | 0, _ => false
  | n + 1, .tup xs => xs.all (D.ok n)
  | _, .ref _ => false
  | _, .scr _ => false
  | _, .str x => x.all fun c => decide (c < 1114112)
  | _, _ => true
def b2i (b : Bool) : Int := if b then 1 else 0
mutual
/-- == of data without addresses -/
def D.eqb : D → D → Bool
  | .non, .non => true
  | .bl a, .bl b => a == b
  | .bl a, .int b => b2i a == b
  | .int a, .bl b => a == b2i b
  | .int a, .int b => a == b
  | .str a, .str b => a == b
  | .tup a, .tup b => D.eqbs a b
  | _, _ => false
def D.eqbs : List D → List D → Bool
  | [], [] => true
  | x :: xs, y :: ys => D.eqb x y && D.eqbs xs ys
  | _, _ => false
end
/-- where a list index stands -/
def ixN (n : Nat) (i : Int) : Option Nat :=
  if 0 ≤ i then (if i < n then some i.toNat else none) else if -(n : Int) ≤ i then some (i + n).toNat else none
def getI {α : Type} (l : List α) (i : Int) : Option α := match ixN l.length i with
  | some j => l[j]?
  | none => none
/-- a slice's end as a place among n (d where it is left out) -/
def sIx (n d : Nat) : Option Int → Nat
  | none => d
  | some v => if v < 0 then (v + (n : Int)).toNat else min v.toNat n
def sliceL {α : Type} (l : List α) (lo hi : Option Int) : List α := (l.drop (sIx l.length 0 lo)).take (sIx l.length l.length hi - sIx l.length 0 lo)
def optI : D → Option (Option Int)
  | .non => some none
  | .int i => some (some i)
  | _ => none
def sizeMax : Nat := 16777216
def Small (i : Int) : Prop := i.natAbs < 10 ^ 250
def powOk (i j : Int) : Bool := decide (0 ≤ j ∧ j ≤ 250 ∧ i.natAbs < 1000000)
/-- keys -/
def isFlat : D → Bool
  | .int _ => true
  | .str _ => true
  | _ => false
def isKey : Nat → D → Bool
  | 0, _ => false
  | _, .non => true
  | _, .int _ => true
  | _, .str _ => true
  | n + 1, .tup xs => xs.all (isKey n)
  | _, _ => false
def isFl : D → Bool
  | .non => true
  | .bl _ => true
  | .int _ => true
  | .str _ => true
  | _ => false
def isTupKey : D → Bool
  | .tup xs => isKey 7 (.tup xs)
  | _ => false
def dget : List (D × D) → D → Option D
  | [], _ => none
  | (k, v) :: r, x => if D.eqb k x then some v else dget r x
def dput (l : List (D × D)) (x y : D) : List (D × D) :=
  if l.any (fun p => D.eqb p.1 x) = true then l.map (fun p => if D.eqb p.1 x = true then (p.1, y) else p) else l ++ [(x, y)]
def ddel (l : List (D × D)) (x : D) : List (D × D) := l.filter fun p => !D.eqb p.1 x
/-- a written dict: keys and values by turns -/
def pairUp : List D → Option (List (D × D))
  | [] => some []
  | k :: v :: r => (pairUp r).map ((k, v) :: ·)
  | _ => none
def dputs (l : List (D × D)) : List (D × D) → List (D × D)
  | [] => l
  | (k, v) :: r => dputs (dput l k v) r
def lookF : List (Nat × D) → Nat → Option D
  | [], _ => none
  | (k, v) :: r, x => if Nat.beq k x then some v else lookF r x
def putF : List (Nat × D) → Nat → D → List (Nat × D)
  | [], x, y => [(x, y)]
  | (k, v) :: r, x, y => if Nat.beq k x then (k, y) :: r else (k, v) :: putF r x y
def strLt : List Nat → List Nat → Bool
  | _, [] => false
  | [], _ :: _ => true
  | a :: r, b :: q => decide (a < b) || (a == b && strLt r q)
def allB : List D → Option Bool
  | [] => some true
  | .bl b :: r => (allB r).map (b && ·)
  | _ => none
def intsD : List D → Option (List Int)
  | [] => some []
  | .int i :: r => (intsD r).map (i :: ·)
  | _ => none
def strsD : List D → Option (List (List Nat))
  | [] => some []
  | .str i :: r => (strsD r).map (i :: ·)
  | _ => none
def firstAt (l : List D) (x : D) : Option Nat := l.findIdx? (fun y => D.eqb y x)

/-! ### wishes -/
def optP {α : Type} (o : Option α) (k : α → Prop) : Prop := match o with
  | some x => k x
  | none => False
/-- a branch by a truth -/
def br (d : D) (A B : Prop) : Prop := match d with
  | .bl b => (b = true → A) ∧ (b = false → B)
  | _ => False
abbrev EX := Nat → List D → Sto → Prop
abbrev Fn := List D → Sto → (D → Sto → Prop) → EX → Prop
/-- what the names of the text stand for: defs, methods of classes -/
structure Ctx where
  fn : Nat → Fn
  mt : Nat → Nat → Option Nat
  fl : Nat → Nat → Bool
  cst : Nat → Option D
def new (μ : Sto) (o : Ob) (Q : D → Sto → Prop) : Prop := ∀ a, μ a = none → Q (.ref a) (upd μ a o)
/-- a written dict with one entry, its key a tuple -/
def tup1 : List (D × D) → Option (D × D)
  | [(k, v)] => if isTupKey k = true then some (k, v) else none
  | _ => none
def dictP (l : List (D × D)) (μ : Sto) (Q : D → Sto → Prop) : Prop := match tup1 l with
  | some p => new μ (.dT [p]) Q
  | none => l.length ≤ 15 ∧ l.all (fun p => isFlat p.1) = true ∧ new μ (.dF (dputs [] l)) Q
/-- an instance -/
def insP (x : D) (μ : Sto) (k : Nat → Nat → List (Nat × D) → Prop) : Prop := match x with
  | .ref p => match μ p with
    | some (.ins c l) => k p c l
    | _ => False
  | _ => False
/-- a list -/
def rdL (μ : Sto) (a : Nat) (k : List D → Prop) : Prop := match μ a with
  | some (.lst l) => k l
  | _ => False
/-- data with lists within, as a tree -/
inductive W where
  | non | bl (b : Bool) | int (i : Int) | str (x : List Nat) | tup (xs : List W) | lst (xs : List W)
def binP (o : BOp) (x y : D) (μ : Sto) (Q : D → Sto → Prop) : Prop := match o, x, y with
  | .add, .int i, .int j => Q (.int (i + j)) μ
  | .add, .str i, .str j => i.length + j.length ≤ sizeMax ∧ Q (.str (i ++ j)) μ
  | .add, .tup i, .tup j => i.length + j.length ≤ sizeMax ∧ Q (.tup (i ++ j)) μ
  | .add, .ref a, .ref b => rdL μ a fun i => rdL μ b fun j => i.length + j.length ≤ sizeMax ∧ new μ (.lst (i ++ j)) Q
  | .sub, .int i, .int j => Q (.int (i - j)) μ
  | .mul, .int i, .int j => Small i ∧ Small j ∧ Q (.int (i * j)) μ
  | .mul, .str i, .int j => 0 ≤ j ∧ j ≤ 100000 ∧ i.length * j.toNat ≤ 100000 ∧ Q (.str (List.replicate j.toNat i).flatten) μ
  | .mul, .ref a, .int j => rdL μ a fun l => 0 ≤ j ∧ j ≤ sizeMax ∧ l.length * j.toNat ≤ sizeMax ∧ new μ (.lst (List.replicate j.toNat l).flatten) Q
  | .mul, .tup l, .int j => l ≠ [] ∧ 0 ≤ j ∧ j ≤ 1000 ∧ l.length ≤ 1000 ∧ Q (.tup (List.replicate j.toNat l).flatten) μ
  | .fdiv, .int i, .int j => 0 < j ∧ Small j ∧ Q (.int (i / j)) μ
  | .mod, .int i, .int j => 0 < j ∧ Q (.int (i % j)) μ
  | .pow, .int i, .int j => powOk i j = true ∧ Q (.int (i ^ j.toNat)) μ
  | _, _, _ => False
mutual
/-- the data d, its lists looked up -/
def isW (μ : Sto) : W → D → Prop
  | .non, d => d = .non
  | .bl b, d => d = .bl b
  | .int i, d => d = .int i
  | .str x, d => d = .str x
  | .tup xs, d => ∃ ds, d = .tup ds ∧ isWs μ xs ds
  | .lst xs, d => ∃ a ds, d = .ref a ∧ μ a = some (.lst ds) ∧ isWs μ xs ds
def isWs (μ : Sto) : List W → List D → Prop
  | [], ds => ds = []
  | x :: xs, ds => ∃ d r, ds = d :: r ∧ isW μ x d ∧ isWs μ xs r
end
mutual
def W.eqb : W → W → Bool
  | .non, .non => true
  | .bl a, .bl b => a == b
  | .bl a, .int b => b2i a == b
  | .int a, .bl b => a == b2i b
  | .int a, .int b => a == b
  | .str a, .str b => a == b
  | .tup a, .tup b => W.eqbs a b
  | .lst a, .lst b => W.eqbs a b
  | _, _ => false
def W.eqbs : List W → List W → Bool
  | [], [] => true
  | x :: xs, y :: ys => W.eqb x y && W.eqbs xs ys
  | _, _ => false
end
def W.ok : Nat → W → Bool
  | 0, _ => false
  | n + 1, .tup xs => xs.all (W.ok n)
  | n + 1, .lst xs => xs.all (W.ok n)
  | _, .str x => x.all fun c => decide (c < 1114112)
  | _, _ => true
/-- two dicts with the same flat entries -/
def eqDK (x y : D) (μ : Sto) (k : Bool → Prop) : Prop := ∃ a b l, x = .ref a ∧ y = .ref b ∧ μ a = some (.dF l) ∧ μ b = some (.dF l) ∧ (l.map (·.1)).Nodup ∧ l.all (fun p => isFl p.2) = true ∧ k true
/-- two lists, one longer than the other -/
def eqLN (x y : D) (μ : Sto) (k : Bool → Prop) : Prop := ∃ a b l m, x = .ref a ∧ y = .ref b ∧ μ a = some (.lst l) ∧ μ b = some (.lst m) ∧ l.length ≠ m.length ∧ k false
/-- x == y -/
def eqP (x y : D) (μ : Sto) (k : Bool → Prop) : Prop := match isFl x && isFl y with
  | true => k (D.eqb x y)
  | false => (D.ok 60 x = true ∧ D.ok 60 y = true ∧ k (D.eqb x y)) ∨ (∃ a b, isW μ a x ∧ isW μ b y ∧ W.ok 60 a = true ∧ W.ok 60 b = true ∧ k (W.eqb a b)) ∨ eqDK x y μ k ∨ eqLN x y μ k
def inP (x y : D) (μ : Sto) (k : Bool → Prop) : Prop := match x, y with
  | .str i, .str j => (∃ c, i = [c] ∧ k (j.contains c))
  | x, .tup l => isFl x = true ∧ l.all isFl = true ∧ k (l.any fun y => D.eqb y x)
  | x, .ref a => match μ a with
    | some (.lst l) => D.ok 60 x = true ∧ l.all (D.ok 60) = true ∧ k (l.any fun y => D.eqb y x)
    | some (.dF l) => (isFlat x = true ∧ k (dget l x).isSome) ∨ (l = [] ∧ isTupKey x = true ∧ k false)
    | some (.dT l) => isTupKey x = true ∧ k (dget l x).isSome
    | _ => False
  | _, _ => False
/-- a value's truth -/
def truP (x : D) (μ : Sto) (k : Bool → Prop) : Prop := match x with
  | .bl b => k b
  | .tup l => k (!l.isEmpty)
  | .ref p => match μ p with
    | some (.lst l) => k (!l.isEmpty)
    | some (.dF l) => k (!l.isEmpty)
    | _ => False
  | _ => False
def isNon : D → Bool
  | .non => true
  | _ => false
def cmpP (o : COp) (x y : D) (μ : Sto) (k : Bool → Prop) : Prop := match o, x, y with
  | .eq, x, y => eqP x y μ k
  | .ne, x, y => eqP x y μ fun b => k (!b)
  | .lt, .int i, .int j => k (decide (i < j))
  | .le, .int i, .int j => k (decide (i ≤ j))
  | .gt, .int i, .int j => k (decide (j < i))
  | .ge, .int i, .int j => k (decide (j ≤ i))
  | .lt, .str i, .str j => k (strLt i j)
  | .isin, x, y => inP x y μ k
  | .notin, x, y => inP x y μ fun b => k (!b)
  | .is, x, .non => k (isNon x)
  | .isnot, x, .non => k (!isNon x)
  | .is, .bl c, .bl b => k (c == b)
  | .isnot, .bl c, .bl b => k (!(c == b))
  | _, _, _ => False
def idxP (x i : D) (μ : Sto) (Q : D → Prop) : Prop := match x, i with
  | .scr l, .int i => optP (getI l i) fun n => Q (.int n)
  | .tup l, .int i => optP (getI l i) Q
  | .str l, .int i => l.length ≤ sizeMax ∧ optP (getI l i) fun c => Q (.str [c])
  | .ref a, k => match μ a, k with
    | some (.lst l), .int i => optP (getI l i) Q
    | some (.dF l), k => isFlat k = true ∧ optP (dget l k) Q
    | some (.dT l), k => isTupKey k = true ∧ optP (dget l k) Q
    | some (.dL l), k => isFlat k = true ∧ optP (dget l k) Q
    | _, _ => False
  | _, _ => False
def slc2P (x : D) (i j : Option Int) (μ : Sto) (Q : D → Sto → Prop) : Prop := match x with
  | .tup l => Q (.tup (sliceL l i j)) μ
  | .str l => l.length ≤ sizeMax ∧ Q (.str (sliceL l i j)) μ
  | .ref a => rdL μ a fun l => new μ (.lst (sliceL l i j)) Q
  | _ => False
def setIdxP (x i y : D) (μ : Sto) (Q : Sto → Prop) : Prop := match x with
  | .ref a => match μ a, i with
    | some (.lst l), .int i => optP (ixN l.length i) fun j => Q (upd μ a (.lst (l.set j y)))
    | some (.dF l), k => (isFlat k = true ∧ l.length < sizeMax ∧ Q (upd μ a (.dF (dput l k y)))) ∨ (l = [] ∧ isTupKey k = true ∧ Q (upd μ a (.dT [(k, y)])))
    | some (.dT l), k => isTupKey k = true ∧ l.length < sizeMax ∧ Q (upd μ a (.dT (dput l k y)))
    | _, _ => False
  | _ => False
def isiP (d : D) (t : Ty) : Bool := match d, t with
  | .int _, .int => true
  | .bl _, .int => true
  | .bl _, .bool => true
  | .tup _, .tuple => true
  | .str _, .str => true
  | _, _ => false
/-- what may be asked for its kind -/
def lstOrD : Ob → Bool
  | .lst _ => true
  | .dF _ => true
  | _ => false
def isiOk (d : D) (μ : Sto) : Prop := match d with
  | .scr _ => False
  | .ref a => ((μ a).map lstOrD) = some true
  | _ => True
/-- the items of a value that is walked, and what must stay so while it is -/
def itemsP (d : D) (μ : Sto) (k : List D → (Sto → Prop) → Prop) : Prop := match d with
  | .tup l => k l fun _ => True
  | .str l => k (l.map fun c => .str [c]) fun _ => True
  | .scr l => k (l.map D.int) fun _ => True
  | .ref a => rdL μ a fun l => k l fun μ' => μ' a = some (.lst l)
  | _ => False
def rangeL (lo : Int) (n : Nat) (c : Int) : List D := (List.range n).map fun (i : Nat) => .int (lo + (i : Int) * c)
/-- the items with their places -/
def enumL : Nat → List D → List D
  | _, [] => []
  | i, d :: r => .tup [.int i, d] :: enumL (i + 1) r
def inB (i : Int) : Prop := -1000000000 ≤ i ∧ i ≤ 1000000000
/-- the turns of an iterable -/
def intK (d : D) (k : Int → Prop) : Prop := match d with
  | .int n => inB n ∧ k n
  | _ => False
def rangeP (ds : List D) (k : List D → (Sto → Prop) → Prop) : Prop := match ds with
  | [a] => intK a fun n => k (rangeL 0 n.toNat 1) fun _ => True
  | [a, b] => intK a fun a => intK b fun b => k (rangeL a (b - a).toNat 1) fun _ => True
  | [a, b, c] => intK a fun a => intK b fun b => intK c fun c => c = -1 ∧ k (rangeL a (a - b).toNat (-1)) fun _ => True
  | _ => False
/-- the items of two, in pairs -/
def zipL : List D → List D → List D
  | x :: l, y :: m => .tup [x, y] :: zipL l m
  | _, _ => []
def zipP (ds : List D) (μ : Sto) (k : List D → (Sto → Prop) → Prop) : Prop := match ds with
  | [.tup l, .tup m] => k (zipL l m) fun _ => True
  | [.ref a, .ref b] => rdL μ a fun l => rdL μ b fun m => k (zipL l m) fun μ' => μ' a = some (.lst l) ∧ μ' b = some (.lst m)
  | _ => False
def iterP (kd : IK) (ds : List D) (μ : Sto) (k : List D → (Sto → Prop) → Prop) : Prop := match kd with
  | .any => match ds with
    | [d] => itemsP d μ k
    | _ => False
  | .range => rangeP ds k
  | .enum => match ds with
    | [.ref a] => rdL μ a fun l => k (enumL 0 l) fun μ' => μ' a = some (.lst l)
    | [.tup l] => k (enumL 0 l) fun _ => True
    | _ => False
  | .zip => zipP ds μ k
/-- the order of what is sorted: ints, texts -/
def leD : D → D → Prop
  | .int i, .int j => i ≤ j
  | .str i, .str j => strLt j i = false
  | _, _ => False
def isInt : D → Bool
  | .int _ => true
  | _ => false
def isStr : D → Bool
  | .str _ => true
  | _ => false
def keyLe : D → D → Prop
  | .tup (x :: _), .tup (y :: _) => leD x y
  | _, _ => False
def hasStrKey : D → Bool
  | .tup (.str _ :: _) => true
  | _ => false
def joinS (sep : List Nat) : List (List Nat) → List Nat
  | [] => []
  | [x] => x
  | x :: y :: r => x ++ sep ++ joinS sep (y :: r)
/-- a value's items, where they are but read (list(x), tuple(x), sorted(x), ..) -/
def seqP (d : D) (μ : Sto) (k : List D → Prop) : Prop := match d with
  | .tup l => k l
  | .ref a => rdL μ a k
  | _ => False
def lenO : Ob → Option Nat
  | .lst l => some l.length
  | .dF l => some l.length
  | .dT l => some l.length
  | _ => none
def lenP (d : D) (μ : Sto) (Q : D → Sto → Prop) : Prop := match d with
  | .tup l => Q (.int l.length) μ
  | .scr l => Q (.int l.length) μ
  | .str l => l.length ≤ sizeMax ∧ Q (.int l.length) μ
  | .ref a => optP ((μ a).bind lenO) fun n => Q (.int n) μ
  | _ => False
def absP (d : D) (μ : Sto) (Q : D → Sto → Prop) : Prop := match d with
  | .int i => Q (.int (if i < 0 then -i else i)) μ
  | _ => False
def min2P (d e : D) (μ : Sto) (Q : D → Sto → Prop) : Prop := match d, e with
  | .int i, .int j => Q (.int (min i j)) μ
  | _, _ => False
def max2P (d e : D) (μ : Sto) (Q : D → Sto → Prop) : Prop := match d, e with
  | .int i, .int j => Q (.int (max i j)) μ
  | _, _ => False
def rdR (d : D) (μ : Sto) (k : Nat → List D → Prop) : Prop := match d with
  | .ref a => rdL μ a (k a)
  | _ => False
/-- the number that a text of figures writes -/
def digV (x : List Nat) : Nat := x.foldl (fun n c => n * 10 + (c - 48)) 0
def allDig (x : List Nat) : Bool := !x.isEmpty && x.all fun c => decide (48 ≤ c) && decide (c ≤ 57)
def numT (x : List Nat) : Option Int := if allDig x = true then some (digV x) else match x with
  | 45 :: r => if allDig r = true then some (-(digV r : Int)) else none
  | _ => none
def intP (d : D) (μ : Sto) (Q : D → Sto → Prop) : Prop := match d with
  | .int i => Q (.int i) μ
  | .bl b => Q (.int (b2i b)) μ
  | .str x => x.length ≤ 600 ∧ optP (numT x) fun n => Q (.int n) μ
  | _ => False
def rdD (d : D) (μ : Sto) (k : Nat → List (D × D) → Prop) : Prop := match d with
  | .ref a => match μ a with
    | some (.dF l) => k a l
    | _ => False
  | _ => False
/-- a dict, be it walked or not -/
def rdG (d : D) (μ : Sto) (k : Nat → List (D × D) → Prop) : Prop := match d with
  | .ref a => match μ a with
    | some (.dF l) => k a l
    | some (.dL l) => k a l
    | _ => False
  | _ => False
def arg1 (ds : List D) (k : D → Prop) : Prop := match ds with
  | [d] => k d
  | _ => False
def arg2 (ds : List D) (k : D → D → Prop) : Prop := match ds with
  | [d, e] => k d e
  | _ => False
def arg3 (ds : List D) (k : D → D → D → Prop) : Prop := match ds with
  | [d, e, f] => k d e f
  | _ => False
/-- a text, an int -/
def strK (d : D) (k : List Nat → Prop) : Prop := match d with
  | .str x => k x
  | _ => False
def intO (d : D) (k : Int → Prop) : Prop := match d with
  | .int n => k n
  | _ => False
def natO (d : D) (k : Nat → Prop) : Prop := match d with
  | .int n => 0 ≤ n ∧ n < 1000000000 ∧ k n.toNat
  | _ => False
/-- the items of a list, the keys of a dict -/
def ownO : Ob → Option (List D)
  | .lst l => some l
  | .dF l => some (l.map (·.1))
  | _ => none
def ownK (d : D) (μ : Sto) (k : List D → Prop) : Prop := match d with
  | .ref a => optP ((μ a).bind ownO) k
  | _ => False
def lstK (d : D) (μ : Sto) (k : List D → Prop) : Prop := match d with
  | .tup l => k l
  | .ref a => optP ((μ a).bind ownO) k
  | _ => False
/-- sorting of ints, of texts -/
def leB : D → D → Bool
  | .int i, .int j => decide (i ≤ j)
  | .str i, .str j => !strLt j i
  | _, _ => false
def insD (x : D) : List D → List D
  | [] => [x]
  | y :: r => if leB x y = true then x :: y :: r else y :: insD x r
def sortD : List D → List D
  | [] => []
  | x :: r => insD x (sortD r)
def sortable (l : List D) : Bool := l.all isInt || (l.all isStr && decide (l.length < 64))
/-- a number's figures -/
def figs : Nat → Nat → List Nat
  | 0, _ => []
  | k + 1, n => if n < 10 then [48 + n] else figs k (n / 10) ++ [48 + n % 10]
def natS (n : Nat) : List Nat := figs (n + 1) n
def intS (i : Int) : List Nat := if i < 0 then 45 :: natS i.natAbs else natS i.natAbs
/-- a text that these parts make, and that is split so -/
def splitOk (sep : List Nat) (parts : List (List Nat)) : Bool := match sep with
  | [] => false
  | s :: S => (s :: S).all (fun c => decide (c < 256)) && !parts.isEmpty && parts.all fun p => !p.contains s
def joinFits (sep : List Nat) (zs : List (List Nat)) : Bool := decide ((zs.map (·.length)).sum + zs.length * sep.length ≤ sizeMax)
def primP (p : Prim) (ds : List D) (μ : Sto) (Q : D → Sto → Prop) : Prop := match p with
  | .len => arg1 ds fun d => lenP d μ Q
  | .abs => arg1 ds fun d => absP d μ Q
  | .min2 => arg2 ds fun d e => min2P d e μ Q
  | .max2 => arg2 ds fun d e => max2P d e μ Q
  | .min1 => arg1 ds fun d => rdR d μ fun _ l => optP (intsD l) fun ns => 0 < ns.length ∧ ∀ m, m ∈ ns → (∀ x ∈ ns, m ≤ x) → Q (.int m) μ
  | .max1 => arg1 ds fun d => rdR d μ fun _ l => optP (intsD l) fun ns => 0 < ns.length ∧ ∀ m, m ∈ ns → (∀ x ∈ ns, x ≤ m) → Q (.int m) μ
  | .int => arg1 ds fun d => intP d μ Q
  | .list => arg1 ds fun d => lstK d μ fun l => new μ (.lst l) Q
  | .tuple => arg1 ds fun d => seqP d μ fun l => Q (.tup l) μ
  | .all => arg1 ds fun d => rdR d μ fun _ l => optP (allB l) fun b => Q (.bl b) μ
  | .append => arg2 ds fun o d => rdR o μ fun a l => l.length < sizeMax ∧ Q .non (upd μ a (.lst (l ++ [d])))
  | .pop => arg1 ds fun o => rdR o μ fun a l => optP l.getLast? fun d => Q d (upd μ a (.lst l.dropLast))
  | .get => arg3 ds fun o k x => rdG o μ fun _ l => isFlat k = true ∧ Q ((dget l k).getD x) μ
  | .dpop => arg3 ds fun o k x => rdD o μ fun a l => isFlat k = true ∧ Q ((dget l k).getD x) (upd μ a (.dF (ddel l k)))
  | .dpop1 => arg2 ds fun o k => rdD o μ fun a l => isFlat k = true ∧ optP (dget l k) fun d => Q d (upd μ a (.dF (ddel l k)))
  | .dict => arg1 ds fun d => rdD d μ fun _ l => new μ (.dF l) Q
  | .sorted => arg1 ds fun d => ownK d μ fun l => sortable l = true ∧ new μ (.lst (sortD l)) Q
  | .str => arg1 ds fun d => match d with
    | .str x => Q (.str x) μ
    | .int i => i.natAbs < 2 ^ 1900 ∧ Q (.str (intS i)) μ
    | _ => False
  | .join => arg2 ds fun s d => strK s fun sep => seqP d μ fun l => optP (strsD l) fun zs => joinFits sep zs = true ∧ Q (.str (joinS sep zs)) μ
  | .split => arg2 ds fun o d => strK o fun x => strK d fun sep => ∃ parts, x = joinS sep parts ∧ splitOk sep parts = true ∧ x.length + 2 ≤ sizeMax ∧ new μ (.lst (parts.map D.str)) Q
  | .extend => arg2 ds fun o d => rdR o μ fun a l => seqP d μ fun m => l.length + m.length ≤ sizeMax ∧ Q .non (upd μ a (.lst (l ++ m)))
  | .insert => arg3 ds fun o i d => rdR o μ fun a l => natO i fun n => l.length < sizeMax ∧ Q .non (upd μ a (.lst (l.take n ++ [d] ++ l.drop n)))
  | .popAt => arg2 ds fun o i => rdR o μ fun a l => natO i fun n => optP l[n]? fun d => Q d (upd μ a (.lst (l.eraseIdx n)))
  | .remove => arg2 ds fun o x => rdR o μ fun a l => intO x fun n => optP (intsD l) fun ns => n ∈ ns ∧ Q .non (upd μ a (.lst ((ns.erase n).map D.int)))
  | .count => arg2 ds fun o x => rdR o μ fun _ l => intO x fun n => optP (intsD l) fun ns => Q (.int (ns.count n : Nat)) μ
  | .index => arg2 ds fun o x => rdR o μ fun _ l => D.ok 60 x = true ∧ l.all (D.ok 60) = true ∧ optP (firstAt l x) fun j => Q (.int j) μ

/-- whose method it is -/
def recvP (p : Prim) (x : D) (μ : Sto) : Prop := match p with
  | .join => isStr x = true
  | .split => isStr x = true
  | .get => rdG x μ fun _ _ => True
  | .dpop1 => rdD x μ fun _ _ => True
  | .dpop => rdD x μ fun _ _ => True
  | _ => rdR x μ fun _ _ => True
/-- range's ends as a list's -/
def rngD (ds : List D) (k : Int → Nat → Prop) : Prop := match ds with
  | [a] => intK a fun n => n ≤ 1000000 ∧ k 0 n.toNat
  | [a, b] => intK a fun a => intK b fun b => b - a ≤ 1000000 ∧ k a (b - a).toNat
  | _ => False
/-- x or {} -/
def orDP (x : D) (μ : Sto) (Q : D → Sto → Prop) : Prop := match x with
  | .non => new μ (.dF []) Q
  | .ref p => match μ p with
    | some (.dF l) => if l.isEmpty = true then new μ (.dF []) Q else Q (.ref p) μ
    | _ => False
  | _ => False
def getV (ρ : Env) (i : Nat) : Option D := match ρ[i]? with
  | some (some d) => some d
  | _ => none
def wipe (ρ : Env) : List Nat → Env
  | [] => ρ
  | v :: vs => (wipe ρ vs).set v none
/-- a value to a target of names -/
def matP : P → D → Env → Option Env
  | .v i, d, ρ => some (ρ.set i (some d))
  | .nil, .tup [], ρ => some ρ
  | .cons p q, .tup (d :: r), ρ => match matP p d ρ with
    | some ρ' => matP q (.tup r) ρ'
    | none => none
  | _, _, _ => none
section
variable (G : Ctx)
/-- a comprehension's turns: chk stays; acc is made so far -/
def compP (chk : Sto → Prop) (turn : D → Sto → (Option D → Sto → Prop) → Prop) (K : List D → Sto → Prop) : List D → List D → Sto → Prop
  | [], acc, μ => chk μ ∧ K acc μ
  | d :: r, acc, μ => chk μ ∧ turn d μ fun o μ1 => match o with
    | some x => acc.length < sizeMax ∧ compP chk turn K r (acc ++ [x]) μ1
    | none => compP chk turn K r acc μ1
mutual
def wpE : E → Env → Sto → (D → Sto → Prop) → EX → Prop
  | .var i, ρ, μ, Q, _ => optP (getV ρ i) fun d => Q d μ
  | .cn, _, μ, Q, _ => Q .non μ
  | .cb b, _, μ, Q, _ => Q (.bl b) μ
  | .ci i, _, μ, Q, _ => Q (.int i) μ
  | .cs x, _, μ, Q, _ => Q (.str x) μ
  | .cst k, _, μ, Q, _ => optP (G.cst k) fun d => Q d μ
  | .tup a, ρ, μ, Q, X => wpA a ρ μ (fun ds μ1 => Q (.tup ds) μ1) X
  | .lst a, ρ, μ, Q, X => wpA a ρ μ (fun ds μ1 => new μ1 (.lst ds) Q) X
  | .dnew, _, μ, Q, _ => new μ (.dF []) Q
  | .dict a, ρ, μ, Q, X => wpA a ρ μ (fun ds μ1 => optP (pairUp ds) fun l => dictP l μ1 Q) X
  | .bin o a b, ρ, μ, Q, X => wpE a ρ μ (fun x μ1 => wpE b ρ μ1 (fun y μ2 => binP o x y μ2 Q) X) X
  | .neg a, ρ, μ, Q, X => wpE a ρ μ (fun x μ1 => match x with | .int i => Q (.int (-i)) μ1 | _ => False) X
  | .cmp o a b, ρ, μ, Q, X => wpE a ρ μ (fun x μ1 => wpE b ρ μ1 (fun y μ2 => cmpP o x y μ2 fun c => Q (.bl c) μ2) X) X
  | .cmp2 o p a b c, ρ, μ, Q, X => wpE a ρ μ (fun x μ1 => wpE b ρ μ1 (fun y μ2 => cmpP o x y μ2 fun k => br (.bl k) (wpE c ρ μ2 (fun z μ3 => cmpP p y z μ3 fun k' => Q (.bl k') μ3) X) (Q (.bl false) μ2)) X) X
  | .and a b, ρ, μ, Q, X => wpE a ρ μ (fun x μ1 => br x (wpE b ρ μ1 (fun y μ2 => match y with | .bl c => Q (.bl c) μ2 | _ => False) X) (Q (.bl false) μ1)) X
  | .or a b, ρ, μ, Q, X => wpE a ρ μ (fun x μ1 => br x (Q (.bl true) μ1) (wpE b ρ μ1 (fun y μ2 => match y with | .bl c => Q (.bl c) μ2 | _ => False) X)) X
  | .not a, ρ, μ, Q, X => wpE a ρ μ (fun x μ1 => match x with | .bl b => Q (.bl (!b)) μ1 | _ => False) X
  | .idx a i, ρ, μ, Q, X => wpE a ρ μ (fun x μ1 => wpE i ρ μ1 (fun y μ2 => idxP x y μ2 fun d => Q d μ2) X) X
  | .part a, ρ, μ, Q, X => wpE a ρ μ (fun x μ1 => match x with | .int i => Q (.int i) μ1 | _ => False) X
  | .slc a lo hi, ρ, μ, Q, X => wpE a ρ μ (fun x μ1 => wpE lo ρ μ1 (fun y μ2 => optP (optI y) fun i => wpE hi ρ μ2 (fun z μ3 => optP (optI z) fun j => slc2P x i j μ3 Q) X) X) X
  | .rev a, ρ, μ, Q, X => wpE a ρ μ (fun x μ1 => match x with
      | .tup l => Q (.tup l.reverse) μ1
      | .ref p => rdL μ1 p fun l => new μ1 (.lst l.reverse) Q
      | _ => False) X
  | .call f a, ρ, μ, Q, X => wpA a ρ μ (fun ds μ1 => G.fn f ds μ1 Q X) X
  | .new c f a, ρ, μ, Q, X => wpA a ρ μ (fun ds μ1 => ∀ p, μ1 p = none → G.fn f (.ref p :: ds) (upd μ1 p (.ins c [])) (fun d μ2 => d = .non ∧ Q (.ref p) μ2) X) X
  | .meth m o a, ρ, μ, Q, X => wpE o ρ μ (fun x μ1 => insP x μ1 fun p c l => lookF l m = none ∧ optP (G.mt c m) fun f => wpA a ρ μ1 (fun ds μ2 => G.fn f (.ref p :: ds) μ2 Q X) X) X
  | .prim p a, ρ, μ, Q, X => wpA a ρ μ (fun ds μ1 => primP p ds μ1 Q) X
  | .bm p o a, ρ, μ, Q, X => wpE o ρ μ (fun x μ1 => recvP p x μ1 ∧ wpA a ρ μ1 (fun ds μ2 => primP p (x :: ds) μ2 Q) X) X
  | .isi a t, ρ, μ, Q, X => wpE a ρ μ (fun x μ1 => isiOk x μ1 ∧ Q (.bl (isiP x t)) μ1) X
  | .attr o f, ρ, μ, Q, X => wpE o ρ μ (fun x μ1 => insP x μ1 fun _ c l => G.fl c f = true ∧ optP (lookF l f) fun d => Q d μ1) X
  | .comp elt p k src cond own, ρ, μ, Q, X => wpA src ρ μ (fun ds μ1 => iterP k ds μ1 fun l chk =>
      compP chk (fun d μ2 K => optP (matP p d (wipe ρ own)) fun ρ' => wpE cond ρ' μ2 (fun c μ3 => br c (wpE elt ρ' μ3 (fun y μ4 => K (some y) μ4) X) (K none μ3)) X) (fun acc μ2 => new μ2 (.lst acc) Q) l [] μ1) X
  | .skey a, ρ, μ, Q, X => wpE a ρ μ (fun x μ1 => rdR x μ1 fun _ l => l.all hasStrKey = true ∧ ∀ ys, ys.Perm l → ys.Pairwise keyLe → new μ1 (.lst ys) Q) X
  | .tru a, ρ, μ, Q, X => wpE a ρ μ (fun x μ1 => truP x μ1 fun b => Q (.bl b) μ1) X
  | .rng t a, ρ, μ, Q, X => wpA a ρ μ (fun ds μ1 => rngD ds fun lo n => match t with
    | true => Q (.tup (rangeL lo n 1)) μ1
    | false => new μ1 (.lst (rangeL lo n 1)) Q) X
  | .orD a, ρ, μ, Q, X => wpE a ρ μ (fun x μ1 => orDP x μ1 Q) X
  | .nil, _, _, _, _ => False
  | .cons _ _, _, _, _, _ => False
def wpA : E → Env → Sto → (List D → Sto → Prop) → EX → Prop
  | .nil, _, μ, Q, _ => Q [] μ
  | .cons e r, ρ, μ, Q, X => wpE e ρ μ (fun x μ1 => wpA r ρ μ1 (fun xs μ2 => Q (x :: xs) μ2) X) X
  | _, _, _, _, _ => False
end
structure Post where
  nx : Env → Sto → Prop
  rt : D → Sto → Prop
  ex : EX
def forP (chk : Sto → Prop) (turn : D → Env → Sto → (Env → Sto → Prop) → Prop) (K : Env → Sto → Prop) : List D → Env → Sto → Prop
  | [], ρ, μ => chk μ ∧ K ρ μ
  | d :: r, ρ, μ => chk μ ∧ turn d ρ μ (forP chk turn K r)
def wpS : St → Env → Sto → Post → Prop
  | .nop, ρ, μ, R => R.nx ρ μ
  | .seq a b, ρ, μ, R => wpS a ρ μ ⟨fun ρ1 μ1 => wpS b ρ1 μ1 R, R.rt, R.ex⟩
  | .set p e, ρ, μ, R => wpE G e ρ μ (fun d μ1 => optP (matP p d ρ) fun ρ1 => R.nx ρ1 μ1) R.ex
  | .setIdx o i e, ρ, μ, R => wpE G e ρ μ (fun y μ1 => wpE G o ρ μ1 (fun x μ2 => wpE G i ρ μ2 (fun k μ3 => setIdxP x k y μ3 (R.nx ρ)) R.ex) R.ex) R.ex
  | .setAttr o f e, ρ, μ, R => wpE G e ρ μ (fun y μ1 => wpE G o ρ μ1 (fun x μ2 => insP x μ2 fun p c l => G.fl c f = true ∧ l.length < 1000 ∧ R.nx ρ (upd μ2 p (.ins c (putF l f y)))) R.ex) R.ex
  | .augVar i e, ρ, μ, R => optP (getV ρ i) fun x => wpE G e ρ μ (fun y μ1 => match x, y with
      | .int m, .int n => R.nx (ρ.set i (some (.int (m + n)))) μ1
      | _, _ => False) R.ex
  | .augAttr o f e, ρ, μ, R => wpE G o ρ μ (fun x μ1 => insP x μ1 fun p c l => G.fl c f = true ∧ optP (lookF l f) fun v => wpE G e ρ μ1 (fun y μ2 => insP (.ref p) μ2 fun _ c' l' => c' = c ∧ match v, y with
      | .int m, .int n => l'.length < 1000 ∧ R.nx ρ (upd μ2 p (.ins c (putF l' f (.int (m + n)))))
      | _, _ => False) R.ex) R.ex
  | .expr e, ρ, μ, R => wpE G e ρ μ (fun _ μ1 => R.nx ρ μ1) R.ex
  | .ret e, ρ, μ, R => wpE G e ρ μ R.rt R.ex
  | .ite c a b, ρ, μ, R => wpE G c ρ μ (fun d μ1 => br d (wpS a ρ μ1 R) (wpS b ρ μ1 R)) R.ex
  | .for p k src body, ρ, μ, R => wpA G src ρ μ (fun ds μ1 => iterP k ds μ1 fun l chk =>
      forP chk (fun d ρ1 μ2 K => optP (matP p d ρ1) fun ρ2 => wpS body ρ2 μ2 ⟨K, R.rt, R.ex⟩) R.nx l ρ μ1) R.ex
  | .forD p i body, ρ, μ, R => optP (getV ρ i) fun d => rdD d μ fun a l =>
      forP (fun μ' => μ' a = some (.dL l)) (fun d ρ1 μ2 K => optP (matP p d ρ1) fun ρ2 => wpS body ρ2 μ2 ⟨K, fun v μ' => μ' a = some (.dL l) ∧ R.rt v (upd μ' a (.dF l)), fun _ _ _ => False⟩)
        (fun ρ1 μ1 => μ1 a = some (.dL l) ∧ R.nx ρ1 (upd μ1 a (.dF l))) (l.map (·.1)) ρ (upd μ a (.dL l))
  | .while c body, ρ, μ, R => ∃ V : Nat → Env → Sto → Prop, (∃ m, V m ρ μ) ∧ ∀ m ρ1 μ1, V m ρ1 μ1 →
      wpE G c ρ1 μ1 (fun d μ2 => br d (wpS body ρ1 μ2 ⟨fun ρ2 μ3 => ∃ m', m' < m ∧ V m' ρ2 μ3, R.rt, R.ex⟩) (R.nx ρ1 μ2)) R.ex
  | .raise c a, ρ, μ, R => wpA G a ρ μ (fun ds μ1 => R.ex c ds μ1) R.ex
end
/-- a def: its parameters, its names in all, its body -/
structure FD where
  np : Nat
  ns : Nat
  body : St
  deriving DecidableEq, Repr
def runF (G : Ctx) (f : FD) : Fn := fun ds μ Q X => ds.length = f.np ∧ wpS G f.body (ds.map some ++ List.replicate (f.ns - f.np) none) μ ⟨fun _ μ1 => Q .non μ1, Q, X⟩
end MP

set_option linter.all false
set_option maxRecDepth 100000
set_option maxHeartbeats 1000000
set_option Elab.async false
/-! Mono: a weaker wish is easier to come by. -/
namespace MP
section
variable {μ : Sto} {Q Q' : D → Sto → Prop} {k k' : D → Prop}
abbrev LeQ (Q Q' : D → Sto → Prop) : Prop := ∀ d μ, Q d μ → Q' d μ
abbrev LeX (X X' : EX) : Prop := ∀ c ds μ, X c ds μ → X' c ds μ
def MonoF (F : Fn) : Prop := ∀ {ds μ Q Q' X X'}, LeQ Q Q' → LeX X X' → F ds μ Q X → F ds μ Q' X'
def Mono (G : Ctx) : Prop := ∀ f, MonoF (G.fn f)
theorem m_opt {α : Type} {o : Option α} {k k' : α → Prop} (h : ∀ x, k x → k' x) (q : optP o k) : optP o k' := by
  cases o with
  | none => exact q
  | some x => exact h x q
theorem m_br {d : D} {A B A' B' : Prop} (h1 : A → A') (h2 : B → B') (q : br d A B) : br d A' B' := by
  cases d <;> first | exact q.elim | exact ⟨fun z => h1 (q.1 z), fun z => h2 (q.2 z)⟩
theorem m_new {o : Ob} (h : LeQ Q Q') (q : new μ o Q) : new μ o Q' := fun a ha => h _ _ (q a ha)
theorem m_ins {x : D} {k k' : Nat → Nat → List (Nat × D) → Prop} (h : ∀ p c l, k p c l → k' p c l) (q : insP x μ k) : insP x μ k' := by
  cases x <;> first | exact q.elim | skip
  rename_i p
  unfold insP at q ⊢
  cases e : μ p with
  | none => simp only [e] at q
  | some o =>
    simp only [e] at q ⊢
    cases o <;> first | exact q.elim | exact h _ _ _ q
theorem m_rdL {a : Nat} {k k' : List D → Prop} (h : ∀ l, k l → k' l) (q : rdL μ a k) : rdL μ a k' := by
  unfold rdL at q ⊢
  cases e : μ a with
  | none => simp only [e] at q
  | some o =>
    simp only [e] at q ⊢
    cases o <;> first | exact q.elim | exact h _ q
theorem m_bin {o : BOp} {x y : D} (h : LeQ Q Q') (q : binP o x y μ Q) : binP o x y μ Q' := by
  cases o <;> cases x <;> first
    | exact (show False from q).elim
    | (cases y <;> first
      | exact (show False from q).elim
      | exact h _ _ q
      | exact ⟨q.1, h _ _ q.2⟩
      | exact ⟨q.1, q.2.1, h _ _ q.2.2⟩
      | exact ⟨q.1, q.2.1, q.2.2.1, h _ _ q.2.2.2⟩
      | exact ⟨q.1, q.2.1, q.2.2.1, q.2.2.2.1, h _ _ q.2.2.2.2⟩
      | exact m_rdL (fun i q => m_rdL (fun j q => ⟨q.1, m_new h q.2⟩) q) q
      | exact m_rdL (fun i q => ⟨q.1, q.2.1, q.2.2.1, m_new h q.2.2.2⟩) q)
theorem m_dictP {l : List (D × D)} (h : LeQ Q Q') (q : dictP l μ Q) : dictP l μ Q' := by
  unfold dictP at q ⊢
  split at q
  · exact m_new h q
  · exact ⟨q.1, q.2.1, m_new h q.2.2⟩
theorem m_eq {x y : D} {k k' : Bool → Prop} (h : ∀ b, k b → k' b) (q : eqP x y μ k) : eqP x y μ k' := by
  unfold eqP at q ⊢
  split
  · rename_i e; simp only [e] at q; exact h _ q
  · rename_i e
    simp only [e] at q
    rcases q with ⟨a, b, q⟩ | ⟨a, b, h1, h2, h3, h4, q⟩ | ⟨a, b, l, h1, h2, h3, h4, h5, h6, q⟩ | ⟨a, b, l, m, h1, h2, h3, h4, h5, q⟩
    · exact .inl ⟨a, b, h _ q⟩
    · exact .inr (.inl ⟨a, b, h1, h2, h3, h4, h _ q⟩)
    · exact .inr (.inr (.inl ⟨a, b, l, h1, h2, h3, h4, h5, h6, h _ q⟩))
    · exact .inr (.inr (.inr ⟨a, b, l, m, h1, h2, h3, h4, h5, h _ q⟩))
theorem m_tru {x : D} {k k' : Bool → Prop} (h : ∀ b, k b → k' b) (q : truP x μ k) : truP x μ k' := by
  have gen : ∀ o : Option Ob, (match o with
    | some (.lst l) => k (!l.isEmpty)
    | some (.dF l) => k (!l.isEmpty)
    | _ => False) → (match o with
    | some (.lst l) => k' (!l.isEmpty)
    | some (.dF l) => k' (!l.isEmpty)
    | _ => False) := fun o q => by
    cases o with
    | none => exact q
    | some o => cases o <;> first | exact h _ q | exact q
  cases x <;> first | exact (show False from q).elim | exact h _ q | exact gen _ q
theorem m_inR {x : D} {a : Nat} {k k' : Bool → Prop} (h : ∀ b, k b → k' b) (q : inP x (.ref a) μ k) : inP x (.ref a) μ k' := by
  have gen : ∀ o : Option Ob, (match o with
    | some (.lst l) => D.ok 60 x = true ∧ l.all (D.ok 60) = true ∧ k (l.any fun y => D.eqb y x)
    | some (.dF l) => (isFlat x = true ∧ k (dget l x).isSome) ∨ (l = [] ∧ isTupKey x = true ∧ k false)
    | some (.dT l) => isTupKey x = true ∧ k (dget l x).isSome
    | _ => False) → (match o with
    | some (.lst l) => D.ok 60 x = true ∧ l.all (D.ok 60) = true ∧ k' (l.any fun y => D.eqb y x)
    | some (.dF l) => (isFlat x = true ∧ k' (dget l x).isSome) ∨ (l = [] ∧ isTupKey x = true ∧ k' false)
    | some (.dT l) => isTupKey x = true ∧ k' (dget l x).isSome
    | _ => False) := fun o q => by
    cases o with
    | none => exact q
    | some o => cases o with
      | lst l => exact ⟨q.1, q.2.1, h _ q.2.2⟩
      | dF l => exact q.imp (fun q => ⟨q.1, h _ q.2⟩) fun q => ⟨q.1, q.2.1, h _ q.2.2⟩
      | dT l => exact ⟨q.1, h _ q.2⟩
      | _ => exact q
  have q' : (match μ a with
    | some (.lst l) => D.ok 60 x = true ∧ l.all (D.ok 60) = true ∧ k (l.any fun y => D.eqb y x)
    | some (.dF l) => (isFlat x = true ∧ k (dget l x).isSome) ∨ (l = [] ∧ isTupKey x = true ∧ k false)
    | some (.dT l) => isTupKey x = true ∧ k (dget l x).isSome
    | _ => False) := by cases x <;> exact q
  have := gen _ q'
  cases x <;> exact this
theorem m_in {x y : D} {k k' : Bool → Prop} (h : ∀ b, k b → k' b) (q : inP x y μ k) : inP x y μ k' := by
  cases y with
  | ref a => exact m_inR h q
  | tup l => cases x <;> exact ⟨q.1, q.2.1, h _ q.2.2⟩
  | str j => cases x <;> first | exact (show False from q).elim | (obtain ⟨c, e, q⟩ := q; exact ⟨c, e, h _ q⟩)
  | _ => cases x <;> exact (show False from q).elim
theorem m_cmp {o : COp} {x y : D} {k k' : Bool → Prop} (h : ∀ b, k b → k' b) (q : cmpP o x y μ k) : cmpP o x y μ k' := by
  cases o with
  | eq => exact m_eq h (show eqP x y μ k from q)
  | ne => exact m_eq (fun b => h _) (show eqP x y μ (fun b => k (!b)) from q)
  | isin => exact m_in h (show inP x y μ k from q)
  | notin => exact m_in (fun b => h _) (show inP x y μ (fun b => k (!b)) from q)
  | is => cases y <;> cases x <;> first | exact h _ q | exact (show False from q).elim
  | isnot => cases y <;> cases x <;> first | exact h _ q | exact (show False from q).elim
  | _ => cases x <;> cases y <;> first | exact h _ q | exact (show False from q).elim
theorem m_idx {x i : D} (h : ∀ d, k d → k' d) (q : idxP x i μ k) : idxP x i μ k' := by
  have gen : ∀ (o : Option Ob) (i : D), (match o, i with
    | some (.lst l), .int i => optP (getI l i) k
    | some (.dF l), j => isFlat j = true ∧ optP (dget l j) k
    | some (.dT l), j => isTupKey j = true ∧ optP (dget l j) k
    | some (.dL l), j => isFlat j = true ∧ optP (dget l j) k
    | _, _ => False) → (match o, i with
    | some (.lst l), .int i => optP (getI l i) k'
    | some (.dF l), j => isFlat j = true ∧ optP (dget l j) k'
    | some (.dT l), j => isTupKey j = true ∧ optP (dget l j) k'
    | some (.dL l), j => isFlat j = true ∧ optP (dget l j) k'
    | _, _ => False) := fun o i q => by
    cases o with
    | none => cases i <;> exact q
    | some o => cases o with
      | lst l => cases i <;> first | exact m_opt h q | exact q
      | dF l => exact ⟨q.1, m_opt h q.2⟩
      | dT l => exact ⟨q.1, m_opt h q.2⟩
      | dL l => exact ⟨q.1, m_opt h q.2⟩
      | _ => cases i <;> exact q
  cases x with
  | ref a => exact gen _ _ q
  | scr l => cases i <;> first | exact m_opt (fun n => h _) q | exact (show False from q).elim
  | tup l => cases i <;> first | exact m_opt h q | exact (show False from q).elim
  | str l => cases i <;> first | exact ⟨q.1, m_opt (fun n => h _) q.2⟩ | exact (show False from q).elim
  | _ => cases i <;> exact (show False from q).elim
theorem m_slc {x : D} {i j : Option Int} (h : LeQ Q Q') (q : slc2P x i j μ Q) : slc2P x i j μ Q' := by
  cases x <;> first | exact (show False from q).elim | exact h _ _ q | exact ⟨q.1, h _ _ q.2⟩ | exact m_rdL (fun l q => m_new h q) q
theorem m_setIdx {x i y : D} {k k' : Sto → Prop} (h : ∀ μ, k μ → k' μ) (q : setIdxP x i y μ k) : setIdxP x i y μ k' := by
  cases x <;> first | exact (show False from q).elim | skip
  rename_i a
  have gen : ∀ (o : Option Ob) (i : D), (match o, i with
    | some (.lst l), .int i => optP (ixN l.length i) fun j => k (upd μ a (.lst (l.set j y)))
    | some (.dF l), j => (isFlat j = true ∧ l.length < sizeMax ∧ k (upd μ a (.dF (dput l j y)))) ∨ (l = [] ∧ isTupKey j = true ∧ k (upd μ a (.dT [(j, y)])))
    | some (.dT l), j => isTupKey j = true ∧ l.length < sizeMax ∧ k (upd μ a (.dT (dput l j y)))
    | _, _ => False) → (match o, i with
    | some (.lst l), .int i => optP (ixN l.length i) fun j => k' (upd μ a (.lst (l.set j y)))
    | some (.dF l), j => (isFlat j = true ∧ l.length < sizeMax ∧ k' (upd μ a (.dF (dput l j y)))) ∨ (l = [] ∧ isTupKey j = true ∧ k' (upd μ a (.dT [(j, y)])))
    | some (.dT l), j => isTupKey j = true ∧ l.length < sizeMax ∧ k' (upd μ a (.dT (dput l j y)))
    | _, _ => False) := fun o i q => by
    cases o with
    | none => cases i <;> exact q
    | some o => cases o with
      | lst l => cases i <;> first | exact m_opt (fun n => h _) q | exact q
      | dF l => exact q.imp (fun q => ⟨q.1, q.2.1, h _ q.2.2⟩) fun q => ⟨q.1, q.2.1, h _ q.2.2⟩
      | dT l => exact ⟨q.1, q.2.1, h _ q.2.2⟩
      | _ => cases i <;> exact q
  exact gen _ _ q
theorem m_items {d : D} {k k' : List D → (Sto → Prop) → Prop} (h : ∀ l c, k l c → k' l c) (q : itemsP d μ k) : itemsP d μ k' := by
  cases d <;> first | exact (show False from q).elim | exact h _ _ q | exact m_rdL (fun l q => h _ _ q) q
theorem m_intK {d : D} {k k' : Int → Prop} (h : ∀ n, k n → k' n) (q : intK d k) : intK d k' := by
  cases d <;> first | exact (show False from q).elim | exact ⟨q.1, h _ q.2⟩
theorem m_iter {kd : IK} {ds : List D} {k k' : List D → (Sto → Prop) → Prop} (h : ∀ l c, k l c → k' l c) (q : iterP kd ds μ k) : iterP kd ds μ k' := by
  cases kd with
  | any => match ds, q with
    | [d], q => exact m_items h q
  | range => match ds, q with
    | [a], q => exact m_intK (fun n => h _ _) q
    | [a, b], q => exact m_intK (fun n q => m_intK (fun n => h _ _) q) q
    | [a, b, c], q => exact m_intK (fun n q => m_intK (fun n q => m_intK (fun n q => ⟨q.1, h _ _ q.2⟩) q) q) q
  | enum => match ds, q with
    | [.ref a], q => exact m_rdL (fun l q => h _ _ q) q
    | [.tup l], q => exact h _ _ q
  | zip => match ds, q with
    | [.tup l, .tup m], q => exact h _ _ q
    | [.ref a, .ref b], q => exact m_rdL (fun l q => m_rdL (fun m q => h _ _ q) q) q
theorem m_seq {d : D} {k k' : List D → Prop} (h : ∀ l, k l → k' l) (q : seqP d μ k) : seqP d μ k' := by
  cases d <;> first | exact (show False from q).elim | exact h _ q | exact m_rdL h q
theorem m_rdR {d : D} {k k' : Nat → List D → Prop} (h : ∀ a l, k a l → k' a l) (q : rdR d μ k) : rdR d μ k' := by
  cases d <;> first | exact (show False from q).elim | exact m_rdL (h _) q
theorem m_rdD {d : D} {k k' : Nat → List (D × D) → Prop} (h : ∀ a l, k a l → k' a l) (q : rdD d μ k) : rdD d μ k' := by
  cases d <;> first | exact (show False from q).elim | skip
  rename_i p
  unfold rdD at q ⊢
  cases e : μ p with
  | none => simp only [e] at q
  | some o =>
    simp only [e] at q ⊢
    cases o <;> first | exact q.elim | exact h _ _ q
theorem m_rdG {d : D} {k k' : Nat → List (D × D) → Prop} (h : ∀ a l, k a l → k' a l) (q : rdG d μ k) : rdG d μ k' := by
  cases d <;> first | exact (show False from q).elim | skip
  rename_i p
  unfold rdG at q ⊢
  cases e : μ p with
  | none => simp only [e] at q
  | some o =>
    simp only [e] at q ⊢
    cases o <;> first | exact q.elim | exact h _ _ q
theorem m_rngD {ds : List D} {k k' : Int → Nat → Prop} (h : ∀ i n, k i n → k' i n) (q : rngD ds k) : rngD ds k' := by
  match ds, q with
  | [a], q => exact m_intK (fun n q => ⟨q.1, h _ _ q.2⟩) q
  | [a, b], q => exact m_intK (fun n => m_intK (fun n q => ⟨q.1, h _ _ q.2⟩)) q
theorem m_orD {x : D} (h : LeQ Q Q') (q : orDP x μ Q) : orDP x μ Q' := by
  cases x <;> first | exact (show False from q).elim | exact m_new h q | skip
  rename_i p
  unfold orDP at q ⊢
  cases e : μ p with
  | none => simp only [e] at q
  | some o =>
    simp only [e] at q ⊢
    cases o <;> first | exact q.elim | skip
    simp only at q ⊢
    split
    · rename_i z; rw [if_pos z] at q; exact m_new h q
    · rename_i z; rw [if_neg z] at q; exact h _ _ q
theorem m_arg1 {ds : List D} {k k' : D → Prop} (h : ∀ d, k d → k' d) (q : arg1 ds k) : arg1 ds k' := by
  match ds, q with
  | [d], q => exact h _ q
theorem m_arg2 {ds : List D} {k k' : D → D → Prop} (h : ∀ d e, k d e → k' d e) (q : arg2 ds k) : arg2 ds k' := by
  match ds, q with
  | [d, e], q => exact h _ _ q
theorem m_arg3 {ds : List D} {k k' : D → D → D → Prop} (h : ∀ d e f, k d e f → k' d e f) (q : arg3 ds k) : arg3 ds k' := by
  match ds, q with
  | [d, e, f], q => exact h _ _ _ q
theorem m_len {d : D} (h : LeQ Q Q') (q : lenP d μ Q) : lenP d μ Q' := by
  cases d <;> first | exact (show False from q).elim | exact h _ _ q | exact ⟨q.1, h _ _ q.2⟩ | exact m_opt (fun n => h _ _) q
theorem m_strK {d : D} {k k' : List Nat → Prop} (h : ∀ x, k x → k' x) (q : strK d k) : strK d k' := by
  cases d <;> first | exact (show False from q).elim | exact h _ q
theorem m_natO {d : D} {k k' : Nat → Prop} (h : ∀ x, k x → k' x) (q : natO d k) : natO d k' := by
  cases d <;> first | exact (show False from q).elim | exact ⟨q.1, q.2.1, h _ q.2.2⟩
theorem m_intO {d : D} {k k' : Int → Prop} (h : ∀ x, k x → k' x) (q : intO d k) : intO d k' := by
  cases d <;> first | exact (show False from q).elim | exact h _ q
theorem m_ownK {d : D} {k k' : List D → Prop} (h : ∀ x, k x → k' x) (q : ownK d μ k) : ownK d μ k' := by
  cases d <;> first | exact (show False from q).elim | exact m_opt h q
theorem m_lstK {d : D} {k k' : List D → Prop} (h : ∀ x, k x → k' x) (q : lstK d μ k) : lstK d μ k' := by
  cases d <;> first | exact (show False from q).elim | exact h _ q | exact m_opt h q
theorem m_prim {p : Prim} {ds : List D} (h : LeQ Q Q') (q : primP p ds μ Q) : primP p ds μ Q' := by
  cases p with
  | len => exact m_arg1 (fun d => m_len h) q
  | abs => exact m_arg1 (fun d q => by cases d <;> first | exact (show False from q).elim | exact h _ _ q) q
  | min2 => exact m_arg2 (fun d e q => by cases d <;> cases e <;> first | exact (show False from q).elim | exact h _ _ q) q
  | max2 => exact m_arg2 (fun d e q => by cases d <;> cases e <;> first | exact (show False from q).elim | exact h _ _ q) q
  | min1 => exact m_arg1 (fun d => m_rdR fun a l => m_opt fun ns q => ⟨q.1, fun m hm hx => h _ _ (q.2 m hm hx)⟩) q
  | max1 => exact m_arg1 (fun d => m_rdR fun a l => m_opt fun ns q => ⟨q.1, fun m hm hx => h _ _ (q.2 m hm hx)⟩) q
  | int => exact m_arg1 (fun d q => by cases d <;> first | exact (show False from q).elim | exact h _ _ q | exact ⟨q.1, m_opt (fun n => h _ _) q.2⟩) q
  | list => exact m_arg1 (fun d => m_lstK fun l => m_new h) q
  | tuple => exact m_arg1 (fun d => m_seq fun l => h _ _) q
  | all => exact m_arg1 (fun d => m_rdR fun a l => m_opt fun b => h _ _) q
  | append => exact m_arg2 (fun d e => m_rdR fun a l q => ⟨q.1, h _ _ q.2⟩) q
  | pop => exact m_arg1 (fun d => m_rdR fun a l => m_opt fun b => h _ _) q
  | get => exact m_arg3 (fun d e f => m_rdG fun a l q => ⟨q.1, h _ _ q.2⟩) q
  | dpop1 => exact m_arg2 (fun d e => m_rdD fun a l q => ⟨q.1, m_opt (fun b => h _ _) q.2⟩) q
  | dpop => exact m_arg3 (fun d e f => m_rdD fun a l q => ⟨q.1, h _ _ q.2⟩) q
  | dict => exact m_arg1 (fun d => m_rdD fun a l => m_new h) q
  | sorted => exact m_arg1 (fun d => m_ownK fun l q => ⟨q.1, m_new h q.2⟩) q
  | str => exact m_arg1 (fun d q => by cases d <;> first | exact (show False from q).elim | exact h _ _ q | exact ⟨q.1, h _ _ q.2⟩) q
  | join => exact m_arg2 (fun d e => m_strK fun x => m_seq fun l => m_opt fun z q => ⟨q.1, h _ _ q.2⟩) q
  | split => exact m_arg2 (fun d e => m_strK fun x => m_strK fun y ⟨ps, h1, h2, h3, h4⟩ => ⟨ps, h1, h2, h3, m_new h h4⟩) q
  | extend => exact m_arg2 (fun d e => m_rdR fun a l => m_seq fun m q => ⟨q.1, h _ _ q.2⟩) q
  | insert => exact m_arg3 (fun d e f => m_rdR fun a l => m_natO fun n q => ⟨q.1, h _ _ q.2⟩) q
  | popAt => exact m_arg2 (fun d e => m_rdR fun a l => m_natO fun n => m_opt fun x => h _ _) q
  | remove => exact m_arg2 (fun d e => m_rdR fun a l => m_intO fun n => m_opt fun ns q => ⟨q.1, h _ _ q.2⟩) q
  | count => exact m_arg2 (fun d e => m_rdR fun a l => m_intO fun n => m_opt fun ns => h _ _) q
  | index => exact m_arg2 (fun d e => m_rdR fun a l q => ⟨q.1, q.2.1, m_opt (fun j => h _ _) q.2.2⟩) q
theorem m_comp {chk : Sto → Prop} {t t' : D → Sto → (Option D → Sto → Prop) → Prop} {K K' : List D → Sto → Prop} (ht : ∀ d μ k k', (∀ o μ, k o μ → k' o μ) → t d μ k → t' d μ k') (hk : ∀ l μ, K l μ → K' l μ) : ∀ {l acc μ}, compP chk t K l acc μ → compP chk t' K' l acc μ
  | [], acc, μ, q => ⟨q.1, hk _ _ q.2⟩
  | d :: r, acc, μ, q => ⟨q.1, ht _ _ _ _ (fun o μ q => by
      cases o with
      | none => exact m_comp ht hk q
      | some x => exact ⟨q.1, m_comp ht hk q.2⟩) q.2⟩
theorem m_for {chk : Sto → Prop} {t t' : D → Env → Sto → (Env → Sto → Prop) → Prop} {K K' : Env → Sto → Prop} (ht : ∀ d ρ μ k k', (∀ ρ μ, k ρ μ → k' ρ μ) → t d ρ μ k → t' d ρ μ k') (hk : ∀ ρ μ, K ρ μ → K' ρ μ) : ∀ {l ρ μ}, forP chk t K l ρ μ → forP chk t' K' l ρ μ
  | [], ρ, μ, q => ⟨q.1, hk _ _ q.2⟩
  | d :: r, ρ, μ, q => ⟨q.1, ht _ _ _ _ _ (fun ρ μ q => m_for ht hk q) q.2⟩
end
section
variable {G : Ctx} (hG : Mono G)
include hG
theorem m_EA : ∀ e : E, (∀ {ρ μ Q Q' X X'}, LeQ Q Q' → LeX X X' → wpE G e ρ μ Q X → wpE G e ρ μ Q' X') ∧ (∀ {ρ μ} {Q Q' : List D → Sto → Prop} {X X'}, (∀ l μ, Q l μ → Q' l μ) → LeX X X' → wpA G e ρ μ Q X → wpA G e ρ μ Q' X') := by
  intro e
  induction e with
  | var i => exact ⟨fun h hx q => m_opt (fun d => h _ _) q, fun h hx q => (show False from q).elim⟩
  | cn => exact ⟨fun h hx q => h _ _ q, fun h hx q => (show False from q).elim⟩
  | cb b => exact ⟨fun h hx q => h _ _ q, fun h hx q => (show False from q).elim⟩
  | ci b => exact ⟨fun h hx q => h _ _ q, fun h hx q => (show False from q).elim⟩
  | cs b => exact ⟨fun h hx q => h _ _ q, fun h hx q => (show False from q).elim⟩
  | cst b => exact ⟨fun h hx q => m_opt (fun d => h _ _) q, fun h hx q => (show False from q).elim⟩
  | nil => exact ⟨fun h hx q => (show False from q).elim, fun h hx q => h _ _ q⟩
  | cons a b ha hb => exact ⟨fun h hx q => (show False from q).elim, fun h hx q => ha.1 (fun x μ q => hb.2 (fun l μ q => h _ _ q) hx q) hx q⟩
  | tup a ha => exact ⟨fun h hx q => ha.2 (fun l μ q => h _ _ q) hx q, fun h hx q => (show False from q).elim⟩
  | lst a ha => exact ⟨fun h hx q => ha.2 (fun l μ q => m_new h q) hx q, fun h hx q => (show False from q).elim⟩
  | dnew => exact ⟨fun h hx q => m_new h q, fun h hx q => (show False from q).elim⟩
  | dict a ha => exact ⟨fun h hx q => ha.2 (fun l μ q => m_opt (fun l q => m_dictP h q) q) hx q, fun h hx q => (show False from q).elim⟩
  | bin o a b ha hb => exact ⟨fun h hx q => ha.1 (fun x μ q => hb.1 (fun y μ q => m_bin h q) hx q) hx q, fun h hx q => (show False from q).elim⟩
  | neg a ha => exact ⟨fun h hx q => ha.1 (fun x μ q => by cases x <;> first | exact q.elim | exact h _ _ q) hx q, fun h hx q => (show False from q).elim⟩
  | cmp o a b ha hb => exact ⟨fun h hx q => ha.1 (fun x μ q => hb.1 (fun y μ q => m_cmp (fun b => h _ _) q) hx q) hx q, fun h hx q => (show False from q).elim⟩
  | cmp2 o p a b c ha hb hc => exact ⟨fun h hx q => ha.1 (fun x μ q => hb.1 (fun y μ q => m_cmp (fun b q => m_br (fun q => hc.1 (fun z μ q => m_cmp (fun b => h _ _) q) hx q) (h _ _) q) q) hx q) hx q, fun h hx q => (show False from q).elim⟩
  | and a b ha hb => exact ⟨fun h hx q => ha.1 (fun x μ q => m_br (fun q => hb.1 (fun y μ q => by cases y <;> first | exact q.elim | exact h _ _ q) hx q) (h _ _) q) hx q, fun h hx q => (show False from q).elim⟩
  | or a b ha hb => exact ⟨fun h hx q => ha.1 (fun x μ q => m_br (h _ _) (fun q => hb.1 (fun y μ q => by cases y <;> first | exact q.elim | exact h _ _ q) hx q) q) hx q, fun h hx q => (show False from q).elim⟩
  | not a ha => exact ⟨fun h hx q => ha.1 (fun x μ q => by cases x <;> first | exact q.elim | exact h _ _ q) hx q, fun h hx q => (show False from q).elim⟩
  | idx a b ha hb => exact ⟨fun h hx q => ha.1 (fun x μ q => hb.1 (fun y μ q => m_idx (fun d => h _ _) q) hx q) hx q, fun h hx q => (show False from q).elim⟩
  | part a ha => exact ⟨fun h hx q => ha.1 (fun x μ q => by cases x <;> first | exact q.elim | exact h _ _ q) hx q, fun h hx q => (show False from q).elim⟩
  | slc a lo hi ha hl hh => exact ⟨fun h hx q => ha.1 (fun x μ q => hl.1 (fun y μ q => m_opt (fun i q => hh.1 (fun z μ q => m_opt (fun j q => m_slc h q) q) hx q) q) hx q) hx q, fun h hx q => (show False from q).elim⟩
  | rev a ha => exact ⟨fun h hx q => ha.1 (fun x μ q => by cases x <;> first | exact q.elim | exact h _ _ q | exact m_rdL (fun l => m_new h) q) hx q, fun h hx q => (show False from q).elim⟩
  | call f a ha => exact ⟨fun h hx q => ha.2 (fun l μ q => hG f h hx q) hx q, fun h hx q => (show False from q).elim⟩
  | new c f a ha => exact ⟨fun h hx q => ha.2 (fun l μ q p hp => hG f (fun d μ q => ⟨q.1, h _ _ q.2⟩) hx (q p hp)) hx q, fun h hx q => (show False from q).elim⟩
  | meth m o a ho ha => exact ⟨fun h hx q => ho.1 (fun x μ q => m_ins (fun p c l q => ⟨q.1, m_opt (fun f q => ha.2 (fun l μ q => hG f h hx q) hx q) q.2⟩) q) hx q, fun h hx q => (show False from q).elim⟩
  | prim p a ha => exact ⟨fun h hx q => ha.2 (fun l μ q => m_prim h q) hx q, fun h hx q => (show False from q).elim⟩
  | bm p o a ho ha => exact ⟨fun h hx q => ho.1 (fun x μ q => ⟨q.1, ha.2 (fun l μ q => m_prim h q) hx q.2⟩) hx q, fun h hx q => (show False from q).elim⟩
  | isi a t ha => exact ⟨fun h hx q => ha.1 (fun x μ q => ⟨q.1, h _ _ q.2⟩) hx q, fun h hx q => (show False from q).elim⟩
  | attr o f ho => exact ⟨fun h hx q => ho.1 (fun x μ q => m_ins (fun p c l q => ⟨q.1, m_opt (fun d => h _ _) q.2⟩) q) hx q, fun h hx q => (show False from q).elim⟩
  | comp elt p k src cond own he hs hc => exact ⟨fun h hx q => hs.2 (fun l μ q => m_iter (fun l c q => m_comp (fun d μ k k' hk q => m_opt (fun ρ q => hc.1 (fun b μ q => m_br (fun q => he.1 (fun y μ q => hk _ _ q) hx q) (hk _ _) q) hx q) q) (fun l μ q => m_new h q) q) q) hx q, fun h hx q => (show False from q).elim⟩
  | skey a ha => exact ⟨fun h hx q => ha.1 (fun x μ q => m_rdR (fun _ l q => ⟨q.1, fun ys h1 h2 => m_new h (q.2 ys h1 h2)⟩) q) hx q, fun h hx q => (show False from q).elim⟩
  | rng t a ha => exact ⟨fun h hx q => ha.2 (fun l μ q => m_rngD (fun lo n q => by cases t <;> first | exact h _ _ q | exact m_new h q) q) hx q, fun h hx q => (show False from q).elim⟩
  | orD a ha => exact ⟨fun h hx q => ha.1 (fun x μ q => m_orD h q) hx q, fun h hx q => (show False from q).elim⟩
  | tru a ha => exact ⟨fun h hx q => ha.1 (fun x μ q => m_tru (fun b => h _ _) q) hx q, fun h hx q => (show False from q).elim⟩
theorem m_E {e : E} {ρ μ Q Q' X X'} (h : LeQ Q Q') (hx : LeX X X') (q : wpE G e ρ μ Q X) : wpE G e ρ μ Q' X' := (m_EA hG e).1 h hx q
theorem m_A {e : E} {ρ μ} {Q Q' : List D → Sto → Prop} {X X'} (h : ∀ l μ, Q l μ → Q' l μ) (hx : LeX X X') (q : wpA G e ρ μ Q X) : wpA G e ρ μ Q' X' := (m_EA hG e).2 h hx q
structure LeP (R R' : Post) : Prop where
  nx : ∀ ρ μ, R.nx ρ μ → R'.nx ρ μ
  rt : LeQ R.rt R'.rt
  ex : LeX R.ex R'.ex
theorem m_S : ∀ (s : St) {ρ μ R R'}, LeP R R' → wpS G s ρ μ R → wpS G s ρ μ R' := by
  intro s
  induction s with
  | nop => exact fun h q => h.nx _ _ q
  | seq a b ha hb => exact fun {ρ μ R R'} h q => ha (R := ⟨fun ρ1 μ1 => wpS G b ρ1 μ1 R, R.rt, R.ex⟩) (R' := ⟨fun ρ1 μ1 => wpS G b ρ1 μ1 R', R'.rt, R'.ex⟩) ⟨fun ρ μ q => hb h q, h.rt, h.ex⟩ q
  | set p e => exact fun h q => m_E hG (fun d μ q => m_opt (fun ρ => h.nx _ _) q) h.ex q
  | setIdx o i e => exact fun h q => m_E hG (fun d μ q => m_E hG (fun d μ q => m_E hG (fun d μ q => m_setIdx (fun μ => h.nx _ _) q) h.ex q) h.ex q) h.ex q
  | setAttr o f e => exact fun h q => m_E hG (fun d μ q => m_E hG (fun d μ q => m_ins (fun p c l q => ⟨q.1, q.2.1, h.nx _ _ q.2.2⟩) q) h.ex q) h.ex q
  | augVar i e => exact fun h q => m_opt (fun x q => m_E hG (fun y μ q => by cases x <;> cases y <;> first | exact q.elim | exact h.nx _ _ q) h.ex q) q
  | augAttr o f e => exact fun h q => m_E hG (fun d μ q => m_ins (fun p c l q => ⟨q.1, m_opt (fun v q => m_E hG (fun y μ q => m_ins (fun p' c' l' q => ⟨q.1, by
      have q := q.2
      cases v <;> cases y <;> first | exact q.elim | exact ⟨q.1, h.nx _ _ q.2⟩⟩) q) h.ex q) q.2⟩) q) h.ex q
  | expr e => exact fun h q => m_E hG (fun d μ q => h.nx _ _ q) h.ex q
  | ret e => exact fun h q => m_E hG h.rt h.ex q
  | ite c a b ha hb => exact fun h q => m_E hG (fun d μ q => m_br (ha h) (hb h) q) h.ex q
  | «for» p k src body hb =>
    intro ρ μ R R' h q
    exact m_A hG (fun l μ q => m_iter (fun l c q => m_for (fun d ρ μ k k' hk q => m_opt (fun ρ q => hb (R := ⟨k, R.rt, R.ex⟩) (R' := ⟨k', R'.rt, R'.ex⟩) ⟨hk, h.rt, h.ex⟩ q) q) h.nx q) q) h.ex q
  | forD p i body hb =>
    intro ρ μ R R' h q
    exact m_opt (fun d q => m_rdD (fun a l q => m_for (fun d ρ μ k k' hk q => m_opt (fun ρ q => hb (R := ⟨k, _, _⟩) (R' := ⟨k', _, _⟩) ⟨hk, fun d μ q => ⟨q.1, h.rt _ _ q.2⟩, fun _ _ _ q => q⟩ q) q) (fun ρ μ q => ⟨q.1, h.nx _ _ q.2⟩) q) q) q
  | «while» c body hb =>
    intro ρ μ R R' h q
    obtain ⟨V, v0, q⟩ := q
    exact ⟨V, v0, fun m ρ μ v => m_E hG (fun d μ q => m_br (fun q => hb (R := ⟨_, R.rt, R.ex⟩) (R' := ⟨_, R'.rt, R'.ex⟩) ⟨fun _ _ z => z, h.rt, h.ex⟩ q) (h.nx _ _) q) h.ex (q m ρ μ v)⟩
  | raise c a => exact fun h q => m_A hG (fun l μ q => h.ex _ _ _ q) h.ex q
theorem m_run (f : FD) : MonoF (runF G f) := fun h hx q => ⟨q.1, m_S hG _ ⟨fun _ μ q => h _ _ q, h, hx⟩ q.2⟩
end
end MP

set_option linter.all false
set_option maxRecDepth 100000
set_option maxHeartbeats 1000000
set_option Elab.async false
/-! F0: lemmas for walking the core language. -/
namespace MP
local macro_rules
  | `(tactic| simp_wf) => `(tactic| simp only [wpE, wpA, optP, getV, matP, List.set, List.getElem?_cons_succ, List.getElem?_cons_zero, primP, arg1, arg2, arg3, binP, intP, absP, min2P, max2P])
variable {μ μ' μ1 μ2 : Sto} {a b p q : Nat} {l : List D} {i : Int} {x y d : D} {o : Ob} {ρ : Env}
theorem opt_some {α : Type} {x : α} {k : α → Prop} : optP (some x) k = k x := rfl
theorem ints_map : ∀ ns : List Int, intsD (ns.map D.int) = some ns
  | [] => rfl
  | n :: ns => by show (intsD (ns.map D.int)).map (n :: ·) = _; rw [ints_map ns]; rfl
theorem idx_lst {Q : D → Prop} (h : μ a = some (.lst l)) (hx : getI l i = some x) (k : Q x) : idxP (.ref a) (.int i) μ Q := by
  unfold idxP
  simp only [h]
  rw [hx]; exact k
theorem setIdx_lst {j : Nat} {Q : Sto → Prop} (h : μ a = some (.lst l)) (hx : ixN l.length i = some j) (k : Q (upd μ a (.lst (l.set j y)))) : setIdxP (.ref a) (.int i) y μ Q := by
  unfold setIdxP
  simp only [h]
  rw [hx]; exact k
theorem up_same : upd μ a o a = some o := by unfold upd; rw [if_pos rfl]
theorem up_ne (h : b ≠ a) : upd μ a o b = μ b := by unfold upd; rw [if_neg h]
theorem rdL_of {k : List D → Prop} (h : μ a = some (.lst l)) (q : k l) : rdL μ a k := by unfold rdL; simp only [h]; exact q
theorem opt_of {α : Type} {o : Option α} {x : α} {k : α → Prop} (h : o = some x) (q : k x) : optP o k := by rw [h]; exact q
theorem len_lst {Q : D → Sto → Prop} (h : μ a = some (.lst l)) (q : Q (.int l.length) μ) : lenP (.ref a) μ Q := by
  exact opt_of (x := l.length) (by rw [h]; rfl) q
theorem add_lst {m : List D} {Q : D → Sto → Prop} (h1 : μ a = some (.lst l)) (h2 : μ b = some (.lst m)) (hz : l.length + m.length ≤ 16777216) (q : ∀ p, μ p = none → Q (.ref p) (upd μ p (.lst (l ++ m)))) : binP .add (.ref a) (.ref b) μ Q := by
  show rdL μ a fun i => rdL μ b fun j => i.length + j.length ≤ sizeMax ∧ new μ (.lst (i ++ j)) Q
  unfold rdL
  simp only [h1, h2]
  exact ⟨hz, q⟩
theorem max_lst {ns : List Int} {Q : D → Sto → Prop} (h : μ a = some (.lst l)) (e : l = ns.map D.int) (h0 : 0 < ns.length) (q : ∀ m, m ∈ ns → (∀ x ∈ ns, x ≤ m) → Q (.int m) μ) : primP .max1 [.ref a] μ Q := by
  show rdL μ a fun l => optP (intsD l) fun ns => 0 < ns.length ∧ ∀ m, m ∈ ns → (∀ x ∈ ns, x ≤ m) → Q (.int m) μ
  refine rdL_of h (opt_of (x := ns) ?_ ⟨h0, q⟩)
  rw [e]; exact ints_map ns
theorem isi_lst (h : μ a = some (.lst l)) : isiOk (.ref a) μ := by show (μ a).map lstOrD = some true; rw [h]; rfl
theorem small_of (h : -(10 ^ 200) ≤ i) (h2 : i ≤ 10 ^ 200) : Small i := by
  unfold Small
  have : (10 : Nat) ^ 200 < 10 ^ 250 := Nat.pow_lt_pow_right (by decide) (by decide)
  omega
/-- a place is new: what is there is elsewhere -/
theorem ne_new (h : μ a = some o) (hn : μ b = none) : a ≠ b := fun z => by subst z; rw [h] at hn; cases hn
theorem up_old (h : μ a = some o) {o' : Ob} (hn : μ b = none) : upd μ b o' a = some o := by rw [up_ne (ne_new h hn)]; exact h
/-! ### what stays but for some -/
/-- off S all that was stays -/
def Kept (S : Nat → Prop) (μ μ' : Sto) : Prop := ∀ q o, ¬ S q → μ q = some o → μ' q = some o
theorem Kept.refl {S : Nat → Prop} : Kept S μ μ := fun _ _ _ h => h
theorem Kept.trans {S : Nat → Prop} (h : Kept S μ μ1) (k : Kept S μ1 μ2) : Kept S μ μ2 := fun q o hs e => k q o hs (h q o hs e)
theorem Kept.new {S : Nat → Prop} (hn : μ a = none) : Kept S μ (upd μ a o) := fun q o' _ e => up_old e hn
theorem Kept.set {S : Nat → Prop} (hs : S a) : Kept S μ (upd μ a o) := fun q o' hq e => by rw [up_ne fun z => hq (by rw [z]; exact hs)]; exact e
theorem Kept.mono {S R : Nat → Prop} (h : Kept S μ μ') (m : ∀ q, S q → R q) : Kept R μ μ' := fun q o hq e => h q o (fun z => hq (m q z)) e
abbrev Kp (b : Nat) := Kept (· = b)
abbrev Kn := Kept fun _ => False
theorem Kept.kn {S : Nat → Prop} (h : Kn μ μ') : Kept S μ μ' := h.mono fun _ z => z.elim
theorem Kept.loc {S : Nat → Prop} (hn : μ a = none) (k : Kept S μ μ') : Kept S μ (upd μ' a o) := fun q o' hq e => by rw [up_ne (ne_new e hn)]; exact k q o' hq e
theorem Kept.nw {S : Nat → Prop} (hn : μ' a = none) (k : Kept S μ μ') : Kept S μ (upd μ' a o) := fun q o' hq e => up_old (k q o' hq e) hn
theorem Kept.none_set {S : Nat → Prop} {o' : Ob} (hn : μ a = none) (k : Kp a (upd μ a o') μ') : Kept S μ μ' := fun q o' _ e => k q o' (ne_new e hn) (up_old e hn)
theorem Kept.via {S : Nat → Prop} (hn : μ a = none) (k : Kept S μ μ1) (k2 : Kp a μ1 μ2) : Kept S μ μ2 := fun q o hq e => k2 q o (ne_new e hn) (k q o hq e)
theorem Kept.wr {S : Nat → Prop} (hs : S a) (k : Kept S μ μ') : Kept S μ (upd μ' a o) := k.trans (.set hs)
theorem Kept.none {S : Nat → Prop} (k : Kept S μ μ') (hs : ¬ S a) (h : μ' a = none) : μ a = none := by
  cases e : μ a with
  | none => rfl
  | some o => rw [k a o hs e] at h; cases h
theorem eqb_int {i j : Int} : D.eqb (.int i) (.int j) = decide (i = j) := by
  show (i == j) = _
  rw [Bool.eq_iff_iff]; simp
theorem eqb_len {n k : Nat} : D.eqb (.int (n : Int)) (.int (k : Int)) = decide (n = k) := by
  rw [eqb_int, decide_eq_decide]; omega
theorem eqb_str {i j : List Nat} : D.eqb (.str i) (.str j) = decide (i = j) := by
  show (i == j) = _
  rw [Bool.eq_iff_iff]; simp
/-! ### rules -/
abbrev NoX : EX := fun _ _ _ => False
theorem yes {A B : Prop} (h : A) : br (.bl true) A B := ⟨fun _ => h, fun z => nomatch z⟩
theorem nay {A B : Prop} (h : B) : br (.bl false) A B := ⟨fun z => (nomatch z), fun _ => h⟩
theorem leNo {X : EX} : LeX NoX X := fun _ _ _ z => z.elim
def augK (v y : D) (k : Int → Prop) : Prop := match v, y with
  | .int m, .int n => k (m + n)
  | _, _ => False
theorem augK_int {m n : Int} {k : Int → Prop} : augK (.int m) (.int n) k = k (m + n) := rfl
section
variable {G : Ctx} (hG : Mono G) {e c : E} {s s' : St} {Q : D → Sto → Prop} {R : Post} {X : EX}
include hG
/-- an expression by what is known of its value -/
theorem ev (P : D → Sto → Prop) (h : wpE G e ρ μ P NoX) (k : ∀ d μ1, P d μ1 → Q d μ1) : wpE G e ρ μ Q X := m_E hG k leNo h
/-- a test that leaves the store as it is -/
theorem ite_of (b : Bool) (hc : wpE G c ρ μ (fun d μ1 => d = .bl b ∧ μ1 = μ) NoX) (h1 : b = true → wpS G s ρ μ R) (h2 : b = false → wpS G s' ρ μ R) : wpS G (.ite c s s') ρ μ R :=
  ev hG _ hc fun d μ1 ⟨e1, e2⟩ => by subst e1 e2; exact ⟨h1, h2⟩
theorem ite_ofM (M : Bool → Sto → Prop) (hc : wpE G c ρ μ (fun d μ1 => ∃ b, d = .bl b ∧ M b μ1) NoX) (h1 : ∀ μ1, M true μ1 → wpS G s ρ μ1 R) (h2 : ∀ μ1, M false μ1 → wpS G s' ρ μ1 R) : wpS G (.ite c s s') ρ μ R :=
  ev hG _ hc fun d μ1 ⟨b, e1, m⟩ => by subst e1; exact ⟨fun z => h1 _ (z ▸ m), fun z => h2 _ (z ▸ m)⟩
theorem if_thenM {r : St} (M : Bool → Sto → Prop) (hc : wpE G c ρ μ (fun d μ1 => ∃ b, d = .bl b ∧ M b μ1) NoX) (h1 : ∀ μ1, M true μ1 → wpS G s ρ μ1 ⟨fun ρ1 μ1 => wpS G r ρ1 μ1 R, R.rt, R.ex⟩) (h2 : ∀ μ1, M false μ1 → wpS G r ρ μ1 R) : wpS G (.seq (.ite c s .nop) r) ρ μ R :=
  ev hG _ hc fun d μ1 ⟨b, e1, m⟩ => by subst e1; exact ⟨fun z => h1 _ (z ▸ m), fun z => h2 _ (z ▸ m)⟩
theorem seq_of (M : Env → Sto → Prop) (h : wpS G s ρ μ ⟨M, R.rt, R.ex⟩) (k : ∀ ρ1 μ1, M ρ1 μ1 → wpS G s' ρ1 μ1 R) : wpS G (.seq s s') ρ μ R :=
  m_S hG s (R := ⟨M, R.rt, R.ex⟩) (R' := ⟨fun ρ1 μ1 => wpS G s' ρ1 μ1 R, R.rt, R.ex⟩) ⟨k, fun _ _ z => z, fun _ _ _ z => z⟩ h
/-- e comes to v and leaves the store as it is -/
abbrev Val (G : Ctx) (e : E) (ρ : Env) (μ : Sto) (v : D) : Prop := wpE G e ρ μ (fun d μ1 => d = v ∧ μ1 = μ) NoX
omit hG in
theorem vl {v : D} (h : wpE G e ρ μ (fun d μ1 => d = v ∧ μ1 = μ) NoX) : Val G e ρ μ v := h
theorem v_use {v : D} (h : Val G e ρ μ v) (k : Q v μ) : wpE G e ρ μ Q X := ev hG _ h fun d μ1 ⟨e1, e2⟩ => by subst e1 e2; exact k
theorem v_and {b1 b2 : Bool} {e' : E} (h1 : Val G e ρ μ (.bl b1)) (h2 : b1 = true → Val G e' ρ μ (.bl b2)) : Val G (.and e e') ρ μ (.bl (b1 && b2)) := v_use (e := e) hG h1 (by
  cases b1 with
  | true => exact yes (v_use hG (h2 rfl) ⟨rfl, rfl⟩)
  | false => exact nay ⟨rfl, rfl⟩)
theorem v_or {b1 b2 : Bool} {e' : E} (h1 : Val G e ρ μ (.bl b1)) (h2 : b1 = false → Val G e' ρ μ (.bl b2)) : Val G (.or e e') ρ μ (.bl (b1 || b2)) := v_use (e := e) hG h1 (by
  cases b1 with
  | true => exact yes ⟨rfl, rfl⟩
  | false => exact nay (v_use hG (h2 rfl) ⟨rfl, rfl⟩))
theorem v_not {b1 : Bool} (h1 : Val G e ρ μ (.bl b1)) : Val G (.not e) ρ μ (.bl (!b1)) := v_use (e := e) hG h1 ⟨rfl, rfl⟩
theorem ite_v {b : Bool} (hc : Val G c ρ μ (.bl b)) (h1 : b = true → wpS G s ρ μ R) (h2 : b = false → wpS G s' ρ μ R) : wpS G (.ite c s s') ρ μ R := v_use hG hc ⟨h1, h2⟩
theorem ret_v {v : D} (h : Val G e ρ μ v) (k : R.rt v μ) : wpS G (.ret e) ρ μ R := v_use hG h k
theorem set_v {v : D} {p : P} (h : Val G e ρ μ v) {ρ1 : Env} (hm : matP p v ρ = some ρ1) (k : R.nx ρ1 μ) : wpS G (.set p e) ρ μ R := v_use hG h (by rw [hm]; exact k)
omit hG in
theorem seq_set {p : P} {r : St} (h : wpE G e ρ μ (fun d μ1 => optP (matP p d ρ) fun ρ1 => wpS G r ρ1 μ1 R) R.ex) : wpS G (.seq (.set p e) r) ρ μ R := h
omit hG in
theorem ret_of (h : wpE G e ρ μ R.rt R.ex) : wpS G (.ret e) ρ μ R := h
omit hG in
theorem seq_exp {r : St} (h : wpE G e ρ μ (fun _ μ1 => wpS G r ρ μ1 R) R.ex) : wpS G (.seq (.expr e) r) ρ μ R := h
omit hG in
theorem seq_sidx {o i : E} {r : St} (h : wpE G e ρ μ (fun y μ1 => wpE G o ρ μ1 (fun x μ2 => wpE G i ρ μ2 (fun k μ3 => setIdxP x k y μ3 fun μ4 => wpS G r ρ μ4 R) R.ex) R.ex) R.ex) : wpS G (.seq (.setIdx o i e) r) ρ μ R := h
omit hG in
theorem ws_set {p : P} {r : St} : wpS G (.seq (.set p e) r) ρ μ R = wpE G e ρ μ (fun d μ1 => optP (matP p d ρ) fun ρ1 => wpS G r ρ1 μ1 R) R.ex := rfl
omit hG in
theorem ws_set1 {p : P} : wpS G (.set p e) ρ μ R = wpE G e ρ μ (fun d μ1 => optP (matP p d ρ) fun ρ1 => R.nx ρ1 μ1) R.ex := rfl
omit hG in
theorem ws_ret : wpS G (.ret e) ρ μ R = wpE G e ρ μ R.rt R.ex := rfl
omit hG in
theorem ws_nop : wpS G .nop ρ μ R = R.nx ρ μ := rfl
omit hG in
theorem ws_exp {r : St} : wpS G (.seq (.expr e) r) ρ μ R = wpE G e ρ μ (fun _ μ1 => wpS G r ρ μ1 R) R.ex := rfl
omit hG in
theorem ws_exp1 : wpS G (.expr e) ρ μ R = wpE G e ρ μ (fun _ μ1 => R.nx ρ μ1) R.ex := rfl
omit hG in
theorem ws_sidx {o i : E} {r : St} : wpS G (.seq (.setIdx o i e) r) ρ μ R = wpE G e ρ μ (fun y μ1 => wpE G o ρ μ1 (fun x μ2 => wpE G i ρ μ2 (fun k μ3 => setIdxP x k y μ3 fun μ4 => wpS G r ρ μ4 R) R.ex) R.ex) R.ex := rfl
omit hG in
theorem ws_sidx1 {o i : E} : wpS G (.setIdx o i e) ρ μ R = wpE G e ρ μ (fun y μ1 => wpE G o ρ μ1 (fun x μ2 => wpE G i ρ μ2 (fun k μ3 => setIdxP x k y μ3 fun μ4 => R.nx ρ μ4) R.ex) R.ex) R.ex := rfl
omit hG in
theorem ws_satt {o : E} {f : Nat} {r : St} : wpS G (.seq (.setAttr o f e) r) ρ μ R = wpE G e ρ μ (fun y μ1 => wpE G o ρ μ1 (fun x μ2 => insP x μ2 fun p c l => G.fl c f = true ∧ l.length < 1000 ∧ wpS G r ρ (upd μ2 p (.ins c (putF l f y))) R) R.ex) R.ex := rfl
omit hG in
theorem ws_satt1 {o : E} {f : Nat} : wpS G (.setAttr o f e) ρ μ R = wpE G e ρ μ (fun y μ1 => wpE G o ρ μ1 (fun x μ2 => insP x μ2 fun p c l => G.fl c f = true ∧ l.length < 1000 ∧ R.nx ρ (upd μ2 p (.ins c (putF l f y)))) R.ex) R.ex := rfl
omit hG in
theorem ws_for {p : P} {kd : IK} {src : E} {body : St} : wpS G (.for p kd src body) ρ μ R = wpA G src ρ μ (fun ds μ1 => iterP kd ds μ1 fun l chk => forP chk (fun d ρ1 μ2 K => optP (matP p d ρ1) fun ρ2 => wpS G body ρ2 μ2 ⟨K, R.rt, R.ex⟩) R.nx l ρ μ1) R.ex := rfl
omit hG in
theorem ws_forS {p : P} {kd : IK} {src : E} {body r : St} : wpS G (.seq (.for p kd src body) r) ρ μ R = wpA G src ρ μ (fun ds μ1 => iterP kd ds μ1 fun l chk => forP chk (fun d ρ1 μ2 K => optP (matP p d ρ1) fun ρ2 => wpS G body ρ2 μ2 ⟨K, R.rt, R.ex⟩) (fun ρ1 μ1 => wpS G r ρ1 μ1 R) l ρ μ1) R.ex := rfl
omit hG in
theorem ws_aat1 {o : E} {f : Nat} : wpS G (.augAttr o f e) ρ μ R = wpE G o ρ μ (fun x μ1 => insP x μ1 fun p c l => G.fl c f = true ∧ optP (lookF l f) fun v => wpE G e ρ μ1 (fun y μ2 => insP (.ref p) μ2 fun _ c' l' => c' = c ∧ augK v y fun n => l'.length < 1000 ∧ R.nx ρ (upd μ2 p (.ins c (putF l' f (.int n))))) R.ex) R.ex := rfl
omit hG in
theorem ws_aat {o : E} {f : Nat} {r : St} : wpS G (.seq (.augAttr o f e) r) ρ μ R = wpE G o ρ μ (fun x μ1 => insP x μ1 fun p c l => G.fl c f = true ∧ optP (lookF l f) fun v => wpE G e ρ μ1 (fun y μ2 => insP (.ref p) μ2 fun _ c' l' => c' = c ∧ augK v y fun n => l'.length < 1000 ∧ wpS G r ρ (upd μ2 p (.ins c (putF l' f (.int n)))) R) R.ex) R.ex := rfl
omit hG in
theorem ws_avar1 {i : Nat} : wpS G (.augVar i e) ρ μ R = optP (getV ρ i) (fun x => wpE G e ρ μ (fun y μ1 => augK x y fun n => R.nx (ρ.set i (some (.int n))) μ1) R.ex) := rfl
omit hG in
theorem ws_avar {i : Nat} {r : St} : wpS G (.seq (.augVar i e) r) ρ μ R = optP (getV ρ i) (fun x => wpE G e ρ μ (fun y μ1 => augK x y fun n => wpS G r (ρ.set i (some (.int n))) μ1 R) R.ex) := rfl
/-- first a test with nothing else, then the rest -/
theorem if_then {b : Bool} {r : St} (hc : Val G c ρ μ (.bl b)) (h1 : b = true → wpS G s ρ μ ⟨fun ρ1 μ1 => wpS G r ρ1 μ1 R, R.rt, R.ex⟩) (h2 : b = false → wpS G r ρ μ R) : wpS G (.seq (.ite c s .nop) r) ρ μ R := v_use hG hc ⟨h1, h2⟩
end
/-! ### what is worked out at once -/
section
variable {Q : D → Sto → Prop} {k : Bool → Prop} {kd : D → Prop} {j : Int} {s t : List Nat} {v w : D}
theorem b_add : binP .add (.int i) (.int j) μ Q = Q (.int (i + j)) μ := rfl
theorem b_addS : binP .add (.str s) (.str t) μ Q = (s.length + t.length ≤ sizeMax ∧ Q (.str (s ++ t)) μ) := rfl
theorem b_addT {m : List D} : binP .add (.tup l) (.tup m) μ Q = (l.length + m.length ≤ sizeMax ∧ Q (.tup (l ++ m)) μ) := rfl
theorem b_sub : binP .sub (.int i) (.int j) μ Q = Q (.int (i - j)) μ := rfl
theorem b_mul : binP .mul (.int i) (.int j) μ Q = (Small i ∧ Small j ∧ Q (.int (i * j)) μ) := rfl
theorem b_div : binP .fdiv (.int i) (.int j) μ Q = (0 < j ∧ Small j ∧ Q (.int (i / j)) μ) := rfl
theorem b_mod : binP .mod (.int i) (.int j) μ Q = (0 < j ∧ Q (.int (i % j)) μ) := rfl
theorem b_pow : binP .pow (.int i) (.int j) μ Q = (powOk i j = true ∧ Q (.int (i ^ j.toNat)) μ) := rfl
theorem gv_0 {r : Env} : getV (some x :: r) 0 = some x := rfl
theorem gv_s {r : Env} {z : Option D} {n : Nat} : getV (z :: r) (n + 1) = getV r n := rfl
theorem o_non : optI .non = some none := rfl
theorem o_int : optI (.int i) = some (some i) := rfl
theorem c_slT {lo hi : Option Int} : slc2P (.tup l) lo hi μ Q = Q (.tup (sliceL l lo hi)) μ := rfl
theorem sl_to {α : Type} {l : List α} {i : Int} (h : 0 ≤ i) : sliceL l none (some i) = l.take i.toNat := by
  unfold sliceL sIx
  simp only
  rw [if_neg (by omega), List.drop_zero, Nat.sub_zero]
  rw [Nat.min_comm, ← List.take_take]
  exact List.take_of_length_le (by rw [List.length_take]; exact Nat.min_le_right _ _)
theorem sl_from {α : Type} {l : List α} {i : Int} (h : 0 ≤ i) : sliceL l (some i) none = l.drop i.toNat := by
  unfold sliceL sIx
  simp only
  rw [if_neg (by omega)]
  by_cases hl : i.toNat ≤ l.length
  · rw [Nat.min_eq_left hl]
    exact List.take_of_length_le (by rw [List.length_drop]; exact Nat.le_refl _)
  · rw [Nat.min_eq_right (by omega), List.drop_length, List.drop_eq_nil_of_le (by omega)]; simp
theorem c_len : primP .len [x] μ Q = lenP x μ Q := rfl
theorem c_lenT : lenP (.tup l) μ Q = Q (.int l.length) μ := rfl
theorem c_int : primP .int [.int i] μ Q = Q (.int i) μ := rfl
theorem c_intB {b : Bool} : primP .int [.bl b] μ Q = Q (.int (b2i b)) μ := rfl
theorem c_abs : primP .abs [.int i] μ Q = Q (.int (if i < 0 then -i else i)) μ := rfl
theorem c_min : primP .min2 [.int i, .int j] μ Q = Q (.int (min i j)) μ := rfl
theorem c_max : primP .max2 [.int i, .int j] μ Q = Q (.int (max i j)) μ := rfl
theorem c_tupT : primP .tuple [.tup l] μ Q = Q (.tup l) μ := rfl
theorem c_eqI : cmpP .eq (.int i) (.int j) μ k = k (decide (i = j)) := by rw [← eqb_int]; rfl
theorem c_neI : cmpP .ne (.int i) (.int j) μ k = k (!decide (i = j)) := by rw [← eqb_int]; rfl
theorem c_eqS : cmpP .eq (.str s) (.str t) μ k = k (decide (s = t)) := by rw [← eqb_str]; rfl
theorem c_neS : cmpP .ne (.str s) (.str t) μ k = k (!decide (s = t)) := by rw [← eqb_str]; rfl
theorem c_lt : cmpP .lt (.int i) (.int j) μ k = k (decide (i < j)) := rfl
theorem c_le : cmpP .le (.int i) (.int j) μ k = k (decide (i ≤ j)) := rfl
theorem c_gt : cmpP .gt (.int i) (.int j) μ k = k (decide (j < i)) := rfl
theorem c_ge : cmpP .ge (.int i) (.int j) μ k = k (decide (j ≤ i)) := rfl
theorem c_is : cmpP .is x .non μ k = k (isNon x) := rfl
theorem c_isnot : cmpP .isnot x .non μ k = k (!isNon x) := rfl
theorem c_isB {b c : Bool} : cmpP .is (.bl c) (.bl b) μ k = k (c == b) := rfl
theorem c_isnotB {b c : Bool} : cmpP .isnot (.bl c) (.bl b) μ k = k (!(c == b)) := rfl
theorem c_idxT : idxP (.tup l) (.int i) μ kd = optP (getI l i) kd := rfl
theorem g_0 {α : Type} {a : α} {l : List α} : getI (a :: l) 0 = some a := by simp [getI, ixN]
theorem g_1 {α : Type} {a b : α} {l : List α} : getI (a :: b :: l) 1 = some b := by
  unfold getI ixN
  rw [if_pos (by decide), if_pos (by simp only [List.length_cons]; omega)]; rfl
theorem g_2 {α : Type} {a b c : α} {l : List α} : getI (a :: b :: c :: l) 2 = some c := by
  unfold getI ixN
  rw [if_pos (by decide), if_pos (by simp only [List.length_cons]; omega)]; rfl
theorem g_3 {α : Type} {a b c d : α} {l : List α} : getI (a :: b :: c :: d :: l) 3 = some d := by
  unfold getI ixN
  rw [if_pos (by decide), if_pos (by simp only [List.length_cons]; omega)]; rfl
theorem g_4 {α : Type} {a b c d e : α} {l : List α} : getI (a :: b :: c :: d :: e :: l) 4 = some e := by
  unfold getI ixN
  rw [if_pos (by decide), if_pos (by simp only [List.length_cons]; omega)]; rfl
theorem g_5 {α : Type} {a b c d e f : α} {l : List α} : getI (a :: b :: c :: d :: e :: f :: l) 5 = some f := by
  unfold getI ixN
  rw [if_pos (by decide), if_pos (by simp only [List.length_cons]; omega)]; rfl
theorem g_6 {α : Type} {a b c d e f g : α} {l : List α} : getI (a :: b :: c :: d :: e :: f :: g :: l) 6 = some g := by
  unfold getI ixN
  rw [if_pos (by decide), if_pos (by simp only [List.length_cons]; omega)]; rfl
theorem br_t {A B : Prop} : br (.bl true) A B = A := by unfold br; simp
theorem br_f {A B : Prop} : br (.bl false) A B = B := by unfold br; simp
theorem c_itA : iterP .any [x] μ = itemsP x μ := rfl
theorem c_itT {k : List D → (Sto → Prop) → Prop} : itemsP (.tup l) μ k = k l fun _ => True := rfl
theorem c_itS {k : List D → (Sto → Prop) → Prop} : itemsP (.scr ns) μ k = k (ns.map D.int) fun _ => True := rfl
theorem len_l (h : μ a = some (.lst l)) (q : Q (.int l.length) μ) : primP .len [.ref a] μ Q := len_lst h q
end
/-! ### loops -/
theorem for_all {chk : Sto → Prop} {turn : D → Env → Sto → (Env → Sto → Prop) → Prop} {K : Env → Sto → Prop} (I : Env → Sto → Prop) {l : List D} (hc : ∀ ρ μ, I ρ μ → chk μ)
    (ht : ∀ d ∈ l, ∀ ρ μ K', I ρ μ → (∀ ρ' μ', I ρ' μ' → K' ρ' μ') → turn d ρ μ K') (hk : ∀ ρ μ, I ρ μ → K ρ μ) : ∀ {ρ μ}, I ρ μ → forP chk turn K l ρ μ := by
  induction l with
  | nil => exact fun h => ⟨hc _ _ h, hk _ _ h⟩
  | cons d r ih => exact fun h => ⟨hc _ _ h, ht d (List.mem_cons_self ..) _ _ _ h fun ρ' μ' h' => ih (fun d hd => ht d (List.mem_cons_of_mem _ hd)) h'⟩
/-- by place -/
theorem for_ix {chk : Sto → Prop} {turn : D → Env → Sto → (Env → Sto → Prop) → Prop} {K : Env → Sto → Prop} {l : List D} (I : Nat → Env → Sto → Prop) (hc : ∀ i ρ μ, I i ρ μ → chk μ)
    (ht : ∀ i d, l[i]? = some d → ∀ ρ μ K', I i ρ μ → (∀ ρ' μ', I (i + 1) ρ' μ' → K' ρ' μ') → turn d ρ μ K') (hk : ∀ ρ μ, I l.length ρ μ → K ρ μ) : ∀ {ρ μ}, I 0 ρ μ → forP chk turn K l ρ μ := by
  induction l generalizing I with
  | nil => exact fun h => ⟨hc _ _ _ h, hk _ _ h⟩
  | cons d r ih =>
    exact fun h => ⟨hc _ _ _ h, ht 0 d rfl _ _ _ h fun ρ' μ' h' => ih (fun i => I (i + 1)) (fun i => hc (i + 1)) (fun i d hd => ht (i + 1) d hd) hk h'⟩
theorem range_at {lo c : Int} {n i : Nat} {d : D} (h : (rangeL lo n c)[i]? = some d) : i < n ∧ d = .int (lo + i * c) := by
  unfold rangeL at h
  rw [List.getElem?_map] at h
  cases e : (List.range n)[i]? with
  | none => rw [e] at h; cases h
  | some m =>
    rw [e] at h
    obtain ⟨h1, h2⟩ := List.getElem?_eq_some_iff.mp e
    rw [List.getElem_range] at h2
    subst h2
    cases h
    exact ⟨by simpa using h1, rfl⟩
theorem range_mem {lo c : Int} {n : Nat} {d : D} (h : d ∈ rangeL lo n c) : ∃ i : Nat, i < n ∧ d = .int (lo + i * c) := by
  obtain ⟨i, hi⟩ := List.mem_iff_getElem?.mp h
  exact ⟨i, range_at hi⟩
/-- a comprehension whose turns leave the store as it is -/
theorem comp_pure {chk : Sto → Prop} {turn : D → Sto → (Option D → Sto → Prop) → Prop} {K : List D → Sto → Prop} (f : D → Option D) (hc : chk μ) : ∀ {l acc : List D}, (∀ d ∈ l, ∀ K : Option D → Sto → Prop, K (f d) μ → turn d μ K) → acc.length + l.length ≤ sizeMax → K (acc ++ l.filterMap f) μ → compP chk turn K l acc μ
  | [], acc, _, _, k => ⟨hc, by simpa using k⟩
  | d :: r, acc, h, hl, k => by
    refine ⟨hc, h d (List.mem_cons_self ..) _ ?_⟩
    rw [List.length_cons] at hl
    cases e : f d with
    | none =>
      rw [List.filterMap_cons, e] at k
      exact comp_pure f hc (fun d hd => h d (List.mem_cons_of_mem _ hd)) (by omega) k
    | some x =>
      rw [List.filterMap_cons, e] at k
      exact ⟨by omega, comp_pure f hc (fun d hd => h d (List.mem_cons_of_mem _ hd)) (by rw [List.length_append, List.length_singleton]; omega) (by rw [List.append_assoc]; exact k)⟩
theorem getI_in {α : Type} {l : List α} {i : Int} (h0 : 0 ≤ i) (h : i < l.length) : ∃ x, getI l i = some x ∧ x ∈ l := by
  unfold getI ixN
  rw [if_pos h0, if_pos h]
  have : i.toNat < l.length := by omega
  exact ⟨l[i.toNat], by simp [List.getElem?_eq_getElem this], List.getElem_mem _⟩
/-! ### the bag -/
def BagAt (μ : Sto) (b : Nat) : Prop := ∃ x y : Int, μ b = some (.lst [.int x, .int y]) ∧ 0 ≤ x ∧ 0 ≤ y ∧ y < 2147483647
theorem BagAt.keep {S : Nat → Prop} (h : BagAt μ b) (k : Kept S μ μ') (hs : ¬ S b) : BagAt μ' b := by
  obtain ⟨x, y, e, h⟩ := h
  exact ⟨x, y, k b _ hs e, h⟩
theorem BagAt.new (h : BagAt μ b) (hn : μ a = none) : BagAt (upd μ a o) b := by
  obtain ⟨x, y, e, h⟩ := h
  exact ⟨x, y, up_old e hn, h⟩
theorem BagAt.ne (h : BagAt μ b) (hn : μ a = none) : a ≠ b := by
  obtain ⟨x, y, e, _⟩ := h
  exact (ne_new e hn).symm
theorem BagAt.off (h : BagAt μ b) (ne : a ≠ b) : BagAt (upd μ a o) b := by
  obtain ⟨x, y, e, h⟩ := h
  exact ⟨x, y, by rw [up_ne (Ne.symm ne)]; exact e, h⟩
abbrev BagS (F : Fn) : Prop := ∀ {ns : List Int} {k : Int} {μ : Sto} {Q : D → Sto → Prop} {X : EX}, 0 ≤ k → k < 1000 → (∀ b μ', μ b = none → BagAt μ' b → Kn μ μ' → Q (.ref b) μ') → F [.scr ns, .int k] μ Q X
abbrev TakeS (F : Fn) : Prop := ∀ {b : Nat} {m : Int} {μ : Sto} {Q : D → Sto → Prop} {X : EX}, BagAt μ b → 0 < m → m < 10 ^ 100 → (∀ (r : Int) μ', 0 ≤ r → r < m → BagAt μ' b → Kp b μ μ' → Q (.int r) μ') → F [.ref b, .int m] μ Q X
end MP

set_option linter.all false
set_option maxRecDepth 100000
set_option maxHeartbeats 1000000
set_option Elab.async false
/-! MPS: sorting of data; in plain Lean. -/
namespace MP
theorem strLt_dec : ∀ a b : List Nat, strLt a b = decide (a < b)
  | [], [] => by simp [strLt]
  | _ :: _, [] => by simp [strLt]
  | [], _ :: _ => by simp [strLt]
  | x :: a, y :: b => by
    unfold strLt
    rw [strLt_dec a b, Bool.eq_iff_iff]
    simp only [Bool.or_eq_true, Bool.and_eq_true, decide_eq_true_eq, beq_iff_eq, List.cons_lt_cons_iff]
theorem strLe_dec {a b : List Nat} : strLt b a = false ↔ a ≤ b := by
  rw [strLt_dec, decide_eq_false_iff_not]; exact List.not_lt
theorem uniq {α : Type} {le : α → α → Prop} (anti : ∀ a b, le a b → le b a → a = b) : ∀ {l m : List α}, l.Perm m → l.Pairwise le → m.Pairwise le → l = m
  | [], m, p, _, _ => (List.nil_perm.mp p).symm
  | a :: l, [], p, _, _ => by have := p.length_eq; simp at this
  | a :: l, b :: m, p, h1, h2 => by
    rw [List.pairwise_cons] at h1 h2
    have e : a = b := by
      have ha : a ∈ b :: m := p.mem_iff.mp (List.mem_cons_self ..)
      have hb : b ∈ a :: l := p.mem_iff.mpr (List.mem_cons_self ..)
      rcases List.mem_cons.mp ha with e | ha
      · exact e
      rcases List.mem_cons.mp hb with e | hb
      · exact e.symm
      exact anti _ _ (h1.1 b hb) (h2.1 a ha)
    subst e
    rw [uniq anti (List.Perm.cons_inv p) h1.2 h2.2]
theorem insD_perm {x : D} : ∀ {l : List D}, (insD x l).Perm (x :: l)
  | [] => .refl _
  | y :: r => by
    unfold insD
    split
    · exact .refl _
    · exact (List.Perm.cons y insD_perm).trans (.swap x y r)
theorem sortD_perm : ∀ {l : List D}, (sortD l).Perm l
  | [] => .refl _
  | x :: r => insD_perm.trans (.cons x sortD_perm)
/-- a kind of data that leB orders -/
def Ordered' (p : D → Bool) : Prop := (∀ a b, p a = true → p b = true → leB a b = false → leB b a = true) ∧ (∀ a b c, p a = true → p b = true → p c = true → leB a b = true → leB b c = true → leB a c = true) ∧ (∀ a b, p a = true → p b = true → leB a b = true → leB b a = true → a = b)
theorem ord_int : Ordered' isInt := by
  refine ⟨fun a b ha hb h => ?_, fun a b c ha hb hc h1 h2 => ?_, fun a b ha hb h1 h2 => ?_⟩
  · cases a <;> first | cases ha | skip
    cases b <;> first | cases hb | skip
    simp [leB] at h ⊢; omega
  · cases a <;> first | cases ha | skip
    cases b <;> first | cases hb | skip
    cases c <;> first | cases hc | skip
    simp [leB] at h1 h2 ⊢; omega
  · cases a <;> first | cases ha | skip
    cases b <;> first | cases hb | skip
    simp [leB] at h1 h2 ⊢; omega
theorem ord_str : Ordered' isStr := by
  refine ⟨fun a b ha hb h => ?_, fun a b c ha hb hc h1 h2 => ?_, fun a b ha hb h1 h2 => ?_⟩
  · cases a <;> first | cases ha | skip
    cases b <;> first | cases hb | skip
    simp only [leB, Bool.not_eq_false', Bool.not_eq_true', strLt_dec, decide_eq_true_eq, decide_eq_false_iff_not] at h ⊢
    exact List.lt_asymm h
  · cases a <;> first | cases ha | skip
    cases b <;> first | cases hb | skip
    cases c <;> first | cases hc | skip
    simp only [leB, Bool.not_eq_true', strLe_dec] at h1 h2 ⊢
    exact List.le_trans h1 h2
  · cases a <;> first | cases ha | skip
    cases b <;> first | cases hb | skip
    simp only [leB, Bool.not_eq_true', strLe_dec] at h1 h2
    rw [List.le_antisymm h1 h2]
theorem insD_pw {p : D → Bool} (O : Ordered' p) {x : D} (hx : p x = true) : ∀ {l : List D}, l.all p = true → l.Pairwise (fun a b => leB a b = true) → (insD x l).Pairwise (fun a b => leB a b = true)
  | [], _, _ => by simp [insD]
  | y :: r, ha, h => by
    rw [List.all_cons, Bool.and_eq_true] at ha
    rw [List.pairwise_cons] at h
    unfold insD
    split
    · rename_i e
      refine List.pairwise_cons.mpr ⟨fun z hz => ?_, List.pairwise_cons.mpr h⟩
      rcases List.mem_cons.mp hz with rfl | hz
      · exact e
      · exact O.2.1 _ _ _ hx ha.1 (List.all_eq_true.mp ha.2 z hz) e (h.1 z hz)
    · rename_i e
      refine List.pairwise_cons.mpr ⟨fun z hz => ?_, insD_pw O hx ha.2 h.2⟩
      rcases List.mem_cons.mp (insD_perm.mem_iff.mp hz) with rfl | hz
      · exact O.1 _ _ hx ha.1 (by simpa using e)
      · exact h.1 z hz
theorem sortD_pw {p : D → Bool} (O : Ordered' p) : ∀ {l : List D}, l.all p = true → (sortD l).Pairwise (fun a b => leB a b = true)
  | [], _ => .nil
  | x :: r, h => by
    rw [List.all_cons, Bool.and_eq_true] at h
    refine insD_pw O h.1 ?_ (sortD_pw O h.2)
    exact List.all_eq_true.mpr fun z hz => List.all_eq_true.mp h.2 z (sortD_perm.mem_iff.mp hz)
/-- what is sorted is told -/
theorem sortD_of {p : D → Bool} (O : Ordered' p) {l m : List D} (hl : l.all p = true) (h : m.Perm l) (hs : m.Pairwise fun a b => leB a b = true) : m = sortD l := by
  have hm : m.all p = true := List.all_eq_true.mpr fun z hz => List.all_eq_true.mp hl z (h.mem_iff.mp hz)
  have h2 : (sortD l).all p = true := List.all_eq_true.mpr fun z hz => List.all_eq_true.mp hl z (sortD_perm.mem_iff.mp hz)
  refine uniq (le := fun a b => p a = true ∧ p b = true ∧ leB a b = true) (fun a b x y => O.2.2 a b x.1 x.2.1 x.2.2 y.2.2) (h.trans sortD_perm.symm) ?_ ?_
  · exact (List.pairwise_iff_forall_sublist.mpr fun {a b} s => ⟨List.all_eq_true.mp hm a (s.subset (by simp)), List.all_eq_true.mp hm b (s.subset (by simp)), List.pairwise_iff_forall_sublist.mp hs s⟩)
  · exact (List.pairwise_iff_forall_sublist.mpr fun {a b} s => ⟨List.all_eq_true.mp h2 a (s.subset (by simp)), List.all_eq_true.mp h2 b (s.subset (by simp)), List.pairwise_iff_forall_sublist.mp (sortD_pw O hl) s⟩)
theorem sortD_eq {p : D → Bool} (O : Ordered' p) {l m : List D} (hl : l.all p = true) (h : m.Perm l) : sortD m = sortD l :=
  sortD_of O hl (sortD_perm.trans h) (sortD_pw O (List.all_eq_true.mpr fun z hz => List.all_eq_true.mp hl z (h.mem_iff.mp hz)))
theorem all_ints (ns : List Int) : (ns.map D.int).all isInt = true := by rw [List.all_eq_true]; intro x hx; obtain ⟨n, _, rfl⟩ := List.mem_map.mp hx; rfl
theorem all_strs (ns : List (List Nat)) : (ns.map D.str).all isStr = true := by rw [List.all_eq_true]; intro x hx; obtain ⟨n, _, rfl⟩ := List.mem_map.mp hx; rfl
theorem isInt_map : ∀ {l : List D}, l.all isInt = true → ∃ ns : List Int, l = ns.map D.int
  | [], _ => ⟨[], rfl⟩
  | x :: r, h => by
    rw [List.all_cons, Bool.and_eq_true] at h
    obtain ⟨ns, rfl⟩ := isInt_map h.2
    cases x <;> first | exact ⟨_ :: ns, rfl⟩ | (have := h.1; cases this)
theorem isStr_map : ∀ {l : List D}, l.all isStr = true → ∃ ns : List (List Nat), l = ns.map D.str
  | [], _ => ⟨[], rfl⟩
  | x :: r, h => by
    rw [List.all_cons, Bool.and_eq_true] at h
    obtain ⟨ns, rfl⟩ := isStr_map h.2
    cases x <;> first | exact ⟨_ :: ns, rfl⟩ | (have := h.1; cases this)
theorem sortD_ints {ns ms : List Int} (h : ms.Perm ns) (hs : ms.Pairwise (· ≤ ·)) : sortD (ns.map D.int) = ms.map D.int :=
  (sortD_of ord_int (all_ints ns) (h.map _) (List.pairwise_map.mpr (hs.imp fun h => by simpa [leB] using h))).symm
theorem sortD_strs {ns ms : List (List Nat)} (h : ms.Perm ns) (hs : ms.Pairwise fun a b => strLt b a = false) : sortD (ns.map D.str) = ms.map D.str :=
  (sortD_of ord_str (all_strs ns) (h.map _) (List.pairwise_map.mpr (hs.imp fun h => by simp only [leB, Bool.not_eq_true']; exact h))).symm
end MP

set_option linter.all false
set_option maxRecDepth 100000
set_option Elab.async false
/-! MP1: data and stores over the abstract heap. -/
namespace MP
open PySem PySem.Spec PyProof.Rows L2

abbrev toS (x : List Nat) : Str := ⟨x.toArray⟩
theorem toS_inj {x y : List Nat} (h : toS x = toS y) : x = y := by
  have := congrArg (fun z : Str => z.cps.toList) h
  simpa using this
theorem toS_cps (z : Str) : toS z.cps.toList = z := by cases z; simp [toS]
theorem sizeMax_eq : sizeMax = sizeLine := by rw [sizeLine_eq]; rfl

/-- a list that is read and never changes, at p: the script -/
def FrzL (K : PySem.W.Frag) (H : Hp) (p : Addr) (vs : List V) : Prop := (∃ o, H p = some (.frz o (.lst vs))) ∨
    ∃ (o : Obj) (its : Array Value) (n : Nat), K.lookup p = some o ∧ o.cls = .type "list" ∧ o.dict = none ∧ o.data = .seq its n ∧ its.size ≤ sizeLine ∧ Vals vs its.toList
theorem FrzL.sq {K : PySem.W.Frag} {H : Hp} {p : Addr} {vs : List V} (h : FrzL K H p vs) : SqL K H p vs := h.elim (fun h => .inl (.inr h)) .inr
mutual
def RepV (K : PySem.W.Frag) (H : Hp) : D → V → Prop
  | .non, v => v = .non
  | .bl b, v => v = .bl b
  | .int i, v => v = .int i
  | .str x, v => v = .str (toS x)
  | .tup ds, v => ∃ p vs, v = .ref p ∧ SqT K H p vs ∧ RepVs K H ds vs
  | .scr l, v => ∃ p, v = .ref p ∧ FrzL K H p (l.map V.int)
  | .ref a, v => v = .ref a
def RepVs (K : PySem.W.Frag) (H : Hp) : List D → List V → Prop
  | [], vs => vs = []
  | d :: ds, vs => ∃ v r, vs = v :: r ∧ RepV K H d v ∧ RepVs K H ds r
end
mutual
def toNK : D → NestedKey
  | .int i => .num i
  | .str x => .text (toS x)
  | .tup ds => .tup (toNKs ds)
  | .non => .none
  | .bl _ => .none
  | .ref _ => .none
  | .scr _ => .none
def toNKs : List D → List NestedKey
  | [] => []
  | d :: ds => toNK d :: toNKs ds
end
/-- what the text's names are, and where its classes stand -/
structure Tab where
  fld : List Str
  cls : Nat → Addr
  nd : fld.Nodup
  /-- tables of code objects, each with the name that its code objects bear -/
  tabs : List (Addr × Str)
abbrev IsObj (a : Addr) (o : Obj) : Heap → Prop := fun h => h.get? a = some o
/-- a flat dict's pairs -/
def RepK (K : PySem.W.Frag) (H : Hp) : List (D × D) → List (Key × V) → Prop
  | [], l => l = []
  | (k, d) :: r, l => ∃ κ v q, l = (κ, v) :: q ∧ RepV K H k (kV κ) ∧ isFlat k = true ∧ RepV K H d v ∧ RepK K H r q
/-- an instance's fields -/
def RepF (K : PySem.W.Frag) (H : Hp) (fld : List Str) : List (Nat × D) → List (Str × V) → Prop
  | [], l => l = []
  | (k, d) :: r, l => ∃ x v q, l = (x, v) :: q ∧ fld[k]? = some x ∧ RepV K H d v ∧ RepF K H fld r q
/-- the entries of a dict whose keys are tuples -/
def RepE (w : World) (K : PySem.W.Frag) (H : Hp) : List (D × D) → List DictEntry → Prop
  | [], l => l = []
  | (k, d) :: r, l => ∃ a v u q, l = ⟨(toNK k).hash w, .ref a, u⟩ :: q ∧ RepV K H k (.ref a) ∧ isTupKey k = true ∧ RepV K H d v ∧ RelV v u ∧ RepE w K H r q
section
variable (w : World) (K : PySem.W.Frag) (T : Tab)
def RepO (H : Hp) (a : Addr) : Ob → Prop
  | .lst l => ∃ vs, H a = some (.lst vs) ∧ RepVs K H l vs
  | .dF l => ∃ kvs, H a = some (.dK kvs) ∧ RepK K H l kvs
  | .dT l => ∃ o es ep, H a = some (.ext (IsObj a o)) ∧ o.ExactDict ∧ o.data = .dict es ep ∧ RepE w K H l es.toList ∧ (l.map fun p => toNK p.1).Nodup ∧ (a == sysModules) = false ∧ l.length ≤ sizeMax
  | .dL l => ∃ o kvs, H a = some (.frz o (.dK kvs)) ∧ RepK K H l kvs
  | .ins c l => ∃ dx fs, H a = some (.ins (T.cls c) dx fs) ∧ Cls K (T.cls c) ∧ RepF K H T.fld l fs
/-- a table of code objects stands: these are not of the store -/
def TabM (H : Hp) (μ : Sto) (p : Addr × Str) : Prop := ∃ ps : Array Value, H p.1 = some (.tbl ps) ∧ TriplesOk ps.toList ∧ ∀ (pos : Pos) (cv : Value), PySem.codeAmong pos ps.toList = some cv → ∃ c, cv = .ref c ∧ H c = some (LamX.CodeO c p.2) ∧ μ c = none
structure RepH (H : Hp) (μ : Sto) : Prop where
  ob : ∀ a o, μ a = some o → RepO w K T H a o
  tb : ∀ p ∈ T.tabs, TabM H μ p
instance {H : Hp} {μ : Sto} : CoeFun (RepH w K T H μ) (fun _ => ∀ a o, μ a = some o → RepO w K T H a o) := ⟨RepH.ob⟩
def RepS (H : Hp) (ρ : Env) (σ : L2.St) : Prop := ρ.length = σ.length ∧ ∀ (i : Nat) d, ρ[i]? = some (some d) → ∃ v, σ[i]? = some (some v) ∧ RepV K H d v
end
/-- tuples and frozen things stay -/
def Keeps (H H' : Hp) : Prop := (∀ p xs, H p = some (.tup xs) → H' p = some (.tup xs)) ∧ ∀ p o u, H p = some (.frz o u) → (∀ k, u ≠ .dK k) → H' p = some (.frz o u)
/-- what is not in the store stays as it is, but for tables of code objects; so do dicts that are walked -/
structure Fr (H : Hp) (μ : Sto) (H' : Hp) (μ' : Sto) : Prop where
  out : ∀ a o, H a = some o → μ a = none → (∀ ps, o ≠ .tbl ps) → H' a = some o ∧ μ' a = none
  lk : ∀ a l u, H a = some u → μ a = some (.dL l) → H' a = some u ∧ μ' a = some (.dL l)
section
variable {w : World} {K : PySem.W.Frag} {T : Tab} {H H' H1 H2 : Hp} {μ μ' μ1 μ2 : Sto} {a p : Addr}
theorem Keeps.refl : Keeps H H := ⟨fun _ _ h => h, fun _ _ _ h _ => h⟩
theorem Keeps.trans (x : Keeps H H1) (y : Keeps H1 H2) : Keeps H H2 := ⟨fun p xs h => y.1 p xs (x.1 p xs h), fun p o u h n => y.2 p o u (x.2 p o u h n) n⟩
theorem Keeps.rd {u : HO} (x : Keeps H H') (hu : (∃ xs, u = .tup xs)) (h : Rd H p u) : Rd H' p u := by
  obtain ⟨xs, rfl⟩ := hu
  rcases h with h | ⟨o, h⟩
  · exact .inl (x.1 _ _ h)
  · exact .inr ⟨o, x.2 _ _ _ h fun _ => HO.noConfusion⟩
theorem Keeps.sqT {vs : List V} (x : Keeps H H') (h : SqT K H p vs) : SqT K H' p vs := h.elim (fun h => .inl (x.rd ⟨_, rfl⟩ h)) .inr
theorem Keeps.frz {vs : List V} (x : Keeps H H') (h : FrzL K H p vs) : FrzL K H' p vs := h.elim (fun ⟨o, h⟩ => .inl ⟨o, x.2 _ _ _ h fun _ => HO.noConfusion⟩) .inr
mutual
theorem RepV.mono (x : Keeps H H') : ∀ {d : D} {v : V}, RepV K H d v → RepV K H' d v
  | .non, _, h => h
  | .bl _, _, h => h
  | .int _, _, h => h
  | .str _, _, h => h
  | .ref _, _, h => h
  | .scr _, _, ⟨p, e, h⟩ => ⟨p, e, x.frz h⟩
  | .tup ds, _, ⟨p, vs, e, h, r⟩ => ⟨p, vs, e, x.sqT h, RepVs.mono x r⟩
theorem RepVs.mono (x : Keeps H H') : ∀ {ds : List D} {vs : List V}, RepVs K H ds vs → RepVs K H' ds vs
  | [], _, h => h
  | _ :: _, _, ⟨v, r, e, h, q⟩ => ⟨v, r, e, RepV.mono x h, RepVs.mono x q⟩
end
theorem RepK.mono (x : Keeps H H') : ∀ {l : List (D × D)} {k : List (Key × V)}, RepK K H l k → RepK K H' l k
  | [], _, h => h
  | (_, _) :: _, _, ⟨κ, v, q, e, h1, h2, h3, h4⟩ => ⟨κ, v, q, e, h1.mono x, h2, h3.mono x, RepK.mono x h4⟩
theorem RepF.mono {fld : List Str} (x : Keeps H H') : ∀ {l : List (Nat × D)} {k : List (Str × V)}, RepF K H fld l k → RepF K H' fld l k
  | [], _, h => h
  | (_, _) :: _, _, ⟨y, v, q, e, h1, h3, h4⟩ => ⟨y, v, q, e, h1, h3.mono x, RepF.mono x h4⟩
theorem RepE.mono (x : Keeps H H') : ∀ {l : List (D × D)} {k : List DictEntry}, RepE w K H l k → RepE w K H' l k
  | [], _, h => h
  | (_, _) :: _, _, ⟨a, v, u, q, e, h1, h2, h3, h4, h5⟩ => ⟨a, v, u, q, e, h1.mono x, h2, h3.mono x, h4, RepE.mono x h5⟩
theorem RepO.at {o : Ob} (x : Keeps H H') (e : ∀ u, H a = some u → H' a = some u) (h : RepO w K T H a o) : RepO w K T H' a o := by
  cases o with
  | lst l => obtain ⟨vs, h1, h2⟩ := h; exact ⟨vs, e _ h1, h2.mono x⟩
  | dF l => obtain ⟨vs, h1, h2⟩ := h; exact ⟨vs, e _ h1, h2.mono x⟩
  | dT l => obtain ⟨o, es, ep, h1, h2, h3, h4, h5⟩ := h; exact ⟨o, es, ep, e _ h1, h2, h3, h4.mono x, h5⟩
  | dL l => obtain ⟨o, kvs, h1, h2⟩ := h; exact ⟨o, kvs, e _ h1, h2.mono x⟩
  | ins c l => obtain ⟨dx, fs, h1, hc, h2⟩ := h; exact ⟨dx, fs, e _ h1, hc, h2.mono x⟩
theorem RepO.some {o : Ob} (h : RepO w K T H a o) : ∃ u, H a = some u ∧ (∀ xs, u ≠ .tup xs) ∧ (∀ o v, (∀ k, v ≠ .dK k) → u ≠ .frz o v) ∧ ∀ ps, u ≠ .tbl ps := by
  cases o with
  | lst l => obtain ⟨vs, h1, h2⟩ := h; exact ⟨_, h1, fun _ => HO.noConfusion, fun _ _ _ => HO.noConfusion, fun _ => HO.noConfusion⟩
  | dF l => obtain ⟨vs, h1, h2⟩ := h; exact ⟨_, h1, fun _ => HO.noConfusion, fun _ _ _ => HO.noConfusion, fun _ => HO.noConfusion⟩
  | dT l => obtain ⟨o, es, ep, h1, h2⟩ := h; exact ⟨_, h1, fun _ => HO.noConfusion, fun _ _ _ => HO.noConfusion, fun _ => HO.noConfusion⟩
  | dL l => obtain ⟨o, kvs, h1, h2⟩ := h; exact ⟨_, h1, fun _ => HO.noConfusion, fun _ _ n z => by cases z; exact n _ rfl, fun _ => HO.noConfusion⟩
  | ins c l => obtain ⟨dx, fs, h1, h2⟩ := h; exact ⟨_, h1, fun _ => HO.noConfusion, fun _ _ _ => HO.noConfusion, fun _ => HO.noConfusion⟩
theorem RepH.free (h : RepH w K T H μ) (e : H a = none) : μ a = none := by
  cases q : μ a with
  | none => rfl
  | some o =>
    obtain ⟨u, h1, _⟩ := (h a o q).some
    rw [e] at h1; cases h1
theorem RepH.tup (h : RepH w K T H μ) {xs : List V} (e : H a = some (.tup xs)) : μ a = none := by
  cases q : μ a with
  | none => rfl
  | some o =>
    obtain ⟨u, h1, h2, _⟩ := (h a o q).some
    rw [e] at h1; cases h1
    exact absurd rfl (h2 xs)
theorem RepH.frz (h : RepH w K T H μ) {o : Obj} {u : HO} (e : H a = some (.frz o u)) (n : ∀ k, u ≠ .dK k) : μ a = none := by
  cases q : μ a with
  | none => rfl
  | some o' =>
    obtain ⟨v, h1, _, h2, _⟩ := (h a o' q).some
    rw [e] at h1; cases h1
    exact absurd rfl (h2 o u n)
theorem RepH.tbl (h : RepH w K T H μ) {ps : Array Value} (e : H a = some (.tbl ps)) : μ a = none := by
  cases q : μ a with
  | none => rfl
  | some o' =>
    obtain ⟨v, h1, _, _, h2⟩ := (h a o' q).some
    rw [e] at h1; cases h1
    exact absurd rfl (h2 ps)
theorem Fr.refl : Fr H μ H μ := ⟨fun _ _ h e _ => ⟨h, e⟩, fun _ _ _ h e => ⟨h, e⟩⟩
theorem Fr.trans (x : Fr H μ H1 μ1) (y : Fr H1 μ1 H2 μ2) : Fr H μ H2 μ2 := ⟨fun a o h e n => let ⟨h1, e1⟩ := x.out a o h e n; y.out a o h1 e1 n, fun a l u h e => let ⟨h1, e1⟩ := x.lk a l u h e; y.lk a l u h1 e1⟩
theorem Fr.keeps (x : Fr H μ H' μ') (h : RepH w K T H μ) : Keeps H H' := ⟨fun _ _ e => (x.out _ _ e (h.tup e) fun _ => HO.noConfusion).1, fun _ _ _ e n => (x.out _ _ e (h.frz e n) fun _ => HO.noConfusion).1⟩
/-- the tables stand behind: what they lean on is kept -/
theorem TabM.at {p : Addr × Str} (h : TabM H μ p) (e1 : ∀ ps, H p.1 = some (.tbl ps) → H' p.1 = some (.tbl ps)) (e2 : ∀ c, H c = some (LamX.CodeO c p.2) → μ c = none → H' c = some (LamX.CodeO c p.2) ∧ μ' c = none) : TabM H' μ' p := by
  obtain ⟨ps, h1, h2, h3⟩ := h
  refine ⟨ps, e1 _ h1, h2, fun pos cv hc => ?_⟩
  obtain ⟨c, c1, c2, c3⟩ := h3 pos cv hc
  obtain ⟨d1, d2⟩ := e2 c c2 c3
  exact ⟨c, c1, d1, d2⟩
theorem RepS.mono {ρ : Env} {σ : L2.St} (x : Keeps H H') (h : RepS K H ρ σ) : RepS K H' ρ σ := ⟨h.1, fun i d e => let ⟨v, h1, h2⟩ := h.2 i d e; ⟨v, h1, h2.mono x⟩⟩
theorem RepS.set {ρ : Env} {σ : L2.St} {i : Nat} {d : D} {v : V} (h : RepS K H ρ σ) (r : RepV K H d v) : RepS K H (ρ.set i (some d)) (σ.set i (some v)) := by
  refine ⟨by rw [List.length_set, List.length_set]; exact h.1, fun j d' e => ?_⟩
  by_cases hj : i = j
  · subst hj
    by_cases hi : i < ρ.length
    · rw [List.getElem?_set_self hi] at e
      cases e
      exact ⟨v, List.getElem?_set_self (by rw [← h.1]; exact hi), r⟩
    · rw [List.getElem?_eq_none (by rw [List.length_set]; omega)] at e; cases e
  · rw [List.getElem?_set_ne hj] at e
    rw [List.getElem?_set_ne hj]
    exact h.2 j d' e
/-- H changes at a alone, which is no tuple and nothing frozen -/
theorem Keeps.upd {o : HO} (h1 : ∀ xs, H a ≠ some (.tup xs)) (h2 : ∀ o u, (∀ k, u ≠ .dK k) → H a ≠ some (.frz o u)) : Keeps H (L2.upd H a o) :=
  ⟨fun p xs e => by
    have ne : p ≠ a := fun z => by subst z; exact h1 xs e
    rw [L2.upd_ne ne]; exact e, fun p o u e n => by
    have ne : p ≠ a := fun z => by subst z; exact h2 o u n e
    rw [L2.upd_ne ne]; exact e⟩
theorem Keeps.new {o : HO} (e : H a = none) : Keeps H (L2.upd H a o) := .upd (fun _ h => by rw [e] at h; cases h) (fun _ _ _ h => by rw [e] at h; cases h)
theorem Keeps.wr {o : HO} {ob : Ob} (h : RepH w K T H μ) (e : μ a = some ob) : Keeps H (L2.upd H a o) := by
  obtain ⟨u, h1, h2, h3, _⟩ := (h a ob e).some
  exact .upd (fun xs z => by rw [h1] at z; exact h2 xs (Option.some.inj z)) (fun o v n z => by rw [h1] at z; exact h3 o v n (Option.some.inj z))
theorem upd_at {μ : Sto} {a : Nat} {o : Ob} : MP.upd μ a o a = some o := by unfold MP.upd; rw [if_pos rfl]
theorem upd_id {μ : Sto} {a : Nat} {o : Ob} (h : μ a = some o) : MP.upd μ a o = μ := by
  funext b; unfold MP.upd; split
  · rename_i e; subst e; exact h.symm
  · rfl
theorem upd_off {μ : Sto} {a b : Nat} {o : Ob} (h : b ≠ a) : MP.upd μ a o b = μ b := by unfold MP.upd; rw [if_neg h]
theorem ne_at {H : Hp} {a b : Addr} {o : HO} (h : H a = some o) (e : H b = none) : a ≠ b := fun z => by subst z; rw [e] at h; cases h
theorem ne_of_mu {μ : Sto} {a b : Addr} {ob : Ob} (h : μ a = none) (e : μ b = some ob) : a ≠ b := fun z => by subst z; rw [e] at h; cases h
/-- a new tracked thing that is not in the store -/
theorem RepH.newT {o : HO} (h : RepH w K T H μ) (e : H p = none) : RepH w K T (L2.upd H p o) μ := ⟨fun a ob q => by
  have ne : a ≠ p := fun z => by
    subst z
    rw [h.free e] at q; cases q
  exact (h a ob q).at (.new e) fun u hu => by rw [L2.upd_ne ne]; exact hu, fun p hp => (h.tb p hp).at (fun ps q => by rw [L2.upd_ne (ne_at q e)]; exact q) fun c q n => ⟨by rw [L2.upd_ne (ne_at q e)]; exact q, n⟩⟩
theorem Fr.newT {o : HO} (e : H p = none) : Fr H μ (L2.upd H p o) μ := ⟨fun a u h n _ => ⟨by rw [L2.upd_ne (ne_at h e)]; exact h, n⟩, fun a l u h n => ⟨by rw [L2.upd_ne (ne_at h e)]; exact h, n⟩⟩
/-- a new object -/
theorem RepH.newO {o : HO} {ob : Ob} (h : RepH w K T H μ) (e : H p = none) (r : RepO w K T (L2.upd H p o) p ob) : RepH w K T (L2.upd H p o) (MP.upd μ p ob) := ⟨fun a ob' q => by
  by_cases ha : a = p
  · subst ha
    rw [upd_at] at q; cases q
    exact r
  · rw [upd_off ha] at q
    exact (h a ob' q).at (.new e) fun u hu => by rw [L2.upd_ne ha]; exact hu, fun p hp => (h.tb p hp).at (fun ps q => by rw [L2.upd_ne (ne_at q e)]; exact q) fun c q n => ⟨by rw [L2.upd_ne (ne_at q e)]; exact q, by rw [upd_off (ne_at q e)]; exact n⟩⟩
theorem Fr.newO {o : HO} {ob : Ob} (e : H p = none) : Fr H μ (L2.upd H p o) (MP.upd μ p ob) := ⟨fun a u h n _ => ⟨by rw [L2.upd_ne (ne_at h e)]; exact h, by rw [upd_off (ne_at h e)]; exact n⟩, fun a l u h n => ⟨by rw [L2.upd_ne (ne_at h e)]; exact h, by rw [upd_off (ne_at h e)]; exact n⟩⟩
/-- an object changed -/
theorem RepH.wr {o : HO} {ob ob' : Ob} (h : RepH w K T H μ) (e : μ a = some ob) (r : RepO w K T (L2.upd H a o) a ob') : RepH w K T (L2.upd H a o) (MP.upd μ a ob') := ⟨fun b ob'' q => by
  by_cases hb : b = a
  · subst hb
    rw [upd_at] at q; cases q
    exact r
  · rw [upd_off hb] at q
    exact (h b ob'' q).at (.wr h e) fun u hu => by rw [L2.upd_ne hb]; exact hu, fun p hp => (h.tb p hp).at (fun ps q => by rw [L2.upd_ne (ne_of_mu (h.tbl q) e)]; exact q) fun c q n => ⟨by rw [L2.upd_ne (ne_of_mu n e)]; exact q, by rw [upd_off (ne_of_mu n e)]; exact n⟩⟩
theorem Fr.wr {o : HO} {ob ob' : Ob} (e : μ a = some ob) (nl : ∀ l, ob ≠ .dL l := by intro _ z; cases z) : Fr H μ (L2.upd H a o) (MP.upd μ a ob') := ⟨fun b u h n _ => ⟨by rw [L2.upd_ne (ne_of_mu n e)]; exact h, by rw [upd_off (ne_of_mu n e)]; exact n⟩, fun b l u h n => by
  have ne : b ≠ a := fun z => by subst z; rw [e] at n; cases n; exact nl l rfl
  exact ⟨by rw [L2.upd_ne ne]; exact h, by rw [upd_off ne]; exact n⟩⟩
/-- a list or dict under way -/
def Way (u : HO) : Prop := (∃ l, u = .lst l) ∨ ∃ l, u = .dK l
theorem Way.kp {u o : HO} (y : Way u) (e : H a = some u) : Keeps H (L2.upd H a o) := by
  rcases y with ⟨l, rfl⟩ | ⟨l, rfl⟩ <;> exact .upd (fun _ z => by rw [e] at z; cases z) (fun _ _ _ z => by rw [e] at z; cases z)
theorem Way.tb {u : HO} {ps : Array Value} (y : Way u) (e : H a = some u) (h : H p = some (.tbl ps)) : p ≠ a := fun z => by
  subst z; rw [e] at h; cases h
  rcases y with ⟨l, h⟩ | ⟨l, h⟩ <;> cases h
theorem Way.co {u : HO} {q : Str} (y : Way u) (e : H a = some u) (h : H p = some (LamX.CodeO p q)) : p ≠ a := fun z => by
  subst z; rw [e] at h; cases h
  rcases y with ⟨l, h⟩ | ⟨l, h⟩ <;> cases h
/-- it is changed, the store does not know it -/
theorem RepH.hid {u o : HO} (h : RepH w K T H μ) (y : Way u) (e : H a = some u) (n : μ a = none) : RepH w K T (L2.upd H a o) μ := ⟨fun b ob q => by
  have ne : b ≠ a := fun z => by subst z; rw [n] at q; cases q
  exact (h b ob q).at (y.kp e) fun v hv => by rw [L2.upd_ne ne]; exact hv, fun p hp => (h.tb p hp).at (fun ps q => by rw [L2.upd_ne (y.tb e q)]; exact q) fun c q m => ⟨by rw [L2.upd_ne (y.co e q)]; exact q, m⟩⟩
/-- it comes to the store -/
theorem RepH.own {u : HO} {ob : Ob} (h : RepH w K T H μ) (y : Way u) (e : H a = some u) (r : RepO w K T H a ob) : RepH w K T H (MP.upd μ a ob) := ⟨fun b ob' q => by
  by_cases hb : b = a
  · subst hb
    rw [upd_at] at q; cases q
    exact r
  · rw [upd_off hb] at q
    exact h b ob' q, fun p hp => (h.tb p hp).at (fun ps q => q) fun c q m => ⟨q, by rw [upd_off (y.co e q)]; exact m⟩⟩
theorem RepVs.length : ∀ {ds : List D} {vs : List V}, RepVs K H ds vs → ds.length = vs.length
  | [], _, h => by rw [show _ = [] from h]; rfl
  | _ :: _, _, ⟨_, _, e, _, q⟩ => by rw [e, List.length_cons, List.length_cons, q.length]
theorem RepVs.append : ∀ {ds es : List D} {vs us : List V}, RepVs K H ds vs → RepVs K H es us → RepVs K H (ds ++ es) (vs ++ us)
  | [], _, _, _, h, q => by rw [show _ = [] from h]; exact q
  | _ :: _, _, _, _, ⟨v, r, e, h, t⟩, q => by subst e; exact ⟨v, _, rfl, h, t.append q⟩
theorem RepVs.get : ∀ {ds : List D} {vs : List V} {i : Nat} {d : D}, RepVs K H ds vs → ds[i]? = some d → ∃ v, vs[i]? = some v ∧ RepV K H d v
  | [], _, _, _, _, h => by simp at h
  | _ :: _, _, 0, _, ⟨v, r, e, h, t⟩, q => by subst e; simp at q; subst q; exact ⟨v, rfl, h⟩
  | _ :: _, _, i + 1, _, ⟨v, r, e, h, t⟩, q => by
    subst e
    obtain ⟨u, h1, h2⟩ := t.get (i := i) (by simpa using q)
    exact ⟨u, by simpa using h1, h2⟩
theorem RepVs.take : ∀ {ds : List D} {vs : List V} (n : Nat), RepVs K H ds vs → RepVs K H (ds.take n) (vs.take n)
  | [], _, n, h => by rw [show _ = [] from h]; simp [RepVs]
  | _ :: _, _, 0, _ => by simp [RepVs]
  | _ :: _, _, n + 1, ⟨v, r, e, h, t⟩ => by subst e; exact ⟨v, _, rfl, h, t.take n⟩
theorem RepVs.drop : ∀ {ds : List D} {vs : List V} (n : Nat), RepVs K H ds vs → RepVs K H (ds.drop n) (vs.drop n)
  | [], _, n, h => by rw [show _ = [] from h]; simp [RepVs]
  | _ :: _, _, 0, h => h
  | _ :: _, _, n + 1, ⟨v, r, e, h, t⟩ => by subst e; exact t.drop n
theorem RepVs.set {d : D} {v : V} (x : RepV K H d v) : ∀ {ds : List D} {vs : List V} (i : Nat), RepVs K H ds vs → RepVs K H (ds.set i d) (vs.set i v)
  | [], _, _, h => by rw [show _ = [] from h]; simp [RepVs]
  | _ :: _, _, 0, ⟨u, r, e, h, t⟩ => by subst e; exact ⟨v, _, rfl, x, t⟩
  | _ :: _, _, i + 1, ⟨u, r, e, h, t⟩ => by subst e; exact ⟨u, _, rfl, h, RepVs.set x i t⟩
theorem RepVs.one {d : D} {v : V} (x : RepV K H d v) : RepVs K H [d] [v] := ⟨v, [], rfl, x, rfl⟩
theorem RepVs.rep {ds : List D} {vs : List V} (h : RepVs K H ds vs) : ∀ k : Nat, RepVs K H (List.replicate k ds).flatten (List.replicate k vs).flatten
  | 0 => by simp [RepVs]
  | k + 1 => by rw [List.replicate_succ, List.replicate_succ, List.flatten_cons, List.flatten_cons]; exact h.append (RepVs.rep h k)
theorem RepVs.reverse : ∀ {ds : List D} {vs : List V}, RepVs K H ds vs → RepVs K H ds.reverse vs.reverse
  | [], _, h => by rw [show _ = [] from h]; simp [RepVs]
  | _ :: _, _, ⟨v, r, e, h, t⟩ => by subst e; rw [List.reverse_cons, List.reverse_cons]; exact t.reverse.append (.one h)
theorem RepVs.dropLast {ds : List D} {vs : List V} (h : RepVs K H ds vs) : RepVs K H ds.dropLast vs.dropLast := by
  rw [List.dropLast_eq_take, List.dropLast_eq_take, h.length]
  exact h.take _
theorem RepVs.nil_iff {ds : List D} {vs : List V} (h : RepVs K H ds vs) : vs = [] ↔ ds = [] := by
  have := h.length
  cases ds <;> cases vs <;> simp_all
/-- a value is one datum's alone, up to what may be both -/
theorem RepVs.intsD : ∀ {ds : List D} {vs : List V} {ns : List Int}, RepVs K H ds vs → MP.intsD ds = some ns → vs = ns.map V.int
  | [], _, _, h, e => by cases e; exact h
  | .int i :: r, _, ns, ⟨v, q, e, h, t⟩, z => by
    unfold MP.intsD at z
    cases y : MP.intsD r with
    | none => rw [y] at z; cases z
    | some ms =>
      rw [y] at z; cases z
      subst e
      rw [t.intsD y, show v = .int i from h]; rfl
  | .non :: _, _, _, _, e => by simp [MP.intsD] at e
  | .bl _ :: _, _, _, _, e => by simp [MP.intsD] at e
  | .str _ :: _, _, _, _, e => by simp [MP.intsD] at e
  | .tup _ :: _, _, _, _, e => by simp [MP.intsD] at e
  | .ref _ :: _, _, _, _, e => by simp [MP.intsD] at e
  | .scr _ :: _, _, _, _, e => by simp [MP.intsD] at e
theorem RepVs.of_ints : ∀ (ns : List Int), RepVs K H (ns.map D.int) (ns.map V.int)
  | [] => rfl
  | n :: ns => ⟨_, _, rfl, rfl, RepVs.of_ints ns⟩
end
end MP

set_option linter.all false
set_option maxRecDepth 100000
set_option maxHeartbeats 1000000
set_option Elab.async false
/-! MPd: dicts whose keys are tuples. -/
namespace MP
open PySem PySem.Spec PyProof.Rows L2
/-! ### keys -/
theorem key_depth : ∀ {n : Nat} {k : D}, isKey n k = true → (toNK k).depth ≤ n
  | 0, _, h => by cases h
  | n + 1, .tup ds, h => by
    have h : ds.all (isKey n) = true := h
    have all : ∀ ds : List D, ds.all (isKey n) = true → NestedKey.depthAll (toNKs ds) ≤ n := by
      intro ds
      induction ds with
      | nil => intro _; exact Nat.zero_le _
      | cons d ds ih =>
        intro h
        rw [List.all_cons, Bool.and_eq_true] at h
        show max (toNK d).depth (NestedKey.depthAll (toNKs ds)) ≤ n
        exact Nat.max_le.mpr ⟨key_depth h.1, ih h.2⟩
    show NestedKey.depthAll (toNKs ds) + 1 ≤ n + 1
    exact Nat.succ_le_succ (all ds h)
  | n + 1, .non, _ => Nat.zero_le _
  | n + 1, .int _, _ => Nat.zero_le _
  | n + 1, .str _, _ => Nat.zero_le _
  | n + 1, .bl _, h => by cases h
  | n + 1, .ref _, h => by cases h
  | n + 1, .scr _, h => by cases h
theorem key_eqb : ∀ {n m : Nat} {k j : D}, isKey n k = true → isKey m j = true → D.eqb k j = (toNK k).beq (toNK j)
  | 0, _, _, _, h, _ => by cases h
  | _ + 1, 0, _, _, _, h => by cases h
  | n + 1, m + 1, k, j, hk, hj => by
    have all : ∀ ds es : List D, ds.all (isKey n) = true → es.all (isKey m) = true → D.eqbs ds es = NestedKey.beqAll (toNKs ds) (toNKs es) := by
      intro ds
      induction ds with
      | nil => intro es _ _; cases es <;> rfl
      | cons d ds ih =>
        intro es h1 h2
        cases es with
        | nil => rfl
        | cons e es =>
          rw [List.all_cons, Bool.and_eq_true] at h1 h2
          show (D.eqb d e && D.eqbs ds es) = ((toNK d).beq (toNK e) && NestedKey.beqAll (toNKs ds) (toNKs es))
          rw [key_eqb h1.1 h2.1, ih es h1.2 h2.2]
    cases k with
    | tup ds =>
      cases j with
      | tup es =>
        show D.eqbs ds es = NestedKey.beq (.tup (toNKs ds)) (.tup (toNKs es))
        rw [NestedKey.beq]
        exact all ds es hk hj
      | bl b => cases hj
      | ref b => cases hj
      | scr b => cases hj
      | _ => simp [D.eqb, toNK, NestedKey.beq]
    | non => cases j <;> first | (simp [D.eqb, toNK, NestedKey.beq]; done) | exact (Bool.noConfusion (show false = true from hj))
    | int i =>
      cases j with
      | int i' =>
        show (i == i') = NestedKey.beq (.num i) (.num i')
        rw [NestedKey.beq]
        by_cases e : i = i' <;> simp [e]
      | bl b => cases hj
      | ref b => cases hj
      | scr b => cases hj
      | _ => simp [D.eqb, toNK, NestedKey.beq]
    | str i =>
      cases j with
      | str i' =>
        show (i == i') = NestedKey.beq (.text (toS i)) (.text (toS i'))
        rw [NestedKey.beq]
        by_cases e : i = i'
        · simp [e]
        · have : ¬ toS i = toS i' := fun z => e (toS_inj z)
          simp [e, this]
      | bl b => cases hj
      | ref b => cases hj
      | scr b => cases hj
      | _ => simp [D.eqb, toNK, NestedKey.beq]
    | bl b => cases hk
    | ref b => cases hk
    | scr b => cases hk
theorem tkey_get {k : D} (h : isTupKey k = true) : isKey 7 k = true ∧ ∃ ds, k = .tup ds := by
  cases k with
  | tup ds => exact ⟨h, ds, rfl⟩
  | _ => cases h
theorem tkey_eqb {k j : D} (h1 : isTupKey k = true) (h2 : isTupKey j = true) : D.eqb k j = decide (toNK k = toNK j) := by
  rw [key_eqb (tkey_get h1).1 (tkey_get h2).1, NestedKey.decide_eq]
section
variable {X : Cx} {T : Tab} {H : Hp} {μ : Sto} {pins : List (Addr × Obj)} {σ : L2.St} {s : Shared}
theorem key_is (I : Inv X pins σ H s) : ∀ {n : Nat} {k : D} {v : V} {u : Value}, isKey n k = true → RepV X.K H k v → L2.RelV v u → NestedIs s.heap (toNK k) u
  | 0, _, _, _, h, _, _ => by cases h
  | n + 1, .tup ds, v, u, h, r, ru => by
    have h : ds.all (isKey n) = true := h
    have all : ∀ (ds : List D) (vs : List V) (us : List Value), ds.all (isKey n) = true → RepVs X.K H ds vs → Vals vs us → NestedAll s.heap (toNKs ds) us := by
      intro ds
      induction ds with
      | nil =>
        intro vs us _ r1 r2
        rw [show vs = [] from r1] at r2
        cases r2
        exact .nil
      | cons d ds ih =>
        intro vs us h r1 r2
        rw [List.all_cons, Bool.and_eq_true] at h
        obtain ⟨v, q, rfl, h1, h2⟩ := r1
        cases r2 with
        | cons r3 r4 => exact .cons (key_is I h.1 h1 r3) (ih _ _ h.2 h2 r4)
    obtain ⟨p, vs, rfl, st, rl⟩ := r
    cases ru
    obtain ⟨its, r2, ⟨o, e, hc, m, hd⟩, _⟩ := I.tuple st
    exact .tup e hc hd (by simpa using all ds vs its h rl r2)
  | n + 1, .non, v, u, _, r, ru => by cases r; cases ru; exact .none
  | n + 1, .int i, v, u, _, r, ru => by cases r; obtain ⟨t, rfl⟩ := ru; exact .int i t
  | n + 1, .str x, v, u, _, r, ru => by cases r; obtain ⟨t, rfl⟩ := ru; exact .text _ t
  | n + 1, .bl _, _, _, h, _, _ => by cases h
  | n + 1, .ref _, _, _, h, _, _ => by cases h
  | n + 1, .scr _, _, _, h, _, _ => by cases h
abbrev NKd (X : Cx) := nestedKind X.prog X.w
theorem tkey_is (I : Inv X pins σ H s) {k : D} {a : Addr} (h : isTupKey k = true) (r : RepV X.K H k (.ref a)) : (NKd X).is s.heap (toNK k) a :=
  ⟨key_is I (tkey_get h).1 r rfl, Nat.le_succ_of_le (key_depth (tkey_get h).1)⟩
/-! ### entries -/
def RepX (K : PySem.W.Frag) (H : Hp) : List (D × D) → List (NestedKey × Addr × Value) → Prop
  | [], xs => xs = []
  | (k, d) :: r, xs => ∃ a v u q, xs = (toNK k, a, u) :: q ∧ RepV K H k (.ref a) ∧ isTupKey k = true ∧ RepV K H d v ∧ L2.RelV v u ∧ RepX K H r q
theorem RepX.of {P : Program} {w : World} {K : PySem.W.Frag} : ∀ {l : List (D × D)} {es : List DictEntry}, RepE w K H l es → ∃ xs, RepX K H l xs ∧ es = xs.map (entryOfKey (nestedKind P w))
  | [], es, h => ⟨[], rfl, h⟩
  | (k, d) :: r, es, ⟨a, v, u, q, e, h1, h2, h3, h4, h5⟩ => by
    obtain ⟨xs, h6, rfl⟩ := RepX.of (P := P) h5
    exact ⟨(toNK k, a, u) :: xs, ⟨a, v, u, xs, rfl, h1, h2, h3, h4, h6⟩, e⟩
theorem RepX.to {P : Program} {w : World} {K : PySem.W.Frag} : ∀ {l : List (D × D)} {xs : List (NestedKey × Addr × Value)}, RepX K H l xs → RepE w K H l (xs.map (entryOfKey (nestedKind P w)))
  | [], xs, h => by rw [show xs = [] from h]; rfl
  | (k, d) :: r, xs, ⟨a, v, u, q, e, h1, h2, h3, h4, h5⟩ => by
    subst e
    exact ⟨a, v, u, _, rfl, h1, h2, h3, h4, RepX.to h5⟩
theorem RepX.keys {K : PySem.W.Frag} : ∀ {l : List (D × D)} {xs : List (NestedKey × Addr × Value)}, RepX K H l xs → xs.map (·.1) = l.map fun p => toNK p.1
  | [], xs, h => by rw [show xs = [] from h]; rfl
  | (k, d) :: r, xs, ⟨a, v, u, q, e, h1, h2, h3, h4, h5⟩ => by
    subst e
    rw [List.map_cons, List.map_cons, RepX.keys h5]
theorem RepX.length {K : PySem.W.Frag} {l : List (D × D)} {xs : List (NestedKey × Addr × Value)} (h : RepX K H l xs) : xs.length = l.length := by
  have := congrArg List.length h.keys
  simpa using this
theorem RepX.is (I : Inv X pins σ H s) : ∀ {l : List (D × D)} {xs : List (NestedKey × Addr × Value)}, RepX X.K H l xs → ∀ x ∈ xs, (NKd X).is s.heap x.1 x.2.1
  | [], xs, h => by rw [show xs = [] from h]; exact fun _ z => by cases z
  | (k, d) :: r, xs, ⟨a, v, u, q, e, h1, h2, h3, h4, h5⟩ => by
    subst e
    intro x hx
    rcases List.mem_cons.mp hx with rfl | hx
    · exact tkey_is I h2 h1
    · exact RepX.is I h5 x hx
theorem RepX.look {K : PySem.W.Frag} {k : D} (hk : isTupKey k = true) : ∀ {l : List (D × D)} {xs : List (NestedKey × Addr × Value)}, RepX K H l xs → match dget l k with
    | some d => ∃ p v, atKey xs (toNK k) = some p ∧ RepV K H d v ∧ L2.RelV v p.2
    | none => atKey xs (toNK k) = none
  | [], xs, h => by rw [show xs = [] from h]; rfl
  | (j, d) :: r, xs, ⟨a, v, u, q, e, h1, h2, h3, h4, h5⟩ => by
    subst e
    have ee := tkey_eqb h2 hk
    unfold dget atKey
    rw [List.find?_cons, ee]
    by_cases c : toNK j = toNK k
    · simp only [c, decide_true, if_true]
      exact ⟨(a, u), v, rfl, h3, h4⟩
    · simp only [c, decide_false, Bool.false_eq_true, if_false]
      exact RepX.look hk h5
theorem RepX.mono {K : PySem.W.Frag} {H' : Hp} (x : Keeps H H') : ∀ {l : List (D × D)} {xs : List (NestedKey × Addr × Value)}, RepX K H l xs → RepX K H' l xs
  | [], xs, h => h
  | (_, _) :: _, _, ⟨a, v, u, q, e, h1, h2, h3, h4, h5⟩ => ⟨a, v, u, q, e, h1.mono x, h2, h3.mono x, h4, RepX.mono x h5⟩
theorem RepX.app {K : PySem.W.Frag} {k d : D} {a : Addr} {v : V} {u : Value} (h1 : RepV K H k (.ref a)) (h2 : isTupKey k = true) (h3 : RepV K H d v) (h4 : L2.RelV v u) : ∀ {l : List (D × D)} {xs : List (NestedKey × Addr × Value)}, RepX K H l xs → RepX K H (l ++ [(k, d)]) (xs ++ [(toNK k, a, u)])
  | [], xs, h => by rw [show xs = [] from h]; exact ⟨a, v, u, [], rfl, h1, h2, h3, h4, rfl⟩
  | (_, _) :: _, _, ⟨b, v', u', q, e, g1, g2, g3, g4, g5⟩ => by subst e; exact ⟨b, v', u', _, rfl, g1, g2, g3, g4, RepX.app h1 h2 h3 h4 g5⟩
theorem RepX.rep {K : PySem.W.Frag} {k d : D} {v : V} {u : Value} (h2 : isTupKey k = true) (h3 : RepV K H d v) (h4 : L2.RelV v u) : ∀ {l : List (D × D)} {xs : List (NestedKey × Addr × Value)}, RepX K H l xs → RepX K H (l.map fun p => if D.eqb p.1 k = true then (p.1, d) else p) (xs.map (putAt (toNK k) u))
  | [], xs, h => by rw [show xs = [] from h]; rfl
  | (j, e0) :: _, _, ⟨b, v', u', q, e, g1, g2, g3, g4, g5⟩ => by
    subst e
    rw [List.map_cons, List.map_cons]
    have ee := tkey_eqb g2 h2
    have ih := RepX.rep h2 h3 h4 g5
    by_cases c : toNK j = toNK k
    · have e1 : D.eqb j k = true := by rw [ee]; exact decide_eq_true c
      rw [if_pos e1]
      refine ⟨b, v, u, _, ?_, g1, g2, h3, h4, ih⟩
      unfold putAt
      rw [if_pos c]
    · have e1 : ¬ D.eqb j k = true := by rw [ee, decide_eq_false c]; decide
      rw [if_neg e1]
      refine ⟨b, v', u', _, ?_, g1, g2, g3, g4, ih⟩
      unfold putAt
      rw [if_neg c]
theorem any_dget {k : D} : ∀ {l : List (D × D)}, (l.any fun p => D.eqb p.1 k) = (dget l k).isSome
  | [] => rfl
  | (j, d) :: r => by
    unfold dget
    rw [List.any_cons]
    cases e : D.eqb j k with
    | true => rfl
    | false => rw [if_neg (by decide), ← any_dget (k := k) (l := r)]; rfl
theorem RepX.put {K : PySem.W.Frag} {k d : D} {a : Addr} {v : V} {u : Value} (h1 : RepV K H k (.ref a)) (h2 : isTupKey k = true) (h3 : RepV K H d v) (h4 : L2.RelV v u) {l : List (D × D)} {xs : List (NestedKey × Addr × Value)} (h : RepX K H l xs) : RepX K H (dput l k d) (storedH xs (toNK k) a u) := by
  have lk := h.look h2
  unfold dput
  rw [any_dget]
  cases e : dget l k with
  | none =>
    rw [e] at lk
    rw [storedH_new lk]
    exact h.app h1 h2 h3 h4
  | some d' =>
    rw [e] at lk
    obtain ⟨p, _, e2, _⟩ := lk
    rw [storedH_old e2]
    exact h.rep h2 h3 h4
theorem dput_len {k d : D} {l : List (D × D)} : (dput l k d).length ≤ l.length + 1 := by
  unfold dput
  split <;> simp
/-! ### the dict in the heap -/
theorem dT_of (I : Inv X pins σ H s) (rh : RepH X.w X.K T H μ) {a : Nat} {l : List (D × D)} (e : μ a = some (.dT l)) : ∃ xs, s.heap.DictOfH (NKd X) a xs ∧ RepX X.K H l xs ∧ (a == sysModules) = false ∧ l.length ≤ sizeMax ∧ Mut (H a) := by
  obtain ⟨o, es, ep, h1, h2, h3, h4, h5, h6, h7⟩ := rh a _ e
  obtain ⟨xs, h8, h9⟩ := RepX.of (P := X.prog) h4
  obtain ⟨g, _⟩ := I.hok a _ h1
  exact ⟨xs, ⟨o, es, ep, g, h2, h3, h9, h8.is I, by rw [h8.keys]; exact h5⟩, h8, h6, h7, by rw [h1]; exact True.intro⟩
theorem dF_nil (I : Inv X pins σ H s) (rh : RepH X.w X.K T H μ) {a : Nat} (e : μ a = some (.dF [])) : s.heap.DictOfH (NKd X) a [] ∧ (a == sysModules) = false ∧ Mut (H a) := by
  obtain ⟨kvs, h1, h2⟩ := rh a _ e
  rw [show kvs = [] from h2] at h1
  obtain ⟨_, h3, vs, rel, o, es, ep, h4, h5, h6, h7⟩ := I.hok a _ h1
  cases rel
  refine ⟨⟨o, es, ep, h4, h5, h6, ?_, fun _ z => (by cases z), List.nodup_nil⟩, h3, by rw [h1]; exact True.intro⟩
  obtain ⟨_, h8, _⟩ := h7
  have := h8.length
  cases q : es.toList with
  | nil => rfl
  | cons e es => rw [q] at this; simp at this
theorem dT_wr (I : Inv X pins σ H s) (rh : RepH X.w X.K T H μ) {a : Nat} {ob : Ob} {l : List (D × D)} {xs : List (NestedKey × Addr × Value)} {h' : Heap} {tk : Nat} (e : μ a = some ob) (nl : ∀ l, ob ≠ .dL l) (mu : Mut (H a)) (hs : (a == sysModules) = false) (hz : l.length ≤ sizeMax)
    (hx : RepX X.K H l xs) (hd : h'.DictOfH (NKd X) a xs) (sb : Heap.SameBut a s.heap h') : ∃ H', Inv X pins σ H' { s with heap := h', toks := tk } ∧ RepH X.w X.K T H' (MP.upd μ a (.dT l)) ∧ Fr H μ H' (MP.upd μ a (.dT l)) := by
  obtain ⟨o, es, ep, h1, h2, h3, h4, h5, h6⟩ := hd
  refine ⟨L2.upd H a (.ext (IsObj a o)), I.write mu (.inl rfl) (fun b u hb q => (sb.2 b hb).trans q) ⟨o, h1⟩ ⟨h1, ⟨o, h1⟩, fun _ _ p st => st _ p⟩, rh.wr e (ob' := .dT l) ?_, Fr.wr e nl⟩
  refine ⟨o, es, ep, L2.upd_same, h2, h3, ?_, by rw [← hx.keys]; exact h6, hs, hz⟩
  rw [h4]
  exact (hx.mono (.wr rh e)).to
end
end MP

set_option linter.all false
set_option maxRecDepth 100000
set_option maxHeartbeats 4000000
set_option Elab.async false
/-! MP2t: a tuple told none or one time. -/
namespace MP
open PySem PySem.Spec PyProof.Rows L2
theorem tuple_mul1 (l : Addr) (items : Array Value) (n : Nat) (dd : Option Addr) (sl : Array (Option Value)) (u : Tok) :
    Meets (Builtin.«tuple.__mul__» ⟨[.ref l, .int 1 u], []⟩) (fun _ R s => s.heap.get? l = some { cls := .type "tuple", dict := dd, data := .seq items n, slots := sl } ∧
      R (.ok (.ret (Value.ref l))) s) :=
  .of_wp fun prog w A R s h => by
    obtain ⟨hp, g, d, tk, os⟩ := s
    obtain ⟨hl, h⟩ := h
    have f1 := AutoSeq1.idx_int
    have c1 : (items.isEmpty || (1 : Int) == 1) = true := by rw [show ((1 : Int) == 1) = true from rfl, Bool.or_true]
    wp_walk using wpAny_loadPart' hl
    repeat (first
      | (refine wpAny_ite_false (decide_eq_false (by decide)) ?_; wp_walk using wpAny_loadPart' hl)
      | (refine wpAny_ite_true (decide_eq_true c1) ?_; wp_walk using wpAny_loadPart' hl))
    exact ⟨_, rfl, h⟩
theorem tuple_mul0 (l : Addr) (items : Array Value) (n : Nat) (dd : Option Addr) (sl : Array (Option Value)) (u : Tok) (c : items.isEmpty = false) :
    Meets (Builtin.«tuple.__mul__» ⟨[.ref l, .int 0 u], []⟩) (fun _ R s => s.heap.get? l = some { cls := .type "tuple", dict := dd, data := .seq items n, slots := sl } ∧
      R (.ok (.ret (Value.ref s.heap.objs.size))) { s with heap := s.heap.push { cls := Value.type "tuple", data := Data.seq #[] }, toks := s.toks }) :=
  .of_wp fun prog w A R s h => by
    obtain ⟨hp, g, d, tk, os⟩ := s
    obtain ⟨hl, h⟩ := h
    have f1 := AutoSeq1.idx_int
    have c1 : (items.isEmpty || (0 : Int) == 1) = false := by rw [c]; rfl
    have c2 : (decide ((0 : Int) ≤ 0) || items.isEmpty) = true := rfl
    wp_walk using wpAny_loadPart' hl
    repeat (first
      | (refine wpAny_ite_false (decide_eq_false (by rw [c1]; exact Bool.false_ne_true)) ?_; wp_walk using wpAny_loadPart' hl)
      | (refine wpAny_ite_false (decide_eq_false (by decide)) ?_; wp_walk using wpAny_loadPart' hl)
      | (refine wpAny_ite_true (decide_eq_true c2) ?_; wp_walk using wpAny_loadPart' hl))
    exact ⟨_, rfl, h⟩
def rRepTX (K : PySem.W.Frag) : R2 := fun x y H Q => ∃ l k xs, x = .ref l ∧ y = .int k ∧ SqT K H l xs ∧ xs ≠ [] ∧ ((k = 0 ∧ ∀ p, H p = none → Q (.ref p) (L2.upd H p (.tup []))) ∨ (k = 1 ∧ Q (.ref l) H) ∨
  (2 ≤ k ∧ k ≤ 1000 ∧ xs.length ≤ 1000 ∧ ∀ p, H p = none → Q (.ref p) (L2.upd H p (.tup (List.replicate k.toNat xs).flatten))))
theorem op_repTX {X : Cx} : OpR X (binaryOp .Mult) (rRepTX X.K) := by
  intro pins s σ H x y v u Q I rx ry h
  obtain ⟨l, k, xs, rfl, rfl, hT, hne, hq⟩ := h
  rcases hq with ⟨rfl, q⟩ | ⟨rfl, q⟩ | ⟨h1, h2, hz, q⟩
  · cases rx
    obtain ⟨t, rfl⟩ := ry
    obtain ⟨its, r, ⟨⟨cls, dd, data, sl⟩, ho, hc, n, hd⟩, hs⟩ := I.tuple hT
    simp only at hc hd
    subst hc hd
    have hi : its.toArray.isEmpty = false := by
      cases its with
      | nil => exact absurd (List.eq_nil_of_length_eq_zero r.length) hne
      | cons a b => rfl
    refine wpAny_binaryOp_repeat_ref (T := "tuple") (U := "int") (by decide) ⟨_, ho, rfl⟩ (fun s' => typeIs_int s' 0 t) noFill_tuple_mul F.fills_int_mul F.slot_int_rmul repeat_tuple F.slot_int_index.lookup
      (call_meets F.slot_int_rmul (typeIs_int s 0 t) F.entry_int_rmul (F.args_int_rmul_2 _ _) (int_rmul_tuple 0 t l its.toArray n dd sl)
        ⟨ho, rfl, ⟨_, ho, rfl⟩, call_meets F.slot_tuple_mul ⟨_, ho, rfl⟩ F.entry_tuple_mul (F.args_tuple_mul_2 _ _) (tuple_mul0 l its.toArray n dd sl t hi) ⟨ho, ?_⟩⟩)
    refine ⟨.ref s.heap.objs.size, _, I.laid (t' := s.toks) (o := .tup []) (fun b ob q => Heap.get?_push_of_some _ q) (Nat.le_refl _) ?_, rfl, q _ (I.hok.fresh (Nat.le_refl _))⟩
    exact ⟨by show 0 ≤ sizeLine; exact Nat.zero_le _, [], .nil, IsTup.new _ _⟩
  · cases rx
    obtain ⟨t, rfl⟩ := ry
    obtain ⟨its, r, ⟨⟨cls, dd, data, sl⟩, ho, hc, n, hd⟩, hs⟩ := I.tuple hT
    simp only at hc hd
    subst hc hd
    refine wpAny_binaryOp_repeat_ref (T := "tuple") (U := "int") (by decide) ⟨_, ho, rfl⟩ (fun s' => typeIs_int s' 1 t) noFill_tuple_mul F.fills_int_mul F.slot_int_rmul repeat_tuple F.slot_int_index.lookup
      (call_meets F.slot_int_rmul (typeIs_int s 1 t) F.entry_int_rmul (F.args_int_rmul_2 _ _) (int_rmul_tuple 1 t l its.toArray n dd sl)
        ⟨ho, rfl, ⟨_, ho, rfl⟩, call_meets F.slot_tuple_mul ⟨_, ho, rfl⟩ F.entry_tuple_mul (F.args_tuple_mul_2 _ _) (tuple_mul1 l its.toArray n dd sl t) ⟨ho, ?_⟩⟩)
    exact ⟨.ref l, H, I, rfl, q⟩
  · exact op_repT pins s σ H _ _ v u Q I rx ry ⟨l, k, xs, rfl, rfl, hT, hne, h1, h2, hz, q⟩
end MP

set_option linter.all false
set_option maxRecDepth 100000
set_option maxHeartbeats 1000000
set_option Elab.async false
/-! MP2: the core's expressions over the layer's readings. -/
namespace MP
open PySem PySem.Spec PyProof.Rows L2

abbrev XF : EX := fun _ _ _ => False
/-- the length of an argument list -/
def alen : E → Nat
  | .cons _ r => alen r + 1
  | _ => 0
section
variable (X : Cx) (T : Tab)
variable (G : Ctx)
abbrev RV := RepV X.K
abbrev RH := RepH X.w X.K T
/-- what is wanted behind, by the store, is enough by the heap -/
def Pst (H : Hp) (μ : Sto) (Q : D → Sto → Prop) (Q' : VK) : Prop := ∀ d v H' μ', RepV X.K H' d v → RepH X.w X.K T H' μ' → Fr H μ H' μ' → Q d μ' → Q' v H'
def PstB (H : Hp) (μ : Sto) (Q : Bool → Sto → Prop) (Q' : Bool → Hp → Prop) : Prop := ∀ b H' μ', RepH X.w X.K T H' μ' → Fr H μ H' μ' → Q b μ' → Q' b H'
def PstA (n : Nat) (H : Hp) (μ : Sto) (Q : List D → Sto → Prop) (Q' : List V → Hp → Prop) : Prop := ∀ ds vs H' μ', RepVs X.K H' ds vs → RepH X.w X.K T H' μ' → Fr H μ H' μ' → ds.length = n → Q ds μ' → Q' vs H'
def tE (c : E) : TE := fun σ H Q' => ∃ ρ μ Q, RepS X.K H ρ σ ∧ RepH X.w X.K T H μ ∧ wpE G c ρ μ Q XF ∧ Pst X T H μ Q Q'
def tA (c : E) : TA := fun σ H Q' => ∃ ρ μ Q, RepS X.K H ρ σ ∧ RepH X.w X.K T H μ ∧ wpA G c ρ μ Q XF ∧ PstA X T (alen c) H μ Q Q'
def isB (d : D) (k : Bool → Prop) : Prop := match d with
  | .bl b => k b
  | _ => False
def tB (c : E) : TT := fun σ H Q' => ∃ ρ μ Q, RepS X.K H ρ σ ∧ RepH X.w X.K T H μ ∧ wpE G c ρ μ (fun d μ1 => isB d fun b => Q b μ1) XF ∧ PstB X T H μ Q Q'
end
section
variable {X : Cx} {T : Tab} {G : Ctx} {H H' H1 : Hp} {μ μ' μ1 : Sto} {Q : D → Sto → Prop} {Q' : VK} {σ : L2.St} {ρ : Env}
theorem _root_.L2.PE.imp {e : Expr} {t t' : TE} (h : PE X e t) (i : ∀ σ H Q, t' σ H Q → t σ H Q) : PE X e t' := ⟨fun pins s σ H Q I hw => h.run pins s σ H Q I (i σ H Q hw)⟩
theorem _root_.L2.PT.imp {e : Expr} {t t' : TT} (h : PT X e t) (i : ∀ σ H Q, t' σ H Q → t σ H Q) : PT X e t' := ⟨fun pins s σ H Q I hw => h.run pins s σ H Q I (i σ H Q hw)⟩
theorem _root_.L2.PW.imp {e : Expr} {t t' : TT} (h : PW X e t) (i : ∀ σ H Q, t' σ H Q → t σ H Q) : PW X e t' := ⟨fun wh pins s σ H Q I hw => h.run wh pins s σ H Q I (i σ H Q hw)⟩
theorem _root_.L2.PA.imp {e : List Expr} {t t' : TA} (h : PA X e t) (i : ∀ σ H Q, t' σ H Q → t σ H Q) : PA X e t' := ⟨fun pos pins s σ H Q I hw => h.run pos pins s σ H Q I (i σ H Q hw)⟩
theorem Pst.step (p : Pst X T H μ Q Q') (f : Fr H μ H1 μ1) : Pst X T H1 μ1 Q Q' := fun d v H' μ' r h g q => p d v H' μ' r h (f.trans g) q
theorem Pst.val (p : Pst X T H μ Q Q') (h : RepH X.w X.K T H μ) {d : D} {v : V} (r : RepV X.K H d v) (q : Q d μ) : Q' v H := p d v H μ r h .refl q
theorem Pst.int (p : Pst X T H μ Q Q') (h : RepH X.w X.K T H μ) {i : Int} (q : Q (.int i) μ) : Q' (.int i) H := p.val h (d := .int i) rfl q
theorem Pst.bl (p : Pst X T H μ Q Q') (h : RepH X.w X.K T H μ) {i : Bool} (q : Q (.bl i) μ) : Q' (.bl i) H := p.val h (d := .bl i) rfl q
theorem Pst.non (p : Pst X T H μ Q Q') (h : RepH X.w X.K T H μ) (q : Q .non μ) : Q' .non H := p.val h (d := .non) rfl q
theorem Pst.str (p : Pst X T H μ Q Q') (h : RepH X.w X.K T H μ) {x : List Nat} (q : Q (.str x) μ) : Q' (.str (toS x)) H := p.val h (d := .str x) rfl q
/-- a new tuple -/
theorem Pst.tup (p : Pst X T H μ Q Q') (h : RepH X.w X.K T H μ) {ds : List D} {vs : List V} (r : RepVs X.K H ds vs) (q : Q (.tup ds) μ) : ∀ a, H a = none → Q' (.ref a) (L2.upd H a (.tup vs)) := fun a e =>
  p _ _ _ _ (show RepV X.K _ (.tup ds) _ from ⟨a, vs, rfl, SqT.of L2.upd_same, r.mono (.new e)⟩) (h.newT e) (Fr.newT e) q
/-- a new list -/
theorem Pst.lst (p : Pst X T H μ Q Q') (h : RepH X.w X.K T H μ) {ds : List D} {vs : List V} (r : RepVs X.K H ds vs) (q : new μ (.lst ds) Q) : ∀ a, H a = none → Q' (.ref a) (L2.upd H a (.lst vs)) := fun a e =>
  p (.ref a) _ _ _ rfl (h.newO e (ob := .lst ds) ⟨vs, L2.upd_same, r.mono (.new e)⟩) (Fr.newO e) (q a (h.free e))
/-- a list changed -/
theorem Pst.wlst (p : Pst X T H μ Q Q') (h : RepH X.w X.K T H μ) {a : Addr} {ob : Ob} {ds : List D} {vs : List V} {d : D} {v : V} (e : μ a = some ob) (r : RepVs X.K H ds vs) (rv : RepV X.K H d v) (q : Q d (MP.upd μ a (.lst ds))) (nl : ∀ l, ob ≠ .dL l := by intro _ z; cases z) : Q' v (L2.upd H a (.lst vs)) :=
  p d v _ _ (rv.mono (.wr h e)) (h.wr e (ob' := .lst ds) ⟨vs, L2.upd_same, r.mono (.wr h e)⟩) (Fr.wr e nl) q
theorem rdL_get {a : Nat} {k : List D → Prop} (h : rdL μ a k) : ∃ l, μ a = some (.lst l) ∧ k l := by
  unfold rdL at h
  cases e : μ a with
  | none => rw [e] at h; exact h.elim
  | some o =>
    rw [e] at h
    cases o with
    | lst l => exact ⟨l, rfl, h⟩
    | _ => exact h.elim
theorem optP_get {α : Type} {o : Option α} {k : α → Prop} (h : optP o k) : ∃ x, o = some x ∧ k x := by
  cases o with
  | none => exact h.elim
  | some x => exact ⟨x, rfl, h⟩

/-! ### names, constants -/
theorem e_var {i : Nat} {x : Str} {pos : Pos} (hN : X.N[i]? = some x) (hv : Vis X.env.scope x) (hd : (x == ("__debug__" : Str)) = false) (hcd : (x == ("__classdict__" : Str)) = false) : PE X (.Name x pos) (tE X T G (.var i)) :=
  (pe_var hN hv hd hcd).imp fun σ H Q' ⟨ρ, μ, Q, rs, rh, hw, p⟩ => by
    obtain ⟨d, e, q⟩ := optP_get (show optP (getV ρ i) fun d => Q d μ from hw)
    have e' : ρ[i]? = some (some d) := by
      unfold getV at e
      split at e
      · rename_i d' e2; cases e; exact e2
      · cases e
    obtain ⟨v, h1, h2⟩ := rs.2 i d e'
    exact ⟨v, h1, p.val rh h2 q⟩
theorem e_non {j pos} : PE X (.Constant .none j pos) (tE X T G .cn) := pe_non.imp fun σ H Q' ⟨ρ, μ, Q, rs, rh, hw, p⟩ => p.non rh hw
theorem e_bl {b j pos} : PE X (.Constant (.bool b) j pos) (tE X T G (.cb b)) := pe_bl.imp fun σ H Q' ⟨ρ, μ, Q, rs, rh, hw, p⟩ => p.bl rh hw
theorem e_int {i j pos} : PE X (.Constant (.int i) j pos) (tE X T G (.ci i)) := pe_int.imp fun σ H Q' ⟨ρ, μ, Q, rs, rh, hw, p⟩ => p.int rh hw
theorem e_str {x : Str} {j pos} : PE X (.Constant (.str x) j pos) (tE X T G (.cs x.cps.toList)) := pe_str.imp fun σ H Q' ⟨ρ, μ, Q, rs, rh, hw, p⟩ => by
  have := p.str rh (x := x.cps.toList) hw
  rw [toS_cps] at this
  exact this
/-- a constant of the module -/
theorem e_cst {x : Str} {pos : Pos} {k : Nat} {d : D} {v : V} {u : Value} (hg : Gl X x) (hm : X.mg x = some u) (r : RelV v u) (hd : (x == ("__debug__" : Str)) = false) (hk : G.cst k = some d) (rd : ∀ H, RepV X.K H d v) : PE X (.Name x pos) (tE X T G (.cst k)) :=
  (pe_glob hg hm r hd).imp fun σ H Q' ⟨ρ, μ, Q, rs, rh, hw, p⟩ => by
    have hw : optP (G.cst k) fun d => Q d μ := hw
    rw [hk] at hw
    exact p.val rh (rd H) hw

/-! ### arguments, displays -/
theorem a_nil : PA X [] (tA X T G .nil) := pa_nil.imp fun σ H Q' ⟨ρ, μ, Q, rs, rh, hw, p⟩ => p [] [] H μ rfl rh .refl rfl hw
theorem a_cons {e : Expr} {es : List Expr} {c r : E} (ha : PE X e (tE X T G c)) (hr : PA X es (tA X T G r)) (hs : starEach (e :: es) X.env = (false, eval e X.env) :: starEach es X.env) : PA X (e :: es) (tA X T G (.cons c r)) :=
  (pa_cons ha hr hs).imp fun σ H Q' ⟨ρ, μ, Q, rs, rh, hw, p⟩ =>
    ⟨ρ, μ, _, rs, rh, hw, fun d v H1 μ1 rv rh1 f1 q1 => ⟨ρ, μ1, _, rs.mono (f1.keeps rh), rh1, q1, fun ds vs H2 μ2 rvs rh2 f2 hl q2 =>
      p (d :: ds) (v :: vs) H2 μ2 ⟨v, vs, rfl, rv.mono (f2.keeps rh1), rvs⟩ rh2 (f1.trans f2) (congrArg (· + 1) hl) q2⟩⟩
theorem e_tup {es : List Expr} {c : E} {k : Nat} {pos : Pos} (h : PA X es (tA X T G c)) (hz : alen c ≤ sizeMax) : PE X (.Tuple es k pos) (tE X T G (.tup c)) :=
  (pe_tup h).imp fun σ H Q' ⟨ρ, μ, Q, rs, rh, hw, p⟩ =>
    ⟨ρ, μ, fun ds μ1 => Q (.tup ds) μ1, rs, rh, hw, fun ds vs H1 μ1 rv rh1 f1 hl q1 => ⟨by rw [← rv.length, hl, ← sizeMax_eq]; exact hz, (p.step f1).tup rh1 rv q1⟩⟩
theorem e_lst {es : List Expr} {c : E} {pos : Pos} (h : PA X es (tA X T G c)) (hz : alen c ≤ sizeMax) : PE X (.List es pos) (tE X T G (.lst c)) :=
  (pe_lst h).imp fun σ H Q' ⟨ρ, μ, Q, rs, rh, hw, p⟩ =>
    ⟨ρ, μ, fun ds μ1 => new μ1 (.lst ds) Q, rs, rh, hw, fun ds vs H1 μ1 rv rh1 f1 hl q1 => ⟨by rw [← rv.length, hl, ← sizeMax_eq]; exact hz, (p.step f1).lst rh1 rv q1⟩⟩
/-! ### operators -/
def rB (X : Cx) (T : Tab) (o : BOp) : R2 := fun x y H Q' => ∃ dx dy μ Q, RepV X.K H dx x ∧ RepV X.K H dy y ∧ RepH X.w X.K T H μ ∧ binP o dx dy μ Q ∧ Pst X T H μ Q Q'
theorem e_bin {a b : Expr} {op : Operator} {o : BOp} {ca cb : E} {pos : Pos} (ho : OpR X (binaryOp op) (rB X T o)) (ha : PE X a (tE X T G ca)) (hb : PE X b (tE X T G cb)) : PE X (.BinOp a op b pos) (tE X T G (.bin o ca cb)) :=
  (pe_op ho ha hb).imp fun σ H Q' ⟨ρ, μ, Q, rs, rh, hw, p⟩ =>
    ⟨ρ, μ, _, rs, rh, hw, fun x vx H1 μ1 rx rh1 f1 q1 => ⟨ρ, μ1, _, rs.mono (f1.keeps rh), rh1, q1, fun y vy H2 μ2 ry rh2 f2 q2 =>
      ⟨x, y, μ2, Q, rx.mono (f2.keeps rh1), ry, rh2, q2, p.step (f1.trans f2)⟩⟩⟩
theorem Small.mul {i j : Int} (a : Small i) (b : Small j) : CMulW i j := by
  have h : (10 : Nat) ^ 250 ≤ 2 ^ 1000 := by
    have : (10 : Nat) ^ 250 ≤ (2 ^ 4) ^ 250 := Nat.pow_le_pow_left (by decide) _
    rw [← Nat.pow_mul] at this
    exact this
  exact wide_mul (Nat.lt_of_lt_of_le a h) (Nat.lt_of_lt_of_le b h) (by decide) (by decide) (by decide)
theorem Small.div {j : Int} (h0 : 0 < j) (b : Small j) : CDivW 0 j := by
  have h : (10 : Nat) ^ 250 ≤ 2 ^ 1000 := by
    have : (10 : Nat) ^ 250 ≤ (2 ^ 4) ^ 250 := Nat.pow_le_pow_left (by decide) _
    rw [← Nat.pow_mul] at this
    exact this
  exact wide_div h0 (Nat.lt_of_lt_of_le b h) (by decide) (by decide)
theorem sqT_of {H : Hp} {p : Addr} {vs : List V} {ds : List D} {K : PySem.W.Frag} (h : SqT K H p vs) (r : RepVs K H ds vs) : RepV K H (.tup ds) (.ref p) := ⟨p, vs, rfl, h, r⟩
theorem op_bin_add : OpR X (binaryOp .Add) (rB X T .add) := by
  intro pins s σ H x y v u Q' I rx ry ⟨dx, dy, μ, Q, hx, hy, rh, hb, p⟩
  cases dx with
  | int i =>
    cases dy with
    | int j =>
      cases hx; cases hy
      exact op_add pins s σ H _ _ v u Q' I rx ry ⟨i, j, rfl, rfl, p.int rh hb⟩
    | _ => exact hb.elim
  | str i =>
    cases dy with
    | str j =>
      cases hx; cases hy
      obtain ⟨hz, q⟩ := hb
      refine op_add_str pins s σ H _ _ v u Q' I rx ry ⟨_, _, rfl, rfl, ?_, ?_⟩
      · show i.toArray.size + j.toArray.size ≤ sizeLine
        rw [← sizeMax_eq]; simpa using hz
      · have := p.str rh q
        have e : toS i ++ toS j = toS (i ++ j) := by
          show (⟨i.toArray ++ j.toArray⟩ : Str) = ⟨(i ++ j).toArray⟩
          simp
        rw [e]; exact this
    | _ => exact hb.elim
  | tup i =>
    cases dy with
    | tup j =>
      obtain ⟨pa, xs, rfl, sa, ra⟩ := hx
      obtain ⟨pb, ys, rfl, sb, rb⟩ := hy
      obtain ⟨hz, q⟩ := hb
      refine op_catA pins s σ H _ _ v u Q' I rx ry ⟨pa, pb, xs, ys, rfl, rfl, sa, sb, by rw [← ra.length, ← rb.length, ← sizeMax_eq]; exact hz, fun e => ?_, fun e1 e2 => ?_, fun _ _ => p.tup rh (ra.append rb) q⟩
      · have : i = [] := ra.nil_iff.mp e
        subst this
        exact p.val rh (sqT_of sb rb) q
      · have : j = [] := rb.nil_iff.mp e2
        subst this
        rw [List.append_nil] at q
        exact p.val rh (sqT_of sa ra) q
    | _ => exact hb.elim
  | ref a =>
    cases dy with
    | ref b =>
      cases hx; cases hy
      obtain ⟨l, e1, hb⟩ := rdL_get hb
      obtain ⟨m, e2, hz, q⟩ := rdL_get hb
      obtain ⟨vs, h1, r1⟩ := rh a _ e1
      obtain ⟨us, h2, r2⟩ := rh b _ e2
      exact op_cat pins s σ H _ _ v u Q' I rx ry ⟨a, b, vs, us, rfl, rfl, h1, h2, by rw [← r1.length, ← r2.length, ← sizeMax_eq]; exact hz, p.lst rh (r1.append r2) q⟩
    | _ => exact hb.elim
  | _ => exact hb.elim
theorem op_bin_sub : OpR X (binaryOp .Sub) (rB X T .sub) := by
  intro pins s σ H x y v u Q' I rx ry ⟨dx, dy, μ, Q, hx, hy, rh, hb, p⟩
  cases dx with
  | int i =>
    cases dy with
    | int j =>
      cases hx; cases hy
      exact op_sub pins s σ H _ _ v u Q' I rx ry ⟨i, j, rfl, rfl, p.int rh hb⟩
    | _ => exact hb.elim
  | _ => exact hb.elim
theorem fold_str (x : List Nat) : ∀ (n : Nat) (acc : Array Nat), (List.replicate n x.toArray).foldl (· ++ ·) acc = (acc.toList ++ (List.replicate n x).flatten).toArray
  | 0, acc => by simp
  | n + 1, acc => by
    rw [List.replicate_succ, List.foldl_cons, fold_str x n, List.replicate_succ, List.flatten_cons]
    simp
theorem mul_str_run {i : List Nat} {j : Int} (h0 : 0 ≤ j) (h1 : j ≤ 100000) (h2 : i.length * j.toNat ≤ 100000) {pins : List (Addr × Obj)} {s : Shared} {v u : Value} {σ : L2.St} {H : Hp} {Q' : VK} (I : L2.Inv X pins σ H s) (rx : L2.RelV (.str (toS i)) v) (ry : L2.RelV (.int j) u)
    (q : Q' (.str (toS (List.replicate j.toNat i).flatten)) H) : wpAny (model X.prog X.w) X.A (binaryOp .Mult v u) (EP X pins σ Q') X.xe s := by
  obtain ⟨t, rfl⟩ := rx
  obtain ⟨t', rfl⟩ := ry
  have el : (toS i).length = i.length := by show i.toArray.size = _; simp
  have hl : ∀ n : Nat, n ≤ 100000 → PySem.Builtin.Str.tooLong n = false := fun n hn => decide_eq_false (by rw [sizeLine_eq]; omega)
  refine PySem.P.mul_str (by rw [decide_eq_false (by omega), decide_eq_false (by omega)]; rfl) (fun g1 g2 => ?_) (fun g1 g2 => by rw [el]; exact hl _ h2) ?_
  · rw [el]
    have h3 : (i.length : Int) * j ≤ 100000 := by
      have e : (i.length : Int) * j = ((i.length * j.toNat : Nat) : Int) := by rw [Int.natCast_mul, Int.toNat_of_nonneg h0]
      rw [e]; omega
    exact Int.not_lt.mpr ((Int.le_ediv_iff_mul_le (by omega)).mpr (by omega))
  · by_cases g1 : j < 1
    · rw [if_pos g1]
      have : j = 0 := by omega
      subst this
      exact ⟨by decide, .str _, H, I.tok _, ⟨_, rfl⟩, q⟩
    · rw [if_neg g1]
      by_cases g2 : (j == 1 || (toS i).length == 0) = true
      · rw [if_pos g2]
        refine ⟨.str (toS i), H, I, ⟨_, rfl⟩, ?_⟩
        have e : (List.replicate j.toNat i).flatten = i := by
          rw [Bool.or_eq_true, beq_iff_eq, beq_iff_eq, el] at g2
          rcases g2 with g2 | g2
          · subst g2; simp
          · have := List.eq_nil_of_length_eq_zero g2; subst this; simp
        rw [e] at q; exact q
      · rw [if_neg g2]
        have e : (⟨(List.replicate j.toNat (toS i).cps).foldl (· ++ ·) #[]⟩ : Str) = toS (List.replicate j.toNat i).flatten := by
          rw [show (toS i).cps = i.toArray from rfl, fold_str]
          simp
        rw [e]
        refine ⟨?_, .str _, H, I.tok _, ⟨_, rfl⟩, q⟩
        have e2 : (toS (List.replicate j.toNat i).flatten).length = i.length * j.toNat := by
          show ((List.replicate j.toNat i).flatten).toArray.size = _
          simp [Nat.mul_comm]
        rw [e2, sizeLine_eq]; omega
theorem op_bin_mul : OpR X (binaryOp .Mult) (rB X T .mul) := by
  intro pins s σ H x y v u Q' I rx ry ⟨dx, dy, μ, Q, hx, hy, rh, hb, p⟩
  cases dx with
  | int i =>
    cases dy with
    | int j =>
      cases hx; cases hy
      obtain ⟨h1, h2, q⟩ := hb
      exact op_mulW pins s σ H _ _ v u Q' I rx ry ⟨i, j, rfl, rfl, h1.mul h2, p.int rh q⟩
    | _ => exact hb.elim
  | ref a =>
    cases dy with
    | int j =>
      cases hx; cases hy
      obtain ⟨l, e1, h0, h1, h2, q⟩ := rdL_get hb
      obtain ⟨vs, h3, r1⟩ := rh a _ e1
      refine op_rep pins s σ H _ _ v u Q' I rx ry ⟨a, j, vs, rfl, rfl, h3, by omega, ?_, by rw [← r1.length, ← sizeMax_eq]; exact h2, p.lst rh (r1.rep _) q⟩
      have : (sizeMax : Int) < 2 ^ 63 := by unfold sizeMax; decide
      omega
    | _ => exact hb.elim
  | tup l =>
    cases dy with
    | int j =>
      cases hy
      obtain ⟨a, vs, rfl, st, r1⟩ := hx
      obtain ⟨hn, h0, h1, h2, q⟩ := hb
      have vn : vs ≠ [] := fun z => by
        subst z
        exact hn (List.eq_nil_of_length_eq_zero r1.length)
      have hl : vs.length = l.length := r1.length.symm
      refine op_repTX pins s σ H _ _ v u Q' I rx ry ⟨a, j, vs, rfl, rfl, st, vn, ?_⟩
      by_cases j0 : j = 0
      · subst j0
        exact .inl ⟨rfl, p.tup rh (ds := []) (vs := []) rfl q⟩
      by_cases j1 : j = 1
      · subst j1
        refine .inr (.inl ⟨rfl, ?_⟩)
        have e : (List.replicate (1 : Int).toNat l).flatten = l := by simp
        rw [e] at q
        exact p.val rh (d := .tup l) ⟨a, vs, rfl, st, r1⟩ q
      · exact .inr (.inr ⟨by omega, h1, by omega, p.tup rh (r1.rep _) q⟩)
    | _ => exact hb.elim
  | str i =>
    cases dy with
    | int j =>
      cases hx; cases hy
      exact mul_str_run hb.1 hb.2.1 hb.2.2.1 I rx ry (p.str rh hb.2.2.2)
    | _ => exact hb.elim
  | _ => cases dy <;> exact hb.elim
theorem op_bin_fdiv : OpR X (binaryOp .FloorDiv) (rB X T .fdiv) := by
  intro pins s σ H x y v u Q' I rx ry ⟨dx, dy, μ, Q, hx, hy, rh, hb, p⟩
  cases dx with
  | int i =>
    cases dy with
    | int j =>
      cases hx; cases hy
      obtain ⟨h1, h2, q⟩ := hb
      exact op_fdivW pins s σ H _ _ v u Q' I rx ry ⟨i, j, rfl, rfl, Small.div h1 h2, p.int rh q⟩
    | _ => exact hb.elim
  | _ => exact hb.elim
theorem op_bin_mod : OpR X (binaryOp .Mod) (rB X T .mod) := by
  intro pins s σ H x y v u Q' I rx ry ⟨dx, dy, μ, Q, hx, hy, rh, hb, p⟩
  cases dx with
  | int i =>
    cases dy with
    | int j =>
      cases hx; cases hy
      obtain ⟨h1, q⟩ := hb
      exact op_mod pins s σ H _ _ v u Q' I rx ry ⟨i, j, rfl, rfl, h1, p.int rh q⟩
    | _ => exact hb.elim
  | _ => exact hb.elim
theorem op_bin_pow : OpR X (binaryOp .Pow) (rB X T .pow) := by
  intro pins s σ H x y v u Q' I rx ry ⟨dx, dy, μ, Q, hx, hy, rh, hb, p⟩
  cases dx with
  | int i =>
    cases dy with
    | int j =>
      cases hx; cases hy
      obtain ⟨h1, q⟩ := hb
      have h1 := of_decide_eq_true h1
      exact op_pow pins s σ H _ _ v u Q' I rx ry ⟨i, j, rfl, rfl, ⟨by omega, by omega, by omega⟩, p.int rh q⟩
    | _ => exact hb.elim
  | _ => exact hb.elim
/-- the operator of the text -/
def trOp : Operator → Option BOp
  | .Add => some .add
  | .Sub => some .sub
  | .Mult => some .mul
  | .FloorDiv => some .fdiv
  | .Mod => some .mod
  | .Pow => some .pow
  | _ => none
theorem op_bin {op : Operator} {o : BOp} (h : trOp op = some o) : OpR X (binaryOp op) (rB X T o) := by
  cases op with
  | Add => cases h; exact op_bin_add
  | Sub => cases h; exact op_bin_sub
  | Mult => cases h; exact op_bin_mul
  | FloorDiv => cases h; exact op_bin_fdiv
  | Mod => cases h; exact op_bin_mod
  | Pow => cases h; exact op_bin_pow
  | _ => cases h
theorem e_neg {a : Expr} {ca : E} {pos : Pos} (ha : PE X a (tE X T G ca)) : PE X (.UnaryOp .USub a pos) (tE X T G (.neg ca)) :=
  (pe_un un_neg ha).imp fun σ H Q' ⟨ρ, μ, Q, rs, rh, hw, p⟩ =>
    ⟨ρ, μ, _, rs, rh, hw, fun x vx H1 μ1 rx rh1 f1 q1 => by
      cases x with
      | int i =>
        cases rx
        exact ⟨i, rfl, (p.step f1).int rh1 q1⟩
      | _ => exact q1.elim⟩

/-! ### data as the library tells it -/
mutual
def toPy : D → PyData
  | .non => .none
  | .bl b => .bool b
  | .int i => .int i
  | .str x => .str (toS x)
  | .tup ds => .tuple (toPys ds)
  | .ref _ => .none
  | .scr _ => .none
def toPys : List D → List PyData
  | [] => []
  | d :: ds => toPy d :: toPys ds
end
mutual
def wPy : W → PyData
  | .non => .none
  | .bl b => .bool b
  | .int i => .int i
  | .str x => .str (toS x)
  | .tup ds => .tuple (wPys ds)
  | .lst ds => .list (wPys ds)
def wPys : List W → List PyData
  | [] => []
  | d :: ds => wPy d :: wPys ds
end
theorem strOk_of {x : List Nat} (h : (x.all fun c => decide (c < 1114112)) = true) : PyData.canLay0 (.str (toS x)) = true := by
  show (toS x).cps.all (· < 0x110000) = true
  rw [← Array.all_toList]
  simpa using h
mutual
theorem ok_lay : ∀ {n : Nat} {d : D}, D.ok n d = true → (toPy d).canLay0 = true ∧ (toPy d).depth ≤ n
  | 0, _, h => by simp [D.ok] at h
  | n + 1, .non, _ => ⟨rfl, Nat.zero_le _⟩
  | n + 1, .bl _, _ => ⟨rfl, Nat.zero_le _⟩
  | n + 1, .int _, _ => ⟨rfl, Nat.zero_le _⟩
  | n + 1, .str x, h => ⟨strOk_of (by simpa [D.ok] using h), Nat.zero_le _⟩
  | n + 1, .ref _, h => by simp [D.ok] at h
  | n + 1, .scr _, h => by simp [D.ok] at h
  | n + 1, .tup ds, h => by
    have h : ds.all (D.ok n) = true := by simpa [D.ok] using h
    obtain ⟨h1, h2⟩ := ok_lays h
    refine ⟨by simpa [toPy, PyData.canLay0] using h1, ?_⟩
    simp only [toPy, PyData.depth]
    omega
theorem ok_lays : ∀ {n : Nat} {ds : List D}, ds.all (D.ok n) = true → PyData.canLayAll0 (toPys ds) = true ∧ PyData.depthAll (toPys ds) ≤ n
  | _, [], _ => ⟨rfl, Nat.zero_le _⟩
  | n, d :: ds, h => by
    rw [List.all_cons, Bool.and_eq_true] at h
    obtain ⟨h1, h2⟩ := ok_lay h.1
    obtain ⟨h3, h4⟩ := ok_lays h.2
    refine ⟨by simp only [toPys, PyData.canLayAll0, h1, h3]; rfl, ?_⟩
    simp only [toPys, PyData.depthAll]
    omega
end
mutual
theorem wok_lay : ∀ {n : Nat} {d : W}, W.ok n d = true → (wPy d).canLay0 = true ∧ (wPy d).depth ≤ n
  | 0, _, h => by simp [W.ok] at h
  | n + 1, .non, _ => ⟨rfl, Nat.zero_le _⟩
  | n + 1, .bl _, _ => ⟨rfl, Nat.zero_le _⟩
  | n + 1, .int _, _ => ⟨rfl, Nat.zero_le _⟩
  | n + 1, .str x, h => ⟨strOk_of (by simpa [W.ok] using h), Nat.zero_le _⟩
  | n + 1, .tup ds, h => by
    have h : ds.all (W.ok n) = true := by simpa [W.ok] using h
    obtain ⟨h1, h2⟩ := wok_lays h
    refine ⟨by simpa [wPy, PyData.canLay0] using h1, ?_⟩
    simp only [wPy, PyData.depth]
    omega
  | n + 1, .lst ds, h => by
    have h : ds.all (W.ok n) = true := by simpa [W.ok] using h
    obtain ⟨h1, h2⟩ := wok_lays h
    refine ⟨by simpa [wPy, PyData.canLay0] using h1, ?_⟩
    simp only [wPy, PyData.depth]
    omega
theorem wok_lays : ∀ {n : Nat} {ds : List W}, ds.all (W.ok n) = true → PyData.canLayAll0 (wPys ds) = true ∧ PyData.depthAll (wPys ds) ≤ n
  | _, [], _ => ⟨rfl, Nat.zero_le _⟩
  | n, d :: ds, h => by
    rw [List.all_cons, Bool.and_eq_true] at h
    obtain ⟨h1, h2⟩ := wok_lay h.1
    obtain ⟨h3, h4⟩ := wok_lays h.2
    refine ⟨by simp only [wPys, PyData.canLayAll0, h1, h3]; rfl, ?_⟩
    simp only [wPys, PyData.depthAll]
    omega
end
theorem shaped_of {d : PyData} (h : d.canLay0 = true ∧ d.depth ≤ 60) : SeqAt.shaped d = true := by
  show (d.canLay0 && decide (d.depth ≤ 64)) = true
  rw [Bool.and_eq_true]
  exact ⟨h.1, decide_eq_true (by omega)⟩
theorem shaped_list {ds : List D} (h : ds.all (D.ok 60) = true) : SeqAt.shaped (.list (toPys ds)) = true := by
  obtain ⟨h1, h2⟩ := ok_lays h
  show (PyData.canLay0 (.list (toPys ds)) && decide (PyData.depth (.list (toPys ds)) ≤ 64)) = true
  rw [Bool.and_eq_true]
  refine ⟨by simpa [PyData.canLay0] using h1, decide_eq_true ?_⟩
  simp only [PyData.depth]
  omega
mutual
theorem rep_dp {K : PySem.W.Frag} {H : Hp} : ∀ {n : Nat} {d : D} {v : V}, D.ok n d = true → RepV K H d v → Dp K H v (toPy d)
  | 0, _, _, h, _ => by simp [D.ok] at h
  | n + 1, .non, _, _, r => by cases r; exact .non
  | n + 1, .bl b, _, _, r => by cases r; exact .bl b
  | n + 1, .int i, _, _, r => by cases r; exact .int i
  | n + 1, .str x, _, _, r => by cases r; exact .str _
  | n + 1, .ref _, _, h, _ => by simp [D.ok] at h
  | n + 1, .scr _, _, h, _ => by simp [D.ok] at h
  | n + 1, .tup ds, _, h, ⟨p, vs, e, s, r⟩ => by
    subst e
    exact .tup s (rep_dps (n := n) (by simpa [D.ok] using h) r)
theorem rep_dps {K : PySem.W.Frag} {H : Hp} : ∀ {n : Nat} {ds : List D} {vs : List V}, ds.all (D.ok n) = true → RepVs K H ds vs → DpAll K H vs (toPys ds)
  | _, [], _, _, r => by rw [show _ = [] from r]; exact .nil
  | n, d :: ds, _, h, ⟨v, q, e, r, t⟩ => by
    subst e
    rw [List.all_cons, Bool.and_eq_true] at h
    exact .cons (rep_dp h.1 r) (rep_dps h.2 t)
end
mutual
theorem w_dp {X : Cx} {T : Tab} {H : Hp} {μ : Sto} (rh : RepH X.w X.K T H μ) : ∀ {a : W} {d : D} {v : V}, isW μ a d → RepV X.K H d v → Dp X.K H v (wPy a)
  | .non, _, _, h, r => by cases h; cases r; exact .non
  | .bl _, _, _, h, r => by cases h; cases r; exact .bl _
  | .int _, _, _, h, r => by cases h; cases r; exact .int _
  | .str _, _, _, h, r => by cases h; cases r; exact .str _
  | .tup xs, _, _, h, r => by
    obtain ⟨ds, e, h⟩ := h
    subst e
    obtain ⟨p, vs, e, s, r⟩ := r
    subst e
    exact .tup s (w_dps rh h r)
  | .lst xs, _, _, h, r => by
    obtain ⟨a, ds, e, m, h⟩ := h
    subst e
    cases r
    obtain ⟨vs, s, r⟩ := rh _ _ m
    exact .lst (SqL.of s) (w_dps rh h r)
theorem w_dps {X : Cx} {T : Tab} {H : Hp} {μ : Sto} (rh : RepH X.w X.K T H μ) : ∀ {as : List W} {ds : List D} {vs : List V}, isWs μ as ds → RepVs X.K H ds vs → DpAll X.K H vs (wPys as)
  | [], _, _, h, r => by cases h; rw [show _ = [] from r]; exact .nil
  | a :: as, _, _, h, r => by
    obtain ⟨d, q, e, h1, h2⟩ := h
    subst e
    obtain ⟨v, vq, e, r1, r2⟩ := r
    subst e
    exact .cons (w_dp rh h1 r1) (w_dps rh h2 r2)
end
theorem toS_beq (a b : List Nat) : (toS a == toS b) = (a == b) := by
  rw [Bool.eq_iff_iff]
  simp only [beq_iff_eq]
  exact ⟨toS_inj, fun h => by rw [h]⟩
mutual
theorem eqv_eqb : ∀ {n : Nat} {a b : D}, D.ok n a = true → D.ok n b = true → PyData.eqv (toPy a) (toPy b) = D.eqb a b
  | 0, _, _, h, _ => by simp [D.ok] at h
  | n + 1, .non, b, _, h => by cases b <;> first | rfl | simp [D.ok] at h
  | n + 1, .bl x, b, _, h => by cases b <;> first | rfl | simp [D.ok] at h
  | n + 1, .int x, b, _, h => by cases b <;> first | rfl | simp [D.ok] at h
  | n + 1, .str x, b, _, h => by
    cases b with
    | str y => exact toS_beq x y
    | ref _ => simp [D.ok] at h
    | scr _ => simp [D.ok] at h
    | _ => rfl
  | n + 1, .ref _, _, h, _ => by simp [D.ok] at h
  | n + 1, .scr _, _, h, _ => by simp [D.ok] at h
  | n + 1, .tup xs, b, h1, h => by
    cases b with
    | tup ys =>
      show PyData.eqvAll (toPys xs) (toPys ys) = D.eqbs xs ys
      exact eqvs_eqbs (n := n) (by simpa [D.ok] using h1) (by simpa [D.ok] using h)
    | ref _ => simp [D.ok] at h
    | scr _ => simp [D.ok] at h
    | _ => rfl
theorem eqvs_eqbs : ∀ {n : Nat} {a b : List D}, a.all (D.ok n) = true → b.all (D.ok n) = true → PyData.eqvAll (toPys a) (toPys b) = D.eqbs a b
  | _, [], [], _, _ => rfl
  | _, [], _ :: _, _, _ => rfl
  | _, _ :: _, [], _, _ => rfl
  | n, x :: xs, y :: ys, h1, h2 => by
    rw [List.all_cons, Bool.and_eq_true] at h1 h2
    show (PyData.eqv (toPy x) (toPy y) && PyData.eqvAll (toPys xs) (toPys ys)) = (D.eqb x y && D.eqbs xs ys)
    rw [eqv_eqb h1.1 h2.1, eqvs_eqbs h1.2 h2.2]
end
mutual
theorem weqv_eqb : ∀ {a b : W}, PyData.eqv (wPy a) (wPy b) = W.eqb a b
  | .non, b => by cases b <;> rfl
  | .bl x, b => by cases b <;> rfl
  | .int x, b => by cases b <;> rfl
  | .str x, b => by
    cases b with
    | str y => exact toS_beq x y
    | _ => rfl
  | .tup xs, b => by
    cases b with
    | tup ys => exact weqvs_eqbs
    | _ => rfl
  | .lst xs, b => by
    cases b with
    | lst ys => exact weqvs_eqbs
    | _ => rfl
theorem weqvs_eqbs : ∀ {a b : List W}, PyData.eqvAll (wPys a) (wPys b) = W.eqbs a b
  | [], [] => rfl
  | [], _ :: _ => rfl
  | _ :: _, [] => rfl
  | x :: xs, y :: ys => by
    show (PyData.eqv (wPy x) (wPy y) && PyData.eqvAll (wPys xs) (wPys ys)) = (W.eqb x y && W.eqbs xs ys)
    rw [weqv_eqb, weqvs_eqbs]
end
theorem any_eqv {n : Nat} {x : D} (hx : D.ok n x = true) : ∀ {l : List D}, l.all (D.ok n) = true → ((toPys l).any fun z => PyData.eqv z (toPy x)) = l.any fun y => D.eqb y x
  | [], _ => rfl
  | y :: l, h => by
    rw [List.all_cons, Bool.and_eq_true] at h
    show (PyData.eqv (toPy y) (toPy x) || _) = (D.eqb y x || _)
    rw [eqv_eqb h.1 hx, any_eqv hx h.2]
/-! ### comparisons -/
def rC (X : Cx) (T : Tab) (o : COp) : R2 := fun x y H Q' => ∃ dx dy μ, ∃ k : Bool → Prop, RepV X.K H dx x ∧ RepV X.K H dy y ∧ RepH X.w X.K T H μ ∧ cmpP o dx dy μ k ∧ ∀ b, k b → Q' (.bl b) H
theorem flat_v {K : PySem.W.Frag} {H : Hp} {d : D} {v : V} (h : isFl d = true) (r : RepV K H d v) : flatV v = true := by
  cases d with
  | non => cases r; rfl
  | bl _ => cases r; rfl
  | int _ => cases r; rfl
  | str _ => cases r; rfl
  | _ => cases h
theorem flat_vs {K : PySem.W.Frag} {H : Hp} : ∀ {ds : List D} {vs : List V}, ds.all isFl = true → RepVs K H ds vs → vs.all flatV = true
  | [], _, _, r => by rw [show _ = [] from r]; rfl
  | d :: ds, _, h, ⟨v, q, e, r, t⟩ => by
    subst e
    rw [List.all_cons, Bool.and_eq_true] at h
    rw [List.all_cons, flat_v h.1 r, flat_vs h.2 t]; rfl
theorem flat_eq {K : PySem.W.Frag} {H : Hp} {a b : D} {x y : V} (ha : isFl a = true) (hb : isFl b = true) (ra : RepV K H a x) (rb : RepV K H b y) : eqV x y = D.eqb a b := by
  cases a with
  | str i =>
    cases b with
    | str j => cases ra; cases rb; exact toS_beq i j
    | tup _ => cases hb
    | ref _ => cases hb
    | scr _ => cases hb
    | _ => cases ra; cases rb; rfl
  | tup _ => cases ha
  | ref _ => cases ha
  | scr _ => cases ha
  | _ =>
    cases b with
    | tup _ => cases hb
    | ref _ => cases hb
    | scr _ => cases hb
    | _ => cases ra; cases rb; rfl
theorem flat_in {K : PySem.W.Frag} {H : Hp} {x : D} {v : V} (hx : isFl x = true) (rx : RepV K H x v) : ∀ {l : List D} {vs : List V}, l.all isFl = true → RepVs K H l vs → inV v vs = l.any fun y => D.eqb y x
  | [], _, _, r => by rw [show _ = [] from r]; rfl
  | d :: ds, _, h, ⟨u, q, e, r, t⟩ => by
    subst e
    rw [List.all_cons, Bool.and_eq_true] at h
    show (eqV u v || inV v q) = (D.eqb d x || _)
    rw [flat_eq h.1 hx r rx, flat_in hx rx h.2 t]
variable {v u : Value} {x y : V} {pins : List (Addr × Obj)} {s : Shared} {dx dy : D} {k : Bool → Prop}
theorem kV_inj {κ κ' : Key} (h : kV κ = kV κ') : κ = κ' := by
  cases κ <;> cases κ' <;> first | (injection h with e; rw [e]) | cases h
theorem flat_fun {K : PySem.W.Frag} {H : Hp} {d : D} {x y : V} (h : isFl d = true) (r : RepV K H d x) (q : RepV K H d y) : x = y := by
  cases d with
  | non => cases r; cases q; rfl
  | bl _ => cases r; cases q; rfl
  | int _ => cases r; cases q; rfl
  | str _ => cases r; cases q; rfl
  | _ => cases h
theorem flat_isFl {d : D} (h : isFlat d = true) : isFl d = true := by cases d <;> first | rfl | cases h
theorem flat_key {K : PySem.W.Frag} {H : Hp} {d e : D} {x : V} (h : isFlat d = true) (h' : isFlat e = true) (r : RepV K H d x) (q : RepV K H e x) : d = e := by
  cases d with
  | int i => cases e with
    | int j =>
      have r : x = .int i := r
      have q : x = .int j := q
      rw [r] at q; injection q with q; rw [q]
    | str j =>
      have r : x = .int i := r
      have q : x = .str _ := q
      rw [r] at q; cases q
    | _ => cases h'
  | str i => cases e with
    | int j =>
      have r : x = .str _ := r
      have q : x = .int j := q
      rw [r] at q; cases q
    | str j =>
      have r : x = .str (toS i) := r
      have q : x = .str (toS j) := q
      rw [r] at q; injection q with q; rw [toS_inj q]
    | _ => cases h'
  | _ => cases h
theorem repK_fun {K : PySem.W.Frag} {H : Hp} : ∀ {l : List (D × D)} {ks ls : List (Key × V)}, l.all (fun p => isFl p.2) = true → RepK K H l ks → RepK K H l ls → ks = ls
  | [], _, _, _, r, q => by rw [show _ = [] from r, show _ = [] from q]
  | (k, d) :: l, _, _, h, ⟨κ, v, ks, e, r1, f, r2, r3⟩, ⟨κ', v', ls, e', q1, _, q2, q3⟩ => by
    rw [List.all_cons, Bool.and_eq_true] at h
    rw [e, e', kV_inj (flat_fun (flat_isFl f) r1 q1), flat_fun h.1 r2 q2, repK_fun h.2 r3 q3]
theorem repK_mem {K : PySem.W.Frag} {H : Hp} : ∀ {l : List (D × D)} {ks : List (Key × V)}, RepK K H l ks → ∀ κ ∈ ks.map (·.1), ∃ k ∈ l.map (·.1), isFlat k = true ∧ RepV K H k (kV κ)
  | [], _, r, κ, h => by rw [show _ = [] from r] at h; cases h
  | (k, d) :: l, _, ⟨κ', v, ks, e, r1, f, r2, r3⟩, κ, h => by
    rw [e, List.map_cons] at h
    rcases List.mem_cons.mp h with e1 | h
    · exact ⟨k, List.mem_cons_self, f, by rw [e1]; exact r1⟩
    · obtain ⟨k', h1, h2⟩ := repK_mem r3 κ h
      exact ⟨k', List.mem_cons_of_mem _ h1, h2⟩
theorem repK_nd {K : PySem.W.Frag} {H : Hp} : ∀ {l : List (D × D)} {ks : List (Key × V)}, RepK K H l ks → (l.map (·.1)).Nodup → (ks.map (·.1)).Nodup
  | [], _, r, _ => by rw [show _ = [] from r]; exact List.nodup_nil
  | (k, d) :: l, _, ⟨κ', v, ks, e, r1, f, r2, r3⟩, nd => by
    rw [e]
    rw [List.map_cons, List.nodup_cons] at nd ⊢
    refine ⟨fun h => ?_, repK_nd r3 nd.2⟩
    obtain ⟨k', h1, h2, h3⟩ := repK_mem r3 κ' h
    rw [flat_key f h2 r1 h3] at nd
    exact nd.1 h1
theorem repK_flat {K : PySem.W.Frag} {H : Hp} : ∀ {l : List (D × D)} {ks : List (Key × V)}, l.all (fun p => isFl p.2) = true → RepK K H l ks → ∀ p ∈ ks, flatB p.2 = true
  | [], _, _, r, p, h => by rw [show _ = [] from r] at h; cases h
  | (k, d) :: l, _, hf, ⟨κ', v, ks, e, r1, f, r2, r3⟩, p, h => by
    rw [List.all_cons, Bool.and_eq_true] at hf
    rw [e] at h
    rcases List.mem_cons.mp h with e1 | h
    · rw [e1]
      show flatB v = true
      have h1 := hf.1
      cases d with
      | non => rw [show v = .non from r2]; rfl
      | bl _ => rw [show v = .bl _ from r2]; rfl
      | int _ => rw [show v = .int _ from r2]; rfl
      | str _ => rw [show v = .str _ from r2]; rfl
      | _ => cases h1
    · exact repK_flat hf.2 r3 p h
/-- the equality of the two, as it comes back -/
theorem eq_run (hu : X.A.units + 64 < cLine) (I : Inv X pins σ H s) (rx : RelV x v) (ry : RelV y u) (hx : RepV X.K H dx x) (hy : RepV X.K H dy y) (rh : RepH X.w X.K T H μ) (h : eqP dx dy μ k) :
    (∀ Q', (∀ b, k b → Q' (.bl b) H) → wpAny (model X.prog X.w) X.A (compareOp .Eq v u) (EP X pins σ Q') X.xe s) ∧ ∀ Q', (∀ b, k b → Q' (.bl (!b)) H) → wpAny (model X.prog X.w) X.A (compareOp .NotEq v u) (EP X pins σ Q') X.xe s := by
  have deep : ∀ {d e : PyData}, Dp X.K H x d → Dp X.K H y e → SeqAt.shaped d = true → SeqAt.shaped e = true → k (PyData.eqv d e) →
      (∀ Q', (∀ b, k b → Q' (.bl b) H) → wpAny (model X.prog X.w) X.A (compareOp .Eq v u) (EP X pins σ Q') X.xe s) ∧ ∀ Q', (∀ b, k b → Q' (.bl (!b)) H) → wpAny (model X.prog X.w) X.A (compareOp .NotEq v u) (EP X pins σ Q') X.xe s :=
    fun h1 h2 h3 h4 q => ⟨fun Q' w => op_eqD hu pins s σ H _ _ v u Q' I rx ry ⟨_, _, h1, h2, h3, h4, w _ q⟩, fun Q' w => op_neD hu pins s σ H _ _ v u Q' I rx ry ⟨_, _, h1, h2, h3, h4, w _ q⟩⟩
  have flat : scal x y = true → k (decide (x = y)) →
      (∀ Q', (∀ b, k b → Q' (.bl b) H) → wpAny (model X.prog X.w) X.A (compareOp .Eq v u) (EP X pins σ Q') X.xe s) ∧ ∀ Q', (∀ b, k b → Q' (.bl (!b)) H) → wpAny (model X.prog X.w) X.A (compareOp .NotEq v u) (EP X pins σ Q') X.xe s :=
    fun h1 q => ⟨fun Q' w => op_eq pins s σ H _ _ v u Q' I rx ry ⟨h1, w _ q⟩, fun Q' w => op_ne pins s σ H _ _ v u Q' I rx ry ⟨h1, w _ q⟩⟩
  unfold eqP at h
  cases hf : isFl dx && isFl dy with
  | true =>
    rw [hf] at h
    have h : k (D.eqb dx dy) := h
    rw [Bool.and_eq_true] at hf
    cases dx with
    | non => cases dy with
      | non => cases hx; cases hy; exact flat rfl h
      | bl _ => cases hx; cases hy; exact flat rfl h
      | int _ => cases hx; cases hy; exact flat rfl h
      | str _ => cases hx; cases hy; exact flat rfl h
      | _ => cases hf.2
    | bl a => cases dy with
      | non => cases hx; cases hy; exact flat rfl h
      | bl b => cases hx; cases hy; exact flat rfl (by rw [dec_bl]; exact h)
      | int b => cases hx; cases hy; exact deep (.bl a) (.int b) rfl rfl h
      | str _ => cases hx; cases hy; exact flat rfl h
      | _ => cases hf.2
    | int a => cases dy with
      | non => cases hx; cases hy; exact flat rfl h
      | bl b => cases hx; cases hy; exact deep (.int a) (.bl b) rfl rfl h
      | int b => cases hx; cases hy; exact flat rfl (by rw [dec_int]; exact h)
      | str _ => cases hx; cases hy; exact flat rfl h
      | _ => cases hf.2
    | str a => cases dy with
      | non => cases hx; cases hy; exact flat rfl h
      | bl b => cases hx; cases hy; exact flat rfl h
      | int b => cases hx; cases hy; exact flat rfl h
      | str b => cases hx; cases hy; exact flat rfl (by rw [dec_str, toS_beq]; exact h)
      | _ => cases hf.2
    | _ => cases hf.1
  | false =>
    rw [hf] at h
    rcases h with ⟨h1, h2, q⟩ | ⟨a, b, h1, h2, h3, h4, q⟩ | ⟨a, b, l, rfl, rfl, ha, hb, nd, fl, q⟩ | ⟨a, b, l, m, rfl, rfl, ha, hb, hne, q⟩
    · exact deep (rep_dp h1 hx) (rep_dp h2 hy) (shaped_of (ok_lay h1)) (shaped_of (ok_lay h2)) (by rw [eqv_eqb h1 h2]; exact q)
    · exact deep (w_dp rh h1 hx) (w_dp rh h2 hy) (shaped_of (wok_lay h3)) (shaped_of (wok_lay h4)) (by rw [weqv_eqb]; exact q)
    · obtain ⟨ks, e1, r1⟩ := rh a _ ha
      obtain ⟨ls, e2, r2⟩ := rh b _ hb
      obtain rfl := repK_fun fl r1 r2
      obtain rfl : x = .ref a := hx
      obtain rfl : y = .ref b := hy
      have go : ∀ p ∈ ks, valV ks p.1 = some p.2 ∧ flatB p.2 = true := fun p hp => ⟨val_nodup (repK_nd r1 nd) p hp, repK_flat fl r1 p hp⟩
      exact ⟨fun Q' w => op_eq_dictA (by omega) pins s σ H _ _ v u Q' I rx ry ⟨a, b, ks, ks, rfl, rfl, e1, e2, rfl, go, w _ q⟩, fun Q' w => op_ne_dictA (by omega) pins s σ H _ _ v u Q' I rx ry ⟨a, b, ks, ks, rfl, rfl, e1, e2, rfl, go, w _ q⟩⟩
    · obtain ⟨vs, e1, r1⟩ := rh a _ ha
      obtain ⟨us, e2, r2⟩ := rh b _ hb
      obtain rfl : x = .ref a := hx
      obtain rfl : y = .ref b := hy
      obtain rfl : v = Value.ref a := rx
      obtain rfl : u = Value.ref b := ry
      obtain ⟨is1, v1, p1, _⟩ := I.list (SqL.of e1)
      obtain ⟨is2, v2, p2, _⟩ := I.list (SqL.of e2)
      have hsz : (is1.toArray.size != is2.toArray.size) = true := by
        rw [bne_iff_ne, List.size_toArray, List.size_toArray, ← v1.length, ← v2.length, ← r1.length, ← r2.length]
        exact hne
      exact ⟨fun Q' w => SeqAt.RcAt.lists_lengths p1.isList p2.isList hsz (by omega) X.prog X.w _ _ ⟨.bl false, H, I, rfl, w _ q⟩, fun Q' w => SeqAt.RcNeAt.lists_lengths p1.isList p2.isList hsz (by omega) X.prog X.w _ _ ⟨.bl true, H, I, rfl, w _ q⟩⟩
end
end MP

set_option linter.all false
set_option maxRecDepth 100000
set_option maxHeartbeats 1000000
set_option Elab.async false
/-! MP3: comparisons, truths, subscripts, slices. -/
namespace MP
open PySem PySem.Spec PyProof.Rows L2
theorem strLt_eq : ∀ a b : List Nat, strLt a b = decide (a < b)
  | [], [] => by simp [strLt]
  | _ :: _, [] => by simp [strLt]
  | [], _ :: _ => by simp [strLt]
  | x :: a, y :: b => by
    unfold strLt
    rw [strLt_eq a b, Bool.eq_iff_iff]
    simp only [Bool.or_eq_true, Bool.and_eq_true, decide_eq_true_eq, beq_iff_eq, List.cons_lt_cons_iff]
/-- a flat key's place -/
def kOf : D → Key
  | .int i => .inl i
  | .str x => .inr (toS x)
  | _ => .inl 0
theorem kOf_v {K : PySem.W.Frag} {H : Hp} {d : D} {v : V} (h : isFlat d = true) (r : RepV K H d v) : v = kV (kOf d) := by
  cases d with
  | int _ => cases r; rfl
  | str _ => cases r; rfl
  | _ => cases h
theorem kOf_inj {a b : D} (ha : isFlat a = true) (hb : isFlat b = true) : decide (kOf a = kOf b) = D.eqb a b := by
  cases a with
  | int i =>
    cases b with
    | int j => show decide ((Sum.inl i : Key) = Sum.inl j) = _; rw [key_ll]; rfl
    | str j => exact key_lr i _
    | _ => cases hb
  | str i =>
    cases b with
    | int j => exact key_rl _ j
    | str j => show decide ((Sum.inr (toS i) : Key) = Sum.inr (toS j)) = _; rw [key_rr]; exact (show decide (toS i = toS j) = (i == j) by rw [← toS_beq]; rfl)
    | _ => cases hb
  | _ => cases ha
section
variable {K : PySem.W.Frag} {H : Hp}
theorem RepK.key {k d : D} {l : List (D × D)} {kvs : List (Key × V)} : RepK K H ((k, d) :: l) kvs → ∃ v q, kvs = (kOf k, v) :: q ∧ isFlat k = true ∧ RepV K H d v ∧ RepK K H l q := fun ⟨κ, v, q, e, h1, h2, h3, h4⟩ =>
  ⟨v, q, by rw [e, kV_inj (kOf_v h2 h1)], h2, h3, h4⟩
theorem RepK.val : ∀ {l : List (D × D)} {kvs : List (Key × V)} {x : D}, RepK K H l kvs → isFlat x = true → match dget l x with
    | some d => ∃ v, valV kvs (kOf x) = some v ∧ RepV K H d v
    | none => valV kvs (kOf x) = none
  | [], _, _, h, _ => by rw [show _ = [] from h]; exact valV_nil
  | (k, d) :: l, _, x, h, hx => by
    obtain ⟨v, q, rfl, h2, h3, h4⟩ := h.key
    have e := kOf_inj h2 hx
    unfold dget
    by_cases hk : D.eqb k x = true
    · rw [if_pos hk]
      rw [hk] at e
      exact ⟨v, valV_pos (of_decide_eq_true e), h3⟩
    · rw [if_neg hk]
      have hk : D.eqb k x = false := by simpa using hk
      rw [hk] at e
      rw [valV_neg (p := (kOf k, v)) (of_decide_eq_false e)]
      exact RepK.val h4 hx
theorem RepK.some {l : List (D × D)} {kvs : List (Key × V)} {x d : D} (h : RepK K H l kvs) (hx : isFlat x = true) (e : dget l x = some d) : ∃ v, valV kvs (kOf x) = some v ∧ RepV K H d v := by
  have := h.val hx
  rw [e] at this
  exact this
theorem RepK.isSome {l : List (D × D)} {kvs : List (Key × V)} {x : D} (h : RepK K H l kvs) (hx : isFlat x = true) : (valV kvs (kOf x)).isSome = (dget l x).isSome := by
  have := h.val hx
  cases e : dget l x with
  | none => rw [e] at this; rw [this]; rfl
  | some d => rw [e] at this; obtain ⟨v, h1, _⟩ := this; rw [h1]; rfl
theorem RepK.length : ∀ {l : List (D × D)} {kvs : List (Key × V)}, RepK K H l kvs → l.length = kvs.length
  | [], _, h => by rw [show _ = [] from h]; rfl
  | (k, d) :: l, _, h => by obtain ⟨v, q, rfl, _, _, h4⟩ := h.key; rw [List.length_cons, List.length_cons, h4.length]
theorem RepK.any : ∀ {l : List (D × D)} {kvs : List (Key × V)} {x : D}, RepK K H l kvs → isFlat x = true → (kvs.any fun kv => decide (kv.1 = kOf x)) = l.any fun p => D.eqb p.1 x
  | [], _, _, h, _ => by rw [show _ = [] from h]; rfl
  | (k, d) :: l, _, x, h, hx => by
    obtain ⟨v, q, rfl, h2, _, h4⟩ := h.key
    rw [List.any_cons, List.any_cons, RepK.any h4 hx, kOf_inj h2 hx]
theorem RepK.one {k d : D} {v : V} (hk : isFlat k = true) (r : RepV K H d v) : RepK K H [(k, d)] [(kOf k, v)] := by
  refine ⟨_, _, _, rfl, ?_, hk, r, rfl⟩
  cases k with
  | int _ => rfl
  | str _ => rfl
  | _ => cases hk
theorem RepK.append : ∀ {l m : List (D × D)} {ks js : List (Key × V)}, RepK K H l ks → RepK K H m js → RepK K H (l ++ m) (ks ++ js)
  | [], _, _, _, h, q => by rw [show _ = [] from h]; exact q
  | (k, d) :: l, _, _, _, ⟨κ, v, q, e, h1, h2, h3, h4⟩, hm => by subst e; exact ⟨κ, v, _, rfl, h1, h2, h3, h4.append hm⟩
theorem RepK.mapPut {x y : D} {v : V} (hx : isFlat x = true) (rv : RepV K H y v) : ∀ {l : List (D × D)} {kvs : List (Key × V)}, RepK K H l kvs →
    RepK K H (l.map fun p => if D.eqb p.1 x = true then (p.1, y) else p) (kvs.map fun kv => if kv.1 = kOf x then (kv.1, v) else kv)
  | [], _, h => by rw [show _ = [] from h]; rfl
  | (k, d) :: l, _, h => by
    obtain ⟨u, q, rfl, h2, h3, h4⟩ := h.key
    obtain ⟨κ, _, _, e0, hk, _⟩ := h
    have ek : κ = kOf k := by cases e0; rfl
    subst ek
    have e := kOf_inj h2 hx
    rw [List.map_cons, List.map_cons]
    by_cases hk2 : D.eqb k x = true
    · rw [hk2] at e
      rw [if_pos hk2, if_pos (of_decide_eq_true e)]
      exact ⟨_, _, _, rfl, hk, h2, rv, RepK.mapPut hx rv h4⟩
    · have hk3 : D.eqb k x = false := by simpa using hk2
      rw [hk3] at e
      rw [if_neg hk2, if_neg (of_decide_eq_false e)]
      exact ⟨_, _, _, rfl, hk, h2, h3, RepK.mapPut hx rv h4⟩
theorem RepK.put {l : List (D × D)} {kvs : List (Key × V)} {x y : D} {v : V} (h : RepK K H l kvs) (hx : isFlat x = true) (rv : RepV K H y v) : RepK K H (dput l x y) (putK kvs (kOf x) v) := by
  unfold dput putK
  rw [h.any hx]
  split
  · exact h.mapPut hx rv
  · exact h.append (.one hx rv)
end
section
variable {X : Cx} {T : Tab} {G : Ctx} {H H' H1 : Hp} {μ μ' μ1 : Sto} {Q : D → Sto → Prop} {Q' : VK} {σ : L2.St} {ρ : Env}
variable {v u : Value} {x y : V} {pins : List (Addr × Obj)} {s : Shared} {dx dy : D} {k : Bool → Prop}
/-- a tuple in a dict with such keys -/
theorem in_tupk (hu : X.A.units + 65 < cLine) (I : Inv X pins σ H s) (rx : RelV x v) (hx : RepV X.K H dx x) (hk : isTupKey dx = true) {a : Nat} {xs : List (NestedKey × Addr × Value)} (dd : s.heap.DictOfH (NKd X) a xs) (hs : (a == sysModules) = false) {b : Bool} (hb : (atKey xs (toNK dx)).isSome = b) (q : k b) :
    (∀ Q', (∀ b, k b → Q' (.bl b) H) → wpAny (model X.prog X.w) X.A (compareOp .In v (.ref a)) (EP X pins σ Q') X.xe s) ∧ ∀ Q', (∀ b, k b → Q' (.bl (!b)) H) → wpAny (model X.prog X.w) X.A (compareOp .NotIn v (.ref a)) (EP X pins σ Q') X.xe s := by
  obtain ⟨hk7, ds, e⟩ := tkey_get hk
  have hx' : RepV X.K H (.tup ds) x := by rw [← e]; exact hx
  obtain ⟨p, vs, rfl, st, rl⟩ := hx'
  cases rx
  have hu' : (NKd X).room X.A.in1 := by show X.A.units + 1 + 8 < cLine; omega
  have key := tkey_is I hk hx
  exact ⟨fun Q' w => wpAny_in_heap hu' key hs dd ⟨.bl _, H, I.tok _, rfl, by rw [hb]; exact w _ q⟩, fun Q' w => PyProof.Rows.wpAny_notIn_heap hu' key hs dd ⟨.bl _, H, I.tok _, rfl, by rw [hb]; exact w _ q⟩⟩
/-- in, as it comes back -/
theorem in_run (hu : X.A.units + 65 < cLine) (I : Inv X pins σ H s) (rx : RelV x v) (ry : RelV y u) (hx : RepV X.K H dx x) (hy : RepV X.K H dy y) (rh : RepH X.w X.K T H μ) (h : inP dx dy μ k) :
    (∀ Q', (∀ b, k b → Q' (.bl b) H) → wpAny (model X.prog X.w) X.A (compareOp .In v u) (EP X pins σ Q') X.xe s) ∧ ∀ Q', (∀ b, k b → Q' (.bl (!b)) H) → wpAny (model X.prog X.w) X.A (compareOp .NotIn v u) (EP X pins σ Q') X.xe s := by
  cases dy with
  | str j =>
    cases dx with
    | str i =>
      obtain ⟨c, e, q⟩ := h
      subst e
      cases hx; cases hy
      have e : decide (c ∈ (toS j).cps.toList) = j.contains c := by
        rw [Bool.eq_iff_iff]; simp
      exact ⟨fun Q' w => op_in_sign pins s σ H _ _ v u Q' I rx ry ⟨c, toS j, rfl, rfl, by rw [e]; exact w _ q⟩, fun Q' w => op_notIn_sign pins s σ H _ _ v u Q' I rx ry ⟨c, toS j, rfl, rfl, by rw [e]; exact w _ q⟩⟩
    | _ => exact h.elim
  | tup l =>
    have h : isFl dx = true ∧ l.all isFl = true ∧ k (l.any fun y => D.eqb y dx) := by
      cases dx <;> exact h
    obtain ⟨h1, h2, q⟩ := h
    obtain ⟨p, vs, rfl, st, rl⟩ := hy
    have e := flat_in h1 hx h2 rl
    refine ⟨fun Q' w => op_in_seq pins s σ H _ _ v u Q' I rx ry ⟨p, vs, rfl, .inr st, flat_v h1 hx, flat_vs h2 rl, ?_⟩, fun Q' w => op_notIn_seq pins s σ H _ _ v u Q' I rx ry ⟨p, vs, rfl, .inr st, flat_v h1 hx, flat_vs h2 rl, ?_⟩⟩
    · show Q' (.bl (inV x vs)) H
      rw [e]; exact w _ q
    · show Q' (.bl (!inV x vs)) H
      rw [e]; exact w _ q
  | ref a =>
    cases hy
    have h : (match μ a with
      | some (.lst l) => D.ok 60 dx = true ∧ l.all (D.ok 60) = true ∧ k (l.any fun y => D.eqb y dx)
      | some (.dF l) => (isFlat dx = true ∧ k (dget l dx).isSome) ∨ (l = [] ∧ isTupKey dx = true ∧ k false)
      | some (.dT l) => isTupKey dx = true ∧ k (dget l dx).isSome
      | _ => False) := by
      cases dx <;> exact h
    cases e : μ a with
    | none => rw [e] at h; exact h.elim
    | some o =>
      rw [e] at h
      cases o with
      | lst l =>
        obtain ⟨h1, h2, q⟩ := h
        obtain ⟨vs, hs, rl⟩ := rh a _ e
        have e2 := any_eqv h1 h2
        refine ⟨fun Q' w => op_inD hu pins s σ H _ _ v u Q' I rx ry ⟨_, _, rep_dp h1 hx, .lst (SqL.of hs) (rep_dps h2 rl), shaped_of (ok_lay h1), shaped_list h2, ?_⟩, fun Q' w => op_notInD hu pins s σ H _ _ v u Q' I rx ry ⟨_, _, rep_dp h1 hx, .lst (SqL.of hs) (rep_dps h2 rl), shaped_of (ok_lay h1), shaped_list h2, ?_⟩⟩
        · rw [e2]; exact w _ q
        · rw [e2]; exact w _ q
      | dF l =>
        rcases h with ⟨h1, q⟩ | ⟨rfl, h1, q⟩
        · obtain ⟨kvs, hs, rk⟩ := rh a _ e
          have ex := kOf_v h1 hx
          subst ex
          have e3 := rk.isSome h1
          cases ry
          refine ⟨fun Q' w => d_in (by omega) I (DGet.k (k := kOf dx) hs) rx fun s' I' => ⟨.bl _, H, I', rfl, ?_⟩, fun Q' w => d_notIn (by omega) I (DGet.k (k := kOf dx) hs) rx fun s' I' => ⟨.bl _, H, I', rfl, ?_⟩⟩
          · rw [e3]; exact w _ q
          · rw [e3]; exact w _ q
        · cases ry
          obtain ⟨dd, hs, _⟩ := dF_nil I rh e
          exact in_tupk hu I rx hx h1 dd hs rfl q
      | dT l =>
        cases ry
        obtain ⟨h1, q⟩ := h
        obtain ⟨xs, dd, hx2, hs, _⟩ := dT_of I rh e
        refine in_tupk hu I rx hx h1 dd hs ?_ q
        have lk := hx2.look h1
        cases e5 : dget l dx with
        | none => rw [e5] at lk; rw [lk]; rfl
        | some d => rw [e5] at lk; obtain ⟨p, _, e6, _⟩ := lk; rw [e6]; rfl
      | _ => exact h.elim
  | _ => cases dx <;> exact h.elim
theorem isNon_v {K : PySem.W.Frag} {d : D} {v : V} (h : RepV K H d v) : decide (v = .non) = isNon d := by
  cases d with
  | tup _ => obtain ⟨p, vs, e, _⟩ := h; subst e; rfl
  | scr _ => obtain ⟨p, e, _⟩ := h; subst e; rfl
  | _ => cases h; rfl
/-- the operator of the text -/
def trCmp : CmpOp → Option COp
  | .Eq => some .eq
  | .NotEq => some .ne
  | .Lt => some .lt
  | .LtE => some .le
  | .Gt => some .gt
  | .GtE => some .ge
  | .Is => some .is
  | .IsNot => some .isnot
  | .In => some .isin
  | .NotIn => some .notin
theorem op_cmp (hu : X.A.units + 65 < cLine) {op : CmpOp} {o : COp} (ht : trCmp op = some o) : OpR X (compareOp op) (rC X T o) := by
  intro pins s σ H x y v u Q' I rx ry ⟨dx, dy, μ, k, hx, hy, rh, h, w⟩
  cases op with
  | Eq => cases ht; exact (eq_run (by omega) I rx ry hx hy rh h).1 Q' w
  | NotEq => cases ht; exact (eq_run (k := fun b => k (!b)) (by omega) I rx ry hx hy rh h).2 Q' fun b hb => w _ hb
  | In => cases ht; exact (in_run hu I rx ry hx hy rh h).1 Q' w
  | NotIn => cases ht; exact (in_run (k := fun b => k (!b)) hu I rx ry hx hy rh h).2 Q' fun b hb => w _ hb
  | Lt =>
    cases ht
    cases dx with
    | int i =>
      cases dy with
      | int j => cases hx; cases hy; exact op_lt pins s σ H _ _ v u Q' I rx ry ⟨i, j, rfl, rfl, w _ h⟩
      | _ => exact h.elim
    | str i =>
      cases dy with
      | str j =>
        cases hx; cases hy
        refine op_lt_str pins s σ H _ _ v u Q' I rx ry ⟨_, _, rfl, rfl, ?_⟩
        have : k (strLt i j) := h
        rw [strLt_eq] at this
        simpa using w _ this
      | _ => exact h.elim
    | _ => exact h.elim
  | LtE =>
    cases ht
    cases dx with
    | int i =>
      cases dy with
      | int j => cases hx; cases hy; exact op_le pins s σ H _ _ v u Q' I rx ry ⟨i, j, rfl, rfl, w _ h⟩
      | _ => exact h.elim
    | _ => exact h.elim
  | Gt =>
    cases ht
    cases dx with
    | int i =>
      cases dy with
      | int j => cases hx; cases hy; exact op_gt pins s σ H _ _ v u Q' I rx ry ⟨i, j, rfl, rfl, w _ h⟩
      | _ => exact h.elim
    | _ => exact h.elim
  | GtE =>
    cases ht
    cases dx with
    | int i =>
      cases dy with
      | int j => cases hx; cases hy; exact op_ge pins s σ H _ _ v u Q' I rx ry ⟨i, j, rfl, rfl, w _ h⟩
      | _ => exact h.elim
    | _ => exact h.elim
  | Is =>
    cases ht
    cases dy with
    | non =>
      cases hy
      have h : k (isNon dx) := by cases dx <;> exact h
      refine op_isN pins s σ H _ _ v u Q' I rx ry ⟨rfl, ?_⟩
      rw [isNon_v hx]; exact w _ h
    | bl b =>
      cases hy
      cases dx with
      | bl c =>
        cases hx
        refine op_isBl pins s σ H _ _ v u Q' I rx ry ⟨c, b, rfl, rfl, ?_⟩
        have e : decide (c = b) = (c == b) := by rw [Bool.beq_eq_decide_eq]
        rw [e]; exact w _ h
      | _ => exact h.elim
    | _ => cases dx <;> exact h.elim
  | IsNot =>
    cases ht
    cases dy with
    | non =>
      cases hy
      have h : k (!isNon dx) := by cases dx <;> exact h
      refine op_notN pins s σ H _ _ v u Q' I rx ry ⟨rfl, ?_⟩
      rw [isNon_v hx]; exact w _ h
    | bl b =>
      cases hy
      cases dx with
      | bl c =>
        cases hx
        refine op_notBl pins s σ H _ _ v u Q' I rx ry ⟨c, b, rfl, rfl, ?_⟩
        have e : decide (c = b) = (c == b) := by rw [Bool.beq_eq_decide_eq]
        rw [e]; exact w _ h
      | _ => exact h.elim
    | _ => cases dx <;> exact h.elim
theorem e_cmp (hu : X.A.units + 65 < cLine) {op : CmpOp} {o : COp} {a b : Expr} {ca cb : E} {pos : Pos} (ht : trCmp op = some o) (ha : PE X a (tE X T G ca)) (hb : PE X b (tE X T G cb)) (hm : behindInMarks op b = false) : PE X (.Compare a [op] [b] pos) (tE X T G (.cmp o ca cb)) :=
  (pe_cmpR (op_cmp (T := T) hu ht) ha hb hm).imp fun σ H Q' ⟨ρ, μ, Q, rs, rh, hw, p⟩ =>
    ⟨ρ, μ, _, rs, rh, hw, fun x vx H1 μ1 rx rh1 f1 q1 => ⟨ρ, μ1, _, rs.mono (f1.keeps rh), rh1, q1, fun y vy H2 μ2 ry rh2 f2 q2 =>
      ⟨x, y, μ2, _, rx.mono (f2.keeps rh1), ry, rh2, q2, fun b hb => (p.step (f1.trans f2)).bl rh2 hb⟩⟩⟩
theorem t_cmp (hu : X.A.units + 65 < cLine) {op : CmpOp} {o : COp} {a b : Expr} {ca cb : E} {pos : Pos} (ht : trCmp op = some o) (ha : PE X a (tE X T G ca)) (hb : PE X b (tE X T G cb)) (hm : behindInMarks op b = false) : PT X (.Compare a [op] [b] pos) (tB X T G (.cmp o ca cb)) :=
  (pt_cmpR (op_cmp (T := T) hu ht) ha hb hm).imp fun σ H Q' ⟨ρ, μ, Q, rs, rh, hw, p⟩ =>
    ⟨ρ, μ, _, rs, rh, hw, fun x vx H1 μ1 rx rh1 f1 q1 => ⟨ρ, μ1, _, rs.mono (f1.keeps rh), rh1, q1, fun y vy H2 μ2 ry rh2 f2 q2 =>
      ⟨x, y, μ2, _, rx.mono (f2.keeps rh1), ry, rh2, q2, fun b hb => ⟨b, rfl, p b H2 μ2 rh2 (f1.trans f2) hb⟩⟩⟩⟩
theorem br_get {d : D} {A B : Prop} (h : br d A B) : ∃ b, d = .bl b ∧ (b = true → A) ∧ (b = false → B) := by
  cases d with
  | bl b => exact ⟨b, rfl, h⟩
  | _ => exact h.elim
theorem isB_get {d : D} {k : Bool → Prop} (h : isB d k) : ∃ b, d = .bl b ∧ k b := by
  cases d with
  | bl b => exact ⟨b, rfl, h⟩
  | _ => exact h.elim
theorem e_cmp2 (hu : X.A.units + 65 < cLine) {op op' : CmpOp} {o o' : COp} {a b c : Expr} {ca cb cc : E} {pos : Pos} (ht : trCmp op = some o) (ht' : trCmp op' = some o') (ha : PE X a (tE X T G ca)) (hb : PE X b (tE X T G cb)) (hc : PE X c (tE X T G cc))
    (hm : lastMarks [op, op'] [b, c] = false) : PE X (.Compare a [op, op'] [b, c] pos) (tE X T G (.cmp2 o o' ca cb cc)) :=
  (pe_chain (op_cmp (T := T) hu ht) (op_cmp (T := T) hu ht') ha hb hc hm).imp fun σ H Q' ⟨ρ, μ, Q, rs, rh, hw, p⟩ =>
    ⟨ρ, μ, _, rs, rh, hw, fun x vx H1 μ1 rx rh1 f1 q1 => ⟨ρ, μ1, _, rs.mono (f1.keeps rh), rh1, q1, fun y vy H2 μ2 ry rh2 f2 q2 =>
      ⟨x, y, μ2, _, rx.mono (f2.keeps rh1), ry, rh2, q2, fun b hb => ⟨b, rfl, by
        obtain ⟨h1, h2⟩ := hb
        cases b with
        | true =>
          rw [if_pos rfl]
          exact ⟨ρ, μ2, _, rs.mono ((f1.trans f2).keeps rh), rh2, h1 rfl, fun z vz H3 μ3 rz rh3 f3 q3 => ⟨y, z, μ3, _, ry.mono (f3.keeps rh2), rz, rh3, q3, fun b hb => (p.step ((f1.trans f2).trans f3)).bl rh3 hb⟩⟩
        | false =>
          rw [if_neg (by decide)]
          exact (p.step (f1.trans f2)).bl rh2 (h2 rfl)⟩⟩⟩⟩
theorem t_cmp2 (hu : X.A.units + 65 < cLine) {op op' : CmpOp} {o o' : COp} {a b c : Expr} {ca cb cc : E} {pos : Pos} (ht : trCmp op = some o) (ht' : trCmp op' = some o') (ha : PE X a (tE X T G ca)) (hb : PE X b (tE X T G cb)) (hc : PE X c (tE X T G cc))
    (hm : lastMarks [op, op'] [b, c] = false) : PT X (.Compare a [op, op'] [b, c] pos) (tB X T G (.cmp2 o o' ca cb cc)) :=
  (pt_chain (op_cmp (T := T) hu ht) (op_cmp (T := T) hu ht') ha hb hc hm).imp fun σ H Q' ⟨ρ, μ, Q, rs, rh, hw, p⟩ =>
    ⟨ρ, μ, _, rs, rh, hw, fun x vx H1 μ1 rx rh1 f1 q1 => ⟨ρ, μ1, _, rs.mono (f1.keeps rh), rh1, q1, fun y vy H2 μ2 ry rh2 f2 q2 =>
      ⟨x, y, μ2, _, rx.mono (f2.keeps rh1), ry, rh2, q2, fun b hb => ⟨b, rfl, by
        obtain ⟨h1, h2⟩ := hb
        cases b with
        | true =>
          rw [if_pos rfl]
          exact ⟨ρ, μ2, _, rs.mono ((f1.trans f2).keeps rh), rh2, h1 rfl, fun z vz H3 μ3 rz rh3 f3 q3 => ⟨y, z, μ3, _, ry.mono (f3.keeps rh2), rz, rh3, q3, fun b hb => ⟨b, rfl, p b H3 μ3 rh3 ((f1.trans f2).trans f3) hb⟩⟩⟩
        | false =>
          rw [if_neg (by decide)]
          exact ⟨false, rfl, p false H2 μ2 rh2 (f1.trans f2) (h2 rfl)⟩⟩⟩⟩⟩
/-! ### and, or, not -/
theorem t_val {e : Expr} {c : E} (h : PE X e (tE X T G c)) (he : ∀ whole, isTrue e X.env whole = (do let v ← whole; standAt e.pos; holding [v] (truthy v))) : PT X e (tB X T G c) :=
  (pt_val h he).imp fun σ H Q' ⟨ρ, μ, Q, rs, rh, hw, p⟩ =>
    ⟨ρ, μ, _, rs, rh, hw, fun x vx H1 μ1 rx rh1 f1 q1 => by
      obtain ⟨b, e, q⟩ := isB_get q1
      subst e
      exact ⟨b, rx, p b H1 μ1 rh1 f1 q⟩⟩
theorem t_not {a : Expr} {ca : E} {pos : Pos} (ha : PT X a (tB X T G ca)) : PT X (.UnaryOp .Not a pos) (tB X T G (.not ca)) :=
  (pt_not ha).imp fun σ H Q' ⟨ρ, μ, Q, rs, rh, hw, p⟩ => ⟨ρ, μ, fun b μ1 => Q (!b) μ1, rs, rh, hw, fun b H1 μ1 rh1 f1 q1 => p _ H1 μ1 rh1 f1 q1⟩
theorem tru_get {d : D} {v : V} {H : Hp} {μ : Sto} {k : Bool → Prop} (rh : RepH X.w X.K T H μ) (r : RepV X.K H d v) (h : truP d μ k) : ∃ b, TruV X.K v H b ∧ k b := by
  have emp : ∀ {ds : List D} {vs : List V}, RepVs X.K H ds vs → (!vs.isEmpty) = !ds.isEmpty := fun {ds vs} r => by
    cases ds with
    | nil => rw [show vs = [] from r]; rfl
    | cons d ds => obtain ⟨v, q, e, _⟩ := r; rw [e]; rfl
  cases d with
  | bl b => cases r; exact ⟨b, rfl, h⟩
  | tup ds =>
    obtain ⟨p, vs, e, hs, rs⟩ := r
    subst e
    exact ⟨!ds.isEmpty, .inr (.inl ⟨vs, hs, (emp rs).symm⟩), h⟩
  | ref a =>
    cases r
    unfold truP at h
    cases e : μ a with
    | none => simp only [e] at h
    | some o =>
      simp only [e] at h
      cases o with
      | lst l =>
        obtain ⟨vs, e1, r1⟩ := rh a _ e
        exact ⟨!l.isEmpty, .inl ⟨vs, .inl (.inl e1), (emp r1).symm⟩, h⟩
      | dF l =>
        obtain ⟨kvs, e1, r1⟩ := rh a _ e
        refine ⟨!l.isEmpty, .inr (.inr ⟨kvs, e1, ?_⟩), h⟩
        cases l with
        | nil => rw [show kvs = [] from r1]; rfl
        | cons d ds => obtain ⟨κ, v, q, e, _⟩ := r1; rw [e]; rfl
      | _ => exact h.elim
  | _ => exact (show False from h).elim
theorem t_tru {a : Expr} {ca : E} (ha : PE X a (tE X T G ca)) (he : ∀ whole, isTrue a X.env whole = (do let v ← whole; standAt a.pos; holding [v] (truthy v))) : PT X a (tB X T G (.tru ca)) :=
  (pt_truth ha he).imp fun σ H Q' ⟨ρ, μ, Q, rs, rh, hw, p⟩ => ⟨ρ, μ, _, rs, rh, hw, fun x vx H1 μ1 rx rh1 f1 q1 => by
    obtain ⟨b, hb, q⟩ := tru_get rh1 rx q1
    exact ⟨b, hb, p b H1 μ1 rh1 f1 q⟩⟩
theorem e_notT {a : Expr} {ca : E} {pos : Pos} (ha : PE X a (tE X T G ca)) : PE X (.UnaryOp .Not a pos) (tE X T G (.not (.tru ca))) :=
  (pe_notT ha).imp fun σ H Q' ⟨ρ, μ, Q, rs, rh, hw, p⟩ => ⟨ρ, μ, _, rs, rh, hw, fun x vx H1 μ1 rx rh1 f1 q1 => by
    obtain ⟨b, hb, q⟩ := tru_get rh1 rx q1
    exact ⟨b, hb, (p.step f1).bl rh1 q⟩⟩
theorem e_not {a : Expr} {ca : E} {pos : Pos} (ha : PE X a (tE X T G ca)) : PE X (.UnaryOp .Not a pos) (tE X T G (.not ca)) :=
  (pe_not ha).imp fun σ H Q' ⟨ρ, μ, Q, rs, rh, hw, p⟩ => ⟨ρ, μ, _, rs, rh, hw, fun x vx H1 μ1 rx rh1 f1 q1 => by
    cases x with
    | bl b => exact ⟨b, rx, (p.step f1).bl rh1 q1⟩
    | _ => exact q1.elim⟩
/-- the last of a chain: itself, a truth -/
theorem w_and1 {a : Expr} {ca : E} {pos : Pos} (ha : PT X a (tB X T G ca)) : PW X (.BoolOp .And [a] pos) (tB X T G ca) := pw_and1 ha
theorem w_or1 {a : Expr} {ca : E} {pos : Pos} (ha : PT X a (tB X T G ca)) : PW X (.BoolOp .Or [a] pos) (tB X T G ca) := pw_or1 ha
theorem w_and {a b : Expr} {rest : List Expr} {ca cb : E} {pos : Pos} (ha : PT X a (tB X T G ca)) (hb : PW X (.BoolOp .And (b :: rest) pos) (tB X T G cb)) : PW X (.BoolOp .And (a :: b :: rest) pos) (tB X T G (.and ca cb)) :=
  (pw_and ha hb).imp fun σ H Q' ⟨ρ, μ, Q, rs, rh, hw, p⟩ =>
    ⟨ρ, μ, _, rs, rh, hw, fun b H1 μ1 rh1 f1 q1 => by
      obtain ⟨h1, h2⟩ := q1
      cases b with
      | true =>
        rw [if_pos rfl]
        exact ⟨ρ, μ1, Q, rs.mono (f1.keeps rh), rh1, h1 rfl, fun b H2 μ2 rh2 f2 q2 => p b H2 μ2 rh2 (f1.trans f2) q2⟩
      | false =>
        rw [if_neg (by decide)]
        exact p false H1 μ1 rh1 f1 (h2 rfl)⟩
theorem w_or {a b : Expr} {rest : List Expr} {ca cb : E} {pos : Pos} (ha : PT X a (tB X T G ca)) (hb : PW X (.BoolOp .Or (b :: rest) pos) (tB X T G cb)) : PW X (.BoolOp .Or (a :: b :: rest) pos) (tB X T G (.or ca cb)) :=
  (pw_or ha hb).imp fun σ H Q' ⟨ρ, μ, Q, rs, rh, hw, p⟩ =>
    ⟨ρ, μ, _, rs, rh, hw, fun b H1 μ1 rh1 f1 q1 => by
      obtain ⟨h1, h2⟩ := q1
      cases b with
      | true =>
        rw [if_pos rfl]
        exact p true H1 μ1 rh1 f1 (h1 rfl)
      | false =>
        rw [if_neg (by decide)]
        exact ⟨ρ, μ1, Q, rs.mono (f1.keeps rh), rh1, h2 rfl, fun b H2 μ2 rh2 f2 q2 => p b H2 μ2 rh2 (f1.trans f2) q2⟩⟩
/-- as values: the last one gives back a truth -/
theorem e_and {a b : Expr} {rest : List Expr} {ca cb : E} {pos : Pos} (ha : PE X a (tE X T G ca)) (hb : PE X (.BoolOp .And (b :: rest) pos) (tE X T G cb)) : PE X (.BoolOp .And (a :: b :: rest) pos) (tE X T G (.and ca cb)) :=
  (pe_and ha hb).imp fun σ H Q' ⟨ρ, μ, Q, rs, rh, hw, p⟩ =>
    ⟨ρ, μ, _, rs, rh, hw, fun x vx H1 μ1 rx rh1 f1 q1 => by
      obtain ⟨b, e, h1, h2⟩ := br_get q1
      subst e
      refine ⟨b, rx, ?_⟩
      cases b with
      | true =>
        rw [if_pos rfl]
        exact ⟨ρ, μ1, _, rs.mono (f1.keeps rh), rh1, h1 rfl, fun y vy H2 μ2 ry rh2 f2 q2 => by
          cases y with
          | bl c => exact (p.step (f1.trans f2)) (.bl c) _ _ _ ry rh2 .refl q2
          | _ => exact q2.elim⟩
      | false =>
        rw [if_neg (by decide)]
        exact (p.step f1).bl rh1 (h2 rfl)⟩
theorem e_or {a b : Expr} {rest : List Expr} {ca cb : E} {pos : Pos} (ha : PE X a (tE X T G ca)) (hb : PE X (.BoolOp .Or (b :: rest) pos) (tE X T G cb)) : PE X (.BoolOp .Or (a :: b :: rest) pos) (tE X T G (.or ca cb)) :=
  (pe_or ha hb).imp fun σ H Q' ⟨ρ, μ, Q, rs, rh, hw, p⟩ =>
    ⟨ρ, μ, _, rs, rh, hw, fun x vx H1 μ1 rx rh1 f1 q1 => by
      obtain ⟨b, e, h1, h2⟩ := br_get q1
      subst e
      refine ⟨b, rx, ?_⟩
      cases b with
      | true =>
        rw [if_pos rfl]
        exact (p.step f1).bl rh1 (h1 rfl)
      | false =>
        rw [if_neg (by decide)]
        exact ⟨ρ, μ1, _, rs.mono (f1.keeps rh), rh1, h2 rfl, fun y vy H2 μ2 ry rh2 f2 q2 => by
          cases y with
          | bl c => exact (p.step (f1.trans f2)) (.bl c) _ _ _ ry rh2 .refl q2
          | _ => exact q2.elim⟩⟩
/-! ### subscripts, slices -/
def rIxD (X : Cx) (T : Tab) : R2 := fun x y H Q' => ∃ dx dy μ Q, RepV X.K H dx x ∧ RepV X.K H dy y ∧ RepH X.w X.K T H μ ∧ idxP dx dy μ (fun d => Q d μ) ∧ Pst X T H μ Q Q'
theorem ixN_eq (n : Nat) (i : Int) : MP.ixN n i = L2.ixN n i := rfl
theorem RepVs.at {K : PySem.W.Frag} {l : List D} {vs : List V} {i : Int} {d : D} (r : RepVs K H l vs) (h : getI l i = some d) : ∃ v, atI vs i = some v ∧ RepV K H d v := by
  unfold getI at h
  unfold atI
  rw [← r.length, ← ixN_eq]
  cases e : MP.ixN l.length i with
  | none => rw [e] at h; cases h
  | some j =>
    rw [e] at h
    exact r.get h
theorem ix_run (hu : X.A.units + 65 < cLine) : IxR X (rIxD X T) := by
  intro value slice pins s σ H x y v u Q' I rx ry ⟨dx, dy, μ, Q, hx, hy, rh, h, p⟩ hs
  cases dx with
  | tup l =>
    cases dy with
    | int i =>
      cases hy
      obtain ⟨q, vs, rfl, st, rl⟩ := hx
      obtain ⟨d, e, h⟩ := optP_get h
      obtain ⟨z, h1, h2⟩ := rl.at e
      exact ix_tup value slice pins s σ H _ _ v u Q' I rx ry ⟨q, vs, i, z, rfl, rfl, st, h1, p.val rh h2 h⟩ hs
    | _ => exact h.elim
  | str l =>
    cases dy with
    | int i =>
      cases hx; cases hy
      obtain ⟨hz, h⟩ := h
      obtain ⟨c, e, h⟩ := optP_get h
      refine ix_str value slice pins s σ H _ _ v u Q' I rx ry ⟨toS l, i, c, rfl, rfl, ?_, ?_, p.str rh (x := [c]) h⟩ hs
      · show l.toArray.size ≤ sizeLine
        rw [← sizeMax_eq]; simpa using hz
      · show atI l.toArray.toList i = some c
        rw [List.toList_toArray]
        unfold getI at e
        unfold atI
        rw [← ixN_eq]
        cases e2 : MP.ixN l.length i with
        | none => rw [e2] at e; cases e
        | some j => rw [e2] at e; exact e
    | _ => exact h.elim
  | scr l =>
    cases dy with
    | int i =>
      cases hy
      obtain ⟨q, rfl, fz⟩ := hx
      obtain ⟨d, e, h⟩ := optP_get h
      refine ix_list value slice pins s σ H _ _ v u Q' I rx ry ⟨q, _, i, .int d, rfl, rfl, fz.sq, ?_, p.int rh h⟩ hs
      unfold getI at e
      unfold atI
      rw [List.length_map, ← ixN_eq]
      cases e2 : MP.ixN l.length i with
      | none => rw [e2] at e; cases e
      | some j =>
        rw [e2] at e
        have e : l[j]? = some d := e
        show (l.map V.int)[j]? = some (V.int d)
        rw [List.getElem?_map, e]; rfl
    | _ => exact h.elim
  | ref a =>
    cases hx
    cases e : μ a with
    | none => cases dy <;> simp [idxP, e] at h
    | some o =>
      cases o with
      | lst l =>
        obtain ⟨vs, hs1, rl⟩ := rh a _ e
        cases dy with
        | int i =>
          cases hy
          have h : optP (getI l i) (fun d => Q d μ) := by simpa [idxP, e] using h
          obtain ⟨d, e3, h⟩ := optP_get h
          obtain ⟨z, h1, h2⟩ := rl.at e3
          exact ix_list value slice pins s σ H _ _ v u Q' I rx ry ⟨a, vs, i, z, rfl, rfl, SqL.of hs1, h1, p.val rh h2 h⟩ hs
        | _ => simp [idxP, e] at h
      | dF l =>
        obtain ⟨kvs, hs1, rk⟩ := rh a _ e
        have h : isFlat dy = true ∧ optP (dget l dy) (fun d => Q d μ) := by
          cases dy <;> simpa [idxP, e] using h
        obtain ⟨h1, h⟩ := h
        obtain ⟨d, e3, h⟩ := optP_get h
        obtain ⟨z, h4, h5⟩ := rk.some h1 e3
        have ex := kOf_v h1 hy
        subst ex
        cases rx
        have g : DGet H a (kV (kOf dy)) (some z) := by rw [← h4]; exact DGet.k hs1
        exact PyProof.Rows.tail_any (dict_typeIs I g) PySem.F.slot_dict_getitem.lookup (d_getItem (by omega) I g ry fun w' s3 I3 rw' => ⟨z, H, I3, rw', p.val rh h5 h⟩) hs
      | dL l =>
        obtain ⟨od, kvs, hs1, rk⟩ := rh a _ e
        have h : isFlat dy = true ∧ optP (dget l dy) (fun d => Q d μ) := by
          cases dy <;> simpa [idxP, e] using h
        obtain ⟨h1, h⟩ := h
        obtain ⟨d, e3, h⟩ := optP_get h
        obtain ⟨z, h4, h5⟩ := rk.some h1 e3
        have ex := kOf_v h1 hy
        subst ex
        cases rx
        have g : DGet H a (kV (kOf dy)) (some z) := by rw [← h4]; exact .inl ⟨kvs, _, .inr ⟨od, hs1⟩, rfl, rfl⟩
        exact PyProof.Rows.tail_any (dict_typeIs I g) PySem.F.slot_dict_getitem.lookup (d_getItem (by omega) I g ry fun w' s3 I3 rw' => ⟨z, H, I3, rw', p.val rh h5 h⟩) hs
      | dT l =>
        have h : isTupKey dy = true ∧ optP (dget l dy) (fun d => Q d μ) := by
          cases dy <;> simpa [idxP, e] using h
        obtain ⟨h1, h⟩ := h
        obtain ⟨d, e3, h⟩ := optP_get h
        obtain ⟨xs, dd, hx2, hss, _⟩ := dT_of I rh e
        have lk := hx2.look h1
        rw [e3] at lk
        obtain ⟨q, z, e4, h4, h5⟩ := lk
        obtain ⟨hk7, ds, ed⟩ := tkey_get h1
        have hy' : RepV X.K H (.tup ds) y := by rw [← ed]; exact hy
        obtain ⟨t, vs, rfl, st, rl⟩ := hy'
        cases rx; cases ry
        have hu' : (NKd X).room X.A.in1 := by show X.A.units + 1 + 8 < cLine; omega
        exact PyProof.Rows.tail_any dd.typeIs PySem.F.slot_dict_getitem.lookup (wpAny_getItem_heap hu' (tkey_is I h1 hy) dd e4 ⟨z, H, I.tok _, h5, p.val rh h4 h⟩) hs
      | _ => cases dy <;> simp [idxP, e] at h
  | _ => cases dy <;> exact h.elim
theorem e_idx (hu : X.A.units + 65 < cLine) {a i : Expr} {ca ci : E} {pos : Pos} (ha : PE X a (tE X T G ca)) (hi : PE X i (tE X T G ci)) (hs : PlainIx i) : PE X (.Subscript a i pos) (tE X T G (.idx ca ci)) :=
  (pe_ix (ix_run (T := T) hu) ha hi hs).imp fun σ H Q' ⟨ρ, μ, Q, rs, rh, hw, p⟩ =>
    ⟨ρ, μ, _, rs, rh, hw, fun x vx H1 μ1 rx rh1 f1 q1 => ⟨ρ, μ1, _, rs.mono (f1.keeps rh), rh1, q1, fun y vy H2 μ2 ry rh2 f2 q2 =>
      ⟨x, y, μ2, Q, rx.mono (f2.keeps rh1), ry, rh2, q2, p.step (f1.trans f2)⟩⟩⟩
end
end MP

set_option linter.all false
set_option maxRecDepth 100000
set_option maxHeartbeats 1000000
set_option Elab.async false
/-! MP4: built-in functions and methods, slices, displays of dicts, isinstance, fields. -/
namespace MP
open PySem PySem.Spec PyProof.Rows L2
section
variable {X : Cx} {T : Tab} {G : Ctx} {H H' H1 : Hp} {μ μ' μ1 : Sto} {Q : D → Sto → Prop} {Q' : VK} {σ : L2.St} {ρ : Env}
/-! ### isinstance -/
def tyO : Ob → String
  | .dF _ => "dict"
  | _ => "list"
def tyN (d : D) (μ : Sto) : String := match d with
  | .non => "NoneType"
  | .bl _ => "bool"
  | .int _ => "int"
  | .str _ => "str"
  | .tup _ => "tuple"
  | .ref a => ((μ a).map tyO).getD "list"
  | .scr _ => "list"
def trTy : Ty → String
  | .int => "int"
  | .bool => "bool"
  | .tuple => "tuple"
  | .str => "str"
theorem isiOk_ref {a : Nat} (h : isiOk (.ref a) μ) : (∃ l, μ a = some (.lst l)) ∨ ∃ l, μ a = some (.dF l) := by
  have h : ((μ a).map lstOrD) = some true := h
  cases e : μ a with
  | none => rw [e] at h; cases h
  | some o =>
    rw [e] at h
    cases o with
    | lst l => exact .inl ⟨l, rfl⟩
    | dF l => exact .inr ⟨l, rfl⟩
    | dT l => cases h
    | dL l => cases h
    | ins c l => cases h
theorem tyX_of {d : D} {v : V} (rh : RepH X.w X.K T H μ) (r : RepV X.K H d v) (h : isiOk d μ) : TyX X.K H v (.type (tyN d μ)) := by
  cases d with
  | non => cases r; exact .base .non
  | bl b => cases r; exact .base (.bl b)
  | int i => cases r; exact .base (.int i)
  | str x => cases r; exact .base (.str _)
  | tup ds =>
    obtain ⟨p, vs, rfl, st, _⟩ := r
    rcases st with (st | ⟨o, st⟩) | ⟨o, its, n, hk, hc, _⟩
    · exact .base (.tup st)
    · exact .fTuple st
    · exact .kTuple hk hc
  | ref a =>
    cases r
    rcases isiOk_ref h with ⟨l, e⟩ | ⟨l, e⟩
    · obtain ⟨vs, hs, _⟩ := rh a _ e
      have : tyN (.ref a) μ = "list" := by show ((μ a).map tyO).getD "list" = _; rw [e]; rfl
      rw [this]
      exact .base (.lst hs)
    · obtain ⟨vs, hs, _⟩ := rh a _ e
      have : tyN (.ref a) μ = "dict" := by show ((μ a).map tyO).getD "list" = _; rw [e]; rfl
      rw [this]
      exact .base (.dK hs)
  | scr l => exact h.elim
def tyPs (s : String) (t : Ty) : Bool := match s, t with
  | "int", .int => true
  | "bool", .int => true
  | "bool", .bool => true
  | "tuple", .tuple => true
  | "str", .str => true
  | _, _ => false
theorem kit_s : ∀ s ∈ ["NoneType", "bool", "int", "str", "tuple", "list", "dict"], ∀ t ∈ [Ty.int, .bool, .tuple, .str], kitB s (trTy t) = some (tyPs s t) := by decide +kernel
theorem ty_mem (t : Ty) : t ∈ [Ty.int, .bool, .tuple, .str] := by cases t <;> simp
theorem kit_d {d : D} (t : Ty) (h : isiOk d μ) : kitB (tyN d μ) (trTy t) = some (isiP d t) := by
  have key : ∀ s, s ∈ ["NoneType", "bool", "int", "str", "tuple", "list", "dict"] → tyN d μ = s → tyPs s t = isiP d t → kitB (tyN d μ) (trTy t) = some (isiP d t) := fun s hs e1 e2 => by
    rw [e1, kit_s s hs t (ty_mem t), e2]
  cases d with
  | ref a =>
    rcases isiOk_ref h with ⟨l, e⟩ | ⟨l, e⟩
    · exact key "list" (by simp) (by show ((μ a).map tyO).getD "list" = _; rw [e]; rfl) (by cases t <;> rfl)
    · exact key "dict" (by simp) (by show ((μ a).map tyO).getD "list" = _; rw [e]; rfl) (by cases t <;> rfl)
  | scr l => exact h.elim
  | non => exact key "NoneType" (by simp) rfl (by cases t <;> rfl)
  | bl _ => exact key "bool" (by simp) rfl (by cases t <;> rfl)
  | int _ => exact key "int" (by simp) rfl (by cases t <;> rfl)
  | str _ => exact key "str" (by simp) rfl (by cases t <;> rfl)
  | tup _ => exact key "tuple" (by simp) rfl (by cases t <;> rfl)
theorem e_isi {a : Expr} {ca : E} {t : Ty} {p p2 pos : Pos} (hg : Gl X "isinstance") (hm : X.mg "isinstance" = none) (hg2 : Gl X (trTy t)) (hm2 : X.mg (trTy t) = none) (ha : PE X a (tE X T G ca))
    (he : ∀ es, starEach (a :: es) X.env = (false, eval a X.env) :: starEach es X.env) : PE X (.Call (.Name "isinstance" p) [a, .Name (trTy t) p2] [] pos) (tE X T G (.isi ca t)) := by
  have hb : PE X (.Name (trTy t) p2) (tC (.ty (trTy t))) := by
    cases t with
    | int => exact pe_bltn hg2 hm2 boot_int rfl
    | bool => exact pe_bltn hg2 hm2 boot_bool rfl
    | tuple => exact pe_bltn hg2 hm2 boot_tuple rfl
    | str => exact pe_bltn hg2 hm2 boot_str rfl
  refine (pe_callB call_isi hg hm boot_isinstance (pa_cons ha (pa_cons hb pa_nil) (he _)) (he := he _) (hpl := rfl)).imp fun σ H Q' ⟨ρ, μ, Q, rs, rh, hw, p⟩ => ?_
  refine ⟨ρ, μ, _, rs, rh, hw, fun x vx H1 μ1 rx rh1 f1 q1 => ?_⟩
  obtain ⟨h1, q⟩ := q1
  exact ⟨vx, .ty (trTy t), _, _, isiP x t, rfl, .ty _, tyX_of rh1 rx h1, kit_ty (kit_d t h1), (p.step f1).bl rh1 q⟩
/-! ### built-in functions -/
def rP (X : Cx) (T : Tab) (p : Prim) : List V → Hp → VK → Prop := fun vs H Q' => ∃ ds μ Q, RepVs X.K H ds vs ∧ RepH X.w X.K T H μ ∧ primP p ds μ Q ∧ Pst X T H μ Q Q'
theorem e_primB {id : String} {x : Str} {e : Expr} {es : List Expr} {c : E} {p : Prim} {pp pos : Pos} (hc : CallR X (.builtin id) (rP X T p)) (hg : Gl X x) (hm : X.mg x = none) (hv : bootBuiltins x = some (.builtin id)) (ha : PA X (e :: es) (tA X T G c)) (hn : x ≠ "__name__") (hdb : (x == ("__debug__" : Str)) = false)
    (he : starEach (e :: es) X.env = (false, eval e X.env) :: starEach es X.env) (hpl : (backTo pos (starEach es X.env)).any (·.1) = false) : PE X (.Call (.Name x pp) (e :: es) [] pos) (tE X T G (.prim p c)) :=
  (pe_callB hc hg hm hv ha hn hdb he hpl).imp fun σ H Q' ⟨ρ, μ, Q, rs, rh, hw, p⟩ => ⟨ρ, μ, _, rs, rh, hw, fun ds vs H1 μ1 rv rh1 f1 _ q1 => ⟨ds, μ1, Q, rv, rh1, q1, p.step f1⟩⟩
theorem e_primT {id : String} {x : Str} {e : Expr} {es : List Expr} {c : E} {p : Prim} {pp pos : Pos} (hc : CallR X (.type id) (rP X T p)) (hg : Gl X x) (hm : X.mg x = none) (hv : bootBuiltins x = some (.type id)) (ha : PA X (e :: es) (tA X T G c)) (hn : x ≠ "__name__") (hdb : (x == ("__debug__" : Str)) = false)
    (he : starEach (e :: es) X.env = (false, eval e X.env) :: starEach es X.env) (hpl : (backTo pos (starEach es X.env)).any (·.1) = false) : PE X (.Call (.Name x pp) (e :: es) [] pos) (tE X T G (.prim p c)) :=
  (pe_callTy hc hg hm hv ha hn hdb he hpl).imp fun σ H Q' ⟨ρ, μ, Q, rs, rh, hw, p⟩ => ⟨ρ, μ, _, rs, rh, hw, fun ds vs H1 μ1 rv rh1 f1 _ q1 => ⟨ds, μ1, Q, rv, rh1, q1, p.step f1⟩⟩
theorem RepVs.get1 {K : PySem.W.Frag} {d : D} {vs : List V} (h : RepVs K H [d] vs) : ∃ v, vs = [v] ∧ RepV K H d v := by
  obtain ⟨v, r, e, h1, h2⟩ := h
  cases h2
  exact ⟨v, e, h1⟩
theorem RepVs.get2 {K : PySem.W.Frag} {d e : D} {vs : List V} (h : RepVs K H [d, e] vs) : ∃ v u, vs = [v, u] ∧ RepV K H d v ∧ RepV K H e u := by
  obtain ⟨v, r, e, h1, h2⟩ := h
  subst e
  obtain ⟨u, rfl, h3⟩ := RepVs.get1 h2
  exact ⟨v, u, rfl, h1, h3⟩
theorem RepVs.get3 {K : PySem.W.Frag} {d e f : D} {vs : List V} (h : RepVs K H [d, e, f] vs) : ∃ v u w, vs = [v, u, w] ∧ RepV K H d v ∧ RepV K H e u ∧ RepV K H f w := by
  obtain ⟨v, r, e, h1, h2⟩ := h
  subst e
  obtain ⟨u, w, rfl, h3, h4⟩ := RepVs.get2 h2
  exact ⟨v, u, w, rfl, h1, h3, h4⟩
/-- what is but read: its items stand so -/
theorem seq_get {d : D} {v : V} {k : List D → Prop} (rh : RepH X.w X.K T H μ) (r : RepV X.K H d v) (h : seqP d μ k) : ∃ l p vs, k l ∧ v = .ref p ∧ (SqL X.K H p vs ∧ (∃ a, d = .ref a) ∨ SqT X.K H p vs ∧ d = .tup l) ∧ RepVs X.K H l vs := by
  cases d with
  | tup l =>
    obtain ⟨p, vs, rfl, st, rl⟩ := r
    exact ⟨l, p, vs, h, rfl, .inr ⟨st, rfl⟩, rl⟩
  | ref a =>
    cases r
    obtain ⟨l, e, h⟩ := rdL_get h
    obtain ⟨vs, hs, rl⟩ := rh a _ e
    exact ⟨l, a, vs, h, rfl, .inl ⟨SqL.of hs, a, rfl⟩, rl⟩
  | _ => exact h.elim
theorem arg1_get {ds : List D} {k : D → Prop} (h : arg1 ds k) : ∃ d, ds = [d] ∧ k d := by
  match ds, h with
  | [d], h => exact ⟨d, rfl, h⟩
theorem arg2_get {ds : List D} {k : D → D → Prop} (h : arg2 ds k) : ∃ d e, ds = [d, e] ∧ k d e := by
  match ds, h with
  | [d, e], h => exact ⟨d, e, rfl, h⟩
theorem arg3_get {ds : List D} {k : D → D → D → Prop} (h : arg3 ds k) : ∃ d e f, ds = [d, e, f] ∧ k d e f := by
  match ds, h with
  | [d, e, f], h => exact ⟨d, e, f, rfl, h⟩
theorem rdR_get {d : D} {k : Nat → List D → Prop} (h : rdR d μ k) : ∃ a l, d = .ref a ∧ μ a = some (.lst l) ∧ k a l := by
  cases d with
  | ref a => obtain ⟨l, e, h⟩ := rdL_get h; exact ⟨a, l, rfl, e, h⟩
  | _ => exact h.elim
theorem rdG_get {d : D} {k : Nat → List (D × D) → Prop} (h : rdG d μ k) : ∃ a l, d = .ref a ∧ (μ a = some (.dF l) ∨ μ a = some (.dL l)) ∧ k a l := by
  cases d with
  | ref a =>
    unfold rdG at h
    cases e : μ a with
    | none => simp only [e] at h
    | some o =>
      simp only [e] at h
      cases o with
      | dF l => exact ⟨a, l, rfl, .inl e, h⟩
      | dL l => exact ⟨a, l, rfl, .inr e, h⟩
      | _ => exact h.elim
  | _ => exact h.elim
theorem rdD_get {d : D} {k : Nat → List (D × D) → Prop} (h : rdD d μ k) : ∃ a l, d = .ref a ∧ μ a = some (.dF l) ∧ k a l := by
  cases d with
  | ref a =>
    unfold rdD at h
    cases e : μ a with
    | none => simp only [e] at h
    | some o =>
      simp only [e] at h
      cases o with
      | dF l => exact ⟨a, l, rfl, e, h⟩
      | _ => exact h.elim
  | _ => exact h.elim
theorem p_len : CallR X (.builtin "len") (rP X T .len) := by
  intro pins s σ H xs us Q' I r ⟨ds, μ, Q, rv, rh, h, p⟩
  obtain ⟨d, rfl, h⟩ := arg1_get h
  replace rv := rv.get1
  obtain ⟨v, rfl, rv⟩ := rv
  cases d with
  | tup l =>
    obtain ⟨q, vs, rfl, st, rl⟩ := rv
    exact call_len_seq pins s σ H _ us Q' I r ⟨q, vs, rfl, .inr st, by rw [← rl.length]; exact p.int rh h⟩
  | scr l =>
    obtain ⟨q, rfl, fz⟩ := rv
    exact call_len_seq pins s σ H _ us Q' I r ⟨q, _, rfl, .inl fz.sq, by rw [List.length_map]; exact p.int rh h⟩
  | str l =>
    cases rv
    obtain ⟨hz, h⟩ := h
    refine call_len_str pins s σ H _ us Q' I r ⟨toS l, rfl, ?_, ?_⟩
    · show l.toArray.size ≤ sizeLine
      rw [← sizeMax_eq]; simpa using hz
    · have e : (toS l).length = l.length := by show l.toArray.size = _; simp
      rw [e]; exact p.int rh h
  | ref a =>
    cases rv
    obtain ⟨n, e, h⟩ := optP_get h
    obtain ⟨o, e0, e2⟩ := Option.bind_eq_some_iff.mp e
    clear e
    have e := e0
    cases o with
    | lst l =>
      cases e2
      obtain ⟨vs, hs, rl⟩ := rh a _ e
      exact call_len_seq pins s σ H _ us Q' I r ⟨a, vs, rfl, .inl (SqL.of hs), by rw [← rl.length]; exact p.int rh h⟩
    | dF l =>
      cases e2
      obtain ⟨kvs, hs, rk⟩ := rh a _ e
      cases r with
      | cons r0 rr =>
        cases rr
        cases r0
        refine d_len I (.inl hs) fun t s' I' => ⟨.int kvs.length, H, I', ⟨t, rfl⟩, ?_⟩
        rw [← rk.length]; exact p.int rh h
    | dL l => cases e2
    | dT l =>
      cases e2
      obtain ⟨xs, dd, hx, hs, hz, _⟩ := dT_of I rh e
      cases r with
      | cons r0 rr =>
        cases rr
        cases r0
        have hl := hx.length
        have : (sizeMax : Int) < 2 ^ 63 := by unfold sizeMax; decide
        refine call_len_dictH hs dd (by omega) ⟨.int xs.length, H, I.tok _, ⟨_, rfl⟩, ?_⟩
        rw [hl]; exact p.int rh h
    | ins c l => cases e2
  | non => exact h.elim
  | bl _ => exact h.elim
  | int _ => exact h.elim
theorem p_abs : CallR X (.builtin "abs") (rP X T .abs) := by
  intro pins s σ H xs us Q' I r ⟨ds, μ, Q, rv, rh, h, p⟩
  obtain ⟨d, rfl, h⟩ := arg1_get h
  replace rv := rv.get1
  obtain ⟨v, rfl, rv⟩ := rv
  cases d with
  | int i =>
    cases rv
    exact call_abs pins s σ H _ us Q' I r ⟨i, rfl, p.int rh h⟩
  | _ => exact h.elim
theorem p_min2 (hc : X.calm = true) : CallR X (.builtin "min") (rP X T .min2) := by
  intro pins s σ H xs us Q' I r ⟨ds, μ, Q, rv, rh, h, p⟩
  obtain ⟨d, e, rfl, h⟩ := arg2_get h
  replace rv := rv.get2
  obtain ⟨v, u, rfl, rv, ru⟩ := rv
  cases d with
  | int i =>
    cases e with
    | int j =>
      cases rv; cases ru
      refine call_min2 hc pins s σ H _ us Q' I r ⟨i, j, rfl, ?_⟩
      have e : (if j < i then j else i) = min i j := by split <;> omega
      rw [e]; exact p.int rh h
    | _ => exact h.elim
  | _ => exact h.elim
theorem p_max2 (hc : X.calm = true) : CallR X (.builtin "max") (rP X T .max2) := by
  intro pins s σ H xs us Q' I r ⟨ds, μ, Q, rv, rh, h, p⟩
  obtain ⟨d, e, rfl, h⟩ := arg2_get h
  replace rv := rv.get2
  obtain ⟨v, u, rfl, rv, ru⟩ := rv
  cases d with
  | int i =>
    cases e with
    | int j =>
      cases rv; cases ru
      refine call_max2 hc pins s σ H _ us Q' I r ⟨i, j, rfl, ?_⟩
      have e : (if j > i then j else i) = max i j := by split <;> omega
      rw [e]; exact p.int rh h
    | _ => exact h.elim
  | _ => exact h.elim
theorem allDig_ok {x : List Nat} (h : allDig x = true) : NumText.AllDigits x ∧ x ≠ [] := by
  unfold allDig at h
  rw [Bool.and_eq_true, List.all_eq_true] at h
  refine ⟨fun c hc => ?_, fun e => by rw [e] at h; cases h.1⟩
  have := h.2 c hc
  rw [Bool.and_eq_true, decide_eq_true_eq, decide_eq_true_eq] at this
  exact this
theorem numT_ok {x : List Nat} {n : Int} (hl : x.length ≤ 600) (h : numT x = some n) : intText? (toS x) = some n := by
  have lx : (toS x).length = x.length := by simp [toS, Str.length]
  have cx : (toS x).cps.toList = x := by simp [toS]
  unfold numT at h
  split at h
  · rename_i hd
    obtain ⟨h1, h2⟩ := allDig_ok hd
    cases h
    have := PySem.intText_digits (x := toS x) (by rw [cx]; exact h1) (by rw [cx]; exact h2) (by omega)
    rw [cx] at this; exact this
  · split at h
    · rename_i r _
      split at h
      · rename_i hd
        obtain ⟨h1, h2⟩ := allDig_ok hd
        cases h
        exact PySem.intText_neg cx h1 h2 (by omega)
      · cases h
    · cases h
theorem p_int : CallR X (.type "int") (rP X T .int) := by
  intro pins s σ H xs us Q' I r ⟨ds, μ, Q, rv, rh, h, p⟩
  obtain ⟨d, rfl, h⟩ := arg1_get h
  replace rv := rv.get1
  obtain ⟨v, rfl, rv⟩ := rv
  cases d with
  | int i => cases rv; exact call_int1 pins s σ H _ us Q' I r (.inl ⟨i, rfl, p.int rh h⟩)
  | bl b => cases rv; exact call_int1 pins s σ H _ us Q' I r (.inr ⟨b, rfl, p.int rh h⟩)
  | str x =>
    cases rv
    obtain ⟨hl, h⟩ := h
    cases e : numT x with
    | none => rw [e] at h; exact h.elim
    | some n =>
      rw [e] at h
      have lx : (toS x).length = x.length := by simp [toS, Str.length]
      exact call_int_str pins s σ H _ us Q' I r ⟨_, n, rfl, numT_ok hl e, by omega, p.int rh h⟩
  | _ => exact h.elim
theorem p_tuple : CallR X (.type "tuple") (rP X T .tuple) := by
  intro pins s σ H xs us Q' I r ⟨ds, μ, Q, rv, rh, h, p⟩
  obtain ⟨d, rfl, h⟩ := arg1_get h
  replace rv := rv.get1
  obtain ⟨v, rfl, rv⟩ := rv
  obtain ⟨l, a, vs, h, rfl, ho, rl⟩ := seq_get rh rv h
  refine call_tuple_of pins s σ H _ us Q' I r ⟨a, vs, rfl, ?_⟩
  rcases ho with ⟨h1, _⟩ | ⟨h1, e⟩
  · exact .inl ⟨h1, p.tup rh rl h⟩
  · subst e
    exact .inr ⟨h1, p.val rh rv h⟩
theorem bls_of : ∀ {ds : List D} {vs : List V} {b : Bool}, RepVs X.K H ds vs → allB ds = some b → ∃ bs : List Bool, vs = bs.map V.bl ∧ bs.all id = b
  | [], _, _, h, e => by rw [show _ = [] from h]; cases e; exact ⟨[], rfl, rfl⟩
  | .bl b :: r, _, _, ⟨v, q, e, h, t⟩, z => by
    unfold allB at z
    cases y : allB r with
    | none => rw [y] at z; cases z
    | some c =>
      rw [y] at z; cases z
      obtain ⟨bs, h1, h2⟩ := bls_of t y
      subst e
      cases h
      exact ⟨b :: bs, by rw [h1]; rfl, by rw [List.all_cons, h2]; rfl⟩
  | .non :: _, _, _, _, e => by simp [allB] at e
  | .int _ :: _, _, _, _, e => by simp [allB] at e
  | .str _ :: _, _, _, _, e => by simp [allB] at e
  | .tup _ :: _, _, _, _, e => by simp [allB] at e
  | .ref _ :: _, _, _, _, e => by simp [allB] at e
  | .scr _ :: _, _, _, _, e => by simp [allB] at e
theorem p_all (hc : X.calm = true) : CallR X (.builtin "all") (rP X T .all) := by
  intro pins s σ H xs us Q' I r ⟨ds, μ, Q, rv, rh, h, p⟩
  obtain ⟨d, rfl, h⟩ := arg1_get h
  replace rv := rv.get1
  obtain ⟨v, rfl, rv⟩ := rv
  obtain ⟨a, l, rfl, e, h⟩ := rdR_get h
  cases rv
  obtain ⟨b, e2, h⟩ := optP_get h
  obtain ⟨vs, hs, rl⟩ := rh a _ e
  obtain ⟨bs, e3, e4⟩ := bls_of rl e2
  subst e3 e4
  exact cr_all hc pins s σ H _ us Q' I r ⟨a, bs, rfl, SqL.of hs, p.bl rh h⟩
theorem p_max1 (hc : X.calm = true) : CallR X (.builtin "max") (rP X T .max1) := by
  intro pins s σ H xs us Q' I r ⟨ds, μ, Q, rv, rh, h, p⟩
  obtain ⟨d, rfl, h⟩ := arg1_get h
  replace rv := rv.get1
  obtain ⟨v, rfl, rv⟩ := rv
  obtain ⟨a, l, rfl, e, h⟩ := rdR_get h
  cases rv
  obtain ⟨ns, e2, h0, h⟩ := optP_get h
  obtain ⟨vs, hs, rl⟩ := rh a _ e
  have e3 := rl.intsD e2
  subst e3
  exact cr_max hc pins s σ H _ us Q' I r ⟨a, ns, rfl, SqL.of hs, h0, fun m h1 h2 => p.int rh (h m h1 h2)⟩
theorem p_min1 (hc : X.calm = true) : CallR X (.builtin "min") (rP X T .min1) := by
  intro pins s σ H xs us Q' I r ⟨ds, μ, Q, rv, rh, h, p⟩
  obtain ⟨d, rfl, h⟩ := arg1_get h
  replace rv := rv.get1
  obtain ⟨v, rfl, rv⟩ := rv
  obtain ⟨a, l, rfl, e, h⟩ := rdR_get h
  cases rv
  obtain ⟨ns, e2, h0, h⟩ := optP_get h
  obtain ⟨vs, hs, rl⟩ := rh a _ e
  have e3 := rl.intsD e2
  subst e3
  exact cr_min hc pins s σ H _ us Q' I r ⟨a, ns, rfl, SqL.of hs, h0, fun m h1 h2 => p.int rh (h m h1 h2)⟩
end
end MP

set_option linter.all false
set_option maxRecDepth 100000
set_option maxHeartbeats 1000000
set_option Elab.async false
/-! MP5: calls, methods, instances, fields, slices, comprehensions. -/
namespace MP
open PySem PySem.Spec PyProof.Rows L2
section
variable {X : Cx} {T : Tab} {G : Ctx} {H H' H1 : Hp} {μ μ' μ1 : Sto} {Q : D → Sto → Prop} {Q' : VK} {σ : L2.St} {ρ : Env}
/-- what a def promises: what its wish by the store says -/
def spF (w : World) (K : PySem.W.Frag) (T : Tab) (G : Ctx) (f n : Nat) : Sp := fun vs H Q' _ => vs.length = n ∧ ∃ ds μ Q, RepVs K H ds vs ∧ RepH w K T H μ ∧ G.fn f ds μ Q XF ∧
  ∀ d v H' μ', RepV K H' d v → RepH w K T H' μ' → Fr H μ H' μ' → Q d μ' → Q' v H'
structure FnI (P : Program) (w : World) (K : PySem.W.Frag) (mg : Str → Option Value) (base : Heap) (T : Tab) (G : Ctx) (k f : Nat) (fA : Addr) (fd : FuncData) (ps : List Str) : Prop where
  ok : FnOk P w K mg base CX0 k fA fd ps (spF w K T G f ps.length)
  bd : Binds K fd ps []
  kp : PySem.W.keepIn K (.ref fA) = true
abbrev FnX (X : Cx) := FnI X.prog X.w X.K X.mg X.base
variable {k f : Nat} {fA : Addr} {fd : FuncData} {ps : List Str}
theorem sp_of {n : Nat} {ds : List D} {vs : List V} {Q' : VK} (rv : RepVs X.K H ds vs) (rh : RepH X.w X.K T H μ) (hl : ds.length = n) (h : G.fn f ds μ Q XF) (p : Pst X T H μ Q Q') : spF X.w X.K T G f n (vs ++ []) H Q' E0 :=
  ⟨by rw [List.append_nil, ← rv.length]; exact hl, ds, μ, Q, by rw [List.append_nil]; exact rv, rh, h, p⟩
theorem e_call (F : FnX X T G k f fA fd ps) (hr : Room k X.A) {x : Str} {e : Expr} {es : List Expr} {c : E} {p pos : Pos} (hg : Gl X x) (hm : X.mg x = some (.ref fA)) (ha : PA X (e :: es) (tA X T G c)) (hl : alen c = ps.length) (hdb : (x == ("__debug__" : Str)) = false)
    (he : starEach (e :: es) X.env = (false, eval e X.env) :: starEach es X.env) (hpl : (backTo pos (starEach es X.env)).any (·.1) = false) : PE X (.Call (.Name x p) (e :: es) [] pos) (tE X T G (.call f c)) :=
  (pe_call F.ok hr hg hm F.kp F.bd .nil pass0 ha hdb he hpl).imp fun σ H Q' ⟨ρ, μ, Q, rs, rh, hw, p⟩ =>
    ⟨ρ, μ, _, rs, rh, hw, fun ds vs H1 μ1 rv rh1 f1 hn q1 => sp_of rv rh1 (hn.trans hl) q1 (p.step f1)⟩
theorem e_call0 (F : FnX X T G k f fA fd ps) (hr : Room k X.A) {x : Str} {p pos : Pos} (hg : Gl X x) (hm : X.mg x = some (.ref fA)) (hl : 0 = ps.length) (hdb : (x == ("__debug__" : Str)) = false) : PE X (.Call (.Name x p) [] [] pos) (tE X T G (.call f .nil)) :=
  (pe_call0 F.ok hr hg hm F.kp F.bd .nil pass0 hdb).imp fun σ H Q' ⟨ρ, μ, Q, rs, rh, hw, p⟩ =>
    sp_of (ds := []) (vs := []) rfl rh hl hw p
/-! ### instances -/
theorem insP_get {x : D} {k : Nat → Nat → List (Nat × D) → Prop} (h : insP x μ k) : ∃ p c l, x = .ref p ∧ μ p = some (.ins c l) ∧ k p c l := by
  cases x with
  | ref p =>
    unfold insP at h
    cases e : μ p with
    | none => simp only [e] at h
    | some o =>
      simp only [e] at h
      cases o with
      | ins c l => exact ⟨p, c, l, rfl, e, h⟩
      | _ => exact h.elim
  | _ => exact h.elim
theorem fld_ne {fld : List Str} (nd : fld.Nodup) {i j : Nat} {x y : Str} (hi : fld[i]? = some x) (hj : fld[j]? = some y) : (y == x) = Nat.beq j i := by
  rw [Bool.eq_iff_iff]
  constructor
  · intro e
    have e : y = x := by simpa using e
    subst e
    have := nodup_ix nd hi hj
    subst this
    exact Nat.beq_refl _
  · intro e
    have e := Nat.eq_of_beq_eq_true e
    subst e
    rw [hi] at hj; cases hj
    simp
theorem RepF.look {fld : List Str} {K : PySem.W.Frag} {H : Hp} (nd : fld.Nodup) {i : Nat} {x : Str} (hi : fld[i]? = some x) : ∀ {l : List (Nat × D)} {fs : List (Str × V)}, RepF K H fld l fs → match lookF l i with
    | some d => ∃ v, fs.lookup x = some v ∧ RepV K H d v
    | none => fs.lookup x = none
  | [], _, h => by rw [show _ = [] from h]; rfl
  | (j, d) :: l, _, ⟨y, v, q, e, h1, h2, h3⟩ => by
    subst e
    have hb := fld_ne nd h1 hi
    unfold lookF
    cases hj : Nat.beq j i with
    | true =>
      have e := Nat.eq_of_beq_eq_true hj
      subst e
      rw [h1] at hi; cases hi
      rw [if_pos rfl]
      exact ⟨v, by simp [List.lookup_cons], h2⟩
    | false =>
      rw [if_neg (by decide)]
      have hb2 : (x == y) = false := by
        rw [hb]
        cases hq : Nat.beq i j with
        | false => rfl
        | true =>
          have e := Nat.eq_of_beq_eq_true hq
          subst e
          rw [Nat.beq_refl] at hj; cases hj
      rw [List.lookup_cons, hb2]
      exact RepF.look nd hi h3
theorem RepF.get {fld : List Str} {K : PySem.W.Frag} {H : Hp} (nd : fld.Nodup) {i : Nat} {x : Str} (hi : fld[i]? = some x) {l : List (Nat × D)} {fs : List (Str × V)} {d : D} (r : RepF K H fld l fs) (e : lookF l i = some d) : ∃ v, fs.lookup x = some v ∧ RepV K H d v := by
  have := r.look nd hi
  rw [e] at this
  exact this
theorem RepF.no {fld : List Str} {K : PySem.W.Frag} {H : Hp} (nd : fld.Nodup) {i : Nat} {x : Str} (hi : fld[i]? = some x) {l : List (Nat × D)} {fs : List (Str × V)} (r : RepF K H fld l fs) (e : lookF l i = none) : fs.lookup x = none := by
  have := r.look nd hi
  rw [e] at this
  exact this
theorem RepF.length {fld : List Str} {K : PySem.W.Frag} {H : Hp} : ∀ {l : List (Nat × D)} {fs : List (Str × V)}, RepF K H fld l fs → l.length = fs.length
  | [], _, h => by rw [show _ = [] from h]; rfl
  | (j, d) :: l, _, ⟨y, v, q, e, h1, h2, h3⟩ => by subst e; rw [List.length_cons, List.length_cons, h3.length]
theorem RepF.put {fld : List Str} {K : PySem.W.Frag} {H : Hp} (nd : fld.Nodup) {i : Nat} {x : Str} (hi : fld[i]? = some x) {d : D} {v : V} (rv : RepV K H d v) : ∀ {l : List (Nat × D)} {fs : List (Str × V)}, RepF K H fld l fs → RepF K H fld (MP.putF l i d) (L2.putF x v fs)
  | [], _, h => by rw [show _ = [] from h]; exact ⟨x, v, [], rfl, hi, rv, rfl⟩
  | (j, d') :: l, _, ⟨y, u, q, e, h1, h2, h3⟩ => by
    subst e
    have hb := fld_ne nd hi h1
    unfold MP.putF
    show RepF K H fld _ (L2.putF x v ((y, u) :: q))
    unfold L2.putF
    cases hj : Nat.beq j i with
    | true =>
      have e := Nat.eq_of_beq_eq_true hj
      subst e
      rw [h1] at hi; cases hi
      rw [if_pos rfl, if_pos rfl]
      exact ⟨x, v, q, rfl, h1, rv, h3⟩
    | false =>
      rw [hj] at hb
      have ne : ¬ (y = x) := by simpa using hb
      rw [if_neg (by decide), if_neg ne]
      exact ⟨y, u, _, rfl, h1, h2, RepF.put nd hi rv h3⟩
/-- o.m(..), m a method of the object's class -/
theorem e_meth {m : Nat} {mn : Str} {o e : Expr} {es : List Expr} {co c : E} {apos pos : Pos} {pl : Sem Bool} (hm : T.fld[m]? = some mn)
    (hf : ∀ cl f, G.mt cl m = some f → ∃ fA fd ps, Meth X.K (T.cls cl) mn fA ∧ FnX X T G k f fA fd ps ∧ alen c + 1 = ps.length)
    (hr : Room k X.A) (ho : PE X o (tE X T G co)) (ha : PA X (e :: es) (tA X T G c))
    (hst : starEach (e :: es) X.env = (false, eval e X.env) :: starEach es X.env) (hpl : (backTo pos (starEach es X.env)).any (·.1) = false)
    (ht : eval (.Call (.Attribute o mn apos) (e :: es) [] pos) X.env = (do
      let ov ← eval o X.env
      standAt apos.atName
      let (f, first) ← holding [ov] (getMethod ov mn pl)
      callWith pos f first (backTo pos (starEach (e :: es) X.env)) (backToKw pos (keywordEach [] X.env)))) :
    PE X (.Call (.Attribute o mn apos) (e :: es) [] pos) (tE X T G (.meth m co c)) := by
  refine ⟨fun pins s σ H Q' I h => ?_⟩
  obtain ⟨ρ, μ, Q, rs, rh, hw, p⟩ := h
  refine PySem.W.methodCall_KW (pl := pl) (thn (ho.run pins s σ H (fun x H1 => ∃ q cl l, ∃ μ1, x = .ref q ∧ RepH X.w X.K T H1 μ1 ∧ Fr H μ H1 μ1 ∧ μ1 q = some (.ins cl l) ∧ lookF l m = none ∧ optP (G.mt cl m) fun f => wpA G c ρ μ1 (fun ds μ2 => G.fn f (.ref q :: ds) μ2 Q XF) XF) I
    ⟨ρ, μ, _, rs, rh, hw, fun d v H1 μ1 rv rh1 f1 q1 => ?_⟩) fun u s1 ⟨x, H1, I1, rx, q, cl, l, μ1, ex, rh1, f1, e, hn, hq⟩ => ?_) ht
  · obtain ⟨q, cl, l, rfl, e, h1, h2⟩ := insP_get q1
    exact ⟨q, cl, l, μ1, rv, rh1, f1, e, h1, h2⟩
  · subst ex
    obtain rfl : u = Value.ref q := rx
    obtain ⟨f, ef, hq⟩ := optP_get hq
    obtain ⟨fA, fd, ps, hM, F, hl⟩ := hf cl f ef
    obtain ⟨dx, fs, hi, hc, rf⟩ := rh1 q _ e
    refine getmeth_ok I1 hi hc hM (rf.no T.nd hm hn) ?_
    have fin : ∀ {us : List Value} {s2 : Shared} {vs : List V} {H2 : Hp} {ds : List D} {μ2 : Sto}, Inv X pins σ H2 s2 → Vals vs us → RepVs X.K H2 ds vs → RepH X.w X.K T H2 μ2 → Fr H1 μ1 H2 μ2 → ds.length = alen c → G.fn f (.ref q :: ds) μ2 Q XF →
        wpAny (model X.prog X.w) X.A (call (.ref fA) (.ref q :: us)) (EP X pins σ Q') X.xe s2 := fun {us s2 vs H2 ds μ2} I2 r rv rh2 f2 hn q2 =>
      run_fn (us := .ref q :: us) (vs := .ref q :: vs) F.ok hr F.bd .nil pass0 I2 (.cons rfl r) (sp_of (ds := .ref q :: ds) (vs := .ref q :: vs) ⟨_, _, rfl, rfl, rv⟩ rh2 (by rw [List.length_cons, hn]; exact hl) q2 (p.step (f1.trans f2)))
    refine PySem.W.callWith_K (first := [.ref q]) (h₀ := X.base) I.ok.mod.kin F.kp (thn (ha.run pos pins s1 σ H1 (fun vs H2 => ∃ ds μ2, RepVs X.K H2 ds vs ∧ RepH X.w X.K T H2 μ2 ∧ Fr H1 μ1 H2 μ2 ∧ ds.length = alen c ∧ G.fn f (.ref q :: ds) μ2 Q XF) I1
        ⟨ρ, μ1, _, rs.mono (f1.keeps rh), rh1, hq, fun ds vs H2 μ2 rv rh2 f2 hn q2 => ⟨ds, μ2, rv, rh2, f2, hn, q2⟩⟩) fun us s2 ⟨vs, H2, I2, r, ds, μ2, rv, rh2, f2, hn, q2⟩ => ⟨I2.kIn, ?_⟩) hst hpl
    exact fin I2 r rv rh2 f2 hn q2
theorem e_meth0 {m : Nat} {mn : Str} {o : Expr} {co : E} {apos pos : Pos} {pl : Sem Bool} (hm : T.fld[m]? = some mn)
    (hf : ∀ cl f, G.mt cl m = some f → ∃ fA fd ps, Meth X.K (T.cls cl) mn fA ∧ FnX X T G k f fA fd ps ∧ 1 = ps.length)
    (hr : Room k X.A) (ho : PE X o (tE X T G co))
    (ht : eval (.Call (.Attribute o mn apos) [] [] pos) X.env = (do
      let ov ← eval o X.env
      standAt apos.atName
      let (f, first) ← holding [ov] (getMethod ov mn pl)
      callWith pos f first (backTo pos (starEach [] X.env)) (backToKw pos (keywordEach [] X.env)))) :
    PE X (.Call (.Attribute o mn apos) [] [] pos) (tE X T G (.meth m co .nil)) := by
  refine ⟨fun pins s σ H Q' I h => ?_⟩
  obtain ⟨ρ, μ, Q, rs, rh, hw, p⟩ := h
  refine PySem.W.methodCall_KW (pl := pl) (thn (ho.run pins s σ H (fun x H1 => ∃ q cl l, ∃ μ1, x = .ref q ∧ RepH X.w X.K T H1 μ1 ∧ Fr H μ H1 μ1 ∧ μ1 q = some (.ins cl l) ∧ lookF l m = none ∧ optP (G.mt cl m) fun f => G.fn f [.ref q] μ1 Q XF) I
    ⟨ρ, μ, _, rs, rh, hw, fun d v H1 μ1 rv rh1 f1 q1 => ?_⟩) fun u s1 ⟨x, H1, I1, rx, q, cl, l, μ1, ex, rh1, f1, e, hn, hq⟩ => ?_) ht
  · obtain ⟨q, cl, l, rfl, e, h1, h2⟩ := insP_get q1
    exact ⟨q, cl, l, μ1, rv, rh1, f1, e, h1, h2⟩
  · subst ex
    obtain rfl : u = Value.ref q := rx
    obtain ⟨f, ef, hq⟩ := optP_get hq
    obtain ⟨fA, fd, ps, hM, F, hl⟩ := hf cl f ef
    obtain ⟨dx, fs, hi, hc, rf⟩ := rh1 q _ e
    refine getmeth_ok I1 hi hc hM (rf.no T.nd hm hn) ?_
    exact PySem.W.callWith_K0 (first := [.ref q]) I1.kIn F.kp (run_fn (us := [.ref q]) (vs := [.ref q]) F.ok hr F.bd .nil pass0 I1 (.cons rfl .nil) (sp_of (ds := [.ref q]) (vs := [.ref q]) ⟨_, _, rfl, rfl, rfl⟩ rh1 hl hq (p.step f1)))
/-- C(..) -/
theorem mk_step {cl : Nat} {ds : List D} {vs : List V} {n : Nat} (hc : Cls X.K (T.cls cl)) (rv : RepVs X.K H1 ds vs) (rh1 : RepH X.w X.K T H1 μ1) (f1 : Fr H μ H1 μ1) (hn : ds.length + 1 = n) (p : Pst X T H μ Q Q')
    (q1 : ∀ q, μ1 q = none → G.fn f (.ref q :: ds) (MP.upd μ1 q (.ins cl [])) (fun d μ2 => d = .non ∧ Q (.ref q) μ2) XF) :
    ∀ x dx, H1 x = none → H1 dx = none → dx ≠ x → spF X.w X.K T G f n (.ref x :: (vs ++ [])) (L2.upd (L2.upd H1 dx (.own x)) x (.ins (T.cls cl) dx [])) (fun v H2 => v = .non ∧ Q' (.ref x) H2) E0 := fun x dx hx hdx hne => by
  have rh2 := rh1.newT (o := .own x) hdx
  have f2 : Fr H1 μ1 (L2.upd H1 dx (.own x)) μ1 := Fr.newT hdx
  have hx2 : (L2.upd H1 dx (.own x)) x = none := by rw [L2.upd_ne (Ne.symm hne)]; exact hx
  have rh3 := rh2.newO (o := .ins (T.cls cl) dx []) (ob := .ins cl []) hx2 ⟨dx, [], L2.upd_same, hc, rfl⟩
  have f3 : Fr (L2.upd H1 dx (.own x)) μ1 (L2.upd (L2.upd H1 dx (.own x)) x (.ins (T.cls cl) dx [])) (MP.upd μ1 x (.ins cl [])) := Fr.newO hx2
  have f13 := f1.trans (f2.trans f3)
  refine ⟨by rw [List.append_nil, List.length_cons, ← rv.length]; exact hn, .ref x :: ds, _, _, ⟨_, _, rfl, rfl, ?_⟩, rh3, q1 x (rh1.free hx), fun d v H' μ' rd rh' f' q' => ?_⟩
  · rw [List.append_nil]
    exact rv.mono ((f2.trans f3).keeps rh1)
  · obtain ⟨e, q'⟩ := q'
    subst e
    exact ⟨rd, p (.ref x) _ H' μ' rfl rh' (f13.trans f') q'⟩
theorem e_new {cl : Nat} (M : Mk X.K (T.cls cl) fA) (hc : Cls X.K (T.cls cl)) (F : FnX X T G k f fA fd ps) (hr : Room (k + 1) X.A) {x : Str} {e : Expr} {es : List Expr} {c : E} {p pos : Pos} (hg : Gl X x) (hm : X.mg x = some (.ref (T.cls cl))) (ha : PA X (e :: es) (tA X T G c))
    (hl : alen c + 1 = ps.length) (hdb : (x == ("__debug__" : Str)) = false) (he : starEach (e :: es) X.env = (false, eval e X.env) :: starEach es X.env) (hpl : (backTo pos (starEach es X.env)).any (·.1) = false) : PE X (.Call (.Name x p) (e :: es) [] pos) (tE X T G (.new cl f c)) :=
  (pe_make M F.ok hr hg hm F.bd .nil pass0 ha hdb he hpl).imp fun σ H Q' ⟨ρ, μ, Q, rs, rh, hw, p⟩ =>
    ⟨ρ, μ, _, rs, rh, hw, fun ds vs H1 μ1 rv rh1 f1 hn q1 => mk_step hc rv rh1 f1 (by rw [hn]; exact hl) p q1⟩
/-- o.f -/
theorem e_attr {i : Nat} {x : Str} {o : Expr} {co : E} {pos : Pos} (hi : T.fld[i]? = some x) (hF : ∀ cl, G.fl cl i = true → NoAttr X.K (T.cls cl) x) (ho : PE X o (tE X T G co)) (hb : attributeBase o x X.env (eval o X.env) = eval o X.env) : PE X (.Attribute o x pos) (tE X T G (.attr co i)) :=
  (pe_fld ho hb).imp fun σ H Q' ⟨ρ, μ, Q, rs, rh, hw, p⟩ => ⟨ρ, μ, _, rs, rh, hw, fun d v H1 μ1 rv rh1 f1 q1 => by
    obtain ⟨q, cl, l, rfl, e, hfl, h2⟩ := insP_get q1
    obtain ⟨d, e2, h2⟩ := optP_get h2
    obtain ⟨dx, fs, h3, hc, rf⟩ := rh1 q _ e
    obtain ⟨u, h4, h5⟩ := rf.get T.nd hi e2
    exact ⟨q, T.cls cl, dx, fs, u, rv, h3, hc, hF cl hfl, h4, (p.step f1).val rh1 h5 h2⟩⟩
/-! ### slices -/
def tO (X : Cx) (T : Tab) (G : Ctx) (c : E) : TO := fun σ H Q' => ∃ ρ μ, ∃ Q : Option Int → Sto → Prop, RepS X.K H ρ σ ∧ RepH X.w X.K T H μ ∧ wpE G c ρ μ (fun d μ1 => optP (optI d) fun o => Q o μ1) XF ∧ ∀ o H' μ', RepH X.w X.K T H' μ' → Fr H μ H' μ' → Q o μ' → Q' o H'
theorem _root_.L2.PO.imp {e : Option Expr} {t t' : TO} (h : PO X e t) (i : ∀ σ H Q, t' σ H Q → t σ H Q) : PO X e t' := ⟨fun pins s σ H Q I hw => h.run pins s σ H Q I (i σ H Q hw)⟩
theorem o_none : PO X none (tO X T G .cn) := po_none.imp fun σ H Q' ⟨ρ, μ, Q, rs, rh, hw, p⟩ => p none H μ rh .refl hw
theorem o_some {e : Expr} {c : E} (h : PE X e (tE X T G c)) : PO X (some e) (tO X T G (.part c)) := (po_some h).imp fun σ H Q' ⟨ρ, μ, Q, rs, rh, hw, p⟩ =>
  ⟨ρ, μ, _, rs, rh, hw, fun d v H1 μ1 rv rh1 f1 q1 => by
    cases d with
    | int i => exact ⟨i, rv, p (some i) H1 μ1 rh1 f1 q1⟩
    | _ => exact q1.elim⟩
def rSD (X : Cx) (T : Tab) : V → Option Int → Option Int → Hp → VK → Prop := fun x lo hi H Q' => ∃ dx μ Q, RepV X.K H dx x ∧ RepH X.w X.K T H μ ∧ slc2P dx lo hi μ Q ∧ Pst X T H μ Q Q'
theorem sIx_eq (n d : Nat) (o : Option Int) : MP.sIx n d o = HT.sIx n d o := by cases o <;> rfl
theorem RepVs.slice {K : PySem.W.Frag} {l : List D} {vs : List V} (r : RepVs K H l vs) (i j : Option Int) : RepVs K H (sliceL l i j) (cutV vs i j) := by
  unfold sliceL cutV
  rw [r.length, sIx_eq, sIx_eq]
  exact (r.drop _).take _
theorem slice_whole {α : Type} {l : List α} {i j : Option Int} (h : HT.sIx l.length 0 i = 0 ∧ HT.sIx l.length l.length j = l.length) : sliceL l i j = l := by
  unfold sliceL
  rw [sIx_eq, sIx_eq, h.1, h.2]
  simp
theorem sl_run : SlR X (rSD X T) := by
  intro pins s σ H x v vl vu lo hi sl Q' I rx hs pl pu ⟨dx, μ, Q, hx, rh, h, p⟩
  cases dx with
  | tup l =>
    obtain ⟨a, vs, rfl, st, rl⟩ := hx
    refine sl_tupA pins s σ H _ v vl vu lo hi sl Q' I rx hs pl pu ⟨a, vs, rfl, st, fun hw => ?_, fun _ => p.tup rh (rl.slice lo hi) h⟩
    rw [← rl.length] at hw
    have h : Q (.tup (sliceL l lo hi)) μ := h
    rw [slice_whole hw] at h
    exact p.val rh (sqT_of st rl) h
  | str l =>
    cases hx
    obtain ⟨hz, h⟩ := h
    refine sl_str pins s σ H _ v vl vu lo hi sl Q' I rx hs pl pu ⟨toS l, rfl, ?_, ?_⟩
    · show l.toArray.size ≤ sizeLine
      rw [← sizeMax_eq]; simpa using hz
    · have e : cutS (toS l) lo hi = toS (sliceL l lo hi) := by
        unfold cutS sliceL
        have el : (toS l).length = l.length := by show l.toArray.size = _; simp
        rw [el, sIx_eq, sIx_eq]
      rw [e]; exact p.str rh h
  | ref a =>
    cases hx
    obtain ⟨l, e, h⟩ := rdL_get h
    obtain ⟨vs, h1, rl⟩ := rh a _ e
    exact sl_list pins s σ H _ v vl vu lo hi sl Q' I rx hs pl pu ⟨a, vs, rfl, SqL.of h1, p.lst rh (rl.slice lo hi) h⟩
  | _ => exact h.elim
theorem e_slc {a : Expr} {lo hi : Option Expr} {ca cl ch : E} {p2 pos : Pos} (ha : PE X a (tE X T G ca)) (hl : PO X lo (tO X T G cl)) (hh : PO X hi (tO X T G ch)) : PE X (.Subscript a (.Slice lo hi none p2) pos) (tE X T G (.slc ca cl ch)) :=
  (pe_slice (sl_run (T := T)) ha hl hh).imp fun σ H Q' ⟨ρ, μ, Q, rs, rh, hw, p⟩ =>
    ⟨ρ, μ, _, rs, rh, hw, fun x vx H1 μ1 rx rh1 f1 q1 => ⟨ρ, μ1, fun i μ2 => wpE G ch ρ μ2 (fun z μ3 => optP (optI z) fun j => slc2P x i j μ3 Q) XF, rs.mono (f1.keeps rh), rh1, q1, fun i H2 μ2 rh2 f2 q2 =>
      ⟨ρ, μ2, fun j μ3 => slc2P x i j μ3 Q, rs.mono ((f1.trans f2).keeps rh), rh2, q2, fun j H3 μ3 rh3 f3 q3 => ⟨x, μ3, Q, rx.mono ((f2.trans f3).keeps rh1), rh3, q3, p.step ((f1.trans f2).trans f3)⟩⟩⟩⟩
end
end MP

set_option linter.all false
set_option maxRecDepth 100000
set_option maxHeartbeats 1000000
set_option Elab.async false
/-! MP5b: methods of built-in types. -/
namespace MP
open PySem PySem.Spec PyProof.Rows L2
section
variable {X : Cx} {T : Tab} {G : Ctx} {H H' H1 : Hp} {μ μ' μ1 : Sto} {Q : D → Sto → Prop} {Q' : VK} {σ : L2.St} {ρ : Env}
def rM (X : Cx) (T : Tab) (p : Prim) : V → List V → Hp → VK → Prop := fun x vs H Q' => ∃ dx ds μ Q, RepV X.K H dx x ∧ RepVs X.K H ds vs ∧ RepH X.w X.K T H μ ∧ primP p (dx :: ds) μ Q ∧ Pst X T H μ Q Q'
theorem m_append : MtR X "list.append" (rM X T .append) := by
  intro pins s σ H x vs v us Q' I rx rvs ⟨dx, ds, μ, Q, hx, hv, rh, h, p⟩
  obtain ⟨d, e, e1, h⟩ := arg2_get h
  cases e1
  replace hv := hv.get1
  obtain ⟨y, rfl, hv⟩ := hv
  obtain ⟨a, l, rfl, ea, hz, q⟩ := rdR_get h
  cases hx
  obtain ⟨xs, hs, rl⟩ := rh a _ ea
  exact mt_append pins s σ H _ _ v us Q' I rx rvs ⟨a, xs, y, rfl, rfl, hs, by rw [← rl.length, ← sizeMax_eq]; exact hz, p .non _ _ _ rfl (rh.wr ea (ob' := .lst (l ++ [e])) ⟨_, L2.upd_same, (rl.append (.one hv)).mono (.wr rh ea)⟩) (Fr.wr ea) q⟩
theorem m_pop : MtR X "list.pop" (rM X T .pop) := by
  intro pins s σ H x vs v us Q' I rx rvs ⟨dx, ds, μ, Q, hx, hv, rh, h, p⟩
  obtain ⟨d, e1, h⟩ := arg1_get h
  cases e1
  cases (show vs = [] from hv)
  obtain ⟨a, l, rfl, ea, h⟩ := rdR_get h
  obtain ⟨e, el, q⟩ := optP_get h
  cases hx
  obtain ⟨xs, hs, rl⟩ := rh a _ ea
  have el : l[l.length - 1]? = some e := by rw [← List.getLast?_eq_getElem?]; exact el
  obtain ⟨y, hy, ry⟩ := rl.get el
  refine mt_pop pins s σ H _ _ v us Q' I rx rvs ⟨a, xs, y, rfl, rfl, hs, by rw [← rl.length]; exact hy, p _ _ _ _ (ry.mono (.wr rh ea)) (rh.wr ea (ob' := .lst l.dropLast) ⟨_, L2.upd_same, (rl.dropLast).mono (.wr rh ea)⟩) (Fr.wr ea) q⟩
/-- d.get(k, x), be the dict walked or not -/
theorem e_get {o e f : Expr} {co ce cf : E} {apos cpos : Pos} (hu : X.A.units + 65 < cLine) (ho : PE X o (tE X T G co)) (he : PE X e (tE X T G ce)) (hf : PE X f (tE X T G cf)) (m : M2 X o "get" apos e f cpos) : PE X (.Call (.Attribute o "get" apos) [e, f] [] cpos) (tE X T G (.bm .get co (.cons ce (.cons cf .nil)))) :=
  (pe_dget2 (by omega) ho he hf m).imp fun σ H Q' ⟨ρ, μ, Q, rs, rh, hw, p⟩ => ⟨ρ, μ, _, rs, rh, hw, fun d v H1 μ1 rv rh1 f1 q1 => by
    obtain ⟨q1, q2⟩ := q1
    obtain ⟨a, l, rfl, ea, _⟩ := rdG_get q1
    obtain rfl : v = .ref a := rv
    refine ⟨a, rfl, ?_, ρ, μ1, _, rs.mono (f1.keeps rh), rh1, q2, fun d2 v2 H2 μ2 rv2 rh2 f2 q3 => ⟨ρ, μ2, _, (rs.mono (f1.keeps rh)).mono (f2.keeps rh1), rh2, q3, fun d3 v3 H3 μ3 rv3 rh3 f3 q4 => ?_⟩⟩
    · rcases ea with ea | ea
      · obtain ⟨kvs, hs, _⟩ := rh1 a _ ea
        exact .inl ⟨kvs, .inl hs⟩
      · obtain ⟨od, kvs, hs, _⟩ := rh1 a _ ea
        exact .inl ⟨kvs, .inr ⟨od, hs⟩⟩
    · have q4 : rdG (.ref a) μ3 fun _ l => isFlat d2 = true ∧ Q ((dget l d2).getD d3) μ3 := q4
      obtain ⟨a', l, e0, ea, hf, q⟩ := rdG_get q4
      cases e0
      have hk := rv2.mono (f3.keeps rh2)
      have ex := kOf_v hf hk
      subst ex
      have p3 := p.step (f1.trans (f2.trans f3))
      have fin : ∀ kvs, Rd H3 a (.dK kvs) → RepK X.K H3 l kvs → ∃ o, DGet H3 a (kV (kOf d2)) o ∧ Q' (o.getD v3) H3 := fun kvs hs rk => by
        refine ⟨valV kvs (kOf d2), .inl ⟨kvs, kOf d2, hs, rfl, rfl⟩, ?_⟩
        cases e : dget l d2 with
        | none =>
          rw [e] at q
          have : valV kvs (kOf d2) = none := by
            have := rk.isSome hf
            rw [e] at this
            cases hv : valV kvs (kOf d2) with
            | none => rfl
            | some _ => rw [hv] at this; cases this
          rw [this]
          exact p3.val rh3 rv3 q
        | some d =>
          rw [e] at q
          obtain ⟨v, h4, h5⟩ := rk.some hf e
          rw [h4]
          exact p3.val rh3 h5 q
      rcases ea with ea | ea
      · obtain ⟨kvs, hs, rk⟩ := rh3 a _ ea
        exact fin kvs (.inl hs) rk
      · obtain ⟨od, kvs, hs, rk⟩ := rh3 a _ ea
        exact fin kvs (.inr ⟨od, hs⟩) rk⟩
/-- of what type the receiver is -/
def recvT (p : Prim) : String := match p with
  | .join => "str"
  | .split => "str"
  | .get => "dict"
  | .dpop => "dict"
  | .dpop1 => "dict"
  | _ => "list"
theorem rcv_lst {d : D} {x : V} (h : rdR d μ fun _ _ => True) (rx : RepV X.K H d x) (rh : RepH X.w X.K T H μ) : tyV X.K "list" x H := by
  obtain ⟨a, l, rfl, e, _⟩ := rdR_get h
  cases rx
  obtain ⟨xs, hs, _⟩ := rh a _ e
  exact .inl ⟨rfl, xs, SqL.of hs⟩
theorem rcv_dct {d : D} {x : V} (h : rdD d μ fun _ _ => True) (rx : RepV X.K H d x) (rh : RepH X.w X.K T H μ) : tyV X.K "dict" x H := by
  obtain ⟨a, l, rfl, e, _⟩ := rdD_get h
  cases rx
  obtain ⟨xs, hs, _⟩ := rh a _ e
  exact .inr (.inr (.inl ⟨rfl, .inl ⟨xs, hs⟩⟩))
theorem rcv_str {d : D} {x : V} (h : isStr d = true) (rx : RepV X.K H d x) : tyV X.K "str" x H := by
  cases d with
  | str z => cases rx; rfl
  | _ => cases h
theorem rcv {p : Prim} {d : D} {x : V} (hp : p ≠ .get) (h : recvP p d μ) (rx : RepV X.K H d x) (rh : RepH X.w X.K T H μ) : tyV X.K (recvT p) x H := by
  cases p <;> first | exact absurd rfl hp | exact rcv_lst h rx rh | exact rcv_dct h rx rh | exact rcv_str h rx
theorem e_bm {p : Prim} (hp : p ≠ .get) {id : String} {name : Str} {o e : Expr} {es : List Expr} {co c : E} {apos cpos : Pos} (pa : PlainAttrs (recvT p)) (slot : Slot (recvT p) name id) (hty : typeOf (.builtin id) = pure (.type "method_descriptor")) (hm : MtR X id (rM X T p)) (ho : PE X o (tE X T G co)) (ha : PA X (e :: es) (tA X T G c))
    (hbase : attributeBase o name X.env (eval o X.env) = eval o X.env)
    (hfew : ((backTo cpos (starEach (e :: es) X.env)).all (fun x => !x.1) && (backToKw cpos (keywordEach [] X.env)).all (fun x => x.1.isSome)
      && decide ((e :: es).length + ([] : List Keyword).length + (if ([] : List Keyword).isEmpty then 0 else 1) < 30)) = true)
    (hline : (apos.endLine == cpos.line) = true) (hs : starEach (e :: es) X.env = (false, eval e X.env) :: starEach es X.env) (hplain : (backTo cpos (starEach es X.env)).any (·.1) = false) :
    PE X (.Call (.Attribute o name apos) (e :: es) [] cpos) (tE X T G (.bm p co c)) :=
  (pe_bm pa slot hty hm ho ha hbase hfew hline hs hplain).imp fun σ H Q' ⟨ρ, μ, Q, rs, rh, hw, p⟩ =>
    ⟨ρ, μ, _, rs, rh, hw, fun d v H1 μ1 rv rh1 f1 ⟨q1, q2⟩ => ⟨rcv hp q1 rv rh1, ρ, μ1, _, rs.mono (f1.keeps rh), rh1, q2, fun ds vs H2 μ2 rvs rh2 f2 hn q3 => ⟨d, ds, μ2, Q, rv.mono (f2.keeps rh1), rvs, rh2, q3, p.step (f1.trans f2)⟩⟩⟩
theorem e_bm0 {p : Prim} (hp : p ≠ .get) {id : String} {name : Str} {o : Expr} {co : E} {apos cpos : Pos} (pa : PlainAttrs (recvT p)) (slot : Slot (recvT p) name id) (hty : typeOf (.builtin id) = pure (.type "method_descriptor")) (hm : MtR X id (rM X T p)) (ho : PE X o (tE X T G co))
    (hbase : attributeBase o name X.env (eval o X.env) = eval o X.env) (hline : (apos.endLine == cpos.line) = true) :
    PE X (.Call (.Attribute o name apos) [] [] cpos) (tE X T G (.bm p co .nil)) :=
  (pe_bm0 pa slot hty hm ho hbase hline).imp fun σ H Q' ⟨ρ, μ, Q, rs, rh, hw, p⟩ =>
    ⟨ρ, μ, _, rs, rh, hw, fun d v H1 μ1 rv rh1 f1 ⟨q1, q2⟩ => ⟨rcv hp q1 rv rh1, d, [], μ1, Q, rv, rfl, rh1, q2, p.step f1⟩⟩
end
end MP

set_option linter.all false
set_option maxRecDepth 100000
set_option maxHeartbeats 1000000
set_option Elab.async false
/-! MP5c: more built-in functions and methods. -/
namespace MP
open PySem PySem.Spec PyProof.Rows L2
section
variable {X : Cx} {T : Tab} {G : Ctx} {H H' H1 : Hp} {μ μ' μ1 : Sto} {Q : D → Sto → Prop} {Q' : VK} {σ : L2.St} {ρ : Env}
theorem ints_mapD : ∀ ns : List Int, intsD (ns.map D.int) = some ns
  | [] => rfl
  | n :: ns => by show (intsD (ns.map D.int)).map (n :: ·) = _; rw [ints_mapD ns]; rfl
theorem own_get {d : D} {k : List D → Prop} (h : ownK d μ k) : ∃ a, d = .ref a ∧ ((∃ l, μ a = some (.lst l) ∧ k l) ∨ ∃ l, μ a = some (.dF l) ∧ k (l.map (·.1))) := by
  cases d with
  | ref a =>
    obtain ⟨m, e, h⟩ := optP_get h
    obtain ⟨o, e1, e2⟩ := Option.bind_eq_some_iff.mp e
    cases o with
    | lst l => cases e2; exact ⟨a, rfl, .inl ⟨_, e1, h⟩⟩
    | dF l => cases e2; exact ⟨a, rfl, .inr ⟨l, e1, h⟩⟩
    | _ => cases e2
  | _ => exact h.elim
theorem lstK_get {d : D} {k : List D → Prop} (h : lstK d μ k) : (∃ l, d = .tup l ∧ k l) ∨ ownK d μ k := by
  cases d with
  | tup l => exact .inl ⟨l, rfl, h⟩
  | ref a => exact .inr h
  | _ => exact h.elim
theorem RepK.keys {K : PySem.W.Frag} : ∀ {l : List (D × D)} {kvs : List (Key × V)}, RepK K H l kvs → RepVs K H (l.map (·.1)) (kvs.map fun z => kV z.1)
  | [], _, h => by rw [show _ = [] from h]; rfl
  | (k, d) :: r, _, ⟨κ, v, q, e, h1, _, _, h4⟩ => by subst e; exact ⟨_, _, rfl, h1, RepK.keys h4⟩
theorem p_list (hc : X.calm = true) : CallR X (.type "list") (rP X T .list) := by
  intro pins s σ H xs us Q' I r ⟨ds, μ, Q, rv, rh, h, p⟩
  obtain ⟨d, rfl, h⟩ := arg1_get h
  replace rv := rv.get1
  obtain ⟨v, rfl, rv⟩ := rv
  rcases lstK_get h with ⟨l, rfl, h⟩ | h
  · obtain ⟨a, vs, rfl, st, rl⟩ := rv
    exact call_list_of pins s σ H _ us Q' I r ⟨a, vs, rfl, .inr st, p.lst rh rl h⟩
  · obtain ⟨a, rfl, ⟨l, e, h⟩ | ⟨l, e, h⟩⟩ := own_get h
    · cases rv
      obtain ⟨vs, hs, rl⟩ := rh a _ e
      exact call_list_of pins s σ H _ us Q' I r ⟨a, vs, rfl, .inl (SqL.of hs), p.lst rh rl h⟩
    · cases rv
      obtain ⟨kvs, hs, rk⟩ := rh a _ e
      exact call_listD hc pins s σ H _ us Q' I r ⟨a, kvs, rfl, .inl hs, p.lst rh rk.keys h⟩
theorem p_dict : CallR X (.type "dict") (rP X T .dict) := by
  intro pins s σ H xs us Q' I r ⟨ds, μ, Q, rv, rh, h, p⟩
  obtain ⟨d, rfl, h⟩ := arg1_get h
  replace rv := rv.get1
  obtain ⟨v, rfl, rv⟩ := rv
  obtain ⟨a, l, rfl, e, h⟩ := rdD_get h
  cases rv
  obtain ⟨kvs, hs, rk⟩ := rh a _ e
  refine call_dictD pins s σ H _ us Q' I r ⟨a, kvs, rfl, .inl hs, fun q hq => ?_⟩
  exact p (.ref q) _ _ _ rfl (rh.newO hq (ob := .dF l) ⟨kvs, L2.upd_same, rk.mono (.new hq)⟩) (Fr.newO hq) (h q (rh.free hq))
/-! ### sorted -/
abbrev tlS (z : Str) : List Nat := z.cps.toList
theorem RepVs.strs {K : PySem.W.Frag} : ∀ {zs : List (List Nat)} {vs : List V}, RepVs K H (zs.map D.str) vs → vs = (zs.map toS).map V.str
  | [], _, h => h
  | z :: zs, _, ⟨v, q, e, h, t⟩ => by
    subst e
    rw [RepVs.strs t, show v = .str (toS z) from h]; rfl
theorem RepVs.of_strs {K : PySem.W.Frag} : ∀ (ys : List Str), RepVs K H ((ys.map tlS).map D.str) (ys.map V.str)
  | [] => rfl
  | y :: ys => ⟨_, _, rfl, by show V.str y = .str (toS y.cps.toList); rw [toS_cps], RepVs.of_strs ys⟩
theorem perm_tl {ys : List Str} {zs : List (List Nat)} (h : ys.Perm (zs.map toS)) : (ys.map tlS).Perm zs := by
  have := h.map tlS
  rw [List.map_map] at this
  have e : (tlS ∘ toS) = id := funext fun z => by simp [Function.comp, tlS, toS]
  rw [e, List.map_id] at this
  exact this
theorem lt_cps : ∀ a b : List Nat, ltCps a b = strLt a b
  | [], [] => rfl
  | [], _ :: _ => rfl
  | _ :: _, [] => rfl
  | x :: a, y :: b => by
    show (decide (x < y) || (x == y && ltCps a b)) = (decide (x < y) || (x == y && strLt a b))
    rw [lt_cps a b]
theorem risingS_pw : ∀ {ys : List Str} {x : Str}, risingS x ys = true → ((x :: ys).map tlS).Pairwise fun a b => strLt b a = false
  | [], x, _ => by simp
  | y :: ys, x, h => by
    have h : (!ltCps y.cps.toList x.cps.toList && risingS y ys) = true := h
    rw [Bool.and_eq_true, Bool.not_eq_true', lt_cps] at h
    have ih := risingS_pw h.2
    refine List.pairwise_cons.mpr ⟨fun z hz => ?_, ih⟩
    have h1 : tlS x ≤ tlS y := strLe_dec.mp h.1
    rcases List.mem_cons.mp (show z ∈ tlS y :: ys.map tlS from hz) with rfl | hz
    · exact h.1
    · exact strLe_dec.mpr (List.le_trans h1 (strLe_dec.mp ((List.pairwise_cons.mp ih).1 z hz)))
theorem sortedS_pw {ys : List Str} (h : sortedS ys = true) : (ys.map tlS).Pairwise fun a b => strLt b a = false := by
  cases ys with
  | nil => exact .nil
  | cons x r => exact risingS_pw h
theorem sort_strs {zs : List (List Nat)} {ys : List Str} (h1 : ys.Perm (zs.map toS)) (h2 : sortedS ys = true) : sortD (zs.map D.str) = (ys.map tlS).map D.str := sortD_strs (perm_tl h1) (sortedS_pw h2)
theorem ints_of_keys {vs : List (Key × Value)} {ns : List Int} {acc : List Value} (hk : vs.map (·.1) = ns.map Sum.inl) (hl : acc.length = ns.length)
    (hacc : ∀ (j : Nat) (v : Value), acc[j]? = some v → ∃ k x, vs[j]? = some (k, x) ∧ keyIs k v = true) : IntsAre acc ns := by
  refine ints_each hl fun j v e => ?_
  obtain ⟨k, x, e1, e2⟩ := hacc j v e
  have e3 := congrArg (fun l => l[j]?) hk
  simp only [List.getElem?_map, e1, Option.map_some] at e3
  obtain ⟨n, e4, e5⟩ := Option.map_eq_some_iff.mp e3.symm
  rcases keyIs_shape e2 with ⟨i, t, ek, ev⟩ | ⟨z, t, ek, ev⟩
  · rw [← e5] at ek; cases ek; exact ⟨n, t, e4, ev⟩
  · rw [← e5] at ek; cases ek
/-- sorted of a dict whose keys are ints -/
theorem cr_sortedKeysI (hc : X.calm = true) {pins : List (Addr × Obj)} {s : Shared} {us : List Value} {a : Addr} {kvs : List (Key × V)} {ns : List Int} (I : Inv X pins σ H s) (r : Vals [.ref a] us) (hd : Rd H a (.dK kvs)) (hk : kvs.map (·.1) = ns.map Sum.inl)
    (q : ∀ (ms : List Int) (p : Addr), ms.Perm ns → ms.Pairwise (· ≤ ·) → H p = none → Q' (.ref p) (L2.upd H p (.lst (ms.map V.int)))) : wpAny (model X.prog X.w) X.A (call (.builtin "sorted") us) (EP X pins σ Q') X.xe s := by
  obtain ⟨u, rfl, ru⟩ := vals1 r
  cases ru
  obtain ⟨hz, lo, vs, rel, dd⟩ := dk_rd I.hok hd
  obtain ⟨ep, at_⟩ := dd.dictAt
  have ek : vs.map (·.1) = ns.map Sum.inl := by rw [← rel.keys]; exact hk
  have el : vs.length = ns.length := by simpa using congrArg List.length ek
  have ez : vs.length ≤ sizeLine := by rw [← rel.length]; exact hz
  refine Calls.call_function_entry PyProof.Rows.kind_sorted PyProof.Rows.plain_sorted PyProof.Rows.entry_sorted (PyProof.Rows.args_sorted1 _) (by
    unfold Builtin.«sorted»
    refine wpAny_bind (m := checkCount "sorted" 1 1 _) (wpAny_pure (wpAny_bind (PySem.W.kdu_collect (A := X.A.in1) (PySem.W.kdl_dict (knd := mixKind X.prog X.w) (kvs := vs) (ep := ep) lo) (I.ok.hd hc) at_ ez fun hp tk acc kp ha => ?_)))
    have al : acc.toList.length = ns.length := (Array.length_toList).trans (ha.1.trans el)
    have hI : IntsAre acc.toList ns := ints_of_keys ek al fun j v e => ha.2 j v ((Array.getElem?_toList).symm.trans e)
    have ez2 : acc.toList.length ≤ sizeLine := by rw [al, ← el]; exact ez
    have J : Inv X pins σ H { s with heap := hp, toks := tk } := I.kept kp
    refine wpAny_bind (wpAny_newList ?_ ez2)
    have at2 : (hp.push (seqObj "list" acc.toList.toArray 0)).get? hp.objs.size = some (seqObj "list" acc.toList.toArray 0) := Heap.get?_push_size _ rfl
    show wpAny _ _ _ _ _ ({ s with toks := tk, heap := hp.push (seqObj "list" acc.toList.toArray 0) } : Shared)
    refine wpAny_bind (wpAny_holding (wpAny_call_entry (s := { s with toks := tk, heap := hp.push (seqObj "list" acc.toList.toArray 0) }) PyProof.Rows.slot_list_sort ⟨_, at2, rfl⟩ PyProof.Rows.entry_list_sort
      (SrtO.list_sort_ord (s := { s with toks := tk, heap := hp.push (seqObj "list" acc.toList.toArray 0) }) SrtO.swo_int at2 ez2 (fun h2 => SrtO.ints_sortable hI h2) fun out g1 g2 => ⟨_, rfl, ?_⟩) (PyProof.Rows.args_list_sort _)))
    obtain ⟨k1, k2, k3⟩ := SrtO.ints_out hI g1 g2
    obtain ⟨e', at3⟩ := PyProof.Rows.sortedHeap_at (vs := acc.toList) (out := out.toArray) at2
    have len : ((out.map SrtO.iv).map V.int).length ≤ sizeLine := by rw [List.length_map, k2.length_eq, ← el]; exact ez
    refine wpAny_pure ⟨_, rfl, .ref hp.objs.size, L2.upd H hp.objs.size (.lst ((out.map SrtO.iv).map V.int)), J.laid (t' := tk) (fun b o e => ?_) (Nat.le_refl _) ⟨len, out, e', vals_of_ints k1, at3⟩, rfl, q _ _ k2 k3 (J.hok.fresh (Nat.le_refl _))⟩
    rw [PyProof.Rows.sortedHeap_old (Nat.ne_of_lt (Heap.lt_size e)) (Heap.lt_size (Heap.get?_push_of_some _ e))]
    exact Heap.get?_push_of_some _ e)
theorem RepK.ints {K : PySem.W.Frag} : ∀ {l : List (D × D)} {kvs : List (Key × V)} {ns : List Int}, RepK K H l kvs → l.map (·.1) = ns.map D.int → kvs.map (·.1) = ns.map Sum.inl
  | [], _, ns, h, e => by
    rw [show _ = [] from h]
    cases ns with
    | nil => rfl
    | cons _ _ => cases e
  | (k, d) :: r, _, ns, h, e => by
    obtain ⟨v, q, rfl, _, _, h4⟩ := h.key
    cases ns with
    | nil => cases e
    | cons n ns =>
      rw [List.map_cons, List.map_cons] at e
      injection e with e1 e2
      rw [List.map_cons, List.map_cons, RepK.ints h4 e2, show k = .int n from e1]; rfl
theorem RepK.strs {K : PySem.W.Frag} : ∀ {l : List (D × D)} {kvs : List (Key × V)} {ns : List (List Nat)}, RepK K H l kvs → l.map (·.1) = ns.map D.str → kvs.map (·.1) = (ns.map toS).map Sum.inr
  | [], _, ns, h, e => by
    rw [show _ = [] from h]
    cases ns with
    | nil => rfl
    | cons _ _ => cases e
  | (k, d) :: r, _, ns, h, e => by
    obtain ⟨v, q, rfl, _, _, h4⟩ := h.key
    cases ns with
    | nil => cases e
    | cons n ns =>
      rw [List.map_cons, List.map_cons] at e
      injection e with e1 e2
      rw [List.map_cons, List.map_cons, List.map_cons, RepK.strs h4 e2, show k = .str n from e1]; rfl
theorem sortable_get {l : List D} (h : sortable l = true) : (∃ ns : List Int, l = ns.map D.int) ∨ ∃ zs : List (List Nat), l = zs.map D.str ∧ zs.length < 64 := by
  unfold sortable at h
  rw [Bool.or_eq_true, Bool.and_eq_true, decide_eq_true_eq] at h
  rcases h with h | ⟨h, hz⟩
  · exact .inl (isInt_map h)
  · obtain ⟨zs, rfl⟩ := isStr_map h
    exact .inr ⟨zs, rfl, by simpa using hz⟩
theorem p_sorted (hc : X.calm = true) : CallR X (.builtin "sorted") (rP X T .sorted) := by
  intro pins s σ H xs us Q' I r ⟨ds, μ, Q, rv, rh, h, p⟩
  obtain ⟨d, rfl, h⟩ := arg1_get h
  replace rv := rv.get1
  obtain ⟨v, rfl, rv⟩ := rv
  have fi : ∀ {ns ms : List Int} {q : Addr}, new μ (.lst (sortD (ns.map D.int))) Q → ms.Perm ns → ms.Pairwise (· ≤ ·) → H q = none → Q' (.ref q) (L2.upd H q (.lst (ms.map V.int))) := fun {ns ms q} h h1 h2 hq =>
    p.lst rh (RepVs.of_ints ms) (by rw [← sortD_ints h1 h2]; exact h) q hq
  have fs : ∀ {zs : List (List Nat)} {ys : List Str} {q : Addr}, new μ (.lst (sortD (zs.map D.str))) Q → ys.Perm (zs.map toS) → sortedS ys = true → H q = none → Q' (.ref q) (L2.upd H q (.lst (ys.map V.str))) := fun {zs ys q} h h1 h2 hq =>
    p.lst rh (RepVs.of_strs ys) (by rw [← sort_strs h1 h2]; exact h) q hq
  obtain ⟨a, rfl, ⟨l, e, hs, h⟩ | ⟨l, e, hs, h⟩⟩ := own_get h
  · cases rv
    obtain ⟨vs, ha, rl⟩ := rh a _ e
    rcases sortable_get hs with ⟨ns, rfl⟩ | ⟨zs, rfl, hz⟩
    · have e1 := rl.intsD (ints_mapD ns)
      subst e1
      exact cr_sortedI pins s σ H _ us Q' I r ⟨a, ns, rfl, SqL.of ha, fun ms q h1 h2 hq => fi h h1 h2 hq⟩
    · have e1 := rl.strs
      subst e1
      exact cr_sortedS pins s σ H _ us Q' I r ⟨a, zs.map toS, rfl, SqL.of ha, by simpa using hz, fun ys q h1 h2 hq => fs h h1 h2 hq⟩
  · cases rv
    obtain ⟨kvs, ha, rk⟩ := rh a _ e
    rcases sortable_get hs with ⟨ns, el⟩ | ⟨zs, el, hz⟩
    · rw [el] at h
      exact cr_sortedKeysI hc I r (.inl ha) (rk.ints el) fun ms q h1 h2 hq => fi h h1 h2 hq
    · rw [el] at h
      exact call_sortedD hc pins s σ H _ us Q' I r ⟨a, kvs, zs.map toS, rfl, .inl ha, rk.strs el, by simpa using hz, fun ys q h1 h2 hq => fs h h1 h2 hq⟩
/-! ### methods -/
theorem natO_get {d : D} {k : Nat → Prop} (h : natO d k) : ∃ n : Nat, d = .int n ∧ n < 1000000000 ∧ k n := by
  cases d with
  | int i => exact ⟨i.toNat, by rw [Int.toNat_of_nonneg h.1], by have := h.1; have := h.2.1; omega, h.2.2⟩
  | _ => exact h.elim
theorem strK_get {d : D} {k : List Nat → Prop} (h : strK d k) : ∃ x, d = .str x ∧ k x := by
  cases d with
  | str x => exact ⟨x, rfl, h⟩
  | _ => exact h.elim
/-- list.extend by a tuple, whatever else the tuple's object holds -/
theorem ext_tup (l : Addr) (us : Array Value) (n : Nat) (b : Addr) (ws : Array Value) (n2 : Nat) (o : Obj) (hc : o.cls = .type "tuple") (hd : o.data = .seq ws n2)
    (h0 : ¬(!us.isEmpty && Builtin.List.listTooLong (us.size + ws.size)) = true) (h1 : us.size ≤ sizeLine) (h2 : us.size + ws.size ≤ sizeLine + 1) :
    Meets (Builtin.«list.extend» ⟨[.ref l, .ref b], []⟩) (fun _ R s => s.heap.get? l = some { cls := .type "list", data := .seq us n } ∧ s.heap.get? b = some o ∧ R (.ok (.ret Value.none)) { s with heap := s.heap.update l (Obj.mapSeq fun x => x ++ ws), toks := s.toks }) := by
  obtain ⟨oc, od, odt, osl⟩ := o
  cases hc
  cases hd
  refine .of_wp fun prog w A R s h => ?_
  obtain ⟨hp, gs, dr, tk, os⟩ := s
  obtain ⟨hl, hb, h⟩ := h
  have e1 := AutoSeq1.sub_tuple_list
  have e2 := AutoSeq1.sub_tuple_tuple
  have e3 := AutoSeq1.sub_list_list
  have e4 := AutoSeq1.sub_list_tuple
  have hz : (us ++ ws).size ≤ sizeLine + 1 := by rw [Array.size_append]; exact h2
  wp_walk using (wpAny_updateSeq hl rfl (hz := h1) (_hz' := hz)), AutoSeq1.wpAny_loadPart' hl, AutoSeq1.wpAny_loadPart' hb
  exact ⟨_, rfl, h⟩
theorem m_extend : MtR X "list.extend" (rM X T .extend) := by
  intro pins s σ H x vs v us Q' I rx rvs ⟨dx, ds, μ, Q, hx, hv, rh, h, p⟩
  obtain ⟨d0, d, e1, h⟩ := arg2_get h
  cases e1
  replace hv := hv.get1
  obtain ⟨y, rfl, hv⟩ := hv
  obtain ⟨a, l, rfl, ea, h⟩ := rdR_get h
  cases hx
  obtain ⟨xs, hs, rl⟩ := rh a _ ea
  cases d with
  | ref b =>
    obtain ⟨b, m, e, eb, hz, q⟩ := rdR_get (k := fun _ m => l.length + m.length ≤ sizeMax ∧ Q .non (upd μ a (.lst (l ++ m)))) (d := .ref b) h
    cases e
    cases hv
    obtain ⟨zs, ht, rm⟩ := rh b _ eb
    exact mt_extend pins s σ H _ _ v us Q' I rx rvs ⟨a, b, xs, zs, rfl, rfl, hs, ht, by rw [← rl.length, ← rm.length, ← sizeMax_eq]; exact hz, p .non _ _ _ rfl (rh.wr ea (ob' := .lst (l ++ m)) ⟨_, L2.upd_same, (rl.append rm).mono (.wr rh ea)⟩) (Fr.wr ea) q⟩
  | tup m =>
    obtain ⟨b, zs, rfl, ht, rm⟩ := hv
    have h : l.length + m.length ≤ sizeMax ∧ Q .non (upd μ a (.lst (l ++ m))) := h
    obtain ⟨hz, q⟩ := h
    rw [rl.length, rm.length, sizeMax_eq] at hz
    cases rx
    obtain ⟨u, rfl, ru⟩ := rvs.one
    cases ru
    obtain ⟨_, its, n, r, hl, e⟩ := I.lstM hs
    obtain ⟨its2, r2, ⟨o, e2, hc, n2, hd⟩, _⟩ := I.tuple ht
    have hl2 := r2.length
    refine call_meets F.slot_list_extend ⟨_, e, rfl⟩ F.entry_list_extend (F.args_list_extend_2 _ _) (ext_tup a its.toArray n b its2.toArray n2 o hc hd ?_ (by rw [List.size_toArray]; omega) (by rw [List.size_toArray, List.size_toArray]; omega)) ⟨e, e2, ?_⟩
    · rw [notLongL (by rw [List.size_toArray, List.size_toArray]; omega), Bool.and_false]; exact Bool.false_ne_true
    · refine ⟨.non, _, I.lset (its' := its ++ its2) hs e (by simp) (r.append r2) (by rw [List.length_append]; omega), rfl, ?_⟩
      exact p .non _ _ _ rfl (rh.wr ea (ob' := .lst (l ++ m)) ⟨_, L2.upd_same, (rl.append rm).mono (.wr rh ea)⟩) (Fr.wr ea) q
  | _ => exact (show False from h).elim
theorem m_insert : MtR X "list.insert" (rM X T .insert) := by
  intro pins s σ H x vs v us Q' I rx rvs ⟨dx, ds, μ, Q, hx, hv, rh, h, p⟩
  obtain ⟨d, i, e, e1, h⟩ := arg3_get h
  cases e1
  replace hv := hv.get2
  obtain ⟨y, z, rfl, hi, hv⟩ := hv
  obtain ⟨a, l, rfl, ea, h⟩ := rdR_get h
  obtain ⟨n, rfl, hn, hz, q⟩ := natO_get h
  cases hx; cases hi
  obtain ⟨xs, hs, rl⟩ := rh a _ ea
  exact mt_insert pins s σ H _ _ v us Q' I rx rvs ⟨a, xs, n, z, rfl, rfl, hs, by rw [← rl.length, ← sizeMax_eq]; exact hz, by omega, by omega, p .non _ _ _ rfl (rh.wr ea (ob' := .lst (l.take n ++ [e] ++ l.drop n)) ⟨_, L2.upd_same, (((rl.take n).append (.one hv)).append (rl.drop n)).mono (.wr rh ea)⟩) (Fr.wr ea) q⟩
theorem dget_some_of : ∀ {l : List (D × D)} {z : D × D} {k : D}, z ∈ l → D.eqb z.1 k = true → dget l k ≠ none
  | [], _, _, h, _ => by cases h
  | (j, d) :: r, z, k, h, e => by
    unfold dget
    split
    · simp
    · rename_i hj
      rcases List.mem_cons.mp h with rfl | h
      · exact absurd e hj
      · exact dget_some_of h e
theorem RepK.del {K : PySem.W.Frag} {x : D} (hx : isFlat x = true) : ∀ {l : List (D × D)} {kvs : List (Key × V)}, RepK K H l kvs → RepK K H (ddel l x) (dropK kvs (kOf x))
  | [], _, h => by rw [show _ = [] from h]; rfl
  | (k, d) :: r, _, h => by
    obtain ⟨κ, v, q, rfl, h1, hk, hv, h4⟩ := h
    obtain rfl : κ = kOf k := kV_inj (kOf_v hk h1)
    have ih := RepK.del hx h4
    have e := kOf_inj hk hx
    unfold ddel dropK at ih ⊢
    rw [List.filter_cons, List.filter_cons]
    cases he : D.eqb k x with
    | true =>
      have : kOf k = kOf x := of_decide_eq_true (e.trans he)
      simp only [he, this, Bool.not_true, ne_eq, not_true_eq_false, decide_false, Bool.false_eq_true, if_false]
      exact ih
    | false =>
      have : kOf k ≠ kOf x := of_decide_eq_false (e.trans he)
      simp only [he, this, Bool.not_false, ne_eq, not_false_eq_true, decide_true, if_true]
      exact ⟨_, _, _, rfl, h1, hk, hv, ih⟩
theorem RepVs.erase {K : PySem.W.Frag} {ds : List D} {vs : List V} (h : RepVs K H ds vs) (n : Nat) : RepVs K H (ds.eraseIdx n) (vs.eraseIdx n) := by
  rw [List.eraseIdx_eq_take_drop_succ, List.eraseIdx_eq_take_drop_succ]
  exact (h.take n).append (h.drop (n + 1))
theorem m_popAt : MtR X "list.pop" (rM X T .popAt) := by
  intro pins s σ H x vs v us Q' I rx rvs ⟨dx, ds, μ, Q, hx, hv, rh, h, p⟩
  obtain ⟨d, i, e1, h⟩ := arg2_get h
  cases e1
  replace hv := hv.get1
  obtain ⟨z, rfl, hi⟩ := hv
  obtain ⟨a, l, rfl, ea, h⟩ := rdR_get h
  obtain ⟨n, rfl, hn, h⟩ := natO_get h
  obtain ⟨e, el, q⟩ := optP_get h
  cases hx; cases hi
  obtain ⟨xs, hs, rl⟩ := rh a _ ea
  obtain ⟨y, hy, ry⟩ := rl.get el
  have hlt := (List.getElem?_eq_some_iff.mp hy).1
  refine mt_popAt pins s σ H _ _ v us Q' I rx rvs ⟨a, xs, n, n, y, rfl, rfl, hs, by omega, by omega, ?_, hy, p _ _ _ _ (ry.mono (.wr rh ea)) (rh.wr ea (ob' := .lst (l.eraseIdx n)) ⟨_, L2.upd_same, (rl.erase n).mono (.wr rh ea)⟩) (Fr.wr ea) q⟩
  exact seqIndex_of (by omega) (by omega)
theorem m_dpop : MtR X "dict.pop" (rM X T .dpop) := by
  intro pins s σ H x vs v us Q' I rx rvs ⟨dx, ds, μ, Q, hx, hv, rh, h, p⟩
  obtain ⟨d, k, z, e1, h⟩ := arg3_get h
  cases e1
  replace hv := hv.get2
  obtain ⟨y, w, rfl, hk, hz⟩ := hv
  obtain ⟨a, l, rfl, ea, hf, q⟩ := rdD_get h
  cases hx
  obtain ⟨kvs, hs, rk⟩ := rh a _ ea
  have ex := kOf_v hf hk
  subst ex
  obtain rfl : v = Value.ref a := rx
  cases rvs with
  | cons r1 rvs => cases rvs with
    | cons r2 rvs =>
      cases rvs
      cases e : dget l k with
      | none =>
        rw [e] at q
        have ev : valV kvs (kOf k) = none := by
          have := rk.isSome hf
          rw [e] at this
          cases hv : valV kvs (kOf k) with
          | none => rfl
          | some _ => rw [hv] at this; cases this
        refine d_popD I hs r1 ev fun s' I' => ⟨w, H, I', r2, ?_⟩
        have el : ddel l k = l := by
          unfold ddel
          rw [List.filter_eq_self]
          intro z hz
          cases hq : D.eqb z.1 k with
          | false => rfl
          | true => exact absurd (dget_some_of hz hq) (by rw [e]; simp)
        rw [el] at q
        rw [upd_id ea] at q
        exact p _ _ _ _ hz rh .refl q
      | some d =>
        rw [e] at q
        obtain ⟨v, h4, h5⟩ := rk.some hf e
        refine d_pop I hs r1 h4 (.inr ⟨_, rfl⟩) fun w' s' I' rw' => ⟨v, _, I', rw', ?_⟩
        exact p _ _ _ _ (h5.mono (.wr rh ea)) (rh.wr ea (ob' := .dF (ddel l k)) ⟨_, L2.upd_same, (rk.del hf).mono (.wr rh ea)⟩) (Fr.wr ea) q
theorem m_dpop1 : MtR X "dict.pop" (rM X T .dpop1) := by
  intro pins s σ H x vs v us Q' I rx rvs ⟨dx, ds, μ, Q, hx, hv, rh, h, p⟩
  obtain ⟨d, k, e1, h⟩ := arg2_get h
  cases e1
  replace hv := hv.get1
  obtain ⟨y, rfl, hk⟩ := hv
  obtain ⟨a, l, rfl, ea, hf, q⟩ := rdD_get h
  obtain ⟨d, e, q⟩ := optP_get q
  cases hx
  obtain ⟨kvs, hs, rk⟩ := rh a _ ea
  have ex := kOf_v hf hk
  subst ex
  obtain rfl : v = Value.ref a := rx
  cases rvs with
  | cons r1 rvs =>
    cases rvs
    obtain ⟨v, h4, h5⟩ := rk.some hf e
    refine d_pop I hs r1 h4 (.inl rfl) fun w' s' I' rw' => ⟨v, _, I', rw', ?_⟩
    exact p _ _ _ _ (h5.mono (.wr rh ea)) (rh.wr ea (ob' := .dF (ddel l k)) ⟨_, L2.upd_same, (rk.del hf).mono (.wr rh ea)⟩) (Fr.wr ea) q
/-! ### texts -/
theorem toPys_map : ∀ l : List D, toPys l = l.map toPy
  | [] => rfl
  | x :: r => by show toPy x :: toPys r = _; rw [toPys_map r]; rfl
theorem joinL_eq (a : List Nat) : ∀ zs : List (List Nat), TL.joinL a zs = joinS a zs
  | [] => rfl
  | [_] => rfl
  | x :: y :: r => by
    show x ++ (a ++ TL.joinL a (y :: r)) = x ++ a ++ joinS a (y :: r)
    rw [joinL_eq a (y :: r), List.append_assoc]
theorem strsD_get : ∀ {ds : List D} {zs : List (List Nat)}, strsD ds = some zs → ds = zs.map D.str
  | [], _, h => by cases h; rfl
  | .str x :: r, zs, h => by
    unfold strsD at h
    obtain ⟨ys, h1, rfl⟩ := Option.map_eq_some_iff.mp h
    rw [strsD_get h1]; rfl
  | .non :: _, _, h => by simp [strsD] at h
  | .bl _ :: _, _, h => by simp [strsD] at h
  | .int _ :: _, _, h => by simp [strsD] at h
  | .tup _ :: _, _, h => by simp [strsD] at h
  | .ref _ :: _, _, h => by simp [strsD] at h
  | .scr _ :: _, _, h => by simp [strsD] at h
theorem len_toS (z : List Nat) : (toS z).length = z.length := by show z.toArray.size = _; simp
theorem m_join : MtR X "str.join" (rM X T .join) := by
  intro pins s σ H x xs v us Q' I rx rvs ⟨dx, ds, μ, Q, hx, hv, rh, h, p⟩
  obtain ⟨d, e, e1, h⟩ := arg2_get h
  cases e1
  replace hv := hv.get1
  obtain ⟨y, rfl, hv⟩ := hv
  obtain ⟨a, rfl, h⟩ := strK_get h
  obtain ⟨l, q, vs, h, rfl, ho, rl⟩ := seq_get rh hv h
  obtain ⟨zs, e, hf, q⟩ := optP_get h
  obtain rfl := strsD_get e
  have ev := rl.strs
  subst ev
  cases hx
  refine mt_join pins s σ H _ _ v us Q' I rx rvs ⟨toS a, _, zs.map toS, rfl, rfl, ho.imp (·.1) (·.1), ?_, ?_⟩
  · have hf := of_decide_eq_true hf
    rw [List.map_map, List.length_map, len_toS]
    have e : ((fun z : Str => z.length) ∘ toS) = fun z : List Nat => z.length := funext fun z => len_toS z
    rw [e]; exact hf
  · have e : Txt.join (toS a) (zs.map toS) = toS (joinS a zs) := by rw [← joinL_eq]; exact SX.join_S a zs
    rw [e]
    exact p.str rh q
theorem m_split : MtR X "str.split" (rM X T .split) := by
  intro pins s σ H x xs v us Q' I rx rvs ⟨dx, ds, μ, Q, hx, hv, rh, h, p⟩
  obtain ⟨d, e, e1, h⟩ := arg2_get h
  cases e1
  replace hv := hv.get1
  obtain ⟨y, rfl, hv⟩ := hv
  obtain ⟨a, rfl, h⟩ := strK_get h
  obtain ⟨b, rfl, parts, e, ok, hz, q⟩ := strK_get h
  cases hx; cases hv
  cases b with
  | nil => cases ok
  | cons c S =>
    have ok : ((c :: S).all (fun c => decide (c < 256)) && !parts.isEmpty && parts.all fun p => !p.contains c) = true := ok
    rw [Bool.and_eq_true, Bool.and_eq_true] at ok
    obtain ⟨⟨o1, o2⟩, o3⟩ := ok
    have sp : Txt.split (toS a) (toS (c :: S)) = parts.map toS := by
      have e1 : toS a = Txt.join (toS (c :: S)) (parts.map toS) := by rw [e, ← joinL_eq]; exact (SX.join_S (c :: S) parts).symm
      rw [e1]
      refine TL.split_join (s := c) (S := S) (by simp [TL.tl, toS]) ?_ (fun z => ?_) fun z hz => ?_
      · show ((c :: S).toArray).all _ = true
        rw [List.all_toArray]; exact o1
      · have := List.map_eq_nil_iff.mp z
        rw [this] at o2; cases o2
      · obtain ⟨t, ht, rfl⟩ := List.mem_map.mp hz
        have := List.all_eq_true.mp o3 t ht
        simpa [TL.tl, toS] using this
    refine mt_split pins s σ H _ _ v us Q' I rx rvs ⟨toS a, toS (c :: S), rfl, rfl, by rw [len_toS]; rfl, by rw [len_toS, ← sizeMax_eq]; exact hz, ?_⟩
    rw [sp]
    have er : ((parts.map toS).map tlS) = parts := by
      rw [List.map_map]
      exact (List.map_congr_left fun z _ => by simp [tlS, toS]).trans (List.map_id parts)
    exact p.lst rh (RepVs.of_strs _) (by rw [er]; exact q)
theorem figs_num : ∀ (k n : Nat), n < k → figs k n = TL.numL n
  | 0, _, h => by omega
  | k + 1, n, h => by
    unfold figs
    split
    · rename_i h1; rw [TL.numL_lt h1]
    · rename_i h1
      rw [TL.numL_step (by omega), figs_num k (n / 10) (by omega)]
theorem natS_num (n : Nat) : natS n = TL.numL n := figs_num (n + 1) n (by omega)
theorem str_int (i : Int) : (toString i : Str) = toS (intS i) := by
  refine TL.ext_tl ?_
  show TL.tl (Str.ofString (toString i)) = intS i
  unfold intS
  cases i with
  | ofNat n =>
    rw [if_neg (show ¬ Int.ofNat n < 0 from Int.not_lt.mpr (Int.natCast_nonneg n))]
    exact (TL.tl_num n).trans (natS_num n).symm
  | negSucc n =>
    rw [if_pos (Int.negSucc_lt_zero n)]
    have e : toString (Int.negSucc n) = "-" ++ toString ((n + 1 : Nat) : Int) := rfl
    rw [e, TL.tl_ofString, String.toList_append, List.map_append, ← TL.tl_ofString (toString ((n + 1 : Nat) : Int)), TL.tl_num, natS_num]
    rfl
theorem p_str : CallR X (.type "str") (rP X T .str) := by
  intro pins s σ H xs us Q' I r ⟨ds, μ, Q, rv, rh, h, p⟩
  obtain ⟨d, rfl, h⟩ := arg1_get h
  replace rv := rv.get1
  obtain ⟨v, rfl, rv⟩ := rv
  cases d with
  | str x => cases rv; exact SkE.call_str_str pins s σ H _ us Q' I r ⟨_, rfl, p.str rh h⟩
  | int i =>
    cases rv
    refine call_str_int pins s σ H _ us Q' I r ⟨i, rfl, ?_, by rw [str_int]; exact p.str rh h.2⟩
    have := h.1
    by_cases h0 : i.natAbs = 0
    · rw [h0]; decide
    · exact (Nat.log2_lt h0).mpr (Nat.lt_of_lt_of_le this (Nat.pow_le_pow_right (by decide) (by decide)))
  | _ => exact h.elim
theorem m_index (hu : X.A.units + 65 < cLine) : MtR X "list.index" (rM X T .index) := by
  intro pins s σ H x xs v us Q' I rx rvs ⟨dx, ds, μ, Q, hx, hv, rh, h, p⟩
  obtain ⟨d, y, e1, h⟩ := arg2_get h
  cases e1
  replace hv := hv.get1
  obtain ⟨vy, rfl, hv⟩ := hv
  obtain ⟨a, l, rfl, ea, oy, ol, h⟩ := rdR_get h
  obtain ⟨j, ej, q⟩ := optP_get h
  cases hx
  obtain ⟨vs, hs, rl⟩ := rh a _ ea
  have hj : firstAt l y = some j := ej
  unfold firstAt at hj
  obtain ⟨hlt, h1, h2⟩ := List.findIdx?_eq_some_iff_getElem.mp hj
  have at_ : ∀ {m : Nat} {d : D}, l[m]? = some d → (toPys l)[m]? = some (toPy d) := fun {m d} e => by
    rw [toPys_map, List.getElem?_map, e]; rfl
  have ok : ∀ {d : D}, d ∈ l → D.ok 60 d = true := fun {d} hd => List.all_eq_true.mp ol d hd
  refine mt_indexD hu pins s σ H _ _ v us Q' I rx rvs ⟨a, vy, toPy y, toPys l, j, toPy l[j], rfl, rfl, .lst (SqL.of hs) (rep_dps ol rl), rep_dp oy hv, shaped_list ol, shaped_of (ok_lay oy), at_ (List.getElem?_eq_getElem hlt), by rw [eqv_eqb (ok (List.getElem_mem hlt)) oy]; exact h1, fun m z hm hz => ?_, p.int rh q⟩
  have hml : m < l.length := by omega
  rw [at_ (List.getElem?_eq_getElem hml)] at hz
  cases hz
  rw [eqv_eqb (ok (List.getElem_mem hml)) oy]
  simpa using h2 m hm
end
end MP

set_option linter.all false
set_option maxRecDepth 100000
set_option maxHeartbeats 1000000
set_option Elab.async false
/-! MP5d: e[::-1], displays of dicts. -/
namespace MP
open PySem PySem.Spec PyProof.Rows L2
theorem filterMap_eq {α β : Type} {f g : α → Option β} : ∀ {l : List α}, (∀ x ∈ l, f x = g x) → l.filterMap f = l.filterMap g
  | [], _ => rfl
  | x :: r, h => by
    rw [List.filterMap_cons, List.filterMap_cons, h x (List.mem_cons_self ..), filterMap_eq fun y hy => h y (List.mem_cons_of_mem _ hy)]
theorem rev_pick (xs : Array Value) : ((List.range xs.size).filterMap fun (m : Nat) => xs[((xs.size : Int) - 1 + (m : Int) * (-1)).toNat]?).toArray = xs.toList.reverse.toArray := by
  have e : (List.range xs.size).filterMap (fun (m : Nat) => xs[((xs.size : Int) - 1 + (m : Int) * (-1)).toNat]?) = (List.range xs.size).filterMap fun (m : Nat) => (xs.toList.reverse.toArray)[(((0 : Nat) : Int) + (m : Int) * 1).toNat]? := by
    refine filterMap_eq fun m hm => ?_
    have hm := List.mem_range.mp hm
    have e1 : ((xs.size : Int) - 1 + (m : Int) * (-1)).toNat = xs.size - 1 - m := by omega
    have e2 : (((0 : Nat) : Int) + (m : Int) * 1).toNat = m := by omega
    rw [e1, e2]
    show xs[xs.size - 1 - m]? = xs.toList.reverse.toArray[m]?
    have h3 : xs.toList.reverse.toArray[m]? = xs.toList.reverse[m]? := by simp
    rw [h3, List.getElem?_reverse (by rw [Array.length_toList]; exact hm), Array.length_toList, Array.getElem?_toList]
  rw [e, HT.pick_gen, List.drop_zero, List.take_of_length_le (by simp)]
theorem rev_tup {P : Program} {w : World} {A : Around} {E : Value → Shared → Prop} {s : Shared} {t sl : Addr} {its : List Value} {vs : Value} {Q : Value → Shared → Prop} (ht : IsTup s.heap t its.toArray) (hs : s.heap.IsSliceOf sl .none .none vs) (ps : IsPart vs (some (-1)))
    (h : Q (.ref s.heap.objs.size) { s with heap := s.heap.push { cls := .type "tuple", data := .seq its.reverse.toArray } }) (hz : its.length ≤ sizeLine) : wpAny (model P w) A (getItem (.ref t) (.ref sl)) Q E s := by
  obtain ⟨os, o1, o2, o3⟩ := id hs
  have hT : s.TypeIs (.ref sl) "slice" := ⟨os, o1, o2⟩
  unfold getItem
  try with_reducible refine wpAny_holding ?_
  first | refine wpAny_bind (wpAny_pure ?_) | skip
  refine wpAny_bind (wpAny_sequenceKey ht.typeIs (by decide) (wpAny_bind (wpAny_callSpecial?_slot (name := Str.ofString "__getitem__") ht.typeIs PyProof.Rows.slot_tuple_getitem (wpAny_call_entry PyProof.Rows.slot_tuple_getitem ht.typeIs PyProof.Rows.entry_tuple_getitem ?_ (PyProof.Rows.args_tuple_getitem _ _)))))
  show wpAny _ _ (Builtin.Tuple.tupleItemsOf (.ref t) >>= _) _ _ s
  refine wpAny_bind (tupleItemsOf_ ht (wpAny_bind (wpAny_typeOf hT ?_)))
  rw [if_pos (by decide)]
  refine wpAny_bind ?_
  unfold Builtin.Slice.sliceApplied Builtin.Slice.sliceFields
  refine wpAny_bind (wpAny_bind (wpAny_field o1 o3 (x := .none) rfl (wpAny_bind (wpAny_field o1 o3 (x := .none) rfl (wpAny_bind (wpAny_field o1 o3 (x := vs) rfl (wpAny_pure ?_)))))))
  refine wpAny_bind (HT.slicePart_ ps ?_)
  show wpAny _ _ (if ((-1 : Int) == 0) = true then _ else _) _ _ s
  rw [if_neg (by decide)]
  refine wpAny_bind (HT.slicePart_ .none (wpAny_bind (HT.slicePart_ .none (wpAny_bind (wpAny_pure ?_)))))
  show wpAny _ _ (match Builtin.Slice.sliceAdjust none none (-1) ((its.toArray.size : Nat) : Int) with | (lo, hi) => pure (lo, (-1 : Int), Builtin.Slice.slicePlaces lo hi (-1))) _ _ s
  have e1 : Builtin.Slice.sliceAdjust none none (-1) ((its.toArray.size : Nat) : Int) = (((its.toArray.size : Nat) : Int) - 1, -1) := rfl
  have e2 : Builtin.Slice.slicePlaces (((its.toArray.size : Nat) : Int) - 1) (-1) (-1) = its.toArray.size := by
    unfold Builtin.Slice.slicePlaces
    rw [if_neg (by decide)]
    split
    · have : (((its.toArray.size : Nat) : Int) - 1 - -1 - 1) / -(-1) = ((its.toArray.size : Nat) : Int) - 1 := by
        rw [show -(-1 : Int) = 1 from rfl, Int.ediv_one]; omega
      rw [this]; omega
    · omega
  rw [e1]
  show wpAny _ _ (pure (((its.toArray.size : Nat) : Int) - 1, (-1 : Int), Builtin.Slice.slicePlaces (((its.toArray.size : Nat) : Int) - 1) (-1) (-1))) _ _ s
  rw [e2]
  refine wpAny_pure ?_
  show wpAny _ _ (if ((((its.toArray.size : Nat) : Int) - 1) == 0 && (-1 : Int) == 1 && its.toArray.size == its.toArray.size) = true then _ else _) _ _ s
  rw [if_neg (by simp), rev_pick]
  have hq : sizeOk (.seq its.toArray.toList.reverse.toArray) := by
    show its.toArray.toList.reverse.toArray.size ≤ sizeLine
    simpa using hz
  first
    | exact wpAny_bind (m := Builtin.Tuple.tupleExact _) (wpAny_newObj_type (wpAny_pure ⟨_, rfl, wpAny_pure h⟩) hq)
    | exact wpAny_bind (m := Builtin.Tuple.tupleExact _) (wpAny_newObj_type (wpAny_bind (wpAny_pure (wpAny_pure ⟨_, rfl, wpAny_pure h⟩))) hq)
    | exact wpAny_bind (wpAny_bind (m := Builtin.Tuple.tupleExact _) (wpAny_newObj_type (wpAny_pure (wpAny_pure ⟨_, rfl, wpAny_pure h⟩)) hq))
    | exact wpAny_bind (wpAny_bind (m := Builtin.Tuple.tupleExact _) (wpAny_newObj_type (wpAny_pure ⟨_, rfl, wpAny_pure h⟩) hq))
section
variable {X : Cx} {T : Tab} {G : Ctx} {H H' H1 : Hp} {μ μ' μ1 : Sto} {Q : D → Sto → Prop} {Q' : VK} {σ : L2.St} {ρ : Env}
theorem e_rev {a : Expr} {ca : E} {k : Nat} {p1 p2 p3 pos : Pos} (ha : PE X a (tE X T G ca)) : PE X (.Subscript a (.Slice none none (some (.UnaryOp .USub (.Constant (.int 1) k p1) p2)) p3) pos) (tE X T G (.rev ca)) := by
  refine ⟨fun pins s σ H Q' I h => ?_⟩
  obtain ⟨ρ, μ, Q, rs, rh, hw, p⟩ := h
  refine Subscript_ (thn (ha.run pins s σ H (fun x H1 => ∃ d μ1, RepV X.K H1 d x ∧ RepH X.w X.K T H1 μ1 ∧ Fr H μ H1 μ1 ∧ (match d with
      | .tup l => Q (.tup l.reverse) μ1
      | .ref p => rdL μ1 p fun l => new μ1 (.lst l.reverse) Q
      | _ => False)) I ⟨ρ, μ, _, rs, rh, hw, fun d v H1 μ1 rv rh1 f1 q1 => ⟨d, μ1, rv, rh1, f1, q1⟩⟩) fun v s1 ⟨x, H1, I1, r1, d, μ1, rx, rh1, f1, hq⟩ => ?_)
  have st : PO X (some (.UnaryOp .USub (.Constant (.int 1) k p1) p2)) (tPart (tUn (rU fun i => .int (-i)) (tC (.int 1)))) := po_some (pe_un un_neg pe_int)
  refine wpAny_Slice (thn (po_none.run pins s1 σ H1 (fun o J => o = none ∧ J = H1) I1 ⟨rfl, rfl⟩) fun vl s2 ⟨l, J2, I2, pl, el, e2⟩ => ?_)
  subst el; subst e2
  refine thn (po_none.run pins s2 σ J2 (fun o J => o = none ∧ J = J2) I2 ⟨rfl, rfl⟩) fun vu s3 ⟨u, J3, I3, pu, eu, e3⟩ => ?_
  subst eu; subst e3
  refine thn (st.run pins s3 σ J3 (fun o J => o = some (-1) ∧ J = J3) I3 ⟨1, rfl, -1, rfl, rfl, rfl⟩) fun vs s4 ⟨o, J4, I4, ps, eo, e4⟩ => ?_
  subst eo; subst e4
  have I5 : Inv X pins σ J4 { s4 with heap := s4.heap.push { cls := .type "slice", data := .fields #[vl, vu, vs] } } := I4.kept (t' := s4.toks) fun b ob q => Heap.get?_push_of_some _ q
  have hsl := Heap.IsSliceOf.new s4.heap vl vu vs
  cases d with
  | tup l =>
    obtain ⟨t, ws, rfl, hst, rl⟩ := rx
    obtain rfl : v = Value.ref t := r1
    obtain ⟨its, r, ht, hz⟩ := I5.tuple hst
    cases pl; cases pu
    have ez : its.length ≤ sizeLine := by rw [← r.length]; exact hz
    refine tail_any (s := { s4 with heap := s4.heap.push { cls := .type "slice", data := .fields #[Value.none, Value.none, vs] } }) (ops := [.ref t, .ref s4.heap.objs.size]) ht.typeIs PyProof.Rows.slot_tuple_getitem.lookup (rev_tup ht hsl ps ⟨.ref _, _, I5.laid (t' := s4.toks) (o := .tup ws.reverse) (fun b ob q => Heap.get?_push_of_some _ q) (Nat.le_refl _) ?_, rfl, p.step f1 |>.tup rh1 rl.reverse hq _ (I5.hok.fresh (Nat.le_refl _))⟩ ez) (by with_unfolding_all rfl)
    exact ⟨by rw [List.length_reverse]; exact hz, _, r.reverse, ⟨_, Heap.get?_push_size _ rfl, rfl, _, rfl⟩⟩
  | ref a =>
    cases rx
    obtain rfl : v = Value.ref a := r1
    obtain ⟨l, e, hq⟩ := rdL_get hq
    obtain ⟨ws, hs, rl⟩ := rh1 a _ e
    obtain ⟨its, r, ht, hz⟩ := I5.list (SqL.of hs)
    have ez : its.toArray.size ≤ sizeLine := by rw [List.size_toArray, ← r.length]; exact hz
    refine tail_any (s := { s4 with heap := s4.heap.push { cls := .type "slice", data := .fields #[vl, vu, vs] } }) (ops := [.ref a, .ref s4.heap.objs.size]) ht.isList.typeIs PySem.slot_list_getitem.lookup (wpAny_getItem_list_slice ht.isList hsl pl pu ps (by decide) ?_ ez) (by with_unfolding_all rfl)
    rw [PySem.W.krv_pick]
    exact ⟨.ref _, _, I5.laid (t' := s4.toks) (o := .lst ws.reverse) (fun b ob q => Heap.get?_push_of_some _ q) (Nat.le_refl _) ⟨by rw [List.length_reverse]; exact hz, _, 0, r.reverse, Heap.get?_push_size _ rfl⟩, rfl, (p.step f1).lst rh1 rl.reverse hq _ (I5.hok.fresh (Nat.le_refl _))⟩
  | _ => exact hq.elim
/-! ### displays of dicts -/
def inter : List (E × E) → E
  | [] => .nil
  | (a, b) :: r => .cons a (.cons b (inter r))
def flatP : List (D × D) → List D
  | [] => []
  | (a, b) :: r => a :: b :: flatP r
def RepPs (K : PySem.W.Frag) (H : Hp) : List (D × D) → List (V × V) → Prop
  | [], ps => ps = []
  | (a, b) :: r, ps => ∃ x y q, ps = (x, y) :: q ∧ RepV K H a x ∧ RepV K H b y ∧ RepPs K H r q
theorem RepPs.mono {K : PySem.W.Frag} (x : Keeps H H') : ∀ {l : List (D × D)} {ps : List (V × V)}, RepPs K H l ps → RepPs K H' l ps
  | [], _, h => h
  | (_, _) :: _, _, ⟨a, b, q, e, h1, h2, h3⟩ => ⟨a, b, q, e, h1.mono x, h2.mono x, RepPs.mono x h3⟩
theorem pairUp_flat : ∀ l : List (D × D), pairUp (flatP l) = some l
  | [] => rfl
  | (a, b) :: r => by show (pairUp (flatP r)).map ((a, b) :: ·) = _; rw [pairUp_flat r]; rfl
theorem pairs_of : ∀ {cs : List (E × E)} {H : Hp} {μ : Sto} {Qa : List D → Sto → Prop} {R : List (V × V) → Hp → Prop}, RepS X.K H ρ σ → RepH X.w X.K T H μ → wpA G (inter cs) ρ μ Qa XF →
    (∀ l ps H' μ', RepPs X.K H' l ps → RepH X.w X.K T H' μ' → Fr H μ H' μ' → Qa (flatP l) μ' → R ps H') → tPairs (cs.map fun z => (tE X T G z.1, tE X T G z.2)) σ H R
  | [], H, μ, Qa, R, rs, rh, hw, h => h [] [] H μ rfl rh .refl hw
  | (a, b) :: cs, H, μ, Qa, R, rs, rh, hw, h => by
    show tE X T G a σ H fun x H1 => tE X T G b σ H1 fun y H2 => tPairs (cs.map fun z => (tE X T G z.1, tE X T G z.2)) σ H2 fun ps H3 => R ((x, y) :: ps) H3
    refine ⟨ρ, μ, _, rs, rh, hw, fun d v H1 μ1 rv rh1 f1 q1 => ⟨ρ, μ1, _, rs.mono (f1.keeps rh), rh1, q1, fun d' v' H2 μ2 rv' rh2 f2 q2 => ?_⟩⟩
    refine pairs_of (rs.mono ((f1.trans f2).keeps rh)) rh2 q2 fun l ps H3 μ3 rp rh3 f3 q3 => ?_
    exact h ((d, d') :: l) ((v, v') :: ps) H3 μ3 ⟨v, v', ps, rfl, rv.mono ((f2.trans f3).keeps rh1), rv'.mono (f3.keeps rh2), rp⟩ rh3 ((f1.trans f2).trans f3) q3
theorem RepPs.keys {K : PySem.W.Frag} : ∀ {l : List (D × D)} {ps : List (V × V)}, RepPs K H l ps → l.all (fun p => isFlat p.1) = true → ∃ kvs : List (Key × V), ps = kvs.map (fun kv => (kV kv.1, kv.2)) ∧ kvs.length = l.length ∧ ∀ {m : List (D × D)} {ms : List (Key × V)}, RepK K H m ms → RepK K H (dputs m l) (mergeK ms kvs)
  | [], _, h, _ => by rw [show _ = [] from h]; exact ⟨[], rfl, rfl, fun h => h⟩
  | (a, b) :: r, _, ⟨x, y, q, e, h1, h2, h3⟩, hf => by
    rw [List.all_cons, Bool.and_eq_true] at hf
    obtain ⟨kvs, rfl, h4, h5⟩ := RepPs.keys h3 hf.2
    subst e
    have ex := kOf_v hf.1 h1
    subst ex
    exact ⟨(kOf a, y) :: kvs, rfl, by rw [List.length_cons, List.length_cons, h4], fun h => h5 (h.put hf.1 h2)⟩
theorem tup1_get {l : List (D × D)} {p : D × D} (h : tup1 l = some p) : l = [p] ∧ isTupKey p.1 = true := by
  unfold tup1 at h
  split at h
  · split at h
    · rename_i hk
      cases h
      exact ⟨rfl, hk⟩
    · cases h
  · cases h
theorem tup1_flat {l : List (D × D)} (h : tup1 l = none) {μ : Sto} {Q : D → Sto → Prop} (q : dictP l μ Q) : l.length ≤ 15 ∧ l.all (fun p => isFlat p.1) = true ∧ new μ (.dF (dputs [] l)) Q := by
  unfold dictP at q
  rw [h] at q; exact q
/-- the new dict, all its entries put in -/
theorem dict_put {pins : List (PySem.Addr × PySem.Obj)} {s2 : PySem.Shared} {σ : L2.St} {H0 H2 : Hp} {μ μ2 : MP.Sto} {d : PySem.Addr} {l : List (D × D)} {ps : List (V × V)} {ws : List (Value × Value)} {Q : D → MP.Sto → Prop} {Q' : L2.VK}
    (I2 : Inv X pins σ H2 s2) (rp : RepPs X.K H2 l ps) (rv : L2.VV ps ws) (rh2 : RepH X.w X.K T H2 μ2) (e : H2 d = some (.dK [])) (hd : H0 d = none) (f2 : Fr (L2.upd H0 d (.dK [])) μ H2 μ2) (rh : RepH X.w X.K T H0 μ) (hu : (NKd X).room X.A) (q : dictP l μ2 Q)
    (p : ∀ (a : D) (v : V) (H' : Hp) (μ' : MP.Sto), RepV X.K H' a v → RepH X.w X.K T H' μ' → Fr H0 μ H' μ' → Q a μ' → Q' v H') :
    wpAny (model X.prog X.w) X.A (storeAll d ws) (fun _ s' => EP X pins σ Q' (.ref d) s') X.xe s2 := by
  have hv := f2.out d (.dK []) L2.upd_same (rh.free hd) fun _ => HO.noConfusion
  have f0 : Fr H0 μ (L2.upd H0 d (.dK [])) μ := Fr.newT hd
  cases ht : tup1 l with
  | some z =>
    obtain ⟨k, v0⟩ := z
    obtain ⟨rfl, hk⟩ := tup1_get ht
    unfold dictP at q
    rw [ht] at q
    obtain ⟨x, y, r0, e0, rx, ry, e1⟩ := rp
    rw [show r0 = [] from e1] at e0
    subst e0
    obtain ⟨hk7, ds, ed⟩ := tkey_get hk
    have rx' : RepV X.K H2 (.tup ds) x := by rw [← ed]; exact rx
    obtain ⟨t, vs, rfl, st, rl⟩ := rx'
    cases rv with
    | cons h1 h2 =>
      rename_i w1 wr
      cases h2
      obtain ⟨wx, wy⟩ := w1
      obtain rfl : wx = Value.ref t := h1.1
      have rhD : RepH X.w X.K T H2 (MP.upd μ2 d (.dF [])) := rh2.own (.inr ⟨_, rfl⟩) hv.1 ⟨[], hv.1, rfl⟩
      have eD : MP.upd μ2 d (.dF []) d = some (.dF []) := upd_at
      obtain ⟨dd, hs, mu⟩ := dF_nil I2 rhD eD
      unfold storeAll
      rw [List.forIn_cons]
      refine wpAny_bind (wpAny_bind (wpAny_dictSet_heap hu (tkey_is I2 hk rx) dd (fun h' hd' sb => wpAny_pure ?_) (by decide)))
      refine wpAny_pure ?_
      obtain ⟨H', I', rh', f'⟩ := dT_wr (tk := s2.toks + (NKd X).draws (toNK k)) I2 rhD eD (by intro _ z; cases z) mu hs (l := [(k, v0)]) (show 1 ≤ sizeMax by decide) (RepX.put rx hk ry h1.2 (l := []) (xs := []) rfl) hd' sb
      have eu : MP.upd (MP.upd μ2 d (.dF [])) d (.dT [(k, v0)]) = MP.upd μ2 d (.dT [(k, v0)]) := funext fun b => by
        by_cases hb : b = d
        · subst hb; rw [upd_at, upd_at]
        · rw [upd_off hb, upd_off hb, upd_off hb]
      rw [eu] at rh' f'
      refine ⟨.ref d, H', I', rfl, p (.ref d) _ _ _ rfl rh' ⟨fun a o ha hm hn => ?_, fun a l u ha hm => ?_⟩ (q d hv.2)⟩
      · have had : a ≠ d := ne_at ha hd
        obtain ⟨g1, g2⟩ := (f0.trans f2).out a o ha hm hn
        exact f'.out a o g1 (by rw [upd_off had]; exact g2) hn
      · have had : a ≠ d := ne_at ha hd
        obtain ⟨g1, g2⟩ := (f0.trans f2).lk a l u ha hm
        exact f'.lk a l u g1 (by rw [upd_off had]; exact g2)
  | none =>
    obtain ⟨h15, hf, q⟩ := tup1_flat ht q
    obtain ⟨kvs, e1, e2, e3⟩ := rp.keys hf
    subst e1
    obtain ⟨rs, c, rk⟩ := carries_of rv
    obtain ⟨hz, hs, vs0, r0, dd⟩ := dk_of I2.hok hv.1
    cases r0
    have lk : kvs.length = rs.length := by
      have : ∀ {a : List (Key × V)} {b : List (Key × Value)}, KV a b → a.length = b.length := fun {a b} h => by
        induction h with
        | nil => rfl
        | cons _ _ ih => simp [ih]
      exact this rk
    have sz : sizeLine = sizeMax := sizeMax_eq.symm
    have lm : (mergeK [] kvs).length ≤ sizeLine := by
      have h1 := length_mergeK kvs []
      simp only [List.length_nil] at h1
      rw [sz]; simp [sizeMax]; omega
    have y : Way (.dK []) := .inr ⟨[], rfl⟩
    have kp : Keeps H2 (L2.upd H2 d (.dK (mergeK [] kvs))) := y.kp hv.1
    have rkk : RepK X.K H2 (dputs [] l) (mergeK [] kvs) := e3 (m := []) (ms := []) rfl
    refine wpAny_storeAll ws rs [] s2 _ c dd (by rw [sz]; simp [sizeMax]; omega) fun h' dd' sb => ?_
    have he : ∃ q, h'.get? d = some q := by
      obtain ⟨q, _, _, hq, _⟩ := dd'
      exact ⟨q, hq⟩
    refine ⟨.ref d, L2.upd H2 d (.dK (mergeK [] kvs)), d_write I2 (by rw [hv.1]; exact True.intro) sb he (dk_new lm hs (KV.merge rk Paired.nil) dd'), rfl, ?_⟩
    refine p (.ref d) _ _ (MP.upd μ2 d (.dF (dputs [] l))) rfl ((rh2.hid y hv.1 hv.2).own (.inr ⟨_, rfl⟩) L2.upd_same ⟨_, L2.upd_same, rkk.mono kp⟩) ⟨fun a o ha hm hn => ?_, fun a l u ha hm => ?_⟩ (q d hv.2)
    · have had : a ≠ d := ne_at ha hd
      obtain ⟨h1, h2⟩ := (f0.trans f2).out a o ha hm hn
      exact ⟨by rw [L2.upd_ne had]; exact h1, by rw [upd_off had]; exact h2⟩
    · have had : a ≠ d := ne_at ha hd
      obtain ⟨h1, h2⟩ := (f0.trans f2).lk a l u ha hm
      exact ⟨by rw [L2.upd_ne had]; exact h1, by rw [upd_off had]; exact h2⟩
theorem e_dict (hu : X.A.units + 65 < cLine) {keys : List (Option Expr)} {values : List Expr} {cs : List (E × E)} {pos : Pos} (hp : PPs X pos keys values (cs.map fun z => (tE X T G z.1, tE X T G z.2))) (hall : keys.all (·.isSome) = true) (hl : keys.length = values.length) (h0 : keys ≠ []) (h15 : keys.length ≤ 15) :
    PE X (.Dict keys values pos) (tE X T G (.dict (inter cs))) := ⟨fun pins s σ H Q' I ⟨ρ, μ, Q, rs, rh, hw, p⟩ => by
  have hd : H s.heap.objs.size = none := I.hok.fresh (Nat.le_refl _)
  have I1 := I.laid (t' := s.toks) (o := .dK []) (fun _ _ q => Heap.get?_push_of_some { cls := Value.type "dict", data := Data.dict #[] } q) (Nat.le_refl s.heap.objs.size) (dk_empty s.heap I.big)
  have rh0 := rh.newT (o := .dK []) hd
  have f0 : Fr H μ (L2.upd H s.heap.objs.size (.dK [])) μ := Fr.newT hd
  refine wpAny_Dict_any hall hl h0 h15 (thn (hp.run pins _ σ _ (fun ps H2 => ∃ l μ2, RepPs X.K H2 l ps ∧ RepH X.w X.K T H2 μ2 ∧ Fr (L2.upd H s.heap.objs.size (.dK [])) μ H2 μ2 ∧ optP (pairUp (flatP l)) fun l => dictP l μ2 Q) I1 (pairs_of (rs.mono (f0.keeps rh)) rh0 hw fun l ps H2 μ2 rp rh2 f2 q2 => ⟨l, μ2, rp, rh2, f2, q2⟩)) fun ws s2 hh => ?_)
  obtain ⟨ps, H2, I2, rel, l, μ2, rp, rh2, f2, q2⟩ := hh
  obtain ⟨l', e, q2⟩ := optP_get q2
  rw [pairUp_flat] at e
  cases e
  have hv := f2.out _ (.dK []) L2.upd_same (rh.free hd) fun _ => HO.noConfusion
  exact dict_put I2 rp rel rh2 hv.1 hd f2 rh (by show X.A.units + 8 < cLine; omega) q2 p⟩
end
end MP

set_option linter.all false
set_option maxRecDepth 100000
set_option maxHeartbeats 1000000
set_option Elab.async false
/-! MP5e: sorted by a key that is a lambda: its argument's first item; remove and count of ints. -/
namespace MP
open PySem PySem.Spec PyProof.Rows L2
/-! ### the lambda called -/
/-- x[0], x a local of the lambda -/
abbrev lamPar (x : Str) (p : Pos) : Arguments := ⟨[], [⟨x, none, p⟩], none, [], [], none, []⟩
abbrev lamSub (x : Str) (p p1 p2 : Pos) (k : Nat) : Expr := .Subscript (.Name x p) (.Constant (.int 0) k p1) p2
theorem lam_bind {x q : Str} {p : Pos} {body : Expr} {scope : Scope} {pm cdv ctv v : Value} : bindArgs (PySem.W.kla_fn "<lambda>" q (lamPar x p) body scope [] pm cdv ctv) ⟨[v], []⟩ = pure [(x, v)] := by
  have hs : seqItems? Value.none = pure none := rfl
  unfold bindArgs
  dsimp only [PySem.W.kla_fn]
  rw [hs]
  simp
section
variable {prog : Program} {w : World} {A : Around} {s : Shared}
theorem key_turn {f : Addr} {x q y : Str} {p p1 p2 p3 : Pos} {k : Nat} {scope : Scope} {pm ctv : Value} {c' t : Addr} {its : List Value} {tk : Tok} (hr : A.depth < recursionLimit)
    (ho : s.heap.get? f = some (PySem.W.kla_obj "<lambda>" q (lamPar x p) (lamSub x p1 p2 p3 k) scope [] pm c' ctv)) (hco : scope.isCoroutine = false) (hgen : scope.isGenerator = false) (hk : scope.kind = .function) (hn : scope.names = [(x, .local)])
    (hd : (x == ("__debug__" : Str)) = false) (hcd : s.heap.CodeRec (.ref c') q) (lim : s.heap.NoLimit) (ht : IsTup s.heap t its.toArray) (hi : its[0]? = some (.str y tk)) :
    wpAny (model prog w) A (call (.ref f) [.ref t]) (PySem.W.KeyPure (.str y) s) (fun _ _ => False) s := by
  refine wpAny_call (codeAny_mono (R := fun r s' => ∃ u, r = .ok (.ret u) ∧ PySem.W.KeyPure (.str y) s u s') (PySem.W.kla_callFunE hr ho rfl hco hgen rfl hcd ?_) fun r s' hq => ?_)
  · rw [show bindArgs _ _ = pure [(x, Value.ref t)] from lam_bind]
    refine wpAny_pure (wpAny_newFunctionEnv (fun y hy => by rw [hn] at hy; simp at hy; rw [hy]; exact fun z => by cases z) (fun y hy => by simp at hy; rw [hy, hn]; simp) (fun h₁ hns hsb => ⟨lim.fresh _ hsb, ?_⟩) hk)
    have kp : ∀ b o, s.heap.get? b = some o → h₁.get? b = some o := fun b o e => hsb.extBut b o (Nat.ne_of_lt (Heap.lt_size e)) (Heap.get?_push_of_some _ e)
    refine PySem.W.kla_codeExpr ?_
    refine Subscript_ (wpAny_Name (wpAny_loadName_local (v := .ref t) hk ?_ hns ?_ (wpAny_Constant_int ?_)) hd)
    · show scope.names.lookup x = some .local
      rw [hn]; simp
    · simp
    · have ht' : IsTup h₁ t its.toArray := by
        obtain ⟨ob, e, c⟩ := ht
        exact ⟨ob, kp _ _ e, c⟩
      exact item_tupleL (j := 0) (x := .str y tk) ht' (by decide) (by decide) (by
        unfold seqIndex?
        cases its with
        | nil => simp at hi
        | cons a r => simp) hi ⟨_, rfl, h₁, _, rfl, kp, .str y tk⟩
  · obtain ⟨u, rfl, h⟩ := hq
    exact h
end
/-! ### the order -/
/-- an item's key -/
def kyOf : D → PyData
  | .tup (.str x :: _) => .str (toS x)
  | _ => .none
theorem strKey_get {d : D} (h : hasStrKey d = true) : ∃ x r, d = .tup (.str x :: r) := by
  cases d with
  | tup l =>
    cases l with
    | nil => cases h
    | cons e r =>
      cases e with
      | str x => exact ⟨x, r, rfl⟩
      | _ => cases h
  | _ => cases h
theorem le_keys {d e : D} (hd : hasStrKey d = true) (he : hasStrKey e = true) (h : PySem.W.dataLe false kyOf d e = true) : keyLe d e := by
  obtain ⟨x, r, rfl⟩ := strKey_get hd
  obtain ⟨y, t, rfl⟩ := strKey_get he
  show strLt y x = false
  have h : (!(decide (y < x) || (!decide (x < y) && false))) = true := h
  rw [Bool.and_false, Bool.or_false] at h
  rw [strLt_dec]
  simpa using h
theorem each_zip {α β : Type} {R : α → β → Prop} : ∀ {as : List α} {bs : List β}, PySem.W.EachIs R as bs → ∃ ys : List (α × β), ys.map (·.1) = as ∧ ys.map (·.2) = bs ∧ ∀ y ∈ ys, R y.1 y.2
  | _, _, .nil => ⟨[], rfl, rfl, fun _ h => by cases h⟩
  | a :: _, b :: _, .cons h t => by
    obtain ⟨ys, e1, e2, e3⟩ := each_zip t
    refine ⟨(a, b) :: ys, by rw [List.map_cons, e1], by rw [List.map_cons, e2], fun y hy => ?_⟩
    rcases List.mem_cons.mp hy with rfl | hy
    · exact h
    · exact e3 y hy
section
variable {X : Cx} {T : Tab} {G : Ctx} {H H' H1 : Hp} {μ μ' μ1 : Sto} {Q : D → Sto → Prop} {Q' : VK} {σ : L2.St} {ρ : Env} {pins : List (Addr × Obj)} {s : Shared}
theorem rep_pairs {K : PySem.W.Frag} : ∀ {l : List D} {vs : List V} {us : List Value}, RepVs K H l vs → Vals vs us → PySem.W.EachIs (fun (u : Value) (b : V × D) => L2.RelV b.1 u ∧ RepV K H b.2 b.1) us (vs.zip l)
  | [], _, us, h, r => by
    rw [show _ = [] from h] at r ⊢
    cases r; exact .nil
  | d :: l, _, us, ⟨v, q, e, h1, h2⟩, r => by
    subst e
    cases r with
    | cons r1 r2 => exact .cons ⟨r1, h1⟩ (rep_pairs h2 r2)
theorem zip_snd {α β : Type} : ∀ {as : List α} {bs : List β}, as.length = bs.length → (as.zip bs).map (·.2) = bs
  | [], [], _ => rfl
  | _ :: as, _ :: bs, h => by
    rw [List.zip_cons_cons, List.map_cons, zip_snd (by simpa using h)]
  | [], _ :: _, h => by cases h
  | _ :: _, [], h => by cases h
/-- sorted(l, key=f), f such a lambda -/
theorem sort_key (hr : X.A.depth < recursionLimit) (hu : X.A.units + 65 < cLine) (I : Inv X pins σ H s) {f c' : Addr} {x q : Str} {p p1 p2 p3 : Pos} {k : Nat} {scope : Scope} {pm ctv : Value}
    (ho : s.heap.get? f = some (PySem.W.kla_obj "<lambda>" q (lamPar x p) (lamSub x p1 p2 p3 k) scope [] pm c' ctv)) (hco : scope.isCoroutine = false) (hgen : scope.isGenerator = false) (hk : scope.kind = .function) (hn : scope.names = [(x, .local)])
    (hd : (x == ("__debug__" : Str)) = false) (hcd : s.heap.CodeRec (.ref c') q) {a : Addr} {vs : List V} {l : List D} (ha : SqL X.K H a vs) (rl : RepVs X.K H l vs) (hs : l.all hasStrKey = true)
    (h : ∀ (ys : List D) (us : List V) (b : Addr), ys.Perm l → ys.Pairwise keyLe → RepVs X.K H ys us → H b = none → Q' (.ref b) (L2.upd H b (.lst us))) :
    wpAny (model X.prog X.w) X.A (call (.builtin "sorted") [.ref a] [(Str.ofString "key", .ref f)]) (EP X pins σ Q') X.xe s := by
  obtain ⟨its, rv, pl, hz⟩ := I.list ha
  have e := rep_pairs rl rv
  have hall : ∀ b ∈ vs.zip l, hasStrKey b.2 = true := fun b hb => List.all_eq_true.mp hs _ (List.of_mem_zip hb).2
  have hlen : vs.length = l.length := rl.length.symm
  have lim := I.nolimit
  refine PySem.W.sorted_key_data (b := false) (bs := vs.zip l) (R := fun (u : Value) (b : V × D) => L2.RelV b.1 u ∧ RepV X.K H b.2 b.1) (fun b => kyOf b.2) pl.isList e ?_ ?_ ?_ ?_ (PyProof.Rows.ksk_s1 _ _) (fun _ => PyProof.Rows.ksk_l1 _ _) (fun _ => PyProof.Rows.ksk_t1 _ _) ?_ ?_
  · intro d hd1 d' hd2
    obtain ⟨b1, m1, rfl⟩ := List.mem_map.mp hd1
    obtain ⟨b2, m2, rfl⟩ := List.mem_map.mp hd2
    obtain ⟨x1, r1, e1⟩ := strKey_get (hall _ m1)
    obtain ⟨x2, r2, e2⟩ := strKey_get (hall _ m2)
    rw [e1, e2]
    simp [kyOf, PySem.W.alike]
  · refine .inr fun d hd1 => ?_
    obtain ⟨b1, m1, rfl⟩ := List.mem_map.mp hd1
    obtain ⟨x1, r1, e1⟩ := strKey_get (hall _ m1)
    rw [e1]
    exact ⟨(fun z => nomatch z), (fun _ z => nomatch z)⟩
  · rw [List.length_zip]
    exact Nat.le_trans (Nat.min_le_left _ _) hz
  · intro b hb
    obtain ⟨x1, r1, e1⟩ := strKey_get (hall _ hb)
    rw [e1]
    show X.A.units + 2 + 0 < cLine
    omega
  · rintro v ⟨v0, d⟩ ⟨ru, rd⟩ hm h1 tk kp
    obtain ⟨y, r, rfl⟩ := strKey_get (hall _ hm)
    obtain ⟨t, ws, rfl, st, rw1⟩ := rd
    cases ru
    obtain ⟨its2, rv2, pl2, _⟩ := I.tuple st
    obtain ⟨v1, q1, e1, h2, _⟩ := rw1
    subst e1
    cases rv2 with
    | @cons _ _ _ us2 r1 r2 =>
      rw [show v1 = .str (toS y) from h2] at r1
      obtain ⟨tk1, rfl⟩ := r1
      have pl3 : IsTup h1 t (Value.str (toS y) tk1 :: us2).toArray := by
        obtain ⟨ob, e, c⟩ := pl2
        exact ⟨ob, kp _ _ e, c⟩
      exact key_turn (s := { s with heap := h1, toks := tk }) hr (kp _ _ ho) hco hgen hk hn hd (hcd.keeps kp) (lim.keeps kp) pl3 rfl
  · intro out c h' tk kp hfr hD hol eo
    obtain ⟨ys, e1, e2, e3⟩ := each_zip eo
    have hp : (ys.map (·.2)).Perm (vs.zip l) := by rw [e2]; exact List.mergeSort_perm _ _
    have hpd : ((ys.map (·.2)).map (·.2)).Perm l := by
      have := hp.map (·.2)
      rw [zip_snd hlen] at this
      exact this
    have tl := PySem.W.sortLe_total (PyProof.Rows.listOrd PyProof.Rows.itemOrd) false fun b : V × D => PySem.W.keyToks (kyOf b.2)
    have pw : ((ys.map (·.2)).map (·.2)).Pairwise keyLe := by
      rw [List.pairwise_map, e2]
      have := List.pairwise_mergeSort (le := PySem.W.dataLe false fun b : V × D => kyOf b.2) (fun a b c => tl.trans a b c) (fun a b => Bool.or_eq_true _ _ ▸ tl.total a b) (vs.zip l)
      refine List.Pairwise.imp_of_mem (fun {b c} hb hc hbc => ?_) this
      have mb := (List.mergeSort_perm (vs.zip l) _).mem_iff.mp hb
      have mc := (List.mergeSort_perm (vs.zip l) _).mem_iff.mp hc
      exact le_keys (hall _ mb) (hall _ mc) hbc
    have rys : RepVs X.K H ((ys.map (·.2)).map (·.2)) ((ys.map (·.2)).map (·.1)) := by
      clear hp hpd pw eo e1 e2 hol
      induction ys with
      | nil => rfl
      | cons y ys ih => exact ⟨_, _, rfl, (e3 y (List.mem_cons_self ..)).2, ih fun z hz => e3 z (List.mem_cons_of_mem _ hz)⟩
    have rout : Vals ((ys.map (·.2)).map (·.1)) out := by
      rw [← e1]
      clear hp hpd pw eo e1 e2 hol rys
      induction ys with
      | nil => exact .nil
      | cons y ys ih => exact .cons (e3 y (List.mem_cons_self ..)).1 (ih fun z hz => e3 z (List.mem_cons_of_mem _ hz))
    have fresh : H (s.heap.objs.size + 1) = none := I.hok.fresh (Nat.le_succ _)
    refine ⟨.ref (s.heap.objs.size + 1), _, I.laid (t' := tk) (a := s.heap.objs.size + 1) (o := .lst ((ys.map (·.2)).map (·.1))) kp (Nat.le_succ _) ⟨?_, out, c, rout, hD⟩, rfl, h _ _ _ hpd pw rys fresh⟩
    rw [rout.length, hol, List.length_zip]
    exact Nat.le_trans (Nat.min_le_left _ _) hz
/-! ### the expression -/
/-- the frame's code object and its table -/
def KeyOk (X : Cx) (T : Tab) : Prop := ∃ c P, X.env.code = .ref c ∧ LamX.TabB X.base X.mg c P ∧ T.tabs = [(P, X.env.qual ++ "<lambda>")]
theorem RepH.tabs (h : RepH X.w X.K T H μ) : LamX.Tabs T.tabs H := fun p hp => by
  obtain ⟨ps, h1, h2, h3⟩ := h.tb p hp
  exact ⟨ps, h1, h2, fun pos cv hc => by obtain ⟨c, e, e2, _⟩ := h3 pos cv hc; exact ⟨c, e, e2⟩⟩
/-- behind the making of a lambda -/
theorem RepH.lam (h : RepH X.w X.K T H μ) (I : Inv X pins σ H1 s) (e : LamX.ExtN H H1) (t : LamX.Tabs T.tabs H1) : RepH X.w X.K T H1 μ := by
  have old : ∀ a ob, μ a = some ob → ∃ u, H a = some u ∧ H1 a = some u := fun a ob q => by
    obtain ⟨u, h1, _, _, h2⟩ := (h a ob q).some
    exact ⟨u, h1, e a u h1 h2⟩
  have kp : Keeps H H1 := ⟨fun p xs q => e p _ q fun _ => HO.noConfusion, fun p o u q _ => e p _ q fun _ => HO.noConfusion⟩
  refine ⟨fun a ob q => (h a ob q).at kp fun u hu => ?_, fun p hp => ?_⟩
  · obtain ⟨u', h1, h2⟩ := old a ob q
    rw [hu] at h1; cases h1; exact h2
  · obtain ⟨ps, h1, h2, h3⟩ := t p hp
    refine ⟨ps, h1, h2, fun pos cv hc => ?_⟩
    obtain ⟨c, ec, e2⟩ := h3 pos cv hc
    refine ⟨c, ec, e2, ?_⟩
    cases q : μ c with
    | none => rfl
    | some ob =>
      exfalso
      have r := h c ob q
      obtain ⟨u, g1, g2⟩ := old c ob q
      rw [e2] at g2; cases g2
      cases ob with
      | lst l => obtain ⟨vs, g3, _⟩ := r; rw [g1] at g3; cases g3
      | dF l => obtain ⟨vs, g3, _⟩ := r; rw [g1] at g3; cases g3
      | ins cc l => obtain ⟨dx, fs, g3, _⟩ := r; rw [g1] at g3; cases g3
      | dL l => obtain ⟨o, kvs, g3, _⟩ := r; rw [g1] at g3; cases g3
      | dT l =>
        obtain ⟨o, es, ep, g3, _, g4, _⟩ := r
        rw [g1] at g3
        have i1 := (I.hok c _ e2).1
        have e2' := e2
        rw [show LamX.CodeO c p.2 = HO.ext (IsObj c o) from Option.some.inj g3] at e2'
        have i2 := (I.hok c _ e2').1
        obtain ⟨oc, ws, tk, j1, j2, _⟩ := i1
        have i2 : s.heap.get? c = some o := i2
        rw [j1] at i2; cases i2
        rw [g4] at j2; cases j2
theorem Fr.lam {ob : Ob} {b : Addr} {o : HO} (rh : RepH X.w X.K T H μ) (e : LamX.ExtN H H1) (h0 : H1 b = none) : Fr H μ (L2.upd H1 b o) (MP.upd μ b ob) := ⟨fun a u h n nt =>
  have h1 := e a u h nt
  ⟨by rw [L2.upd_ne (ne_at h1 h0)]; exact h1, by rw [upd_off (ne_at h1 h0)]; exact n⟩, fun a l u h n => by
  obtain ⟨u', g, _, _, nt⟩ := (rh a _ n).some
  rw [h] at g; cases g
  have h1 := e a u h nt
  exact ⟨by rw [L2.upd_ne (ne_at h1 h0)]; exact h1, by rw [upd_off (ne_at h1 h0)]; exact n⟩⟩
theorem lam_clo {cells : List (Str × Addr)} {x : Str} : L2.cloFrom cells [(x, NameKind.local)] [] = [] := rfl
/-- sorted(e, key=lambda x: x[0]) -/
theorem e_skey (hu : X.A.units + 65 < cLine) (hr : X.A.depth < recursionLimit) (KO : KeyOk X T) {e : Expr} {ce : E} {x : Str} {p p1 p2 p3 pf lp kp pos : Pos} {k : Nat} {scope : Scope} (hg : Gl X "sorted") (hm : X.mg "sorted" = none) (he : PE X e (tE X T G ce)) (hst : ∀ es, starEach (e :: es) X.env = (false, eval e X.env) :: starEach es X.env)
    (hco : scope.isCoroutine = false) (hgen : scope.isGenerator = false) (hk : scope.kind = .function) (hn : scope.names = [(x, .local)]) (hd : (x == ("__debug__" : Str)) = false) :
    PE X (.Call (.Name "sorted" pf) [e] [⟨some "key", .Lambda (lamPar x p) (lamSub x p1 p2 p3 k) scope lp, kp⟩] pos) (tE X T G (.skey ce)) := by
  obtain ⟨c, P, hc, TB, hT⟩ := KO
  refine ⟨fun pins s σ H Q' I ⟨ρ, μ, Q, rs, rh, hw, pq⟩ => ?_⟩
  refine wpAny_Call_Name_kw (ld_blt I hg hm PyProof.Rows.boot_sorted ?_)
  have hs1 : backTo pos (starEach [e] X.env) = (false, eval e X.env) :: backTo pos (starEach [] X.env) := by rw [hst]; rfl
  refine PyProof.Rows.callWith_kw ?_ hs1 (by rw [hs1]; rfl) rfl rfl
  rw [hs1]
  refine Calls.spliced_cons (thn (he.run pins s σ H (fun v H1 => ∃ a l, ∃ μ1, v = .ref a ∧ RepH X.w X.K T H1 μ1 ∧ Fr H μ H1 μ1 ∧ μ1 a = some (.lst l) ∧ l.all hasStrKey = true ∧ ∀ ys, ys.Perm l → ys.Pairwise keyLe → new μ1 (.lst ys) Q) I
    ⟨ρ, μ, _, rs, rh, hw, fun d v H1 μ1 rv rh1 f1 q1 => ?_⟩) fun u s1 ⟨v, H1, I1, r1, a, l, μ1, e1, rh1, f1, ea, hs, q1⟩ => Calls.spliced_nil ?_)
  · obtain ⟨a, l, rfl, ea, hs, q⟩ := rdR_get q1
    cases rv
    exact ⟨a, l, μ1, rfl, rh1, f1, ea, hs, q⟩
  · subst e1
    cases r1
    obtain ⟨vs, hvs, rl⟩ := rh1 a _ ea
    show wpAny _ _ (evalAll [do let v ← eval (.Lambda (lamPar x p) (lamSub x p1 p2 p3 k) scope lp) X.env; standAt pos; pure v]) _ _ _
    refine wpAny_evalAll_cons (wpAny_bind (LamX.lam_make2 (T := T.tabs) I1 TB hc (by rw [hT]; exact List.mem_cons_self ..) (fun z hz _ => by rw [hT] at hz; rw [List.mem_singleton.mp hz]) rh1.tabs rfl (fun y hy ey => by rw [hn] at hy; rw [List.mem_singleton.mp hy] at ey; cases ey) fun f c' pm ctv H2 s2 I2 eN tN ho hfn hfr hco2 => wpAny_bind (wpAny_standAt (wpAny_pure ?_))))
    refine wpAny_evalAll_nil ?_
    rw [hn, lam_clo] at ho
    have rh2 := rh1.lam I2 eN tN
    have hvs2 : H2 a = some (.lst vs) := eN _ _ hvs fun _ => HO.noConfusion
    have kp2 : Keeps H1 H2 := ⟨fun p xs q => eN p _ q fun _ => HO.noConfusion, fun p o u q _ => eN p _ q fun _ => HO.noConfusion⟩
    obtain ⟨⟨oc, ws, t, j1, j2, j3⟩, _, _⟩ := I2.hok c' _ hco2
    refine sort_key hr hu I2 ho hco hgen hk hn hd ⟨c', oc, ws, t, rfl, j1, j2, j3⟩ (SqL.of hvs2) (rl.mono kp2) hs fun ys us b h1 h2 h3 h4 => ?_
    exact pq (.ref b) _ _ _ rfl (rh2.newO h4 (ob := .lst ys) ⟨us, L2.upd_same, h3.mono (.new h4)⟩) (f1.trans (Fr.lam rh1 eN h4)) (q1 ys h1 h2 b (rh2.free h4))
/-! ### remove, count -/
theorem intO_get {d : D} {k : Int → Prop} (h : intO d k) : ∃ n, d = .int n ∧ k n := by
  cases d with
  | int n => exact ⟨n, rfl, h⟩
  | _ => exact h.elim
theorem m_remove : MtR X "list.remove" (rM X T .remove) := by
  intro pins s σ H x vs v us Q' I rx rvs ⟨dx, ds, μ, Q, hx, hv, rh, h, p⟩
  obtain ⟨d0, d, e1, h⟩ := arg2_get h
  cases e1
  replace hv := hv.get1
  obtain ⟨y, rfl, hv⟩ := hv
  obtain ⟨a, l, rfl, ea, h⟩ := rdR_get h
  obtain ⟨n, rfl, h⟩ := intO_get h
  obtain ⟨ns, en, hn, q⟩ := optP_get h
  cases hx; cases hv
  obtain ⟨xs, hs, rl⟩ := rh a _ ea
  have exs := rl.intsD en
  subst exs
  obtain ⟨j, j1, j2, j3, j4⟩ := first_at hn
  refine mt_remove pins s σ H _ _ v us Q' I rx rvs ⟨a, ns, n, j, rfl, rfl, hs, j2, j3, ?_⟩
  rw [j4]
  exact p .non _ _ _ rfl (rh.wr ea (ob' := .lst ((ns.erase n).map D.int)) ⟨_, L2.upd_same, RepVs.of_ints _⟩) (Fr.wr ea) q
theorem m_count : MtR X "list.count" (rM X T .count) := by
  intro pins s σ H x vs v us Q' I rx rvs ⟨dx, ds, μ, Q, hx, hv, rh, h, p⟩
  obtain ⟨d0, d, e1, h⟩ := arg2_get h
  cases e1
  replace hv := hv.get1
  obtain ⟨y, rfl, hv⟩ := hv
  obtain ⟨a, l, rfl, ea, h⟩ := rdR_get h
  obtain ⟨n, rfl, h⟩ := intO_get h
  obtain ⟨ns, en, q⟩ := optP_get h
  cases hx; cases hv
  obtain ⟨xs, hs, rl⟩ := rh a _ ea
  have exs := rl.intsD en
  subst exs
  exact mt_lcount pins s σ H _ _ v us Q' I rx rvs ⟨a, ns, n, rfl, rfl, SqL.of hs, p.int rh q⟩
end
end MP

set_option linter.all false
set_option maxRecDepth 100000
set_option maxHeartbeats 1000000
set_option Elab.async false
/-! MP5g: enumerate over a tuple. -/
namespace MP
open PySem PySem.Spec PyProof.Rows L2
theorem meets_enumB {v : Value} {o : Obj} {H : Heap → Prop} (B : Begins v o H) :
    Meets (Builtin.«enumerate.__new__» ⟨[.type "enumerate", v], []⟩) (fun _ R s => H s.heap ∧
      R (.ok (.ret (.ref (s.heap.push o).objs.size))) { s with heap := (s.heap.push o).push { cls := .type "enumerate", data := .fields #[.none, .bool false, .ref s.heap.objs.size, rawInt 0, .none, .none] } }) :=
  .of_wp fun prog w A R s h => by
    obtain ⟨hp, g, d, tk, os⟩ := s; obtain ⟨h1, h⟩ := h
    have hsub := sub_enumerate
    have q1 : ∀ {A' : Around} {E : Value → Shared → Prop} {Q : Value → Shared → Prop}, Q (.ref hp.objs.size) ⟨(hp.push o), g, d, tk, os⟩ → wpAny (model prog w) A' (pyIter v) Q E ⟨hp, g, d, tk, os⟩ :=
      fun q => B.iter prog w _ _ ⟨hp, g, d, tk, os⟩ _ (B.keeps _ _ h1 fun b o' e => e) q
    wp_walk using q1
    refine wpAny_stack_any fun st => wpAny_pure ?_
    split
    · rename_i c _ _ _ _ _
      cases (c == Value.type "enumerate")
      · wp_walk using q1
        exact ⟨_, rfl, h⟩
      · wp_walk using q1
        exact ⟨_, rfl, h⟩
    · wp_walk using q1
      exact ⟨_, rfl, h⟩
theorem call_enumB {v : Value} {o : Obj} {H : Heap → Prop} {prog : Program} {w : World} {A : Around} {E : Value → Shared → Prop} {s : Shared} {Q : Value → Shared → Prop} (B : Begins v o H) (h1 : H s.heap)
    (h : ∀ h', IsEnum h' (s.heap.objs.size + 1) s.heap.objs.size 0 .none → h'.get? s.heap.objs.size = some o → h'.objs.size = s.heap.objs.size + 2 →
      (∀ b o, s.heap.get? b = some o → h'.get? b = some o) → Q (.ref (s.heap.objs.size + 1)) { s with heap := h' }) :
    wpAny (model prog w) A (call (.type "enumerate") [v]) Q E s := by
  refine callType_new F.called_enumerate (by decide) (F.typeCall_enumerate_1 _) (F.newCall_enumerate_1 _) (fun obj => F.args_object_init_2 obj _) F.entry_enumerate_new
    (meets_enumB B) ⟨h1, ?_⟩
  have hz : (s.heap.push o).objs.size = s.heap.objs.size + 1 := Heap.size_push ..
  show _ ∧ _
  rw [hz]
  have he : IsEnum ((s.heap.push o).push { cls := .type "enumerate", data := .fields #[.none, .bool false, .ref s.heap.objs.size, rawInt 0, .none, .none] }) (s.heap.objs.size + 1) s.heap.objs.size 0 .none := by
    have := Heap.get?_push_size (s.heap.push o) (o := { cls := .type "enumerate", data := .fields #[.none, .bool false, .ref s.heap.objs.size, rawInt 0, .none, .none] }) rfl
    rw [hz] at this; exact this
  refine ⟨⟨_, he, rfl⟩, h _ he (Heap.get?_push_of_some _ (Heap.get?_push_size _ B.free)) (by rw [Heap.size_push, hz]) fun b o x => Heap.get?_push_of_some _ (Heap.get?_push_of_some _ x)⟩
theorem enum_endT {prog : Program} {w : World} {A : Around} {E : Value → Shared → Prop} {s : Shared} {e it t : Addr} {k i : Nat} {items : Array Value} {old : Value} {Q : Option Value → Shared → Prop} (hh : A.in1.handled = none) (he : IsEnum s.heap e it k old) (hit : s.heap.IsTupleIter it t i) (ht : s.heap.IsTuple t items) (hx : items[i]? = none)
    (hQ : ∀ h', Heap.ExtBut it s.heap h' → Q none { s with heap := h' }) : wpAny (model prog w) A (pyNext (.ref e)) Q E s := by
  have hT : s.TypeIs (.ref e) "enumerate" := ⟨_, he, rfl⟩
  unfold pyNext
  refine wpAny_bind (wpAny_attempt (wpAny_callSpecial?_slot (name := Str.ofString "__next__") hT F.slot_enumerate_next
    (wpAny_call_entry F.slot_enumerate_next hT F.entry_enumerate_next ?_ (F.args_enumerate_next_1 _))))
  show wpAny _ _ (field (.ref e) 2 >>= _) _ _ _
  refine wpAny_bind (wpAny_field he rfl (x := .ref it) rfl ?_)
  refine wpAny_bind (wpAny_nextOf_tuple_end hh hit ht hx fun h' x he' hx' => ?_)
  obtain ⟨o, ho, hc⟩ := hx'
  refine wpAny_bind (wpAny_isInstance (T := "StopIteration") (b := true) ⟨o, ho, hc⟩ isSubtype_stop ?_)
  exact wpAny_pure (hQ _ he')
/-- the tuple at a, each item in a new pair -/
def IteT (K : PySem.W.Frag) (a : Addr) : It :=
  ⟨fun i H => ∃ (xs : List V) (x : V), SqT K H a xs ∧ xs[i]? = some x, fun i H v H' => ∃ T x, v = .ref T ∧ H T = none ∧ H' = L2.upd H T (.tup [.int (i : Nat), x]) ∧ ∀ xs, SqT K H a xs → xs[i]? = some x, fun i H => ∃ xs : List V, SqT K H a xs ∧ xs.length ≤ i⟩
theorem turn_enumT {P : Program} {w : World} {K : PySem.W.Frag} {elts : List Expr} {kk : Nat} {tpos : Pos} (a e it : Addr) :
    Turn P w K (.Tuple elts kk tpos) (IteT K a) [e, it] e (fun i h => (∃ old, IsEnum h e it ((i : Nat) : Int) old) ∧ h.IsTupleIter it a i ∧ e ≠ it) where
  mem := by simp
  obj := fun i h st b hb => by
    obtain ⟨⟨old, he⟩, ⟨o, ho, hc, hd⟩, _⟩ := st
    have e' : b = e ∨ b = it := by simpa using hb
    rcases e' with z | z
    · rw [z]; exact ⟨_, he, fun v q => nomatch q⟩
    · rw [z]; exact ⟨o, ho, fun v q => by rw [hd] at q; cases q⟩
  keep := fun i h h' st k => let ⟨⟨old, he⟩, hi, hne⟩ := st; ⟨⟨old, k e (by simp) _ he⟩, hi.at fun o q => k it (by simp) o q, hne⟩
  item := by
    intro X hP hw hK hc i pins s σ H E I hf st hg
    subst hP hw hK
    obtain ⟨⟨old, he⟩, hit, hne⟩ := st
    obtain ⟨xs, x, hq, hx⟩ := hg
    obtain ⟨its, rv, p, hz⟩ := I.tuple hq
    obtain ⟨u, hu, ru⟩ := rv.get hx
    have hel : e < s.heap.objs.size := Heap.lt_size he
    have hil : it < s.heap.objs.size := by obtain ⟨_, q, _⟩ := hit; exact Heap.lt_size q
    have pT : s.heap.IsTuple a its.toArray := p
    have dne : a ≠ it := fun z => by
      subst z
      obtain ⟨o1, g1, c1, _⟩ := hit
      obtain ⟨o2, g2, c2, _⟩ := pT
      rw [g1] at g2; cases g2
      rw [c1] at c2; exact absurd c2 (by simp)
    have dea : e ≠ a := fun z => by
      subst z
      obtain ⟨o2, g2, c2, _⟩ := pT
      rw [show s.heap.get? e = _ from he] at g2; cases g2
      exact absurd c2 (by simp)
    have D := Draws.tuple (prog := X.prog) (w := X.w) (A := X.A.in1) (I.ok.hd hc) it a dne its.toArray
    have hi : i < its.toArray.size := by
      have := (List.getElem?_eq_some_iff.mp hu).1
      simpa using this
    refine wpAny_pyNext_enum_itemD D he ⟨hit, pT⟩ hi hne (by simp [hne, dea]) fun y h' tk hy ho hst' hT hsz hk => ?_
    have ey : y = u := by
      have h2 : its.toArray[i]? = some u := by simpa using hu
      rw [h2] at hy; exact (Option.some.inj hy).symm
    subst ey
    refine ⟨_, rfl, wpAny_letOwnedTupleGo_enum (s := { s with heap := h', toks := tk + 1 }) ho fun h'' he' sb => ?_⟩
    have hT2 : h''.get? s.heap.objs.size = some { cls := .type "tuple", data := .seq #[.int i tk, y] } := (sb.2 _ (Nat.ne_of_gt hel)).trans hT
    have new : ObjOk X.prog X.w (L2.upd H s.heap.objs.size (.tup [.int (i : Nat), x])) h'' s.heap.objs.size (.tup [.int (i : Nat), x]) :=
      ⟨by show 2 ≤ sizeLine; decide, [.int i tk, y], .cons ⟨_, rfl⟩ (.cons ru .nil), ⟨_, hT2, rfl, _, rfl⟩⟩
    have I1 : Inv X pins σ (L2.upd H s.heap.objs.size (.tup [.int (i : Nat), x])) { s with heap := h'', toks := tk + 1 } :=
      I.turnedNew (ch := [e, it]) (fun b ob hb q => (sb.2 b (fun z => hb (by simp [z]))).trans (hk b ob (fun z => hb (by simp [z])) (fun z => hb (by simp [z])) q)) hf (Nat.le_refl _) new
    refine ⟨.ref s.heap.objs.size, _, I1, rfl, ⟨_, x, rfl, I.hok.fresh (Nat.le_refl _), rfl, fun ys hy => by rw [I.tuple_inj hy hq]; exact hx⟩, ⟨⟨y, ?_⟩, hst'.1.at fun o q => (sb.2 it (Ne.symm hne)).trans q, hne⟩, fun b hb => ?_⟩
    · have e1 : ((i + 1 : Nat) : Int) = (i : Int) + 1 := by omega
      rw [e1]; exact he'
    · have hb' : b < s.heap.objs.size := by
        have e' : b = e ∨ b = it := by simpa using hb
        rcases e' with z | z
        · rw [z]; exact hel
        · rw [z]; exact hil
      rw [L2.upd_ne (Nat.ne_of_lt hb')]
      exact (hf b hb).1
  done := by
    intro X hP hw hK hc i pins s σ H E I hf st hg
    subst hP hw hK
    obtain ⟨⟨old, he⟩, hit, hne⟩ := st
    obtain ⟨xs, hq, hx⟩ := hg
    obtain ⟨its, rv, p, hz⟩ := I.tuple hq
    obtain ⟨f0, f1, f2, f3, f4, f5⟩ := hf it (by simp)
    have hl := rv.length
    have pT : s.heap.IsTuple a its.toArray := p
    exact enum_endT (I.ok.hd hc) he hit pT (by simp; omega) fun h' eb => ⟨rfl, I.turned (t' := s.toks) (fun b o hb q => eb b o hb q) f0 f1 f3 f4 f5⟩
  self := fun A i s Q E st h => let ⟨⟨_, he⟩, _⟩ := st; wpAny_pyIter_enum he h
/-- enumerate over a list or a tuple -/
def iEnumX (K : PySem.W.Frag) (ta : TA) : TI := fun σ H R => ta σ H fun vs H1 => ∃ a, vs = [.ref a] ∧ ((∃ xs, SqL K H1 a xs ∧ R (Ite K a) H1) ∨ ∃ xs, SqT K H1 a xs ∧ R (IteT K a) H1)
theorem pi_enumX {X : Cx} {e : Expr} {ta : TA} {p pos tpos : Pos} {elts : List Expr} {kk : Nat} (hg : Gl X "enumerate") (hm : X.mg "enumerate" = none) (ha : PA X [e] ta) (hs : starEach [e] X.env = [(false, eval e X.env)] := by rfl) :
    PI X (.Tuple elts kk tpos) (.Call (.Name "enumerate" p) [e] [] pos) (iEnumX X.K ta) := by
  refine ⟨fun pins s σ H R I h => ?_⟩
  refine Call_ (ld_blt I hg hm boot_enumerate (PyProof.Rows.callWith_type1 (thn (ha.run pos pins s σ H _ I h) fun us s1 ⟨vs, H1, I1, r1, q1⟩ => ?_) hs rfl))
  obtain ⟨a, ex, hq⟩ := q1
  subst ex
  cases r1 with
  | cons r rr =>
    cases rr
    cases r
    have fp : ∀ b ∈ [s1.heap.objs.size + 1, s1.heap.objs.size], s1.heap.objs.size ≤ b := fun b hb => by
      have e' : b = s1.heap.objs.size + 1 ∨ b = s1.heap.objs.size := by simpa using hb
      rcases e' with z | z
      · rw [z]; exact Nat.le_add_right _ _
      · rw [z]; exact Nat.le_refl _
    rcases hq with ⟨xs, hq, q⟩ | ⟨xs, hq, q⟩
    · obtain ⟨its, rv, p', hz⟩ := I1.list hq
      refine call_enumerate_list p'.isList fun h' he hit hsz hk => wpAny_pyIter_enum he ?_
      have I2 : Inv X pins σ H1 { s1 with heap := h' } := I1.kept (t' := s1.toks) hk
      exact ⟨s1.heap.objs.size + 1, [s1.heap.objs.size + 1, s1.heap.objs.size], _, _, H1, rfl, I2, turn_enum a (s1.heap.objs.size + 1) s1.heap.objs.size, ⟨⟨.none, he⟩, hit, Nat.succ_ne_self _⟩, fun b hb => I1.fpOk (fp b hb) (I1.hok.fresh (fp b hb)), q⟩
    · obtain ⟨its, rv, p', hz⟩ := I1.tuple hq
      refine call_enumB (begins_tuple a its.toArray) p' fun h' he hit hsz hk => wpAny_pyIter_enum he ?_
      have I2 : Inv X pins σ H1 { s1 with heap := h' } := I1.kept (t' := s1.toks) hk
      exact ⟨s1.heap.objs.size + 1, [s1.heap.objs.size + 1, s1.heap.objs.size], _, _, H1, rfl, I2, turn_enumT a (s1.heap.objs.size + 1) s1.heap.objs.size, ⟨⟨.none, he⟩, ⟨_, hit, rfl, rfl⟩, Nat.succ_ne_self _⟩, fun b hb => I1.fpOk (fp b hb) (I1.hok.fresh (fp b hb)), q⟩
end MP

set_option linter.all false
set_option maxRecDepth 100000
set_option maxHeartbeats 1000000
set_option Elab.async false
/-! MP6: targets, what is walked, comprehensions, statements. -/
namespace MP
open PySem PySem.Spec PyProof.Rows L2
/-! ### targets -/
def slotsP : P → List Nat
  | .v i => [i]
  | .nil => []
  | .cons p q => slotsP p ++ slotsP q
def plen : P → Nat
  | .cons _ q => plen q + 1
  | _ => 0
def isTupP : P → Bool
  | .v _ => false
  | _ => true
/-- alike off these slots -/
def Off (l : List Nat) (σ σ' : L2.St) : Prop := σ'.length = σ.length ∧ ∀ i, i ∉ l → σ'[i]? = σ[i]?
theorem Off.refl {l : List Nat} {σ : L2.St} : Off l σ σ := ⟨rfl, fun _ _ => rfl⟩
theorem Off.app {l m : List Nat} {σ σ1 σ2 : L2.St} (a : Off l σ σ1) (b : Off m σ1 σ2) : Off (l ++ m) σ σ2 := ⟨b.1.trans a.1, fun i h => by
  rw [List.mem_append, not_or] at h
  rw [b.2 i h.2, a.2 i h.1]⟩
section
variable (X : Cx)
def tP (p : P) : TG := fun v σ H Q' => ∃ d ρ ρ', RepV X.K H d v ∧ RepS X.K H ρ σ ∧ matP p d ρ = some ρ' ∧ ∀ σ', RepS X.K H ρ' σ' → Off (slotsP p) σ σ' → Q' σ' H
def tPs (p : P) : TGs := fun vs σ H Q' => ∃ ds ρ ρ', RepVs X.K H ds vs ∧ RepS X.K H ρ σ ∧ matP p (.tup ds) ρ = some ρ' ∧ ∀ σ', RepS X.K H ρ' σ' → Off (slotsP p) σ σ' → Q' σ' H
end
/-- a tuple target: its rest is a tuple, too -/
def wfP : P → Bool
  | .v _ => true
  | .nil => true
  | .cons p q => wfP p && isTupP q && wfP q
theorem matP_len : ∀ {p : P} {ds : List D} {ρ ρ' : Env}, wfP p = true → isTupP p = true → matP p (.tup ds) ρ = some ρ' → ds.length = plen p
  | .v _, _, _, _, _, h, _ => by cases h
  | .nil, [], _, _, _, _, _ => rfl
  | .nil, _ :: _, _, _, _, _, h => by simp [matP] at h
  | .cons p q, [], _, _, _, _, h => by simp [matP] at h
  | .cons p q, d :: r, ρ, ρ', hw, _, h => by
    unfold matP at h
    simp only [wfP, Bool.and_eq_true] at hw
    cases e : matP p d ρ with
    | none => rw [e] at h; cases h
    | some ρ1 =>
      rw [e] at h
      rw [List.length_cons, matP_len hw.2 hw.1.2 h]; rfl
section
variable {X : Cx} {T : Tab} {G : Ctx} {H H' H1 H2 : Hp} {μ μ' μ1 μ2 : Sto} {Q : D → Sto → Prop} {Q' : VK} {σ σ' : L2.St} {ρ ρ' : Env}
theorem _root_.L2.PG.imp {e : Expr} {t t' : TG} (h : PG X e t) (i : ∀ v σ H Q, t' v σ H Q → t v σ H Q) : PG X e t' := ⟨fun pins s σ H v u Q I r hw => h.run pins s σ H v u Q I r (i v σ H Q hw)⟩
theorem _root_.L2.PGs.imp {e : List Expr} {t t' : TGs} (h : PGs X e t) (i : ∀ v σ H Q, t' v σ H Q → t v σ H Q) : PGs X e t' := ⟨fun pins s σ H v u Q I r hw => h.run pins s σ H v u Q I r (i v σ H Q hw)⟩
theorem g_name {i : Nat} {x : Str} {pos : Pos} (hN : X.N.Nodup) (hi : X.N[i]? = some x) (hx : Loc X.env.scope x) (hf : X.fn x = true ∨ X.env.scope.names.lookup x = some .local) : PG X (.Name x pos) (tP X (.v i)) :=
  (pg_name hN hi hx hf).imp fun v σ H Q ⟨d, ρ, ρ', rv, rs, e, h⟩ => by
    cases e
    exact h _ (rs.set rv) ⟨List.length_set .., fun j hj => List.getElem?_set_ne (fun z => hj (by simp [slotsP, z]))⟩
theorem gs_nil : PGs X [] (tPs X .nil) := pgs_nil.imp fun v σ H Q ⟨ds, ρ, ρ', rv, rs, e, h⟩ => by
  cases ds with
  | nil =>
    cases e
    exact ⟨rv, h _ rs .refl⟩
  | cons d r => simp [matP] at e
theorem gs_cons {e : Expr} {es : List Expr} {p q : P} (h1 : PG X e (tP X p)) (h2 : PGs X es (tPs X q)) (hs : (assignEach (e :: es) X.env).map (·.2) = assign e X.env :: (assignEach es X.env).map (·.2)) : PGs X (e :: es) (tPs X (.cons p q)) :=
  (pgs_cons h1 h2 hs).imp fun v σ H Q ⟨ds, ρ, ρ', rv, rs, e, h⟩ => by
    cases ds with
    | nil => simp [matP] at e
    | cons d r =>
      obtain ⟨v1, vr, rfl, r1, r2⟩ := rv
      unfold matP at e
      cases e1 : matP p d ρ with
      | none => rw [e1] at e; cases e
      | some ρ1 =>
        rw [e1] at e
        exact ⟨v1, vr, rfl, d, ρ, ρ1, r1, rs, e1, fun σ1 rs1 o1 => ⟨r, ρ1, ρ', r2, rs1, e, fun σ2 rs2 o2 => h σ2 rs2 (o1.app o2)⟩⟩
theorem g_tup {es : List Expr} {k : Nat} {pos : Pos} {p : P} (hc : X.calm = true) (h : PGs X es (tPs X p)) (hw : wfP p = true) (ht : isTupP p = true) (hn : (assignEach es X.env).length = plen p) (hst : (assignEach es X.env).findIdx? (·.1) = none) : PG X (.Tuple es k pos) (tP X p) :=
  (pg_tup hc h hn hst).imp fun v σ H Q ⟨d, ρ, ρ', rv, rs, e, h⟩ => by
    cases d with
    | tup ds =>
      obtain ⟨a, vs, rfl, st, rl⟩ := rv
      exact ⟨a, vs, rfl, st, by rw [← rl.length]; exact matP_len hw ht e, ds, ρ, ρ', rl, rs, e, h⟩
    | _ => cases p with
      | v i => cases ht
      | nil => simp [matP] at e
      | cons p q => simp [matP] at e
/-! ### what is walked -/
/-- J gives out the items l, from the heap H1 on, as long as chk stays -/
def Walks (X : Cx) (T : Tab) (J : It) (H1 : Hp) (l : List D) (chk : Sto → Prop) : Prop := ∀ (i : Nat) H μ, Keeps H1 H → RepH X.w X.K T H μ → chk μ →
  (∀ d, l[i]? = some d → J.go i H ∧ ∀ x H', J.yld i H x H' → RepV X.K H' d x ∧ RepH X.w X.K T H' μ ∧ Fr H μ H' μ) ∧ (l.length ≤ i → J.stop i H)
def tI (X : Cx) (T : Tab) (G : Ctx) (k : IK) (c : E) : TI := fun σ H R => ∃ ρ μ, ∃ Q : List D → (Sto → Prop) → Sto → Prop, RepS X.K H ρ σ ∧ RepH X.w X.K T H μ ∧ wpA G c ρ μ (fun ds μ1 => iterP k ds μ1 fun l chk => Q l chk μ1) XF ∧
  ∀ J l chk H1 μ1, RepH X.w X.K T H1 μ1 → Fr H μ H1 μ1 → chk μ1 → Walks X T J H1 l chk → Q l chk μ1 → R J H1
theorem walks_list {a : Addr} {l : List D} : Walks X T (Itl X.K a) H1 l (fun μ' => μ' a = some (.lst l)) := fun i H μ _ rh hc => by
  obtain ⟨vs, hs, rl⟩ := rh a _ hc
  refine ⟨fun d hd => ?_, fun hi => ⟨vs, SqL.of hs, by rw [← rl.length]; exact hi⟩⟩
  obtain ⟨v, h1, h2⟩ := rl.get hd
  refine ⟨⟨vs, v, SqL.of hs, h1⟩, fun x H' ⟨e, hy⟩ => ?_⟩
  subst e
  have := hy vs (SqL.of hs)
  rw [h1] at this; cases this
  exact ⟨h2, rh, .refl⟩
theorem walks_tup {a : Addr} {l : List D} {vs : List V} (st : SqT X.K H1 a vs) (rl : RepVs X.K H1 l vs) : Walks X T (Itt X.K a) H1 l (fun _ => True) := fun i H μ hk rh _ => by
  have st := hk.sqT st
  have rl := rl.mono hk
  refine ⟨fun d hd => ?_, fun hi => ⟨vs, st, by rw [← rl.length]; exact hi⟩⟩
  obtain ⟨v, h1, h2⟩ := rl.get hd
  refine ⟨⟨vs, v, st, h1⟩, fun x H' ⟨e, hy⟩ => ?_⟩
  subst e
  have := hy vs st
  rw [h1] at this; cases this
  exact ⟨h2, rh, .refl⟩
theorem walks_scr {a : Addr} {l : List Int} (fz : FrzL X.K H1 a (l.map V.int)) : Walks X T (Itl X.K a) H1 (l.map D.int) (fun _ => True) := fun i H μ hk rh _ => by
  have fz := (hk.frz fz).sq
  refine ⟨fun d hd => ?_, fun hi => ⟨_, fz, by simpa using hi⟩⟩
  have h1 : ∃ n, l[i]? = some n ∧ d = .int n := by
    rw [List.getElem?_map] at hd
    cases e : l[i]? with
    | none => rw [e] at hd; cases hd
    | some n => rw [e] at hd; cases hd; exact ⟨n, rfl, rfl⟩
  obtain ⟨n, h1, rfl⟩ := h1
  have h2 : (l.map V.int)[i]? = some (.int n) := by rw [List.getElem?_map, h1]; rfl
  refine ⟨⟨_, _, fz, h2⟩, fun x H' ⟨e, hy⟩ => ?_⟩
  subst e
  have := hy _ fz
  rw [h2] at this; cases this
  exact ⟨rfl, rh, .refl⟩
theorem walks_str {l : List Nat} : Walks X T (Its (toS l)) H1 (l.map fun c => .str [c]) (fun _ => True) := fun i H μ hk rh _ => by
  refine ⟨fun d hd => ?_, fun hi => by show l.toArray.size ≤ i; simpa using hi⟩
  have h1 : ∃ n, l[i]? = some n ∧ d = .str [n] := by
    rw [List.getElem?_map] at hd
    cases e : l[i]? with
    | none => rw [e] at hd; cases hd
    | some n => rw [e] at hd; cases hd; exact ⟨n, rfl, rfl⟩
  obtain ⟨n, h1, rfl⟩ := h1
  obtain ⟨hi, _⟩ := List.getElem?_eq_some_iff.mp h1
  refine ⟨by show i < l.toArray.size; simpa using hi, fun x H' ⟨e, c, hc, hx⟩ => ?_⟩
  subst e hx
  have hc : l[i]? = some c := by simpa using hc
  rw [h1] at hc; cases hc
  exact ⟨rfl, rh, .refl⟩
theorem walks_rng {lo : Int} {n : Nat} : Walks X T (Itr lo n) H1 (rangeL lo n 1) (fun _ => True) := fun i H μ hk rh _ => by
  refine ⟨fun d hd => ?_, fun hi => by show n ≤ i; simpa [rangeL] using hi⟩
  have h1 : i < n ∧ d = .int (lo + i) := by
    unfold rangeL at hd
    rw [List.getElem?_map] at hd
    cases e : (List.range n)[i]? with
    | none => rw [e] at hd; cases hd
    | some m =>
      rw [e] at hd
      obtain ⟨h1, h2⟩ := List.getElem?_eq_some_iff.mp e
      rw [List.getElem_range] at h2
      subst h2
      cases hd
      exact ⟨by simpa using h1, by simp⟩
  obtain ⟨h1, rfl⟩ := h1
  refine ⟨h1, fun x H' ⟨e, hx⟩ => ?_⟩
  subst e hx
  exact ⟨rfl, rh, .refl⟩
theorem walks_rngC {lo c : Int} {n : Nat} : Walks X T (Itc lo c n) H1 (rangeL lo n c) (fun _ => True) := fun i H μ hk rh _ => by
  refine ⟨fun d hd => ?_, fun hi => by show n ≤ i; simpa [rangeL] using hi⟩
  have h1 : i < n ∧ d = .int (lo + i * c) := by
    unfold rangeL at hd
    rw [List.getElem?_map] at hd
    cases e : (List.range n)[i]? with
    | none => rw [e] at hd; cases hd
    | some m =>
      rw [e] at hd
      obtain ⟨h1, h2⟩ := List.getElem?_eq_some_iff.mp e
      rw [List.getElem_range] at h2
      subst h2
      cases hd
      exact ⟨by simpa using h1, rfl⟩
  obtain ⟨h1, rfl⟩ := h1
  refine ⟨h1, fun x H' ⟨e, hx⟩ => ?_⟩
  subst e hx
  exact ⟨rfl, rh, .refl⟩
/-- a value: a list, a tuple, a text, the script -/
theorem i_any {tg e : Expr} {c : E} (he : PE X e (tE X T G c)) : PI X tg e (tI X T G .any (.cons c .nil)) := by
  refine ⟨fun pins s σ H R I h => ?_⟩
  obtain ⟨ρ, μ, Q, rs, rh, hw, p⟩ := h
  refine thn (he.run pins s σ H (fun x H1 => ∃ d μ1, RepV X.K H1 d x ∧ RepH X.w X.K T H1 μ1 ∧ Fr H μ H1 μ1 ∧ itemsP d μ1 fun l chk => Q l chk μ1) I
    ⟨ρ, μ, _, rs, rh, hw, fun d v H1 μ1 rv rh1 f1 q1 => ⟨d, μ1, rv, rh1, f1, q1⟩⟩) fun v s1 ⟨x, H1, I1, r1, d, μ1, rx, rh1, f1, hq⟩ => ?_
  cases d with
  | tup l =>
    obtain ⟨a, vs, rfl, st, rl⟩ := rx
    obtain rfl : v = Value.ref a := r1
    obtain ⟨its, _, ht, _⟩ := I1.tuple st
    exact wpAny_pyIter_tuple ht (pi_one (tk := s1.toks) I1 _ (turn_tuple a _) ⟨_, Heap.get?_push_size _ rfl, rfl, rfl⟩ (p _ _ _ H1 μ1 rh1 f1 trivial (walks_tup st rl) hq))
  | str l =>
    cases rx
    obtain ⟨t, rfl⟩ := r1
    have fin := p _ _ _ H1 μ1 rh1 f1 trivial walks_str hq
    cases hz : (toS l).cps.all (· < 128) with
    | false => exact wpAny_pyIter_wide hz (pi_one (tk := s1.toks) I1 _ (turn_str _ (toS l) t "str_iterator" (Or.inr rfl)) ⟨_, Heap.get?_push_size _ rfl, rfl, rfl⟩ fin)
    | true => exact wpAny_pyIter_ascii hz (pi_one (tk := s1.toks) I1 _ (turn_str _ (toS l) t "str_ascii_iterator" (Or.inl rfl)) ⟨_, Heap.get?_push_size _ rfl, rfl, rfl⟩ fin)
  | scr l =>
    obtain ⟨a, rfl, fz⟩ := rx
    obtain rfl : v = Value.ref a := r1
    obtain ⟨its, _, hl, _⟩ := I1.list fz.sq
    exact wpAny_pyIter_list hl.isList (pi_one (tk := s1.toks) I1 _ (turn_list a _) ⟨_, Heap.get?_push_size _ rfl, rfl, rfl⟩ (p _ _ _ H1 μ1 rh1 f1 trivial (walks_scr fz) hq))
  | ref a =>
    cases rx
    obtain rfl : v = Value.ref a := r1
    obtain ⟨l, e, hq⟩ := rdL_get hq
    obtain ⟨vs, hs, rl⟩ := rh1 a _ e
    obtain ⟨its, _, hl, _⟩ := I1.list (SqL.of hs)
    exact wpAny_pyIter_list hl.isList (pi_one (tk := s1.toks) I1 _ (turn_list a _) ⟨_, Heap.get?_push_size _ rfl, rfl, rfl⟩ (p _ _ _ H1 μ1 rh1 f1 e walks_list hq))
  | _ => exact hq.elim
theorem _root_.L2.PI.imp {tg e : Expr} {t t' : TI} (h : PI X tg e t) (i : ∀ σ H R, t' σ H R → t σ H R) : PI X tg e t' := ⟨fun pins s σ H R I hw => h.run pins s σ H R I (i σ H R hw)⟩
theorem len1 {ds : List D} (h : ds.length = 1) : ∃ d, ds = [d] := by
  match ds, h with
  | [d], _ => exact ⟨d, rfl⟩
theorem len2 {ds : List D} (h : ds.length = 2) : ∃ d e, ds = [d, e] := by
  match ds, h with
  | [d, e], _ => exact ⟨d, e, rfl⟩
theorem len3 {ds : List D} (h : ds.length = 3) : ∃ d e f, ds = [d, e, f] := by
  match ds, h with
  | [d, e, f], _ => exact ⟨d, e, f, rfl⟩
theorem intK_get {d : D} {k : Int → Prop} (h : intK d k) : ∃ n, d = .int n ∧ inB n ∧ k n := by
  cases d with
  | int n => exact ⟨n, rfl, h.1, h.2⟩
  | _ => exact h.elim
theorem enum_at : ∀ {l : List D} {k i : Nat} {d : D}, (enumL k l)[i]? = some d → ∃ x, l[i]? = some x ∧ d = .tup [.int ((k + i : Nat) : Int), x]
  | [], k, i, d, h => by cases i <;> cases h
  | y :: l, k, 0, d, h => by cases h; exact ⟨y, rfl, rfl⟩
  | y :: l, k, i + 1, d, h => by
    obtain ⟨x, h1, h2⟩ := enum_at (l := l) (k := k + 1) (i := i) h
    exact ⟨x, h1, by rw [h2, show k + 1 + i = k + (i + 1) by omega]⟩
theorem enum_len : ∀ {l : List D} {k : Nat}, (enumL k l).length = l.length
  | [], _ => rfl
  | _ :: l, k => by show (enumL (k + 1) l).length + 1 = l.length + 1; rw [enum_len]
theorem walks_enum {a : Addr} {l : List D} : Walks X T (Ite X.K a) H1 (enumL 0 l) (fun μ' => μ' a = some (.lst l)) := fun i H μ _ rh hc => by
  obtain ⟨vs, hs, rl⟩ := rh a _ hc
  refine ⟨fun d hd => ?_, fun hi => ⟨vs, SqL.of hs, by rw [← rl.length, ← enum_len (k := 0)]; exact hi⟩⟩
  obtain ⟨y, hy, rfl⟩ := enum_at hd
  obtain ⟨v, h1, h2⟩ := rl.get hy
  refine ⟨⟨vs, v, SqL.of hs, h1⟩, fun x H' ⟨p, w, e1, e2, e3, e4⟩ => ?_⟩
  subst e1 e3
  have := e4 vs (SqL.of hs)
  rw [h1] at this; cases this
  have st : Keeps H (L2.upd H p (.tup [.int ((i : Nat) : Int), v])) := .new e2
  refine ⟨⟨p, [.int ((i : Nat) : Int), v], rfl, .inl (.inl L2.upd_same), ⟨_, _, rfl, by rw [Nat.zero_add]; rfl, _, _, rfl, h2.mono st, rfl⟩⟩, rh.newT e2, Fr.newT e2⟩
theorem walks_enumT {a : Addr} {l : List D} {vs : List V} (st : SqT X.K H1 a vs) (rl : RepVs X.K H1 l vs) : Walks X T (IteT X.K a) H1 (enumL 0 l) (fun _ => True) := fun i H μ hk rh _ => by
  have hs := hk.sqT st
  have rl := rl.mono hk
  refine ⟨fun d hd => ?_, fun hi => ⟨vs, hs, by rw [← rl.length, ← enum_len (k := 0)]; exact hi⟩⟩
  obtain ⟨y, hy, rfl⟩ := enum_at hd
  obtain ⟨v, h1, h2⟩ := rl.get hy
  refine ⟨⟨vs, v, hs, h1⟩, fun x H' ⟨p, w, e1, e2, e3, e4⟩ => ?_⟩
  subst e1 e3
  have := e4 vs hs
  rw [h1] at this; cases this
  have st : Keeps H (L2.upd H p (.tup [.int ((i : Nat) : Int), v])) := .new e2
  refine ⟨⟨p, [.int ((i : Nat) : Int), v], rfl, .inl (.inl L2.upd_same), ⟨_, _, rfl, by rw [Nat.zero_add]; rfl, _, _, rfl, h2.mono st, rfl⟩⟩, rh.newT e2, Fr.newT e2⟩
theorem i_enum {a : Expr} {c : E} {p pos tpos : Pos} {elts : List Expr} {kk : Nat} (hg : Gl X "enumerate") (hm : X.mg "enumerate" = none) (ha : PA X [a] (tA X T G c)) (hs : starEach [a] X.env = [(false, eval a X.env)]) (hl : alen c = 1) : PI X (.Tuple elts kk tpos) (.Call (.Name "enumerate" p) [a] [] pos) (tI X T G .enum c) :=
  (pi_enumX hg hm ha hs).imp fun σ H R ⟨ρ, μ, Q, rs, rh, hw, p⟩ => ⟨ρ, μ, _, rs, rh, hw, fun ds vs H1 μ1 rv rh1 f1 hn q1 => by
    obtain ⟨d, rfl⟩ := len1 (hn.trans hl)
    replace rv := rv.get1
    obtain ⟨v, rfl, rv⟩ := rv
    cases d with
    | ref a =>
      obtain ⟨l, ea, q1⟩ := rdL_get q1
      cases rv
      obtain ⟨vs, h1, r1⟩ := rh1 a _ ea
      exact ⟨a, rfl, .inl ⟨vs, SqL.of h1, p _ _ _ H1 μ1 rh1 f1 ea walks_enum q1⟩⟩
    | tup l =>
      obtain ⟨a, vs, rfl, st, rl⟩ := rv
      exact ⟨a, rfl, .inr ⟨vs, st, p _ _ _ H1 μ1 rh1 f1 trivial (walks_enumT st rl) q1⟩⟩
    | _ => exact (show False from q1).elim⟩
theorem zipL_at : ∀ {l m : List D} {i : Nat} {d : D}, (zipL l m)[i]? = some d → ∃ x y, l[i]? = some x ∧ m[i]? = some y ∧ d = .tup [x, y]
  | [], _, i, d, h => by simp [zipL] at h
  | _ :: _, [], i, d, h => by simp [zipL] at h
  | x :: l, y :: m, 0, d, h => by cases h; exact ⟨x, y, rfl, rfl, rfl⟩
  | x :: l, y :: m, i + 1, d, h => by
    obtain ⟨a, b, h1, h2, h3⟩ := zipL_at (l := l) (m := m) (i := i) h
    exact ⟨a, b, h1, h2, h3⟩
theorem zipL_len : ∀ {l m : List D}, (zipL l m).length = min l.length m.length
  | [], m => by simp [zipL]
  | _ :: _, [] => by simp [zipL]
  | x :: l, y :: m => by show (zipL l m).length + 1 = _; rw [zipL_len, List.length_cons, List.length_cons]; omega
theorem pair_new {H : Hp} {p : Addr} {x y : V} {dx dy : D} (e : H p = none) (rx : RepV X.K H dx x) (ry : RepV X.K H dy y) : RepV X.K (L2.upd H p (.tup [x, y])) (.tup [dx, dy]) (.ref p) := by
  have st : Keeps H (L2.upd H p (.tup [x, y])) := .new e
  exact ⟨p, [x, y], rfl, .inl (.inl L2.upd_same), ⟨_, _, rfl, rx.mono st, _, _, rfl, ry.mono st, rfl⟩⟩
theorem walks_zip {a b : Addr} {l m : List D} : Walks X T (Itz X.K a b) H1 (zipL l m) (fun μ' => μ' a = some (.lst l) ∧ μ' b = some (.lst m)) := fun i H μ _ rh hc => by
  obtain ⟨vs, hs, rl⟩ := rh a _ hc.1
  obtain ⟨us, hu, rm⟩ := rh b _ hc.2
  refine ⟨fun d hd => ?_, fun hi => ⟨vs, us, SqL.of hs, SqL.of hu, ?_⟩⟩
  · obtain ⟨x, y, h1, h2, rfl⟩ := zipL_at hd
    obtain ⟨v, h3, h4⟩ := rl.get h1
    obtain ⟨u, h5, h6⟩ := rm.get h2
    refine ⟨⟨vs, us, v, u, SqL.of hs, SqL.of hu, h3, h5⟩, fun z H' ⟨p, w1, w2, e1, e2, e3, e4, e5⟩ => ?_⟩
    subst e1 e3
    have q1 := e4 vs (SqL.of hs)
    have q2 := e5 us (SqL.of hu)
    rw [h3] at q1; cases q1
    rw [h5] at q2; cases q2
    exact ⟨pair_new e2 h4 h6, rh.newT e2, Fr.newT e2⟩
  · rw [zipL_len] at hi
    rw [← rl.length, ← rm.length]; omega
theorem walks_zipT {a b : Addr} {l m : List D} {vs us : List V} (s1 : SqT X.K H1 a vs) (r1 : RepVs X.K H1 l vs) (s2 : SqT X.K H1 b us) (r2 : RepVs X.K H1 m us) : Walks X T (RZ.ItzT X.K a b) H1 (zipL l m) (fun _ => True) := fun i H μ hk rh _ => by
  have s1 := hk.sqT s1
  have s2 := hk.sqT s2
  have rl := r1.mono hk
  have rm := r2.mono hk
  refine ⟨fun d hd => ?_, fun hi => ⟨vs, us, s1, s2, ?_⟩⟩
  · obtain ⟨x, y, h1, h2, rfl⟩ := zipL_at hd
    obtain ⟨v, h3, h4⟩ := rl.get h1
    obtain ⟨u, h5, h6⟩ := rm.get h2
    refine ⟨⟨vs, us, v, u, s1, s2, h3, h5⟩, fun z H' ⟨p, w1, w2, e1, e2, e3, e4, e5⟩ => ?_⟩
    subst e1 e3
    have q1 := e4 vs s1
    have q2 := e5 us s2
    rw [h3] at q1; cases q1
    rw [h5] at q2; cases q2
    exact ⟨pair_new e2 h4 h6, rh.newT e2, Fr.newT e2⟩
  · rw [zipL_len] at hi
    rw [← rl.length, ← rm.length]; omega
theorem i_zip {a b : Expr} {c : E} {p pos tpos : Pos} {elts : List Expr} {kk : Nat} (hg : Gl X "zip") (hm : X.mg "zip" = none) (ha : PA X [a, b] (tA X T G c)) (hs : starEach [a, b] X.env = (false, eval a X.env) :: starEach [b] X.env) (hpl : (backTo pos (starEach [b] X.env)).any (·.1) = false) (hl : alen c = 2) : PI X (.Tuple elts kk tpos) (.Call (.Name "zip" p) [a, b] [] pos) (tI X T G .zip c) :=
  (RZ.pi_zipA hg hm ha hs hpl).imp fun σ H R ⟨ρ, μ, Q, rs, rh, hw, p⟩ => ⟨ρ, μ, _, rs, rh, hw, fun ds vs H1 μ1 rv rh1 f1 hn q1 => by
    obtain ⟨d, e, rfl⟩ := len2 (hn.trans hl)
    replace rv := rv.get2
    obtain ⟨v, u, rfl, rv, ru⟩ := rv
    cases d with
    | ref a =>
      cases e with
      | ref b =>
        obtain ⟨l, ea, q1⟩ := rdL_get (show rdL μ1 a fun l => rdL μ1 b fun m => Q (zipL l m) (fun μ' => μ' a = some (.lst l) ∧ μ' b = some (.lst m)) μ1 from q1)
        obtain ⟨m, eb, q1⟩ := rdL_get q1
        cases rv; cases ru
        obtain ⟨vs, h1, r1⟩ := rh1 a _ ea
        obtain ⟨us, h2, r2⟩ := rh1 b _ eb
        exact ⟨a, b, vs, us, rfl, .inl ⟨SqL.of h1, SqL.of h2, p _ _ _ H1 μ1 rh1 f1 ⟨ea, eb⟩ walks_zip q1⟩⟩
      | _ => exact (show False from q1).elim
    | tup l =>
      cases e with
      | tup m =>
        obtain ⟨a, vs, rfl, s1, r1⟩ := rv
        obtain ⟨b, us, rfl, s2, r2⟩ := ru
        exact ⟨a, b, vs, us, rfl, .inr ⟨s1, s2, p _ _ _ H1 μ1 rh1 f1 trivial (walks_zipT s1 r1 s2 r2) q1⟩⟩
      | _ => exact (show False from q1).elim
    | _ => exact (show False from q1).elim⟩
theorem i_range1 {tg a : Expr} {c : E} {p pos : Pos} (hg : Gl X "range") (hm : X.mg "range" = none) (ha : PA X [a] (tA X T G c)) (hs : starEach [a] X.env = [(false, eval a X.env)]) (hl : alen c = 1) : PI X tg (.Call (.Name "range" p) [a] [] pos) (tI X T G .range c) :=
  (pi_range1 hg hm ha hs).imp fun σ H R ⟨ρ, μ, Q, rs, rh, hw, p⟩ => ⟨ρ, μ, _, rs, rh, hw, fun ds vs H1 μ1 rv rh1 f1 hn q1 => by
    obtain ⟨d, rfl⟩ := len1 (hn.trans hl)
    obtain ⟨n, rfl, ⟨h1, h2⟩, q1⟩ := intK_get (show intK d _ from q1)
    replace rv := rv.get1
    obtain ⟨v, rfl, rv⟩ := rv
    cases rv
    exact ⟨n, rfl, by omega, by omega, p _ _ _ H1 μ1 rh1 f1 trivial walks_rng q1⟩⟩
theorem i_range2 {tg a b : Expr} {c : E} {p pos : Pos} (hg : Gl X "range") (hm : X.mg "range" = none) (ha : PA X [a, b] (tA X T G c)) (hs : starEach [a, b] X.env = [(false, eval a X.env), (false, eval b X.env)]) (hs2 : starEach [b] X.env = [(false, eval b X.env)]) (hl : alen c = 2) : PI X tg (.Call (.Name "range" p) [a, b] [] pos) (tI X T G .range c) :=
  (pi_range2 hg hm ha hs hs2).imp fun σ H R ⟨ρ, μ, Q, rs, rh, hw, p⟩ => ⟨ρ, μ, _, rs, rh, hw, fun ds vs H1 μ1 rv rh1 f1 hn q1 => by
    obtain ⟨d, e, rfl⟩ := len2 (hn.trans hl)
    obtain ⟨n, rfl, ⟨h1, h2⟩, q1⟩ := intK_get (show intK d _ from q1)
    obtain ⟨m, rfl, ⟨h3, h4⟩, q1⟩ := intK_get q1
    replace rv := rv.get2
    obtain ⟨v, u, rfl, rv, ru⟩ := rv
    cases rv; cases ru
    exact ⟨n, m, rfl, ⟨by omega, by omega, by omega, by omega⟩, p _ _ _ H1 μ1 rh1 f1 trivial walks_rng q1⟩⟩
theorem i_range3 {tg a b b2 : Expr} {c : E} {p pos : Pos} (hg : Gl X "range") (hm : X.mg "range" = none) (ha : PA X [a, b, b2] (tA X T G c)) (hs : starEach [a, b, b2] X.env = (false, eval a X.env) :: starEach [b, b2] X.env) (hpl : (backTo pos (starEach [b, b2] X.env)).any (·.1) = false) (hl : alen c = 3) : PI X tg (.Call (.Name "range" p) [a, b, b2] [] pos) (tI X T G .range c) :=
  (pi_range3 hg hm ha hs hpl).imp fun σ H R ⟨ρ, μ, Q, rs, rh, hw, p⟩ => ⟨ρ, μ, _, rs, rh, hw, fun ds vs H1 μ1 rv rh1 f1 hn q1 => by
    obtain ⟨d, e, f, rfl⟩ := len3 (hn.trans hl)
    obtain ⟨n, rfl, ⟨h1, h2⟩, q1⟩ := intK_get (show intK d _ from q1)
    obtain ⟨m, rfl, ⟨h3, h4⟩, q1⟩ := intK_get q1
    obtain ⟨k, rfl, _, hk, q2⟩ := intK_get q1
    subst hk
    replace rv := rv.get3
    obtain ⟨v, u, w', rfl, rv, ru, rw'⟩ := rv
    cases rv; cases ru; cases rw'
    exact ⟨n, m, -1, _, rfl, RgC.neg (by omega) (by omega) (by omega) (by omega), p _ _ _ H1 μ1 rh1 f1 trivial walks_rngC q2⟩⟩
end
end MP

set_option linter.all false
set_option maxRecDepth 100000
set_option maxHeartbeats 1000000
set_option Elab.async false
/-! MP5f: list(range(..)), tuple(range(..)); x or {}. -/
namespace MP
open PySem PySem.Spec PyProof.Rows L2
section
variable {X : Cx} {T : Tab} {G : Ctx} {H H' H1 : Hp} {μ μ' μ1 : Sto} {Q : D → Sto → Prop} {Q' : VK} {σ : L2.St} {ρ : Env}
theorem rep_map {K : PySem.W.Frag} {H : Hp} {f : Nat → D} {g : Nat → V} (h : ∀ i, RepV K H (f i) (g i)) : ∀ l : List Nat, RepVs K H (l.map f) (l.map g)
  | [] => rfl
  | i :: l => ⟨_, _, rfl, h i, rep_map h l⟩
theorem rep_rng {K : PySem.W.Frag} {H : Hp} {a b : Int} : RepVs K H (rangeL a (b - a).toNat 1) (rgV a b) :=
  rep_map (f := fun i => D.int (a + (i : Int) * 1)) (g := fun i => V.int (a + (i : Nat))) (fun i => show V.int (a + (i : Nat)) = V.int (a + (i : Int) * 1) by rw [Int.mul_one]) _
/-- what is wanted of the ends -/
theorem rng_end {t : Bool} {a b : Int} (rh1 : RepH X.w X.K T H1 μ1) (f1 : Fr H μ H1 μ1) (p : Pst X T H μ Q Q') (q : match t with
    | true => Q (.tup (rangeL a (b - a).toNat 1)) μ1
    | false => new μ1 (.lst (rangeL a (b - a).toNat 1)) Q) : ∀ q, H1 q = none → Q' (.ref q) (L2.upd H1 q (if t = true then .tup (rgV a b) else .lst (rgV a b))) := fun z hz => by
  cases t with
  | true => exact p (.tup (rangeL a (b - a).toNat 1)) (.ref z) _ μ1 ⟨z, _, rfl, SqT.of L2.upd_same, rep_rng⟩ (rh1.newT hz) (f1.trans (Fr.newT hz)) q
  | false => exact p (.ref z) (.ref z) _ _ rfl (rh1.newO hz (ob := .lst (rangeL a (b - a).toNat 1)) ⟨_, L2.upd_same, rep_rng⟩) (f1.trans (Fr.newO hz)) (q z (rh1.free hz))
theorem e_rng1 {t : Bool} {a : Expr} {ca : E} {p pos p2 pos2 : Pos} (hc : X.calm = true) (hg : Gl X (if t = true then "tuple" else "list")) (hm : X.mg (if t = true then "tuple" else "list") = none) (hg2 : Gl X "range") (hm2 : X.mg "range" = none) (ha : PE X a (tE X T G ca)) (na : starEach [a] X.env = (false, eval a X.env) :: starEach [] X.env) :
    PE X (.Call (.Name (if t = true then "tuple" else "list") p) [.Call (.Name "range" p2) [a] [] pos2] [] pos) (tE X T G (.rng t (.cons ca .nil))) := by
  have key : ∀ σ H Q', tE X T G (.rng t (.cons ca .nil)) σ H Q' → tRg1 (tE X T G ca) σ H fun a b H1 => RgOk a b ∧ ∀ q, H1 q = none → Q' (.ref q) (L2.upd H1 q (if t = true then .tup (rgV a b) else .lst (rgV a b))) := fun σ H Q' ⟨ρ, μ, Q, rs, rh, hw, p⟩ =>
    ⟨ρ, μ, _, rs, rh, hw, fun d v H1 μ1 rv rh1 f1 q1 => by
      obtain ⟨n, rfl, hb, hn, q⟩ := intK_get (show intK d _ from q1)
      obtain rfl : v = .int n := rv
      have e0 : (n - 0) = n := by omega
      obtain ⟨b1, b2⟩ := hb
      refine ⟨n, rfl, ⟨by omega, by omega, by omega, by omega, by omega⟩, rng_end rh1 f1 p ?_⟩
      rw [e0]; exact q⟩
  cases t with
  | true => exact (pe_tupRg hc hg hm (prg_1 hg2 hm2 ha na)).imp key
  | false => exact (pe_listRg hc hg hm (prg_1 hg2 hm2 ha na)).imp key
theorem e_rng2 {t : Bool} {a b : Expr} {ca cb : E} {p pos p2 pos2 : Pos} (hc : X.calm = true) (hg : Gl X (if t = true then "tuple" else "list")) (hm : X.mg (if t = true then "tuple" else "list") = none) (hg2 : Gl X "range") (hm2 : X.mg "range" = none) (ha : PE X a (tE X T G ca)) (hb : PE X b (tE X T G cb)) (na : starEach [a, b] X.env = (false, eval a X.env) :: starEach [b] X.env) (nb : starEach [b] X.env = (false, eval b X.env) :: starEach [] X.env) (nc : (backTo pos2 (starEach [b] X.env)).any (·.1) = false) :
    PE X (.Call (.Name (if t = true then "tuple" else "list") p) [.Call (.Name "range" p2) [a, b] [] pos2] [] pos) (tE X T G (.rng t (.cons ca (.cons cb .nil)))) := by
  have key : ∀ σ H Q', tE X T G (.rng t (.cons ca (.cons cb .nil))) σ H Q' → tRg2 (tE X T G ca) (tE X T G cb) σ H fun a b H1 => RgOk a b ∧ ∀ q, H1 q = none → Q' (.ref q) (L2.upd H1 q (if t = true then .tup (rgV a b) else .lst (rgV a b))) := fun σ H Q' ⟨ρ, μ, Q, rs, rh, hw, p⟩ =>
    ⟨ρ, μ, _, rs, rh, hw, fun d v H1 μ1 rv rh1 f1 q1 => ⟨ρ, μ1, _, rs.mono (f1.keeps rh), rh1, q1, fun d2 v2 H2 μ2 rv2 rh2 f2 q2 => by
      obtain ⟨i, rfl, hi, q⟩ := intK_get (show intK d _ from q2)
      obtain ⟨j, rfl, hj, hn, q⟩ := intK_get q
      obtain rfl : v = .int i := rv
      obtain rfl : v2 = .int j := rv2
      obtain ⟨b1, b2⟩ := hi
      obtain ⟨b3, b4⟩ := hj
      exact ⟨i, j, rfl, rfl, ⟨by omega, by omega, by omega, by omega, by omega⟩, rng_end rh2 (f1.trans f2) p q⟩⟩⟩
  cases t with
  | true => exact (pe_tupRg hc hg hm (prg_2 hg2 hm2 ha hb na nb nc)).imp key
  | false => exact (pe_listRg hc hg hm (prg_2 hg2 hm2 ha hb na nb nc)).imp key
/-- a value, or a new dict in its place -/
theorem e_orD {a : Expr} {ca : E} {p pos : Pos} (ha : PE X a (tE X T G ca)) : PE X (.BoolOp .Or [a, .Dict [] [] p] pos) (tE X T G (.orD ca)) :=
  (pe_orT ha (pe_one pe_dnewK)).imp fun σ H Q' ⟨ρ, μ, Q, rs, rh, hw, pq⟩ => ⟨ρ, μ, _, rs, rh, hw, fun d v H1 μ1 rv rh1 f1 q1 => by
    have mk : new μ1 (.dF []) Q → tDNewK σ H1 Q' := fun q z hz => pq (.ref z) (.ref z) _ _ rfl (rh1.newO hz (ob := .dF []) ⟨[], L2.upd_same, rfl⟩) (f1.trans (Fr.newO hz)) (q z (rh1.free hz))
    cases d with
    | non =>
      obtain rfl : v = .non := rv
      exact ⟨false, rfl, mk q1⟩
    | ref b =>
      obtain rfl : v = .ref b := rv
      unfold orDP at q1
      cases e : μ1 b with
      | none => simp only [e] at q1
      | some o =>
        simp only [e] at q1
        cases o with
        | dF l =>
          obtain ⟨kvs, hs, rk⟩ := rh1 b _ e
          have hl : kvs.isEmpty = l.isEmpty := by
            cases l with
            | nil => rw [show kvs = [] from rk]; rfl
            | cons z r => obtain ⟨κ, w, q, e2, _⟩ := rk; rw [e2]; rfl
          refine ⟨!kvs.isEmpty, .inr (.inr ⟨kvs, hs, rfl⟩), ?_⟩
          simp only at q1
          rw [hl]
          cases hz : l.isEmpty with
          | true => rw [hz] at q1; exact mk q1
          | false =>
            rw [hz] at q1
            have q1 : Q (.ref b) μ1 := q1
            exact (pq.step f1).val rh1 (show RepV X.K H1 (.ref b) (.ref b) from rfl) q1
        | _ => exact q1.elim
    | _ => exact (show False from q1).elim⟩
end
end MP

set_option linter.all false
set_option maxRecDepth 100000
set_option maxHeartbeats 1000000
set_option Elab.async false
/-! MP7: comprehensions, statements. -/
namespace MP
open PySem PySem.Spec PyProof.Rows L2
section
variable {X : Cx} {T : Tab} {G : Ctx} {H H' H1 H2 : Hp} {μ μ' μ1 μ2 : Sto} {Q : D → Sto → Prop} {Q' : VK} {σ σ' : L2.St} {ρ ρ' : Env}
/-! ### comprehensions -/
theorem RepS.setN {K : PySem.W.Frag} {i : Nat} (h : RepS K H ρ σ) : RepS K H (ρ.set i none) (σ.set i none) := by
  refine ⟨by rw [List.length_set, List.length_set]; exact h.1, fun j d e => ?_⟩
  by_cases hj : i = j
  · subst hj
    by_cases hi : i < ρ.length
    · rw [List.getElem?_set_self hi] at e; cases e
    · rw [List.getElem?_eq_none (by rw [List.length_set]; omega)] at e; cases e
  · rw [List.getElem?_set_ne hj] at e ⊢
    exact h.2 j d e
theorem RepS.wipe {K : PySem.W.Frag} (h : RepS K H ρ σ) : ∀ vs : List Nat, RepS K H (MP.wipe ρ vs) (L2.wipe σ vs)
  | [] => h
  | _ :: vs => (RepS.wipe h vs).setN
theorem wipe_at {σ : L2.St} : ∀ {vs : List Nat} {i : Nat}, (L2.wipe σ vs)[i]? = if i ∈ vs then (σ[i]?).map fun _ => none else σ[i]?
  | [], i => by simp [L2.wipe]
  | v :: vs, i => by
    show ((L2.wipe σ vs).set v none)[i]? = _
    by_cases h : v = i
    · subst h
      rw [if_pos List.mem_cons_self, List.getElem?_set_self', wipe_at]
      split <;> cases σ[v]? <;> rfl
    · rw [List.getElem?_set_ne h, wipe_at]
      have : (i ∈ v :: vs) ↔ i ∈ vs := by simp [Ne.symm h]
      simp only [this]
theorem wipe_off {vs l : List Nat} {σ σ2 : L2.St} (o : Off l (L2.wipe σ vs) σ2) (hl : ∀ i ∈ l, i ∈ vs) : L2.wipe σ2 vs = L2.wipe σ vs := by
  refine List.ext_getElem? fun i => ?_
  rw [wipe_at, wipe_at]
  have hlen : σ2.length = σ.length := by rw [o.1, wipe_length]
  by_cases hi : i ∈ vs
  · rw [if_pos hi, if_pos hi]
    by_cases h : i < σ.length
    · rw [List.getElem?_eq_getElem h, List.getElem?_eq_getElem (by omega)]; rfl
    · rw [List.getElem?_eq_none (by omega), List.getElem?_eq_none (by omega)]
  · rw [if_neg hi, if_neg hi, o.2 i (fun z => hi (hl i z)), wipe_at, if_neg hi]
theorem c_yes : PTs X [] (tB X T G (.cb true)) := ⟨fun pins s σ H Q I hw => pts_nil.run pins s σ H Q I (by
  obtain ⟨ρ, μ, Qb, rs, rh, hw, p⟩ := hw
  exact p true H μ rh .refl hw)⟩
theorem c_one {c : Expr} {cc : E} (h : PT X c (tB X T G cc)) : PTs X [c] (tB X T G cc) := pts_one h
/-- the comprehension's own turns -/
abbrev compT (G : Ctx) (elt cond : E) (p : P) (ρ : Env) (own : List Nat) : D → Sto → (Option D → Sto → Prop) → Prop :=
  fun d μ2 K => optP (matP p d (wipe ρ own)) fun ρ' => wpE G cond ρ' μ2 (fun c μ3 => br c (wpE G elt ρ' μ3 (fun y μ4 => K (some y) μ4) XF) (K none μ3)) XF
theorem lc_read {elt cond src : E} {p : P} {k : IK} {vs : List Nat} (hs : ∀ i ∈ slotsP p, i ∈ vs) {Qv : VK}
    (h : tE X T G (.comp elt p k src cond vs) σ H Qv) : tLc (tI X T G k src) (tP X p) (tB X T G cond) (tE X T G elt) vs σ H Qv := by
  obtain ⟨ρ, μ, Q, rs, rh, hw, pq⟩ := h
  refine ⟨ρ, μ, fun l chk μ1 => compP chk (compT G elt cond p ρ vs) (fun acc μ2 => new μ2 (.lst acc) Q) l [] μ1, rs, rh, hw, fun J l chk H1 μ1 rh1 f1 hc wk q1 => ?_⟩
  intro D0 hD
  refine ⟨fun i m H2 => m = l.length - i ∧ i ≤ l.length ∧ ∃ μ2 acc va, RepH X.w X.K T H2 μ2 ∧ Fr H1 μ1 H2 μ2 ∧ H2 D0 = some (.lst va) ∧ μ2 D0 = none ∧ RepVs X.K H2 acc va ∧ compP chk (compT G elt cond p ρ vs) (fun acc μ2 => new μ2 (.lst acc) Q) (l.drop i) acc μ2,
    ⟨l.length, by simp, Nat.zero_le _, μ1, [], [], rh1.newT hD, Fr.newT hD, L2.upd_same, rh1.free hD, rfl, q1⟩, ?_⟩
  rintro i m H2 ⟨rfl, hi, μ2, acc, va, rh2, f2, hv, hn, ra, q2⟩
  have wi := wk i H2 μ2 (f2.keeps rh1) rh2
  by_cases hlt : i < l.length
  · have ed : l.drop i = l[i] :: l.drop (i + 1) := by rw [List.drop_eq_getElem_cons hlt]
    rw [ed] at q2
    obtain ⟨hc2, q2⟩ := q2
    obtain ⟨hgo, hy⟩ := (wi hc2).1 l[i] (List.getElem?_eq_getElem hlt)
    refine .inr ⟨hgo, fun H' => ∃ m', m' < l.length - i ∧ (m' = l.length - (i + 1) ∧ i + 1 ≤ l.length ∧ ∃ μ2 acc va, RepH X.w X.K T H' μ2 ∧ Fr H1 μ1 H' μ2 ∧ H' D0 = some (.lst va) ∧ μ2 D0 = none ∧ RepVs X.K H' acc va ∧ compP chk (compT G elt cond p ρ vs) (fun acc μ2 => new μ2 (.lst acc) Q) (l.drop (i + 1)) acc μ2), fun H' z => z, fun x H3 hx => ?_⟩
    obtain ⟨rx, rh3, f3⟩ := hy x H3 hx
    obtain ⟨ρ', e, q2⟩ := optP_get q2
    have f03 := f1.trans (f2.trans f3)
    have rs3 := (rs.mono (f03.keeps rh)).wipe vs
    refine ⟨l[i], _, ρ', rx, rs3, e, fun σ2 rs2 off => ⟨wipe_off off hs, ρ', μ2, _, rs2, rh3, q2, fun b H4 μ4 rh4 f4 q4 => ?_⟩⟩
    obtain ⟨q5, q6⟩ := q4
    have hv4 := (f3.trans f4).out D0 _ hv hn fun _ => HO.noConfusion
    cases b with
    | true =>
      rw [if_pos rfl]
      refine ⟨ρ', μ4, _, rs2.mono (f4.keeps rh3), rh4, q5 rfl, fun y vy H5 μ5 ry rh5 f5 q7 => ?_⟩
      obtain ⟨hz, q7⟩ := q7
      obtain ⟨hv5, hn5⟩ := f5.out D0 _ hv4.1 hv4.2 fun _ => HO.noConfusion
      have ra5 := ra.mono (((f3.trans f4).trans f5).keeps rh2)
      have kp : Keeps H5 (L2.upd H5 D0 (.lst (va ++ [vy]))) := .upd (fun _ z => by rw [hv5] at z; cases z) (fun _ _ _ z => by rw [hv5] at z; cases z)
      refine ⟨va, hv5, by rw [← ra.length, ← sizeMax_eq]; exact hz, l.length - (i + 1), by omega, rfl, hlt, μ5, acc ++ [y], va ++ [vy], rh5.hid (.inl ⟨_, rfl⟩) hv5 hn5, ⟨fun a o ha hm hn => ?_, fun a l u ha hm => ?_⟩, L2.upd_same, hn5, (ra5.append (.one ry)).mono kp, q7⟩
      · obtain ⟨h1, h2⟩ := (f2.trans ((f3.trans f4).trans f5)).out a o ha hm hn
        exact ⟨by rw [L2.upd_ne (ne_at ha hD)]; exact h1, h2⟩
      · obtain ⟨h1, h2⟩ := (f2.trans ((f3.trans f4).trans f5)).lk a l u ha hm
        exact ⟨by rw [L2.upd_ne (ne_at ha hD)]; exact h1, h2⟩
    | false =>
      rw [if_neg (by decide)]
      exact ⟨l.length - (i + 1), by omega, rfl, hlt, μ4, acc, va, rh4, f2.trans (f3.trans f4), hv4.1, hv4.2, ra.mono ((f3.trans f4).keeps rh2), q6 rfl⟩
  · have ei : i = l.length := by omega
    subst ei
    rw [List.drop_length] at q2
    obtain ⟨hc2, q2⟩ := q2
    refine .inl ⟨(wi hc2).2 (Nat.le_refl _), ?_⟩
    have rh4 : RepH X.w X.K T H2 (MP.upd μ2 D0 (.lst acc)) := rh2.own (.inl ⟨_, rfl⟩) hv ⟨va, hv, ra⟩
    refine pq (.ref D0) _ H2 _ rfl rh4 ⟨fun a o ha hm nt => ?_, fun a l u ha hm => ?_⟩ (q2 D0 hn)
    · obtain ⟨h1, h2⟩ := (f1.trans f2).out a o ha hm nt
      exact ⟨h1, by rw [upd_off (ne_at (f1.out a o ha hm nt).1 hD)]; exact h2⟩
    · obtain ⟨h1, h2⟩ := (f1.trans f2).lk a l u ha hm
      exact ⟨h1, by rw [upd_off (ne_at (f1.lk a l u ha hm).1 hD)]; exact h2⟩
abbrev Blk (X : Cx) (s : Shared) (H : Hp) (scope : Scope) (C : Addr) (cl : List (Str × Addr)) (fp : List Addr) : Cx := X.blk s H scope (compEnvC scope cl C X.env) fp
theorem e_comp {elt tg iter : Expr} {ifs : List Expr} {scope : Scope} {own : List (Str × Nat)} {pos : Pos} {ce cc csrc : E} {p : P} {k : IK} (hc : X.calm = true) (hN : X.N.Nodup) (hi : PI X tg iter (tI X T G k csrc)) (ok : BlkOk X.N X.env.scope scope own)
    (hg : ∀ s H C cl fp, PG (Blk X s H scope C cl fp) tg (tP X p)) (ht : ∀ s H C cl fp, PTs (Blk X s H scope C cl fp) ifs (tB X T G cc)) (he : ∀ s H C cl fp, PE (Blk X s H scope C cl fp) elt (tE X T G ce))
    (hs : ∀ x, foldedSetIterable iter X.env x = pure x) (hsl : ∀ i ∈ slotsP p, i ∈ own.map (·.2)) : PE X (.ListComp elt [⟨tg, iter, ifs, 0⟩] scope pos) (tE X T G (.comp ce p k csrc cc (own.map (·.2)))) :=
  (pe_lc hc hN hi ok hg ht he hs).imp fun σ H Q' h => lc_read hsl h
/-! ### statements -/
def tS (X : Cx) (T : Tab) (G : Ctx) (c : MP.St) : TS := fun D0 σ H => ∃ ρ μ R, RepS X.K H ρ σ ∧ RepH X.w X.K T H μ ∧ wpS G c ρ μ R ∧ R.ex = XF ∧
  (∀ ρ' σ' H' μ', RepS X.K H' ρ' σ' → RepH X.w X.K T H' μ' → Fr H μ H' μ' → R.nx ρ' μ' → D0.nx σ' H') ∧
  (∀ d v H' μ', RepV X.K H' d v → RepH X.w X.K T H' μ' → Fr H μ H' μ' → R.rt d μ' → D0.rt v H')
theorem _root_.L2.PS.imp {e : Stmt} {t t' : TS} (h : PS X e t) (i : ∀ D0 σ H, t' D0 σ H → t D0 σ H) : PS X e t' := ⟨fun pins s σ H D0 I hw => h.run pins s σ H D0 I (i D0 σ H hw)⟩
theorem _root_.L2.PSs.imp {e : List Stmt} {t t' : TS} (h : PSs X e t) (i : ∀ D0 σ H, t' D0 σ H → t D0 σ H) : PSs X e t' := ⟨fun pins s σ H D0 I hw => h.run pins s σ H D0 I (i D0 σ H hw)⟩
theorem ss_nil : PSs X [] (tS X T G .nop) := pss_nil.imp fun D0 σ H ⟨ρ, μ, R, rs, rh, hw, _, p1, p2⟩ => p1 ρ σ H μ rs rh .refl hw
theorem ss_one {st : Stmt} {c : MP.St} (h : PS X st (tS X T G c)) : PSs X [st] (tS X T G c) := pss_one h
theorem ss_cons {st : Stmt} {rest : List Stmt} {a b : MP.St} (h1 : PS X st (tS X T G a)) (h2 : PSs X rest (tS X T G b)) : PSs X (st :: rest) (tS X T G (.seq a b)) :=
  (pss_cons h1 h2).imp fun D0 σ H ⟨ρ, μ, R, rs, rh, hw, hx, p1, p2⟩ =>
    ⟨ρ, μ, _, rs, rh, hw, hx, fun ρ1 σ1 H1 μ1 rs1 rh1 f1 q1 => ⟨ρ1, μ1, R, rs1, rh1, q1, hx, fun ρ2 σ2 H2 μ2 rs2 rh2 f2 q2 => p1 ρ2 σ2 H2 μ2 rs2 rh2 (f1.trans f2) q2, fun d v H2 μ2 rv rh2 f2 q2 => p2 d v H2 μ2 rv rh2 (f1.trans f2) q2⟩, p2⟩
theorem s_pass {pos : Pos} : PS X (.Pass pos) (tS X T G .nop) := ps_pass.imp fun D0 σ H ⟨ρ, μ, R, rs, rh, hw, _, p1, p2⟩ => p1 ρ σ H μ rs rh .refl hw
theorem s_expr {e : Expr} {c : E} {pos : Pos} (he : PE X e (tE X T G c)) (hs : swapsWith e none pos.line X.env = pure false) : PS X (.Expr e pos) (tS X T G (.expr c)) :=
  (ps_expr he hs).imp fun D0 σ H ⟨ρ, μ, R, rs, rh, hw, hx, p1, p2⟩ => by
    have hw : wpE G c ρ μ (fun _ μ1 => R.nx ρ μ1) R.ex := hw
    rw [hx] at hw
    exact ⟨ρ, μ, _, rs, rh, hw, fun d v H1 μ1 rv rh1 f1 q1 => p1 ρ σ H1 μ1 (rs.mono (f1.keeps rh)) rh1 f1 q1⟩
theorem s_ret {e : Expr} {c : E} {pos : Pos} (he : PE X e (tE X T G c)) : PS X (.Return (some e) pos) (tS X T G (.ret c)) :=
  (ps_ret he).imp fun D0 σ H ⟨ρ, μ, R, rs, rh, hw, hx, p1, p2⟩ => by
    have hw : wpE G c ρ μ R.rt R.ex := hw
    rw [hx] at hw
    exact ⟨ρ, μ, _, rs, rh, hw, fun d v H1 μ1 rv rh1 f1 q1 => p2 d v H1 μ1 rv rh1 f1 q1⟩
theorem s_retN {pos : Pos} : PS X (.Return none pos) (tS X T G (.ret .cn)) := ps_retN.imp fun D0 σ H ⟨ρ, μ, R, rs, rh, hw, _, p1, p2⟩ => p2 .non .non H μ rfl rh .refl hw
theorem s_if {c : Expr} {a b : List Stmt} {cc : E} {ca cb : MP.St} {pos : Pos} (hc : PT X c (tB X T G cc)) (ha : PSs X a (tS X T G ca)) (hb : PSs X b (tS X T G cb)) : PS X (.If c a b pos) (tS X T G (.ite cc ca cb)) :=
  (ps_if hc ha hb).imp fun D0 σ H ⟨ρ, μ, R, rs, rh, hw, hx, p1, p2⟩ => by
    have hw : wpE G cc ρ μ (fun d μ1 => br d (wpS G ca ρ μ1 R) (wpS G cb ρ μ1 R)) R.ex := hw
    rw [hx] at hw
    refine ⟨ρ, μ, _, rs, rh, hw, fun k H1 μ1 rh1 f1 q1 => ?_⟩
    obtain ⟨q2, q3⟩ := q1
    have s1 : ∀ {c : MP.St}, wpS G c ρ μ1 R → tS X T G c D0 σ H1 := fun q => ⟨ρ, μ1, R, rs.mono (f1.keeps rh), rh1, q, hx, fun ρ2 σ2 H2 μ2 rs2 rh2 f2 q2 => p1 ρ2 σ2 H2 μ2 rs2 rh2 (f1.trans f2) q2, fun d v H2 μ2 rv rh2 f2 q2 => p2 d v H2 μ2 rv rh2 (f1.trans f2) q2⟩
    cases k with
    | true => rw [if_pos rfl]; exact s1 (q2 rfl)
    | false => rw [if_neg (by decide)]; exact s1 (q3 rfl)
theorem s_while {c : Expr} {body : List Stmt} {cc : E} {cb : MP.St} {pos : Pos} (hp : PassesOwn (model X.prog X.w) X.A X.env X.xe) (hc : PT X c (tB X T G cc)) (hb : PSs X body (tS X T G cb)) : PS X (.While c body [] pos) (tS X T G (.while cc cb)) :=
  (ps_while hp hc hb).imp fun D0 σ H ⟨ρ, μ, R, rs, rh, hw, hx, p1, p2⟩ => by
    obtain ⟨V, ⟨m0, v0⟩, turn⟩ := hw
    refine ⟨fun m σ' H' => ∃ ρ' μ', RepS X.K H' ρ' σ' ∧ RepH X.w X.K T H' μ' ∧ Fr H μ H' μ' ∧ V m ρ' μ', ⟨m0, ρ, μ, rs, rh, .refl, v0⟩, ?_⟩
    rintro m σ1 H1 ⟨ρ1, μ1, rs1, rh1, f1, v1⟩
    have hw := turn m ρ1 μ1 v1
    rw [hx] at hw
    refine ⟨ρ1, μ1, _, rs1, rh1, hw, fun k H2 μ2 rh2 f2 q2 => ?_⟩
    obtain ⟨q3, q4⟩ := q2
    cases k with
    | true =>
      rw [if_pos rfl]
      refine ⟨fun σ' H' => ∃ m', m' < m ∧ ∃ ρ' μ', RepS X.K H' ρ' σ' ∧ RepH X.w X.K T H' μ' ∧ Fr H μ H' μ' ∧ V m' ρ' μ', fun σ' H' z => z, ρ1, μ2, _, rs1.mono (f2.keeps rh1), rh2, q3 rfl, rfl, fun ρ3 σ3 H3 μ3 rs3 rh3 f3 ⟨m', hm, v3⟩ => ⟨m', hm, ρ3, μ3, rs3, rh3, (f1.trans f2).trans f3, v3⟩, fun d v H3 μ3 rv rh3 f3 q => p2 d v H3 μ3 rv rh3 ((f1.trans f2).trans f3) q⟩
    | false =>
      rw [if_neg (by decide)]
      exact p1 ρ1 σ1 H2 μ2 (rs1.mono (f2.keeps rh1)) rh2 (f1.trans f2) (q4 rfl)
theorem s_for {tg iter : Expr} {body : List Stmt} {csrc : E} {cb : MP.St} {p : P} {k : IK} {pos : Pos} (hp : PassesOwn (model X.prog X.w) X.A X.env X.xe) (hc : X.calm = true) (hi : PI X tg iter (tI X T G k csrc)) (hg : PG X tg (tP X p)) (hb : PSs X body (tS X T G cb))
    (hs : ∀ x, foldedSetIterable iter X.env x = pure x) : PS X (.For tg iter body [] pos) (tS X T G (.for p k csrc cb)) :=
  (ps_for hp hc hi hg hb hs).imp fun D0 σ H ⟨ρ, μ, R, rs, rh, hw, hx, p1, p2⟩ => by
    have hw : wpA G csrc ρ μ (fun ds μ1 => iterP k ds μ1 fun l chk => forP chk (fun d ρ1 μ2 K => optP (matP p d ρ1) fun ρ2 => wpS G cb ρ2 μ2 ⟨K, R.rt, R.ex⟩) R.nx l ρ μ1) R.ex := hw
    rw [hx] at hw
    refine ⟨ρ, μ, fun l chk μ1 => forP chk (fun d ρ1 μ2 K => optP (matP p d ρ1) fun ρ2 => wpS G cb ρ2 μ2 ⟨K, R.rt, XF⟩) R.nx l ρ μ1, rs, rh, hw, fun J l chk H1 μ1 rh1 f1 hc wk q1 => ?_⟩
    refine ⟨fun i m σ2 H2 => m = l.length - i ∧ i ≤ l.length ∧ ∃ ρ2 μ2, RepS X.K H2 ρ2 σ2 ∧ RepH X.w X.K T H2 μ2 ∧ Fr H1 μ1 H2 μ2 ∧ forP chk (fun d ρ1 μ2 K => optP (matP p d ρ1) fun ρ2 => wpS G cb ρ2 μ2 ⟨K, R.rt, XF⟩) R.nx (l.drop i) ρ2 μ2,
      ⟨l.length, by simp, Nat.zero_le _, ρ, μ1, rs.mono (f1.keeps rh), rh1, .refl, q1⟩, ?_⟩
    rintro i m σ2 H2 ⟨rfl, hi, ρ2, μ2, rs2, rh2, f2, q2⟩
    have wi := wk i H2 μ2 (f2.keeps rh1) rh2
    by_cases hlt : i < l.length
    · have ed : l.drop i = l[i] :: l.drop (i + 1) := by rw [List.drop_eq_getElem_cons hlt]
      rw [ed] at q2
      obtain ⟨hc2, q2⟩ := q2
      obtain ⟨hgo, hy⟩ := (wi hc2).1 l[i] (List.getElem?_eq_getElem hlt)
      refine .inr ⟨hgo, fun σ' H' => i + 1 ≤ l.length ∧ ∃ ρ2 μ2, RepS X.K H' ρ2 σ' ∧ RepH X.w X.K T H' μ2 ∧ Fr H1 μ1 H' μ2 ∧ forP chk (fun d ρ1 μ2 K => optP (matP p d ρ1) fun ρ2 => wpS G cb ρ2 μ2 ⟨K, R.rt, XF⟩) R.nx (l.drop (i + 1)) ρ2 μ2, fun σ' H' z => ⟨l.length - (i + 1), by omega, rfl, z⟩, fun x H3 hx3 => ?_⟩
      obtain ⟨rx, rh3, f3⟩ := hy x H3 hx3
      obtain ⟨ρ3, e, q2⟩ := optP_get q2
      refine ⟨l[i], ρ2, ρ3, rx, rs2.mono (f3.keeps rh2), e, fun σ3 rs3 _ => ⟨ρ3, μ2, _, rs3, rh3, q2, rfl, fun ρ4 σ4 H4 μ4 rs4 rh4 f4 q4 => ⟨hlt, ρ4, μ4, rs4, rh4, f2.trans (f3.trans f4), q4⟩, fun d v H4 μ4 rv rh4 f4 q4 => p2 d v H4 μ4 rv rh4 (f1.trans (f2.trans (f3.trans f4))) q4⟩⟩
    · have ei : i = l.length := by omega
      subst ei
      rw [List.drop_length] at q2
      obtain ⟨hc2, q2⟩ := q2
      exact .inl ⟨(wi hc2).2 (Nat.le_refl _), p1 ρ2 σ2 H2 μ2 rs2 rh2 (f1.trans f2) q2⟩
/-- target = value -/
theorem s_set {tg e : Expr} {c : E} {p : P} {pos : Pos} (he : PE X e (tE X T G c)) (hg : PG X tg (tP X p)) (hs : swapsWithSole [tg] e pos.line X.env = pure false) (hw : swappedStores [tg] e X.env = pure none)
    (h1 : (assignEach [tg] X.env).map (·.2) = [assign tg X.env]) : PS X (.Assign [tg] e pos) (tS X T G (.set p c)) :=
  (ps_asg he hg hs hw h1).imp fun D0 σ H ⟨ρ, μ, R, rs, rh, hw, hx, p1, p2⟩ => by
    have hw : wpE G c ρ μ (fun d μ1 => optP (matP p d ρ) fun ρ1 => R.nx ρ1 μ1) R.ex := hw
    rw [hx] at hw
    refine ⟨ρ, μ, _, rs, rh, hw, fun d v H1 μ1 rv rh1 f1 q1 => ?_⟩
    obtain ⟨ρ1, e, q1⟩ := optP_get q1
    exact ⟨d, ρ, ρ1, rv, rs.mono (f1.keeps rh), e, fun σ1 rs1 _ => p1 ρ1 σ1 H1 μ1 rs1 rh1 f1 q1⟩
/-- name = [..] -/
theorem s_setLc {i : Nat} {y : Str} {py : Pos} {elt tg iter : Expr} {ifs : List Expr} {scope : Scope} {own : List (Str × Nat)} {pos spos : Pos} {ce cc csrc : E} {p : P} {k : IK} (hc : X.calm = true) (hN : X.N.Nodup) (hy : X.N[i]? = some y) (hyl : X.env.scope.names.lookup y = some .local)
    (hsw : swapsWith (.ListComp elt [⟨tg, iter, ifs, 0⟩] scope pos) (some (.Name y py)) spos.line X.env = pure true) (hi : PI X tg iter (tI X T G k csrc)) (ok : BlkOk X.N X.env.scope scope own)
    (hg : ∀ s H C cl fp, PG (Blk X s H scope C cl fp) tg (tP X p)) (ht : ∀ s H C cl fp, PTs (Blk X s H scope C cl fp) ifs (tB X T G cc)) (he : ∀ s H C cl fp, PE (Blk X s H scope C cl fp) elt (tE X T G ce))
    (hs : ∀ x, foldedSetIterable iter X.env x = pure x) (hsl : ∀ i ∈ slotsP p, i ∈ own.map (·.2)) : PS X (.Assign [.Name y py] (.ListComp elt [⟨tg, iter, ifs, 0⟩] scope pos) spos) (tS X T G (.set (.v i) (.comp ce p k csrc cc (own.map (·.2))))) :=
  (ps_setLc hc hN hy hyl hsw hi ok hg ht he hs).imp fun D0 σ H ⟨ρ, μ, R, rs, rh, hw, hx, p1, p2⟩ => by
    have hw : wpE G (.comp ce p k csrc cc (own.map (·.2))) ρ μ (fun d μ1 => optP (matP (.v i) d ρ) fun ρ1 => R.nx ρ1 μ1) R.ex := hw
    rw [hx] at hw
    exact lc_read (Qv := fun x H1 => gName i x σ H1 D0.nx) hsl ⟨ρ, μ, _, rs, rh, hw, fun d v H1 μ1 rv rh1 f1 q1 => p1 _ _ H1 μ1 ((rs.mono (f1.keeps rh)).set rv) rh1 f1 q1⟩
end
end MP

set_option linter.all false
set_option maxRecDepth 100000
set_option maxHeartbeats 1000000
set_option Elab.async false
/-! MP8: the last statements; what is seen of the syntax; the translation. -/
namespace MP
open PySem PySem.Spec PyProof.Rows L2
section
variable {X : Cx} {T : Tab} {G : Ctx} {H H' H1 H2 : Hp} {μ μ' μ1 μ2 : Sto} {Q : D → Sto → Prop} {Q' : VK} {σ σ' : L2.St} {ρ ρ' : Env}
/-! ### stores into lists, dicts, fields -/
def rSetD (X : Cx) (T : Tab) : TSet := fun o i v H Q' => ∃ dx dk dy μ, ∃ Q : Sto → Prop, RepV X.K H dx o ∧ RepV X.K H dk i ∧ RepV X.K H dy v ∧ RepH X.w X.K T H μ ∧ setIdxP dx dk dy μ Q ∧ ∀ H' μ', RepH X.w X.K T H' μ' → Fr H μ H' μ' → Q μ' → Q' H'
theorem setIdx_get {x i y : D} {Q : Sto → Prop} (h : setIdxP x i y μ Q) : ∃ a, x = .ref a ∧ ((∃ l n j, μ a = some (.lst l) ∧ i = .int n ∧ MP.ixN l.length n = some j ∧ Q (MP.upd μ a (.lst (l.set j y)))) ∨ (∃ l, μ a = some (.dF l) ∧ isFlat i = true ∧ l.length < sizeMax ∧ Q (MP.upd μ a (.dF (dput l i y)))) ∨ isTupKey i = true ∧ ((μ a = some (.dF []) ∧ Q (MP.upd μ a (.dT [(i, y)]))) ∨ ∃ l, μ a = some (.dT l) ∧ l.length < sizeMax ∧ Q (MP.upd μ a (.dT (dput l i y))))) := by
  cases x with
  | ref a =>
    refine ⟨a, rfl, ?_⟩
    unfold setIdxP at h
    cases e : μ a with
    | none => simp only [e] at h
    | some o =>
      simp only [e] at h
      cases o with
      | lst l =>
        cases i with
        | int n => obtain ⟨j, e2, h⟩ := optP_get h; exact .inl ⟨l, n, j, rfl, rfl, e2, h⟩
        | _ => exact h.elim
      | dF l =>
        have h : (isFlat i = true ∧ l.length < sizeMax ∧ Q (MP.upd μ a (.dF (dput l i y)))) ∨ (l = [] ∧ isTupKey i = true ∧ Q (MP.upd μ a (.dT [(i, y)]))) := by
          cases i <;> exact h
        rcases h with h | ⟨rfl, h1, h⟩
        · exact .inr (.inl ⟨l, rfl, h.1, h.2.1, h.2.2⟩)
        · exact .inr (.inr ⟨h1, .inl ⟨rfl, h⟩⟩)
      | dT l =>
        have h : isTupKey i = true ∧ l.length < sizeMax ∧ Q (MP.upd μ a (.dT (dput l i y))) := by
          cases i <;> exact h
        exact .inr (.inr ⟨h.1, .inr ⟨l, rfl, h.2⟩⟩)
      | _ => cases i <;> exact h.elim
  | _ => exact h.elim
theorem set_run (hu : X.A.units + 65 < cLine) : PSet X (rSetD X T) := by
  intro pins s σ H o i v ov iv u Q' I ro ri rv ⟨dx, dk, dy, μ, Q, hx, hk, hy, rh, h, p⟩
  replace h := setIdx_get h
  obtain ⟨a, rfl, h⟩ := h
  cases hx
  have tk : ∀ {ob : Ob} {l l' : List (D × D)} {xs : List (NestedKey × Addr × Value)}, isTupKey dk = true → μ a = some ob → (∀ l, ob ≠ .dL l) → L2.Mut (H a) → (a == sysModules) = false → s.heap.DictOfH (NKd X) a xs → RepX X.K H l xs → l.length < sizeMax → l' = dput l dk dy → Q (MP.upd μ a (.dT l')) → wpAny (model X.prog X.w) X.A (setItem ov iv u) (fun _ s' => ∃ H', Inv X pins σ H' s' ∧ Q' H') X.xe s := fun {ob l l' xs} hkk ea nl mu hs dd hx hz el q => by
    obtain ⟨hk7, ds, ed⟩ := tkey_get hkk
    have hy' : RepV X.K H (.tup ds) i := by rw [← ed]; exact hk
    obtain ⟨t, vs, rfl, st, rl⟩ := hy'
    obtain rfl : ov = Value.ref a := ro
    obtain rfl : iv = Value.ref t := ri
    have hu' : (NKd X).room X.A.in1 := by show X.A.units + 1 + 8 < cLine; omega
    subst el
    refine wpAny_setItem_heap hu' (tkey_is I hkk hk) dd (fun h' hd' sb => ?_) (by rw [hx.length, ← sizeMax_eq]; omega)
    obtain ⟨H', I', rh', f'⟩ := dT_wr (tk := s.toks + (NKd X).draws (toNK dk)) I rh ea nl mu hs (Nat.le_trans dput_len hz) (hx.put hk hkk hy rv) hd' sb
    exact ⟨H', I', p _ _ rh' f' q⟩
  rcases h with ⟨l, n, j, e, rfl, e2, q⟩ | ⟨l, e, hf, hz, q⟩ | ⟨hkk, ⟨e, q⟩ | ⟨l, e, hz, q⟩⟩
  · cases hk
    obtain ⟨vs, hs, rl⟩ := rh a _ e
    refine set_list pins s σ H _ _ v ov iv u Q' I ro ri rv ⟨a, vs, n, j, rfl, rfl, hs, by rw [← rl.length]; exact e2, ?_⟩
    exact p _ _ (rh.wr e (ob' := .lst (l.set j dy)) ⟨_, L2.upd_same, (RepVs.set hy j rl).mono (.wr rh e)⟩) (Fr.wr e) q
  · obtain ⟨kvs, hs, rk⟩ := rh a _ e
    have ex := kOf_v hf hk
    subst ex
    obtain rfl : ov = Value.ref a := ro
    exact d_setItem (by omega) I (DPut.k hs (by rw [← rk.length, ← sizeMax_eq]; exact hz)) ri rv fun s' I' => ⟨_, I', p _ _ (rh.wr e (ob' := .dF (dput l dk dy)) ⟨_, L2.upd_same, (rk.put hf hy).mono (.wr rh e)⟩) (Fr.wr e) q⟩
  · obtain ⟨dd, hs, mu⟩ := dF_nil I rh e
    exact tk hkk e (by intro _ z; cases z) mu hs dd (l := []) (xs := []) rfl (by decide) rfl q
  · obtain ⟨xs, dd, hx, hs, _, mu⟩ := dT_of I rh e
    exact tk hkk e (by intro _ z; cases z) mu hs dd hx hz rfl q
/-- no slice -/
def noSl : Expr → Bool
  | .Slice _ _ _ _ => false
  | _ => true
theorem asg_sub {o i : Expr} {p2 : Pos} {env : PySem.Env} (h : noSl i = true) (v : Value) : assign (.Subscript o i p2) env v = (do
      let ov ← holding [v] (eval o env)
      let iv ← holding [v, ov] (eval i env)
      standAt p2
      holding [v, ov, iv] (setItem ov iv v)
      release [v, ov, iv] []) := by
  cases i <;> first | rfl | cases h
theorem s_setIdx (hu : X.A.units + 65 < cLine) {o i e : Expr} {co ci ce : E} {p2 pos : Pos} (he : PE X e (tE X T G ce)) (ho : PE X o (tE X T G co)) (hi : PE X i (tE X T G ci)) (hsl : noSl i = true)
    (hs : swapsWithSole [.Subscript o i p2] e pos.line X.env = pure false) (hw : swappedStores [.Subscript o i p2] e X.env = pure none) : PS X (.Assign [.Subscript o i p2] e pos) (tS X T G (.setIdx co ci ce)) :=
  (ps_asg he (pg_sub ho hi (set_run (T := T) hu) (asg_sub hsl)) hs hw rfl).imp fun D0 σ H ⟨ρ, μ, R, rs, rh, hw, hx, p1, p2⟩ => by
    have hw : wpE G ce ρ μ (fun y μ1 => wpE G co ρ μ1 (fun x μ2 => wpE G ci ρ μ2 (fun k μ3 => setIdxP x k y μ3 (R.nx ρ)) R.ex) R.ex) R.ex := hw
    rw [hx] at hw
    exact ⟨ρ, μ, _, rs, rh, hw, fun y vy H1 μ1 ry rh1 f1 q1 => ⟨ρ, μ1, _, rs.mono (f1.keeps rh), rh1, q1, fun x vx H2 μ2 rx rh2 f2 q2 => ⟨ρ, μ2, _, rs.mono ((f1.trans f2).keeps rh), rh2, q2, fun k vk H3 μ3 rk rh3 f3 q3 =>
      ⟨x, k, y, μ3, R.nx ρ, rx.mono (f3.keeps rh2), rk, ry.mono ((f2.trans f3).keeps rh1), rh3, q3, fun H4 μ4 rh4 f4 q4 => p1 ρ σ H4 μ4 (rs.mono ((((f1.trans f2).trans f3).trans f4).keeps rh)) rh4 (((f1.trans f2).trans f3).trans f4) q4⟩⟩⟩⟩
theorem s_setAttr {o e : Expr} {co ce : E} {f : Nat} {x : Str} {p2 pos : Pos} (hf : T.fld[f]? = some x) (hF : ∀ cl, G.fl cl f = true → NoAttr X.K (T.cls cl) x) (he : PE X e (tE X T G ce)) (ho : PE X o (tE X T G co)) (hs : swapsWith e (some (.Attribute o x p2)) pos.line X.env = pure false) :
    PS X (.Assign [.Attribute o x p2] e pos) (tS X T G (.setAttr co f ce)) :=
  (ps_fld ho he hs).imp fun D0 σ H ⟨ρ, μ, R, rs, rh, hw, hx, p1, p2⟩ => by
    have hw : wpE G ce ρ μ (fun y μ1 => wpE G co ρ μ1 (fun x μ2 => insP x μ2 fun p c l => G.fl c f = true ∧ l.length < 1000 ∧ R.nx ρ (MP.upd μ2 p (.ins c (MP.putF l f y)))) R.ex) R.ex := hw
    rw [hx] at hw
    refine ⟨ρ, μ, _, rs, rh, hw, fun y vy H1 μ1 ry rh1 f1 q1 => ⟨ρ, μ1, _, rs.mono (f1.keeps rh), rh1, q1, fun d vd H2 μ2 rd rh2 f2 q2 => ?_⟩⟩
    obtain ⟨a, c, l, rfl, e, hfl, hz, q2⟩ := insP_get q2
    obtain ⟨dx, fs, h3, hc, rf⟩ := rh2 a _ e
    refine ⟨a, T.cls c, dx, fs, rd, h3, hc, hF c hfl, by rw [← rf.length]; exact hz, ?_⟩
    exact p1 ρ σ _ _ (rs.mono (((f1.trans f2).keeps rh).trans (.wr rh2 e))) (rh2.wr e (ob' := .ins c (MP.putF l f y)) ⟨dx, _, L2.upd_same, hc, (RepF.put T.nd hf (ry.mono (f2.keeps rh1)) rf).mono (.wr rh2 e)⟩) ((f1.trans f2).trans (Fr.wr e)) q2
theorem s_augVar {i : Nat} {x : Str} {e : Expr} {ce : E} {p2 pos : Pos} (hN : X.N.Nodup) (hi : X.N[i]? = some x) (hx : Loc X.env.scope x) (he : PE X e (tE X T G ce)) (hf : X.fn x = true ∨ X.env.scope.names.lookup x = some .local) : PS X (.AugAssign (.Name x p2) .Add e pos) (tS X T G (.augVar i ce)) :=
  (ps_aug hN hi hx he ip_add hf).imp fun D0 σ H ⟨ρ, μ, R, rs, rh, hw, hx, p1, p2⟩ => by
    obtain ⟨d, e, hw⟩ := optP_get (show optP (getV ρ i) (fun x => wpE G ce ρ μ (fun y μ1 => match x, y with
      | .int m, .int n => R.nx (ρ.set i (some (.int (m + n)))) μ1
      | _, _ => False) R.ex) from hw)
    rw [hx] at hw
    have e' : ρ[i]? = some (some d) := by
      unfold getV at e
      split at e
      · rename_i d' e2; cases e; exact e2
      · cases e
    obtain ⟨v, h1, h2⟩ := rs.2 i d e'
    refine ⟨v, h1, ρ, μ, _, rs, rh, hw, fun y vy H1 μ1 ry rh1 f1 q1 => ?_⟩
    cases d with
    | int m =>
      cases y with
      | int n =>
        cases h2; cases ry
        exact ⟨m, n, rfl, rfl, p1 _ _ H1 μ1 ((rs.mono (f1.keeps rh)).set (d := .int (m + n)) rfl) rh1 f1 q1⟩
      | _ => exact q1.elim
    | _ => cases y <;> exact q1.elim
theorem s_augAttr {o e : Expr} {co ce : E} {f : Nat} {x : Str} {p2 pos : Pos} (hf : T.fld[f]? = some x) (hF : ∀ cl, G.fl cl f = true → NoAttr X.K (T.cls cl) x) (he : PE X e (tE X T G ce)) (ho : PE X o (tE X T G co)) :
    PS X (.AugAssign (.Attribute o x p2) .Add e pos) (tS X T G (.augAttr co f ce)) :=
  (ps_fldaug ho he in_add).imp fun D0 σ H ⟨ρ, μ, R, rs, rh, hw, hx, p1, p2⟩ => by
    have hw : wpE G co ρ μ (fun x μ1 => insP x μ1 fun p c l => G.fl c f = true ∧ optP (lookF l f) fun v => wpE G ce ρ μ1 (fun y μ2 => insP (.ref p) μ2 fun _ c' l' => c' = c ∧ match v, y with
      | .int m, .int n => l'.length < 1000 ∧ R.nx ρ (MP.upd μ2 p (.ins c (MP.putF l' f (.int (m + n)))))
      | _, _ => False) R.ex) R.ex := hw
    rw [hx] at hw
    refine ⟨ρ, μ, _, rs, rh, hw, fun d vd H1 μ1 rd rh1 f1 q1 => ?_⟩
    obtain ⟨a, c, l, rfl, e, hfl, q1⟩ := insP_get q1
    obtain ⟨v, e2, q1⟩ := optP_get q1
    obtain ⟨dx, fs, h3, hc, rf⟩ := rh1 a _ e
    obtain ⟨u, h4, h5⟩ := rf.get T.nd hf e2
    refine ⟨a, T.cls c, dx, fs, u, rd, h3, hc, hF c hfl, h4, ρ, μ1, _, rs.mono (f1.keeps rh), rh1, q1, fun y vy H2 μ2 ry rh2 f2 q2 => ?_⟩
    obtain ⟨_, _, l', h0, e3, rfl, q2⟩ := insP_get q2
    cases h0
    cases v with
    | int m =>
      cases y with
      | int n =>
        cases h5; cases ry
        obtain ⟨hz, q2⟩ := q2
        obtain ⟨dx', fs', h6, hc', rf'⟩ := rh2 a _ e3
        exact ⟨m, n, rfl, rfl, dx', fs', h6, by rw [← rf'.length]; exact hz, p1 ρ σ _ _ (rs.mono (((f1.trans f2).keeps rh).trans (.wr rh2 e3))) (rh2.wr e3 (ob' := .ins _ (MP.putF l' f (.int (m + n)))) ⟨dx', _, L2.upd_same, hc, (RepF.put T.nd hf (d := .int (m + n)) rfl rf').mono (.wr rh2 e3)⟩) ((f1.trans f2).trans (Fr.wr e3)) q2⟩
      | _ => exact q2.elim
    | _ => cases y <;> exact q2.elim
/-- a, b = x, y with two plain names -/
theorem s_par {i j : Nat} {x y : Str} {a b : Expr} {ca : E} {px py pt : Pos} {kt k2 pt2} {pos : Pos} (hc : X.calm = true) (hN : X.N.Nodup) (hi : X.N[i]? = some x) (hj : X.N[j]? = some y) (hij : i ≠ j)
    (hx : X.env.scope.names.lookup x = some .local) (hy : X.env.scope.names.lookup y = some .local) (ha : PA X [a, b] (tA X T G ca)) (hl : alen ca = 2)
    (hw : swappedStores [.Tuple [.Name x px, .Name y py] kt pt] (.Tuple [a, b] k2 pt2) X.env = pure (some [x, y]))
    (hs : swapsWithSole [.Tuple [.Name x px, .Name y py] kt pt] (.Tuple [a, b] k2 pt2) pos.line X.env = pure false) :
    PS X (.Assign [.Tuple [.Name x px, .Name y py] kt pt] (.Tuple [a, b] k2 pt2) pos) (tS X T G (.set (.cons (.v i) (.cons (.v j) .nil)) (.tup ca))) :=
  (ps_par hc hN hi hj hij hx hy ha hw hs).imp fun D0 σ H ⟨ρ, μ, R, rs, rh, hw, hx, p1, p2⟩ => by
    have hw : wpA G ca ρ μ (fun ds μ1 => optP (matP (.cons (.v i) (.cons (.v j) .nil)) (.tup ds) ρ) fun ρ1 => R.nx ρ1 μ1) R.ex := hw
    rw [hx] at hw
    refine ⟨ρ, μ, _, rs, rh, hw, fun ds vs H1 μ1 rv rh1 f1 hn q1 => ?_⟩
    obtain ⟨d, e, rfl⟩ := len2 (hn.trans hl)
    replace rv := rv.get2
    obtain ⟨v, u, rfl, rv, ru⟩ := rv
    exact ⟨v, u, rfl, p1 _ _ H1 μ1 (((rs.mono (f1.keeps rh)).set rv).set ru) rh1 f1 q1⟩
/-- a loop over a dict's keys: the dict is locked while it runs -/
theorem s_forD {tg : Expr} {x : Str} {px pos : Pos} {body : List Stmt} {cb : MP.St} {p : P} {i : Nat} (hp : PassesOwn (model X.prog X.w) X.A X.env X.xe) (hc : X.calm = true) (hN : X.N[i]? = some x) (hv : Vis X.env.scope x) (hd : (x == ("__debug__" : Str)) = false) (hcd : (x == ("__classdict__" : Str)) = false)
    (hg : PG X tg (tP X p)) (hb : PSs X body (tS X T G cb)) : PS X (.For tg (.Name x px) body [] pos) (tS X T G (.forD p i cb)) :=
  (ps_lock (ps_for hp hc (pi_keys (pe_var hN hv hd hcd)) hg hb (fun _ => rfl))).imp fun D0 σ H ⟨ρ, μ, R, rs, rh, hw, hx, p1, p2⟩ => by
    obtain ⟨d, e, hw⟩ := optP_get (show optP (getV ρ i) _ from hw)
    have e' : ρ[i]? = some (some d) := by
      unfold getV at e
      split at e
      · rename_i d' e2; cases e; exact e2
      · cases e
    obtain ⟨v, h1, h2⟩ := rs.2 i d e'
    obtain ⟨a, l, rfl, ea, hw⟩ := rdD_get hw
    cases h2
    obtain ⟨kvs, hk, rk⟩ := rh a _ ea
    refine ⟨a, .dK kvs, hk, True.intro, fun od => ⟨.ref a, h1, a, od, rfl, .inl ⟨kvs, L2.upd_same, ?_⟩⟩⟩
    have rhl : RepH X.w X.K T (L2.upd H a (.frz od (.dK kvs))) (MP.upd μ a (.dL l)) := rh.wr ea (ob' := .dL l) ⟨od, kvs, L2.upd_same, rk.mono (.wr rh ea)⟩
    have fl : Fr H μ (L2.upd H a (.frz od (.dK kvs))) (MP.upd μ a (.dL l)) := Fr.wr ea
    have kl : Keeps H (L2.upd H a (.frz od (.dK kvs))) := fl.keeps rh
    have hlen : (l.map fun p : D × D => p.1).length = kvs.length := by rw [List.length_map]; exact rk.length
    -- the dict unlocked
    have back : ∀ {H2 : Hp} {μ2 : Sto}, RepH X.w X.K T H2 μ2 → Fr (L2.upd H a (.frz od (.dK kvs))) (MP.upd μ a (.dL l)) H2 μ2 → H2 a = some (.frz od (.dK kvs)) ∧ μ2 a = some (.dL l) ∧ Keeps H2 (L2.upd H2 a (.dK kvs)) ∧ RepH X.w X.K T (L2.upd H2 a (.dK kvs)) (MP.upd μ2 a (.dF l)) ∧ Fr H μ (L2.upd H2 a (.dK kvs)) (MP.upd μ2 a (.dF l)) := fun {H2 μ2} rh2 f2 => by
      obtain ⟨g1, g2⟩ := f2.lk a l _ L2.upd_same upd_at
      have kp : Keeps H2 (L2.upd H2 a (.dK kvs)) := .wr rh2 g2
      refine ⟨g1, g2, kp, rh2.wr g2 (ob' := .dF l) ⟨kvs, L2.upd_same, (rk.mono (kl.trans (f2.keeps rhl))).mono kp⟩, ⟨fun b o hb hm nt => ?_, fun b l' u hb hm => ?_⟩⟩
      · have ne : b ≠ a := ne_of_mu hm ea
        obtain ⟨q1, q2⟩ := (fl.trans f2).out b o hb hm nt
        exact ⟨by rw [L2.upd_ne ne]; exact q1, by rw [upd_off ne]; exact q2⟩
      · have ne : b ≠ a := fun z => by subst z; rw [ea] at hm; cases hm
        obtain ⟨q1, q2⟩ := (fl.trans f2).lk b l' u hb hm
        exact ⟨by rw [L2.upd_ne ne]; exact q1, by rw [upd_off ne]; exact q2⟩
    refine ⟨fun j m σ2 H2 => m = l.length - j ∧ j ≤ l.length ∧ ∃ ρ2 μ2, RepS X.K H2 ρ2 σ2 ∧ RepH X.w X.K T H2 μ2 ∧ Fr (L2.upd H a (.frz od (.dK kvs))) (MP.upd μ a (.dL l)) H2 μ2 ∧ forP (fun μ' => μ' a = some (.dL l)) (fun d ρ1 μ2 K => optP (matP p d ρ1) fun ρ2 => wpS G cb ρ2 μ2 ⟨K, fun v μ' => μ' a = some (.dL l) ∧ R.rt v (MP.upd μ' a (.dF l)), XF⟩) (fun ρ1 μ1 => μ1 a = some (.dL l) ∧ R.nx ρ1 (MP.upd μ1 a (.dF l))) ((l.map fun p : D × D => p.1).drop j) ρ2 μ2,
      ⟨l.length, by simp, Nat.zero_le _, ρ, _, rs.mono kl, rhl, .refl, by rw [List.drop_zero]; exact hw⟩, ?_⟩
    rintro j m σ2 H2 ⟨rfl, hj, ρ2, μ2, rs2, rh2, f2, q2⟩
    obtain ⟨g1, g2, kp, rhb, fb⟩ := back rh2 f2
    by_cases hlt : j < l.length
    · have hlt' : j < (l.map fun p : D × D => p.1).length := by rw [List.length_map]; exact hlt
      rw [List.drop_eq_getElem_cons hlt'] at q2
      obtain ⟨hc2, q2⟩ := q2
      refine .inr ⟨⟨g1, by rw [← hlen]; exact hlt'⟩, fun σ' H' => j + 1 ≤ l.length ∧ ∃ ρ2 μ2, RepS X.K H' ρ2 σ' ∧ RepH X.w X.K T H' μ2 ∧ Fr (L2.upd H a (.frz od (.dK kvs))) (MP.upd μ a (.dL l)) H' μ2 ∧ forP (fun μ' => μ' a = some (.dL l)) (fun d ρ1 μ2 K => optP (matP p d ρ1) fun ρ2 => wpS G cb ρ2 μ2 ⟨K, fun v μ' => μ' a = some (.dL l) ∧ R.rt v (MP.upd μ' a (.dF l)), XF⟩) (fun ρ1 μ1 => μ1 a = some (.dL l) ∧ R.nx ρ1 (MP.upd μ1 a (.dF l))) ((l.map fun p : D × D => p.1).drop (j + 1)) ρ2 μ2, fun σ' H' z => ⟨l.length - (j + 1), by omega, rfl, z⟩, fun x3 H3 hx3 => ?_⟩
      obtain ⟨rfl, k, v, hkv, rfl⟩ := hx3
      obtain ⟨ρ3, e3, q2⟩ := optP_get q2
      have rx : RepV X.K H3 (l.map fun p : D × D => p.1)[j] (kV k) := by
        obtain ⟨z, z1, z2⟩ := (RepK.keys (rk.mono (kl.trans (f2.keeps rhl)))).get (List.getElem?_eq_getElem hlt')
        rw [List.getElem?_map, hkv] at z1
        cases z1; exact z2
      refine ⟨_, ρ2, ρ3, rx, rs2, e3, fun σ3 rs3 _ => ⟨ρ3, μ2, _, rs3, rh2, q2, rfl, fun ρ4 σ4 H4 μ4 rs4 rh4 f4 q4 => ⟨hlt, ρ4, μ4, rs4, rh4, f2.trans f4, q4⟩, fun d v H4 μ4 rv rh4 f4 q4 => ?_⟩⟩
      obtain ⟨b1, b2, b3, b4, b5⟩ := back rh4 (f2.trans f4)
      exact ⟨b1, p2 d v _ _ (rv.mono b3) b4 b5 q4.2⟩
    · have ei : j = l.length := by omega
      subst ei
      rw [List.drop_eq_nil_of_le (by rw [List.length_map]; exact Nat.le_refl _)] at q2
      obtain ⟨hc2, _, q2⟩ := q2
      exact .inl ⟨⟨g1, by rw [← hlen, List.length_map]; exact Nat.le_refl _⟩, g1, p1 ρ2 σ2 _ _ (rs2.mono kp) rhb fb q2⟩
/-- raise: in code that raises nothing, never come to -/
def simpleA : E → Bool
  | .cons (.cs _) .nil => true
  | .cons (.var _) .nil => true
  | _ => false
theorem s_raise {st : Stmt} {c : Nat} {a : E} (ha : simpleA a = true) : PS X st (tS X T G (.raise c a)) := ps_never.imp fun D0 σ H ⟨ρ, μ, R, rs, rh, hw, hx, p1, p2⟩ => by
  have hw : wpA G a ρ μ (fun ds μ1 => R.ex c ds μ1) R.ex := hw
  rw [hx] at hw
  cases a with
  | cons e r =>
    cases r with
    | nil =>
      cases e with
      | cs x => exact hw
      | var i => obtain ⟨_, _, h⟩ := optP_get (show optP (getV ρ i) (fun d => False) from hw); exact h
      | _ => cases ha
    | _ => cases e <;> cases ha
  | _ => cases ha
end
end MP

set_option linter.all false
set_option maxRecDepth 100000
set_option maxHeartbeats 2000000
set_option Elab.async false
/-! MP9: the translation of the syntax into the core, and its soundness. -/
namespace MP
open PySem PySem.Spec PyProof.Rows L2
/-! ### what is seen of the syntax -/
def notStar : Expr → Bool
  | .Starred _ _ => false
  | _ => true
def notSet : Expr → Bool
  | .Set _ _ _ => false
  | _ => true
def notComp : Expr → Bool
  | .ListComp _ _ _ _ => false
  | .SetComp _ _ _ _ => false
  | .DictComp _ _ _ _ _ => false
  | _ => true
/-- its truth is its value's -/
def plainT : Expr → Bool
  | .UnaryOp .Not _ _ => false
  | .BoolOp _ _ _ => false
  | .IfExp _ _ _ _ => false
  | .Compare _ _ _ _ => false
  | _ => true
def isTupE : Expr → Bool
  | .Tuple _ _ _ => true
  | _ => false
def notOf (a : Expr) (c : E) : E := match a with
  | .ListComp _ _ _ _ => .not (.tru c)
  | _ => .not c
def baseOk : Expr → Bool
  | .Call _ [] [] _ => false
  | _ => true
section
variable {env : PySem.Env} {e : Expr} {es : List Expr}
theorem star_cons (h : notStar e = true) : starEach (e :: es) env = (false, eval e env) :: starEach es env := by
  cases e <;> first | rfl | cases h
theorem star_plain : ∀ {es : List Expr}, es.all notStar = true → ∀ pos, (backTo pos (starEach es env)).any (·.1) = false
  | [], _, _ => rfl
  | e :: es, h, pos => by
    rw [List.all_cons, Bool.and_eq_true] at h
    rw [star_cons h.1]
    show (false || (backTo pos (starEach es env)).any (·.1)) = false
    rw [star_plain h.2 pos]; rfl
theorem behind_ok {op : CmpOp} (h : notSet e = true) : behindInMarks op e = false := by
  cases e <;> first | rfl | cases h
theorem plainIx_ok (h : noSl e = true) : PlainIx e := fun _ _ => by
  cases e <;> first | rfl | cases h
theorem swaps_none {l : Nat} (h : notComp e = true) : swapsWith e none l env = pure false := by
  cases e <;> first | rfl | cases h
theorem swaps_ok {t : Option Expr} {l : Nat} (h : notComp e = true) : swapsWith e t l env = pure false := by
  cases e <;> first | rfl | cases h
theorem isTrue_ok (h : plainT e = true) : ∀ whole, isTrue e env whole = (do let v ← whole; standAt e.pos; holding [v] (truthy v)) := fun _ => by
  cases e with
  | UnaryOp op a p => cases op <;> first | rfl | cases h
  | _ => first | rfl | cases h
theorem base_ok {x : Str} {whole : Sem Value} (h : baseOk e = true) : attributeBase e x env whole = whole := by
  cases e with
  | Call f a k p =>
    cases f <;> cases a <;> cases k <;> first | rfl | cases h
  | _ => rfl
theorem folded_ok (h : notSet e = true) : ∀ x, foldedSetIterable e env x = pure x := fun _ => by
  cases e <;> first | rfl | cases h
theorem assign_cons (h : notStar e = true) : assignEach (e :: es) env = (false, assign e env) :: assignEach es env := by
  cases e <;> first | rfl | cases h
theorem assign_len : ∀ {es : List Expr}, (assignEach es env).length = es.length
  | [] => rfl
  | e :: es => by
    have := assign_len (es := es)
    cases e <;> (show (assignEach es env).length + 1 = _; rw [this]; rfl)
theorem assign_find : ∀ {es : List Expr}, es.all notStar = true → (assignEach es env).findIdx? (·.1) = none
  | [], _ => rfl
  | e :: es, h => by
    rw [List.all_cons, Bool.and_eq_true] at h
    rw [assign_cons h.1, List.findIdx?_cons]
    show (if false = true then _ else _) = _
    rw [if_neg (by decide), assign_find h.2]; rfl
theorem star_few : ∀ {es : List Expr}, es.all notStar = true → ∀ pos, (backTo pos (starEach es env)).all (fun x => !x.1) = true
  | [], _, _ => rfl
  | e :: es, h, pos => by
    rw [List.all_cons, Bool.and_eq_true] at h
    rw [star_cons h.1]
    show (true && (backTo pos (starEach es env)).all (fun x => !x.1)) = true
    rw [star_few h.2 pos]; rfl
theorem few_ok (h : es.all notStar = true) (hl : es.length < 20) (pos : Pos) : methodCallForm (es.length + ([] : List Keyword).length) (backTo pos (starEach es env)) (backToKw pos (keywordEach [] env)) = true := by
  have e1 := star_few (env := env) h pos
  show ((backTo pos (starEach es env)).all (fun x => !x.1) && true && decide (es.length + 0 + 0 < 30)) = true
  rw [e1, decide_eq_true (by omega)]; rfl
theorem meth_ok {o : Expr} {m : Str} {apos pos : Pos} (hb : baseOk o = true) (h : es.all notStar = true) (hl : es.length < 20) (hline : (apos.endLine == pos.line) = true) : eval (.Call (.Attribute o m apos) es [] pos) env = (do
      let ov ← eval o env
      standAt apos.atName
      let (f, first) ← holding [ov] (getMethod ov m (plainOf o env))
      callWith pos f first (backTo pos (starEach es env)) (backToKw pos (keywordEach [] env))) := by
  show (do
    let ov ← attributeBase o m env (eval o env)
    standAt apos.atName
    methodCall o m apos pos env ov (es.length + ([] : List Keyword).length) (backTo pos (starEach es env)) (backToKw pos (keywordEach [] env))) = _
  rw [base_ok hb]
  simp only [mcall_line (few_ok h hl pos) hline]
end
/-! ### the tables of the text -/
structure Tx where
  /-- a def's name, number, arity -/
  fns : List (Str × Nat × Nat)
  /-- a class's name, number, its __init__'s number and arity (with self) -/
  cls : List (Str × Nat × Nat × Nat)
  csts : List (Str × Nat)
  /-- the names of fields and methods -/
  fld : List Str
  /-- a method's name by its place among these, its arity (with self) -/
  mts : List (Nat × Nat)
  /-- an exception's name and number -/
  exs : List (Str × Nat)
  /-- whether the def may make its lambda -/
  key : Bool := false
  /-- the def's names that hold dicts where they are walked -/
  dv : List Str := []
def findS : List Str → Str → Nat → Option Nat
  | [], _, _ => none
  | y :: r, x, i => if y = x then some i else findS r x (i + 1)
theorem findS_ok : ∀ {N : List Str} {x : Str} {i j : Nat}, findS N x i = some j → i ≤ j ∧ N[j - i]? = some x
  | y :: r, x, i, j, h => by
    unfold findS at h
    split at h
    · cases h
      rename_i e
      exact ⟨Nat.le_refl _, by simp [e]⟩
    · obtain ⟨h1, h2⟩ := findS_ok h
      refine ⟨by omega, ?_⟩
      rw [show j - i = (j - (i + 1)) + 1 by omega]
      simpa using h2
theorem findS_at {N : List Str} {x : Str} {j : Nat} (h : findS N x 0 = some j) : N[j]? = some x := (findS_ok h).2
/-- built-in functions -/
def bltB : List (Str × Prim) := [("len", .len), ("abs", .abs), ("min", .min1), ("max", .max1), ("all", .all)]
def bltT : List (Str × Prim) := [("int", .int), ("list", .list), ("tuple", .tuple)]
def bltNames : List Str := ["len", "abs", "min", "max", "all", "int", "list", "tuple", "bool", "str", "isinstance", "range", "sorted", "dict", "enumerate", "zip", "set"]
def primOf (x : Str) (n : Nat) : Option Prim :=
  if x = "len" then some .len else if x = "abs" then some .abs else if x = "all" then some .all else
  if x = "min" then (if n = 2 then some .min2 else some .min1) else if x = "max" then (if n = 2 then some .max2 else some .max1) else
  if x = "int" then some .int else if x = "list" then some .list else if x = "tuple" then some .tuple else if x = "sorted" then some .sorted else if x = "dict" then some .dict else if x = "str" then some .str else none
def tyOf (x : Str) : Option Ty := if x = "int" then some .int else if x = "bool" then some .bool else if x = "tuple" then some .tuple else if x = "str" then some .str else none
def isVis (sc : Scope) (x : Str) : Bool := match sc.names.lookup x with
  | some .local => true
  | some .cell => true
  | some .free => true
  | _ => false
def isLoc (sc : Scope) (x : Str) : Bool := match sc.names.lookup x with
  | some .local => true
  | some .cell => true
  | _ => false
def isGlo (sc : Scope) (x : Str) : Bool := match sc.names.lookup x with
  | some .globalImplicit => true
  | _ => false
def dbg (x : Str) : Bool := x == "__debug__" || x == "__classdict__" || x == "__name__"
/-- a guard -/
def grd {α : Type} (b : Bool) (o : Option α) : Option α := if b = true then o else none
theorem grd_get {α : Type} {b : Bool} {o : Option α} {x : α} (h : grd b o = some x) : b = true ∧ o = some x := by
  unfold grd at h
  split at h
  · exact ⟨by assumption, h⟩
  · cases h
mutual
/-- a target of names -/
def trP (N : List Str) (sc : Scope) : Expr → Option P
  | .Name x _ => grd (isLoc sc x) ((findS N x 0).map .v)
  | .Tuple es _ _ => trPs N sc es
  | _ => none
def trPs (N : List Str) (sc : Scope) : List Expr → Option P
  | [] => some .nil
  | e :: es => grd (notStar e) (match trP N sc e, trPs N sc es with
    | some p, some q => some (.cons p q)
    | _, _ => none)
end
/-- a comprehension's own names with their places -/
def ownOf (N : List Str) (sc : Scope) : List (Str × Nat) := sc.names.filterMap fun y => match y.2 with
  | .local => (findS N y.1 0).map fun i => (y.1, i)
  | .cell => (findS N y.1 0).map fun i => (y.1, i)
  | _ => none
/-- get with a word for what is not there -/
def getArgs (m : Str) (as : List Expr) : Option (Expr × Expr) := if m = "get" then (match as with | [a, b] => some (a, b) | _ => none) else none
theorem getArgs_get {m : Str} {as : List Expr} {a b : Expr} (h : getArgs m as = some (a, b)) : m = "get" ∧ as = [a, b] := by
  unfold getArgs at h
  split at h
  · rename_i e
    split at h
    · cases h; exact ⟨e, rfl⟩
    · cases h
  · cases h
/-- list(range(..)), tuple(range(..)) -/
def rngTy (t : Bool) : Str := if t = true then "tuple" else "list"
def rngOf (as : List Expr) : Option (List Expr) := match as with
  | [.Call (.Name x _) rs [] _] => if x = "range" then some rs else none
  | _ => none
theorem rngOf_get {as rs : List Expr} (h : rngOf as = some rs) : ∃ p p2, as = [.Call (.Name "range" p) rs [] p2] := by
  unfold rngOf at h
  split at h
  · split at h
    · rename_i e; cases h; subst e; exact ⟨_, _, rfl⟩
    · cases h
  · cases h
def rngArgs (x : Str) (as : List Expr) : Option (Bool × List Expr) := if x = rngTy false then (rngOf as).map fun r => (false, r) else if x = rngTy true then (rngOf as).map fun r => (true, r) else none
theorem rngArgs_get {x : Str} {as rs : List Expr} {t : Bool} (h : rngArgs x as = some (t, rs)) : x = rngTy t ∧ ∃ p p2, as = [.Call (.Name "range" p) rs [] p2] := by
  unfold rngArgs at h
  split at h
  · rename_i e
    cases h1 : rngOf as with
    | none => rw [h1] at h; cases h
    | some r => rw [h1] at h; cases h; exact ⟨e, rngOf_get h1⟩
  split at h
  · rename_i e
    cases h1 : rngOf as with
    | none => rw [h1] at h; cases h
    | some r => rw [h1] at h; cases h; exact ⟨e, rngOf_get h1⟩
  · cases h
/-- x or {} -/
def orDv : Expr → Option Expr
  | .BoolOp .Or [a, .Dict [] [] _] _ => some a
  | _ => none
theorem orDv_get {e a : Expr} (h : orDv e = some a) : ∃ p pos, e = .BoolOp .Or [a, .Dict [] [] p] pos := by
  unfold orDv at h
  split at h
  · cases h; exact ⟨_, _, rfl⟩
  · cases h
/-- a method of a built-in type, by its name and how many it is given -/
def bmOf0 (m : Str) (n : Nat) : Option Prim :=
  if m = "append" ∧ n = 1 then some .append else if m = "pop" ∧ n = 0 then some .pop else 
  if m = "pop" ∧ n = 2 then some .dpop else if m = "pop" ∧ n = 1 then some .popAt else if m = "extend" ∧ n = 1 then some .extend else if m = "insert" ∧ n = 2 then some .insert else if m = "index" ∧ n = 1 then some .index else if m = "join" ∧ n = 1 then some .join else if m = "split" ∧ n = 1 then some .split else none
def bmOf (dv : Bool) (m : Str) (n : Nat) : Option Prim := if dv = true ∧ m = "pop" ∧ n = 1 then some .dpop1 else if m = "remove" ∧ n = 1 then some .remove else if m = "count" ∧ n = 1 then some .count else bmOf0 m n
/-- lambda x: x[0] -/
def parName : Arguments → Option Str
  | ⟨[], [⟨x, none, _⟩], none, [], [], none, []⟩ => some x
  | _ => none
theorem parName_get {a : Arguments} {x : Str} (h : parName a = some x) : ∃ p, a = lamPar x p := by
  unfold parName at h
  split at h
  · cases h; exact ⟨_, rfl⟩
  · cases h
def cons0 : Expr → Bool
  | .Constant (.int i) _ _ => decide (i = 0)
  | _ => false
theorem cons0_get {e : Expr} (h : cons0 e = true) : ∃ k p, e = .Constant (.int 0) k p := by
  unfold cons0 at h
  split at h
  · rw [of_decide_eq_true h]; exact ⟨_, _, rfl⟩
  · cases h
def nameOf : Expr → Option Str
  | .Name y _ => some y
  | _ => none
theorem nameOf_get {e : Expr} {x : Str} (h : nameOf e = some x) : ∃ p, e = .Name x p := by
  unfold nameOf at h
  split at h
  · cases h; exact ⟨_, rfl⟩
  · cases h
def subName : Expr → Option Str
  | .Subscript a i _ => if cons0 i = true then nameOf a else none
  | _ => none
theorem subName_get {e : Expr} {x : Str} (h : subName e = some x) : ∃ p p1 p2 k, e = lamSub x p p1 p2 k := by
  unfold subName at h
  split at h
  · split at h
    · rename_i h1
      obtain ⟨k, p1, rfl⟩ := cons0_get h1
      obtain ⟨p, rfl⟩ := nameOf_get h
      exact ⟨p, p1, _, k, rfl⟩
    · cases h
  · cases h
def isFunK : ScopeKind → Bool
  | .function => true
  | _ => false
def lamSc (x : Str) (sc : Scope) : Bool := !sc.isCoroutine && !sc.isGenerator && isFunK sc.kind && decide (sc.names = [(x, .local)]) && !(x == "__debug__")
theorem lamSc_get {x : Str} {sc : Scope} (h : lamSc x sc = true) : sc.isCoroutine = false ∧ sc.isGenerator = false ∧ sc.kind = .function ∧ sc.names = [(x, .local)] ∧ (x == ("__debug__" : Str)) = false := by
  unfold lamSc at h
  simp only [Bool.and_eq_true, Bool.not_eq_true', decide_eq_true_eq] at h
  obtain ⟨⟨⟨⟨h1, h2⟩, h3⟩, h4⟩, h5⟩ := h
  refine ⟨h1, h2, ?_, h4, h5⟩
  unfold isFunK at h3
  split at h3
  · assumption
  · cases h3
def lamOk : Expr → Bool
  | .Lambda a b sc _ => match parName a with
    | some x => decide (subName b = some x) && lamSc x sc
    | none => false
  | _ => false
theorem lamOk_get {e : Expr} (h : lamOk e = true) : ∃ x p p1 p2 p3 k sc lp, e = .Lambda (lamPar x p) (lamSub x p1 p2 p3 k) sc lp ∧ lamSc x sc = true := by
  unfold lamOk at h
  split at h
  · split at h
    · rename_i x hx
      rw [Bool.and_eq_true, decide_eq_true_eq] at h
      obtain ⟨p, rfl⟩ := parName_get hx
      obtain ⟨p1, p2, p3, k, rfl⟩ := subName_get h.1
      exact ⟨x, p, p1, p2, p3, k, _, _, rfl, h.2⟩
    · cases h
  · cases h
def keyLam : List Keyword → Option Expr
  | [⟨some k, e, _⟩] => if k = "key" then some e else none
  | _ => none
theorem keyLam_get {ks : List Keyword} {e : Expr} (h : keyLam ks = some e) : ∃ p, ks = [⟨some "key", e, p⟩] := by
  unfold keyLam at h
  split at h
  · split at h
    · rename_i h1; cases h; exact ⟨_, by rw [h1]⟩
    · cases h
  · cases h
def oneE : List Expr → Option Expr
  | [a] => some a
  | _ => none
theorem oneE_get {es : List Expr} {e : Expr} (h : oneE es = some e) : es = [e] := by
  unfold oneE at h
  split at h
  · cases h; rfl
  · cases h
/-- [::-1] -/
def revStep : Option Expr → Option Expr → Expr → Bool
  | none, none, .UnaryOp .USub (.Constant (.int 1) _ _) _ => true
  | _, _, _ => false
theorem revStep_get {lo hi : Option Expr} {st : Expr} (h : revStep lo hi st = true) : lo = none ∧ hi = none ∧ ∃ k p1 p2, st = .UnaryOp .USub (.Constant (.int 1) k p1) p2 := by
  unfold revStep at h
  split at h
  · exact ⟨rfl, rfl, _, _, _, rfl⟩
  · cases h
def isiArgs : List Expr → Option (Expr × Str)
  | [a, .Name t _] => some (a, t)
  | _ => none
theorem isiArgs_get {es : List Expr} {a : Expr} {t : Str} (h : isiArgs es = some (a, t)) : ∃ p, es = [a, .Name t p] := by
  unfold isiArgs at h
  split at h
  · cases h; exact ⟨_, rfl⟩
  · cases h
/-- a name that holds a dict -/
def isDv (tx : Tx) : Expr → Bool
  | .Name x _ => tx.dv.contains x
  | _ => false
section
variable (tx : Tx) (N : List Str)
mutual
def trE : Nat → Scope → Expr → Option E
  | 0, _, _ => none
  | n + 1, sc, e => match e with
    | .Constant c _ _ => match c with
      | .none => some .cn
      | .bool b => some (.cb b)
      | .int i => some (.ci i)
      | .str x => some (.cs x.cps.toList)
      | _ => none
    | .Name x _ => grd (!dbg x) (if isVis sc x = true then (findS N x 0).map .var else grd (isGlo sc x) ((tx.csts.lookup x).map .cst))
    | .Tuple es _ _ => (trA n sc es).bind fun c => grd (decide (alen c ≤ 1000)) (some (.tup c))
    | .List es _ => (trA n sc es).bind fun c => grd (decide (alen c ≤ 1000)) (some (.lst c))
    | .Dict ks vs _ => match ks, vs with
      | [], [] => some .dnew
      | ks, vs => grd (decide (ks.length ≤ 15) && ks.all (·.isSome) && decide (ks.length = vs.length) && !ks.isEmpty) ((trD n sc ks vs).map fun cs => .dict (inter cs))
    | .BinOp a op b _ => (trOp op).bind fun o => (trE n sc a).bind fun ca => (trE n sc b).bind fun cb => some (.bin o ca cb)
    | .UnaryOp op a _ => match op with
      | .USub => (trE n sc a).map .neg
      | .Not => (trE n sc a).map (notOf a)
      | _ => none
    | .Compare a ops bs _ => match ops, bs with
      | [op], [b] => grd (notSet b) ((trCmp op).bind fun o => (trE n sc a).bind fun ca => (trE n sc b).bind fun cb => some (.cmp o ca cb))
      | [op, op'], [b, b'] => grd (!lastMarks [op, op'] [b, b']) ((trCmp op).bind fun o => (trCmp op').bind fun o' => (trE n sc a).bind fun ca => (trE n sc b).bind fun cb => (trE n sc b').bind fun cc => some (.cmp2 o o' ca cb cc))
      | _, _ => none
    | .BoolOp op vs _ => trB n sc op vs
    | .Subscript a i _ => match i with
      | .Slice lo hi st _ => match st with
        | none => (trE n sc a).bind fun ca => (trO n sc lo).bind fun cl => (trO n sc hi).bind fun ch => some (.slc ca cl ch)
        | some s => grd (revStep lo hi s) ((trE n sc a).map .rev)
      | i => grd (noSl i) ((trE n sc a).bind fun ca => (trE n sc i).bind fun ci => some (.idx ca ci))
    | .Attribute o f _ => grd (baseOk o) ((findS tx.fld f 0).bind fun k => (trE n sc o).bind fun co => some (.attr co k))
    | .Call f as ks pos => match ks with
      | [] => match f with
        | .Name x _ => grd (!dbg x && isGlo sc x && as.all notStar) (match tx.fns.lookup x with
          | some (k, ar) => (trA n sc as).bind fun c => grd (decide (alen c = ar)) (some (.call k c))
          | none => match tx.cls.lookup x with
            | some (cl, k, ar) => (trA n sc as).bind fun c => grd (decide (alen c + 1 = ar) && decide (0 < alen c)) (some (.new cl k c))
            | none => if x = "isinstance" then ((isiArgs as).bind fun r => grd (isGlo sc r.2) ((tyOf r.2).bind fun ty => (trE n sc r.1).bind fun ca => some (.isi ca ty)))
              else match rngArgs x as with
              | some (t, rs) => grd (isGlo sc "range" && rs.all notStar) (match rs with
                | [a] => (trE n sc a).map fun ca => .rng t (.cons ca .nil)
                | [a, b] => (trE n sc a).bind fun ca => (trE n sc b).map fun cb => .rng t (.cons ca (.cons cb .nil))
                | _ => none)
              | none => (primOf x as.length).bind fun p => (trA n sc as).bind fun c => grd (decide (0 < alen c)) (some (.prim p c)))
        | .Attribute o m apos => grd (baseOk o && as.all notStar && decide (as.length < 20) && (apos.endLine == pos.line)) (match getArgs m as with
          | some (e, f) => (trE n sc o).bind fun co => (trE n sc e).bind fun ce => (trE n sc f).map fun cf => .bm .get co (.cons ce (.cons cf .nil))
          | none => match bmOf (isDv tx o) m as.length with
          | some p => (trE n sc o).bind fun co => (trA n sc as).bind fun c => grd (decide (alen c = as.length)) (some (.bm p co c))
          | none => (findS tx.fld m 0).bind fun k => (tx.mts.lookup k).bind fun ar => (trE n sc o).bind fun co => (trA n sc as).bind fun c => grd (decide (alen c + 1 = ar)) (some (.meth k co c)))
        | _ => none
      | ks => (keyLam ks).bind fun l => (oneE as).bind fun a => grd (tx.key && decide (nameOf f = some "sorted") && isGlo sc "sorted" && lamOk l && notStar a) ((trE n sc a).map .skey)
    | .ListComp elt gs scope _ => match gs with
      | [⟨tg, iter, ifs, asy⟩] => grd (decide (asy = 0) && notSet iter && blkC N sc scope (ownOf N scope)) ((trP N scope tg).bind fun p => grd (wfP p && (slotsP p).all fun i => decide (i ∈ (ownOf N scope).map (·.2))) ((trI n sc tg iter).bind fun ki => (trE n scope elt).bind fun ce => (trC n scope ifs).bind fun cc =>
          some (.comp ce p ki.1 ki.2 cc ((ownOf N scope).map (·.2)))))
      | _ => none
    | _ => none
def trA : Nat → Scope → List Expr → Option E
  | 0, _, _ => none
  | n + 1, sc, es => match es with
    | [] => some .nil
    | e :: es => grd (notStar e) ((match orDv e with
      | some a => (trE n sc a).map E.orD
      | none => trE n sc e).bind fun c => (trA n sc es).bind fun r => some (.cons c r))
def trD : Nat → Scope → List (Option Expr) → List Expr → Option (List (E × E))
  | 0, _, _, _ => none
  | n + 1, sc, ks, vs => match ks, vs with
    | [], [] => some []
    | some k :: ks, v :: vs => (trE n sc k).bind fun ck => (trE n sc v).bind fun cv => (trD n sc ks vs).map fun r => (ck, cv) :: r
    | _, _ => none
def trB : Nat → Scope → BoolOp → List Expr → Option E
  | 0, _, _, _ => none
  | n + 1, sc, op, vs => match vs with
    | [] => none
    | [a] => trE n sc a
    | a :: r => (trE n sc a).bind fun ca => (trB n sc op r).bind fun cr => match op with
      | .And => some (.and ca cr)
      | .Or => some (.or ca cr)
def trO : Nat → Scope → Option Expr → Option E
  | 0, _, _ => none
  | n + 1, sc, o => match o with
    | none => some .cn
    | some e => (trE n sc e).map .part
def trC : Nat → Scope → List Expr → Option E
  | 0, _, _ => none
  | n + 1, sc, l => match l with
    | [] => some (.cb true)
    | [c] => trE n sc c
    | _ => none
def trI : Nat → Scope → Expr → Expr → Option (IK × E)
  | 0, _, _, _ => none
  | n + 1, sc, tg, e => match e with
    | .Call (.Name x p) as [] pos => if x = "range" then grd (isGlo sc x && as.all notStar && (tx.fns.lookup x).isNone && (tx.cls.lookup x).isNone) ((trA n sc as).bind fun c => grd (decide (alen c = as.length) && (decide (alen c = 1) || decide (alen c = 2) || decide (alen c = 3))) (some (.range, c)))
      else if x = "enumerate" then grd (isTupE tg && isGlo sc x && as.all notStar && (tx.fns.lookup x).isNone && (tx.cls.lookup x).isNone) ((trA n sc as).bind fun c => grd (decide (alen c = as.length) && decide (alen c = 1)) (some (.enum, c)))
      else if x = "zip" then grd (isTupE tg && isGlo sc x && as.all notStar && (tx.fns.lookup x).isNone && (tx.cls.lookup x).isNone) ((trA n sc as).bind fun c => grd (decide (alen c = as.length) && decide (alen c = 2)) (some (.zip, c)))
      else (trE n sc e).map fun c => (.any, .cons c .nil)
    | e => (trE n sc e).map fun c => (.any, .cons c .nil)
end
end
/-- what holds of the context, whatever frame runs -/
structure Facts (P : Program) (w : World) (K : PySem.W.Frag) (mg : Str → Option Value) (base : Heap) (T : Tab) (G : Ctx) (k : Nat) (tx : Tx) : Prop where
  fns : ∀ x f n, tx.fns.lookup x = some (f, n) → ∃ fA fd ps, mg x = some (.ref fA) ∧ FnI P w K mg base T G k f fA fd ps ∧ ps.length = n
  cls : ∀ x c f n, tx.cls.lookup x = some (c, f, n) → ∃ fA fd ps, mg x = some (.ref (T.cls c)) ∧ Mk K (T.cls c) fA ∧ Cls K (T.cls c) ∧ FnI P w K mg base T G k f fA fd ps ∧ ps.length = n
  mts : ∀ cl m f mn ar, G.mt cl m = some f → tx.fld[m]? = some mn → tx.mts.lookup m = some ar → ∃ fA fd ps, Meth K (T.cls cl) mn fA ∧ FnI P w K mg base T G k f fA fd ps ∧ ps.length = ar
  fl : ∀ cl i x, G.fl cl i = true → tx.fld[i]? = some x → NoAttr K (T.cls cl) x
  csts : ∀ x c, tx.csts.lookup x = some c → ∃ d v u, mg x = some u ∧ RelV v u ∧ G.cst c = some d ∧ ∀ H, RepV K H d v
  blt : ∀ x ∈ bltNames, mg x = none
  fld : T.fld = tx.fld
/-- the frame that runs: its names -/
structure ScopeOk (X : Cx) (N : List Str) (sc : Scope) : Prop where
  n : X.N = N
  nd : N.Nodup
  calm : X.calm = true
  vis : ∀ x k, sc.names.lookup x = some k → ∃ k', X.env.scope.names.lookup x = some k' ∧ (k' = k ∨ (k = .free ∧ k' = .cell))
  fn : ∀ x, sc.names.lookup x = some .cell → X.fn x = true
section
variable {X : Cx} {N : List Str} {sc : Scope} {T : Tab} {G : Ctx} {tx : Tx} {k : Nat}
theorem ScopeOk.look (S : ScopeOk X N sc) {x : Str} {k : NameKind} (h : sc.names.lookup x = some k) (hk : k ≠ .free) : X.env.scope.names.lookup x = some k := by
  obtain ⟨k', e, h1 | ⟨h1, _⟩⟩ := S.vis x k h
  · rw [e, h1]
  · exact absurd h1 hk
theorem ScopeOk.see (S : ScopeOk X N sc) {x : Str} (h : isVis sc x = true) : Vis X.env.scope x := by
  unfold isVis at h
  split at h
  · rename_i e; exact .inl (S.look e (by decide))
  · rename_i e; exact .inr (.inl (S.look e (by decide)))
  · rename_i e
    obtain ⟨k', e2, h1 | ⟨_, h1⟩⟩ := S.vis x _ e
    · subst h1; exact .inr (.inr e2)
    · subst h1; exact .inr (.inl e2)
  · cases h
theorem ScopeOk.glo (S : ScopeOk X N sc) {x : Str} (h : isGlo sc x = true) : Gl X x := by
  unfold isGlo at h
  split at h
  · rename_i e; exact S.look e (by decide)
  · cases h
theorem ScopeOk.loc (S : ScopeOk X N sc) {x : Str} (h : isLoc sc x = true) : Loc X.env.scope x ∧ (X.fn x = true ∨ X.env.scope.names.lookup x = some .local) := by
  unfold isLoc at h
  split at h
  · rename_i e; exact ⟨.inl (S.look e (by decide)), .inr (S.look e (by decide))⟩
  · rename_i e; exact ⟨.inr (S.look e (by decide)), .inl (S.fn x e)⟩
  · cases h
theorem dbg_ok {x : Str} (h : (!dbg x) = true) : (x == ("__debug__" : Str)) = false ∧ (x == ("__classdict__" : Str)) = false ∧ x ≠ "__name__" := by
  unfold dbg at h
  simp only [Bool.not_eq_true', Bool.or_eq_false_iff] at h
  exact ⟨h.1.1, h.1.2, fun e => by have := h.2; rw [e] at this; simp at this⟩
/-- within a comprehension's block -/
theorem ScopeOk.blk (S : ScopeOk X N sc) {scope : Scope} {own : List (Str × Nat)} (ok : BlkOk N sc scope own) (s : Shared) (H : Hp) (C : Addr) (cl : List (Str × Addr)) (fp : List Addr) : ScopeOk (Blk X s H scope C cl fp) N scope where
  n := S.n
  nd := S.nd
  calm := S.calm
  vis := fun x k h => by
    have key : ∀ (names : List (Str × NameKind)), names.lookup x = some k → ∃ k', (names.map fun (n, k) => if (k == NameKind.free && X.env.scope.kind == .function && X.env.scope.names.lookup n == some .cell) then (n, NameKind.cell) else (n, k)).lookup x = some k' ∧ (k' = k ∨ (k = .free ∧ k' = .cell)) := by
      intro names
      induction names with
      | nil => intro h; simp at h
      | cons y r ih =>
        obtain ⟨n, k0⟩ := y
        intro h
        rw [List.lookup_cons] at h
        cases hx : x == n with
        | true =>
          rw [hx] at h
          cases h
          by_cases hc : (k == NameKind.free && X.env.scope.kind == .function && X.env.scope.names.lookup n == some .cell) = true
          · refine ⟨.cell, ?_, .inr ⟨?_, rfl⟩⟩
            · rw [List.map_cons]; dsimp only; rw [if_pos hc, List.lookup_cons, hx]
            · simp only [Bool.and_eq_true, beq_iff_eq] at hc
              exact hc.1.1
          · refine ⟨k, ?_, .inl rfl⟩
            rw [List.map_cons]; dsimp only; rw [if_neg hc, List.lookup_cons, hx]
        | false =>
          rw [hx] at h
          obtain ⟨k', h1, h2⟩ := ih h
          refine ⟨k', ?_, h2⟩
          rw [List.map_cons]
          dsimp only
          by_cases hc : (k0 == NameKind.free && X.env.scope.kind == .function && X.env.scope.names.lookup n == some .cell) = true
          · rw [if_pos hc, List.lookup_cons, hx]; exact h1
          · rw [if_neg hc, List.lookup_cons, hx]; exact h1
    exact key scope.names h
  fn := fun x h => by
    show (scope.names.lookup x == some .cell) = true
    rw [h]; rfl
theorem ScopeOk.blkOk (S : ScopeOk X N sc) {scope : Scope} {own : List (Str × Nat)} (ok : BlkOk N sc scope own) : BlkOk X.N X.env.scope scope own := by
  rw [S.n]
  refine ⟨ok.kind, ok.uniq, ok.ix, fun y hy e => ?_, ok.own⟩
  rcases ok.free y hy e with h | h
  · exact .inl (S.look h (by decide))
  · obtain ⟨k', e2, h1 | ⟨_, h1⟩⟩ := S.vis _ _ h
    · subst h1; exact .inr e2
    · subst h1; exact .inl e2
/-! ### targets -/
mutual
theorem trP_ok (S : ScopeOk X N sc) : ∀ {e : Expr} {p : P}, trP N sc e = some p → wfP p = true → PG X e (tP X p)
  | .Name x pos, p, h, _ => by
    unfold trP at h
    obtain ⟨h1, h2⟩ := grd_get h
    obtain ⟨i, h3, rfl⟩ := Option.map_eq_some_iff.mp h2
    obtain ⟨l1, l2⟩ := S.loc h1
    exact g_name (by rw [S.n]; exact S.nd) (by rw [S.n]; exact findS_at h3) l1 l2
  | .Tuple es k pos, p, h, hw => by
    have h : trPs N sc es = some p := by simpa [trP] using h
    obtain ⟨h1, h2, h3, h4⟩ := trPs_ok S h hw
    exact g_tup S.calm h1 hw h2 (by rw [assign_len]; exact h4.symm) (assign_find h3)
theorem trPs_ok (S : ScopeOk X N sc) : ∀ {es : List Expr} {p : P}, trPs N sc es = some p → wfP p = true → PGs X es (tPs X p) ∧ isTupP p = true ∧ es.all notStar = true ∧ plen p = es.length
  | [], p, h, _ => by
    have h : some P.nil = some p := by simpa [trPs] using h
    cases h
    exact ⟨gs_nil, rfl, rfl, rfl⟩
  | e :: es, p, h, hw => by
    unfold trPs at h
    obtain ⟨h1, h2⟩ := grd_get h
    cases hp : trP N sc e with
    | none => rw [hp] at h2; cases h2
    | some q =>
      cases hq : trPs N sc es with
      | none => rw [hp, hq] at h2; cases h2
      | some r =>
        rw [hp, hq] at h2
        cases h2
        simp only [wfP, Bool.and_eq_true] at hw
        obtain ⟨h3, h4, h5, h6⟩ := trPs_ok S hq hw.2
        exact ⟨gs_cons (trP_ok S hp hw.1.1) h3 (by rw [assign_cons h1]; rfl), rfl, by rw [List.all_cons, h1, h5]; rfl, by show plen r + 1 = _; rw [h6]; rfl⟩
end
end
end MP

set_option linter.all false
set_option maxRecDepth 100000
set_option maxHeartbeats 4000000
set_option Elab.async false
/-! MP10: the translation of expressions is sound. -/
namespace MP
open PySem PySem.Spec PyProof.Rows L2
structure Cxt (X : Cx) (N : List Str) (sc : Scope) (T : Tab) (G : Ctx) (k : Nat) (tx : Tx) : Prop where
  S : ScopeOk X N sc
  F : Facts X.prog X.w X.K X.mg X.base T G k tx
  hu : X.A.units + 65 < cLine
  hr : Room (k + 1) X.A
  key : tx.key = true → KeyOk X T
section
variable {X : Cx} {N : List Str} {sc : Scope} {T : Tab} {G : Ctx} {tx : Tx} {k : Nat}
theorem Cxt.room (C : Cxt X N sc T G k tx) : Room k X.A := C.hr.mono (Nat.le_succ k)
theorem Cxt.blk (C : Cxt X N sc T G k tx) {scope : Scope} {own : List (Str × Nat)} (ok : BlkOk N sc scope own) (s : Shared) (H : Hp) (c : Addr) (cl : List (Str × Addr)) (fp : List Addr) : Cxt (Blk X s H scope c cl fp) N scope T G k tx :=
  ⟨C.S.blk ok s H c cl fp, C.F, C.hu, C.hr, C.key⟩
abbrev OkE (T : Tab) (G : Ctx) (k : Nat) (tx : Tx) (N : List Str) (n : Nat) : Prop := ∀ (X : Cx) (sc : Scope), Cxt X N sc T G k tx → ∀ e c, trE tx N n sc e = some c → PE X e (tE X T G c) ∧ PT X e (tB X T G c)
abbrev OkA (T : Tab) (G : Ctx) (k : Nat) (tx : Tx) (N : List Str) (n : Nat) : Prop := ∀ (X : Cx) (sc : Scope), Cxt X N sc T G k tx → ∀ es c, trA tx N n sc es = some c → PA X es (tA X T G c) ∧ es.all notStar = true ∧ alen c = es.length
abbrev OkB (T : Tab) (G : Ctx) (k : Nat) (tx : Tx) (N : List Str) (n : Nat) : Prop := ∀ (X : Cx) (sc : Scope), Cxt X N sc T G k tx → ∀ op vs c pos, trB tx N n sc op vs = some c → PE X (.BoolOp op vs pos) (tE X T G c) ∧ PW X (.BoolOp op vs pos) (tB X T G c)
abbrev OkD (T : Tab) (G : Ctx) (k : Nat) (tx : Tx) (N : List Str) (n : Nat) : Prop := ∀ (X : Cx) (sc : Scope), Cxt X N sc T G k tx → ∀ ks vs cs pos, trD tx N n sc ks vs = some cs → PPs X pos ks vs (cs.map fun z => (tE X T G z.1, tE X T G z.2))
abbrev OkO (T : Tab) (G : Ctx) (k : Nat) (tx : Tx) (N : List Str) (n : Nat) : Prop := ∀ (X : Cx) (sc : Scope), Cxt X N sc T G k tx → ∀ o c, trO tx N n sc o = some c → PO X o (tO X T G c)
abbrev OkC (T : Tab) (G : Ctx) (k : Nat) (tx : Tx) (N : List Str) (n : Nat) : Prop := ∀ (X : Cx) (sc : Scope), Cxt X N sc T G k tx → ∀ l c, trC tx N n sc l = some c → PTs X l (tB X T G c)
abbrev OkI (T : Tab) (G : Ctx) (k : Nat) (tx : Tx) (N : List Str) (n : Nat) : Prop := ∀ (X : Cx) (sc : Scope), Cxt X N sc T G k tx → ∀ e ki tg, trI tx N n sc tg e = some ki → PI X tg e (tI X T G ki.1 ki.2)
theorem bind_get {α β : Type} {o : Option α} {f : α → Option β} {y : β} (h : o.bind f = some y) : ∃ x, o = some x ∧ f x = some y := Option.bind_eq_some_iff.mp h
theorem map_get {α β : Type} {o : Option α} {f : α → β} {y : β} (h : o.map f = some y) : ∃ x, o = some x ∧ f x = y := Option.map_eq_some_iff.mp h
theorem both {e : Expr} {c : E} (h : PE X e (tE X T G c)) (hp : plainT e = true) : PE X e (tE X T G c) ∧ PT X e (tB X T G c) := ⟨h, t_val h (isTrue_ok hp)⟩
theorem okA {n : Nat} (hE : OkE T G k tx N n) (hA : OkA T G k tx N n) : OkA T G k tx N (n + 1) := by
  intro X sc C es c h
  unfold trA at h
  cases es with
  | nil => cases h; exact ⟨a_nil, rfl, rfl⟩
  | cons e es =>
    replace h := grd_get h
    obtain ⟨h1, h⟩ := h
    replace h := bind_get h
    obtain ⟨c1, h2, h⟩ := h
    replace h := bind_get h
    obtain ⟨r, h3, h⟩ := h
    cases h
    obtain ⟨p1, p2, p3⟩ := hA X sc C es r h3
    have he : PE X e (tE X T G c1) := by
      split at h2
      · rename_i a ha
        obtain ⟨p, pos, rfl⟩ := orDv_get ha
        obtain ⟨ca, h4, rfl⟩ := map_get h2
        exact e_orD (hE X sc C a ca h4).1
      · exact (hE X sc C e c1 h2).1
    exact ⟨a_cons he p1 (star_cons h1), by rw [List.all_cons, h1, p2]; rfl, by show alen r + 1 = _; rw [p3]; rfl⟩
theorem okD {n : Nat} (hE : OkE T G k tx N n) (hD : OkD T G k tx N n) : OkD T G k tx N (n + 1) := by
  intro X sc C ks vs cs pos h
  unfold trD at h
  match ks, vs, h with
  | [], [], h => cases h; exact pps_nil
  | some k :: ks, v :: vs, h =>
    replace h := bind_get h
    obtain ⟨ck, h1, h⟩ := h
    replace h := bind_get h
    obtain ⟨cv, h2, h⟩ := h
    obtain ⟨r, h3, rfl⟩ := map_get h
    exact pps_cons (hE X sc C k ck h1).1 (hE X sc C v cv h2).1 (hD X sc C ks vs r pos h3)
theorem okB {n : Nat} (hE : OkE T G k tx N n) (hB : OkB T G k tx N n) : OkB T G k tx N (n + 1) := by
  intro X sc C op vs c pos h
  unfold trB at h
  match vs, h with
  | [a], h =>
    obtain ⟨h1, h2⟩ := hE X sc C a c h
    refine ⟨pe_one h1, ?_⟩
    cases op with
    | And => exact pw_and1 h2
    | Or => exact pw_or1 h2
  | a :: b :: r, h =>
    replace h := bind_get h
    obtain ⟨ca, h1, h⟩ := h
    replace h := bind_get h
    obtain ⟨cr, h2, h⟩ := h
    obtain ⟨p1, p2⟩ := hE X sc C a ca h1
    obtain ⟨p3, p4⟩ := hB X sc C op (b :: r) cr pos h2
    cases op with
    | And => cases h; exact ⟨e_and p1 p3, w_and p2 p4⟩
    | Or => cases h; exact ⟨e_or p1 p3, w_or p2 p4⟩
theorem okO {n : Nat} (hE : OkE T G k tx N n) : OkO T G k tx N (n + 1) := by
  intro X sc C o c h
  unfold trO at h
  cases o with
  | none => cases h; exact o_none
  | some e =>
    obtain ⟨c1, h1, rfl⟩ := map_get h
    exact o_some (hE X sc C e c1 h1).1
theorem okC {n : Nat} (hE : OkE T G k tx N n) : OkC T G k tx N (n + 1) := by
  intro X sc C l c h
  unfold trC at h
  match l, h with
  | [], h => cases h; exact c_yes
  | [e], h => exact c_one (hE X sc C e c h).2
theorem blt_of (C : Cxt X N sc T G k tx) {x : Str} (h : x ∈ bltNames) : X.mg x = none := C.F.blt x h
theorem okI {n : Nat} (hE : OkE T G k tx N n) (hA : OkA T G k tx N n) : OkI T G k tx N (n + 1) := by
  intro X sc C e ki tg h
  have gen : ∀ {ki : IK × E}, (trE tx N n sc e).map (fun c => ((IK.any, E.cons c .nil) : IK × E)) = some ki → PI X tg e (tI X T G ki.1 ki.2) := fun {ki} h => by
    obtain ⟨c, h1, rfl⟩ := map_get h
    exact i_any (hE X sc C e c h1).1
  unfold trI at h
  split at h
  · rename_i x p es pos
    split at h
    · rename_i hx
      subst hx
      replace h := grd_get h
      obtain ⟨h1, h⟩ := h
      simp only [Bool.and_eq_true] at h1
      replace h := bind_get h
      obtain ⟨c, h2, h⟩ := h
      replace h := grd_get h
      obtain ⟨h3, h⟩ := h
      cases h
      obtain ⟨q1, q2, q3⟩ := hA X sc C es c h2
      have hg := C.S.glo h1.1.1.1
      have hm := blt_of C (x := "range") (by simp [bltNames])
      match es, q1, q2, q3 with
      | [], q1, q2, q3 => rw [q3] at h3; cases h3
      | [a], q1, q2, q3 =>
        refine i_range1 hg hm q1 ?_ q3
        rw [List.all_cons, Bool.and_eq_true] at q2
        rw [star_cons q2.1]; rfl
      | [a, b], q1, q2, q3 =>
        simp only [List.all_cons, Bool.and_eq_true] at q2
        refine i_range2 hg hm q1 ?_ ?_ q3
        · rw [star_cons q2.1, star_cons q2.2.1]; rfl
        · rw [star_cons q2.2.1]; rfl
      | [a, b, d], q1, q2, q3 =>
        have q2' := q2
        simp only [List.all_cons, Bool.and_eq_true] at q2
        refine i_range3 hg hm q1 (star_cons q2.1) (star_plain ?_ _) q3
        simp only [List.all_cons, Bool.and_eq_true]
        exact q2.2
      | _ :: _ :: _ :: _ :: _, q1, q2, q3 => rw [q3] at h3; simp at h3
    · split at h
      · rename_i hx
        subst hx
        replace h := grd_get h
        obtain ⟨h1, h⟩ := h
        simp only [Bool.and_eq_true] at h1
        replace h := bind_get h
        obtain ⟨c, h2, h⟩ := h
        replace h := grd_get h
        obtain ⟨h3, h⟩ := h
        cases h
        obtain ⟨q1, q2, q3⟩ := hA X sc C es c h2
        have hg := C.S.glo h1.1.1.1.2
        have hm := blt_of C (x := "enumerate") (by simp [bltNames])
        have ht := h1.1.1.1.1
        cases tg with
        | Tuple elts kk tpos =>
          match es, q1, q2, q3 with
          | [], q1, q2, q3 => rw [q3] at h3; cases h3
          | [a], q1, q2, q3 =>
            refine i_enum hg hm q1 ?_ q3
            rw [List.all_cons, Bool.and_eq_true] at q2
            rw [star_cons q2.1]; rfl
          | _ :: _ :: _, q1, q2, q3 => rw [q3] at h3; simp at h3
        | _ => cases ht
      · split at h
        · rename_i hx
          subst hx
          replace h := grd_get h
          obtain ⟨h1, h⟩ := h
          simp only [Bool.and_eq_true] at h1
          replace h := bind_get h
          obtain ⟨c, h2, h⟩ := h
          replace h := grd_get h
          obtain ⟨h3, h⟩ := h
          cases h
          obtain ⟨q1, q2, q3⟩ := hA X sc C es c h2
          have hg := C.S.glo h1.1.1.1.2
          have hm := blt_of C (x := "zip") (by simp [bltNames])
          have ht := h1.1.1.1.1
          cases tg with
          | Tuple elts kk tpos =>
            match es, q1, q2, q3 with
            | [], q1, q2, q3 => rw [q3] at h3; cases h3
            | [a], q1, q2, q3 => rw [q3] at h3; simp at h3
            | [a, b], q1, q2, q3 =>
              simp only [List.all_cons, Bool.and_eq_true] at q2
              exact i_zip hg hm q1 (star_cons q2.1) (star_plain (by simp [q2.2.1]) _) q3
            | _ :: _ :: _ :: _, q1, q2, q3 => rw [q3] at h3; simp at h3
          | _ => cases ht
        · exact gen h
  · exact gen h

theorem alen_es {es : List Expr} {n : Nat} (h : n = es.length) (h0 : 0 < n) : ∃ e r, es = e :: r := by
  cases es with
  | nil => rw [h] at h0; simp at h0
  | cons e r => exact ⟨e, r, rfl⟩
/-- a built-in function -/
theorem okPrim (C : Cxt X N sc T G k tx) {x : Str} {p : Prim} {e : Expr} {es : List Expr} {c : E} {pp pos : Pos} (hg : Gl X x) (hd : (!dbg x) = true) (hp : primOf x (e :: es).length = some p) (ha : PA X (e :: es) (tA X T G c)) (hs : (e :: es).all notStar = true) (hl : alen c = (e :: es).length) :
    PE X (.Call (.Name x pp) (e :: es) [] pos) (tE X T G (.prim p c)) := by
  obtain ⟨d1, d2, d3⟩ := dbg_ok hd
  rw [List.all_cons, Bool.and_eq_true] at hs
  have h1 := star_cons (env := X.env) (es := es) hs.1
  have h2 := star_plain (env := X.env) hs.2 pos
  unfold primOf at hp
  split at hp
  · rename_i e0; subst e0; cases hp
    exact e_primB p_len hg (blt_of C (by simp [bltNames])) boot_len ha d3 d1 h1 h2
  split at hp
  · rename_i e0; subst e0; cases hp
    exact e_primB p_abs hg (blt_of C (by simp [bltNames])) boot_abs ha d3 d1 h1 h2
  split at hp
  · rename_i e0; subst e0; cases hp
    exact e_primB (p_all C.S.calm) hg (blt_of C (by simp [bltNames])) boot_all ha d3 d1 h1 h2
  split at hp
  · rename_i e0; subst e0
    split at hp
    · cases hp; exact e_primB (p_min2 C.S.calm) hg (blt_of C (by simp [bltNames])) boot_min ha d3 d1 h1 h2
    · cases hp; exact e_primB (p_min1 C.S.calm) hg (blt_of C (by simp [bltNames])) boot_min ha d3 d1 h1 h2
  split at hp
  · rename_i e0; subst e0
    split at hp
    · cases hp; exact e_primB (p_max2 C.S.calm) hg (blt_of C (by simp [bltNames])) boot_max ha d3 d1 h1 h2
    · cases hp; exact e_primB (p_max1 C.S.calm) hg (blt_of C (by simp [bltNames])) boot_max ha d3 d1 h1 h2
  split at hp
  · rename_i e0; subst e0; cases hp
    exact e_primT p_int hg (blt_of C (by simp [bltNames])) boot_int ha d3 d1 h1 h2
  split at hp
  · rename_i e0; subst e0; cases hp
    exact e_primT (p_list C.S.calm) hg (blt_of C (by simp [bltNames])) boot_list ha d3 d1 h1 h2
  split at hp
  · rename_i e0; subst e0; cases hp
    exact e_primT p_tuple hg (blt_of C (by simp [bltNames])) boot_tuple ha d3 d1 h1 h2
  split at hp
  · rename_i e0; subst e0; cases hp
    exact e_primB (p_sorted C.S.calm) hg (blt_of C (by simp [bltNames])) (by first | rfl | decide +kernel) ha d3 d1 h1 h2
  split at hp
  · rename_i e0; subst e0; cases hp
    exact e_primT p_dict hg (blt_of C (by simp [bltNames])) (by first | rfl | decide +kernel) ha d3 d1 h1 h2
  split at hp
  · rename_i e0; subst e0; cases hp
    exact e_primT p_str hg (blt_of C (by simp [bltNames])) (by first | rfl | decide +kernel) ha d3 d1 h1 h2
  · cases hp
theorem tyOf_get {x : Str} {t : Ty} (h : tyOf x = some t) : x = (trTy t : String) ∧ x ∈ bltNames := by
  unfold tyOf at h
  split at h
  · rename_i e; cases h; exact ⟨e, by rw [e]; simp [bltNames]⟩
  split at h
  · rename_i e; cases h; exact ⟨e, by rw [e]; simp [bltNames]⟩
  split at h
  · rename_i e; cases h; exact ⟨e, by rw [e]; simp [bltNames]⟩
  split at h
  · rename_i e; cases h; exact ⟨e, by rw [e]; simp [bltNames]⟩
  · cases h
theorem okCall {n : Nat} (C : Cxt X N sc T G k tx) (hE : OkE T G k tx N n) (hA : OkA T G k tx N n) {x : Str} {es : List Expr} {c : E} {pp pos : Pos} (h : trE tx N (n + 1) sc (.Call (.Name x pp) es [] pos) = some c) : PE X (.Call (.Name x pp) es [] pos) (tE X T G c) := by
  unfold trE at h
  simp only at h
  replace h := grd_get h
  obtain ⟨h1, h⟩ := h
  simp only [Bool.and_eq_true] at h1
  obtain ⟨⟨hd, hgl⟩, hst⟩ := h1
  have hg := C.S.glo hgl
  obtain ⟨d1, d2, d3⟩ := dbg_ok hd
  have st1 : ∀ {e r}, es = e :: r → starEach (e :: r) X.env = (false, eval e X.env) :: starEach r X.env ∧ (backTo pos (starEach r X.env)).any (·.1) = false := fun {e r} e0 => by
    subst e0
    rw [List.all_cons, Bool.and_eq_true] at hst
    exact ⟨star_cons hst.1, star_plain hst.2 _⟩
  cases hf : tx.fns.lookup x with
  | some fa =>
    obtain ⟨f, ar⟩ := fa
    rw [hf] at h
    simp only at h
    replace h := bind_get h
    obtain ⟨ca, h2, h⟩ := h
    replace h := grd_get h
    obtain ⟨h3, h⟩ := h
    cases h
    have h3 := of_decide_eq_true h3
    obtain ⟨fA, fd, ps, m1, F, hp⟩ := C.F.fns x f ar hf
    obtain ⟨q1, q2, q3⟩ := hA X sc C es ca h2
    cases es with
    | nil =>
      have e0 : ca = .nil := by
        cases n with
        | zero => simp [trA] at h2
        | succ n => unfold trA at h2; cases h2; rfl
      subst e0
      exact e_call0 F C.room hg m1 (by rw [hp]; exact h3) d1
    | cons e r =>
      obtain ⟨s1, s2⟩ := st1 rfl
      exact e_call F C.room hg m1 q1 (by rw [hp]; exact h3) d1 s1 s2
  | none =>
    rw [hf] at h
    simp only at h
    cases hc : tx.cls.lookup x with
    | some ca =>
      obtain ⟨cl, f, ar⟩ := ca
      rw [hc] at h
      simp only at h
      replace h := bind_get h
      obtain ⟨ca, h2, h⟩ := h
      replace h := grd_get h
      obtain ⟨h3, h⟩ := h
      cases h
      simp only [Bool.and_eq_true, decide_eq_true_eq] at h3
      obtain ⟨fA, fd, ps, m1, M, hcl, F, hp⟩ := C.F.cls x cl f ar hc
      obtain ⟨q1, q2, q3⟩ := hA X sc C es ca h2
      obtain ⟨e, r, e0⟩ := alen_es q3 h3.2
      obtain ⟨s1, s2⟩ := st1 e0
      subst e0
      exact e_new M hcl F C.hr hg m1 q1 (by rw [hp]; exact h3.1) d1 s1 s2
    | none =>
      rw [hc] at h
      simp only at h
      split at h
      · rename_i hx
        subst hx
        replace h := bind_get h
        obtain ⟨⟨a, t⟩, h0, hh⟩ := h
        obtain ⟨p2, e0⟩ := isiArgs_get h0
        replace hh := grd_get hh
        obtain ⟨h2, hh⟩ := hh
        replace hh := bind_get hh
        obtain ⟨ty, h3, hh⟩ := hh
        replace hh := bind_get hh
        obtain ⟨ca, h4, hh⟩ := hh
        cases hh
        obtain ⟨et, hm⟩ := tyOf_get h3
        simp only at et hm h2 h4
        subst et
        subst e0
        rw [List.all_cons, Bool.and_eq_true] at hst
        exact e_isi hg (blt_of C (by simp [bltNames])) (C.S.glo h2) (blt_of C hm) (hE X sc C a ca h4).1 (fun _ => star_cons hst.1)
      split at h
      · rename_i t rs hr
        obtain ⟨e1, p, p2, e2⟩ := rngArgs_get hr
        replace h := grd_get h
        obtain ⟨h2, h⟩ := h
        rw [Bool.and_eq_true] at h2
        have hg2 := C.S.glo h2.1
        have hm2 := blt_of C (x := "range") (by simp [bltNames])
        have hm1 : X.mg (rngTy t) = none := by cases t <;> exact blt_of C (by simp [rngTy, bltNames])
        subst e1
        subst e2
        split at h
        · rename_i a
          obtain ⟨ca, h3, rfl⟩ := map_get h
          have q2 := h2.2
          simp only [List.all_cons, Bool.and_eq_true] at q2
          exact e_rng1 C.S.calm hg hm1 hg2 hm2 (hE X sc C a ca h3).1 (star_cons q2.1)
        · rename_i a b
          replace h := bind_get h
          obtain ⟨ca, h3, h⟩ := h
          obtain ⟨cb, h4, rfl⟩ := map_get h
          have q2 := h2.2
          simp only [List.all_cons, Bool.and_eq_true] at q2
          exact e_rng2 C.S.calm hg hm1 hg2 hm2 (hE X sc C a ca h3).1 (hE X sc C b cb h4).1 (star_cons q2.1) (star_cons q2.2.1) (star_plain (by simp [q2.2.1]) _)
        · cases h
      · obtain ⟨p, h2, h⟩ := bind_get h
        replace h := bind_get h
        obtain ⟨ca, h3, h⟩ := h
        replace h := grd_get h
        obtain ⟨h4, h⟩ := h
        cases h
        obtain ⟨q1, q2, q3⟩ := hA X sc C es ca h3
        obtain ⟨e, r, e0⟩ := alen_es q3 (of_decide_eq_true h4)
        subst e0
        exact okPrim C hg hd h2 q1 q2 q3
theorem okBm {n : Nat} (C : Cxt X N sc T G k tx) (hE : OkE T G k tx N n) (hA : OkA T G k tx N n) {o : Expr} {m : Str} {es : List Expr} {co ca : E} {apos pos : Pos} {p : Prim} (hb : baseOk o = true) (hst : es.all notStar = true) (hl : es.length < 20) (hline : (apos.endLine == pos.line) = true)
    {dv : Bool} (hp : bmOf dv m es.length = some p) (h4 : trE tx N n sc o = some co) (h5 : trA tx N n sc es = some ca) (h6 : alen ca = es.length) : PE X (.Call (.Attribute o m apos) es [] pos) (tE X T G (.bm p co ca)) := by
  have ho := (hE X sc C o co h4).1
  obtain ⟨ha, _, _⟩ := hA X sc C es ca h5
  have one : ∀ {p : Prim} {id : String} {e : Expr} {r : List Expr}, p ≠ .get → es = e :: r → PlainAttrs (recvT p) → Slot (recvT p) m id → typeOf (.builtin id) = pure (.type "method_descriptor") → MtR X id (rM X T p) → PE X (.Call (.Attribute o m apos) es [] pos) (tE X T G (.bm p co ca)) := fun {p id e r} ng e0 pa sl ty hm => by
    subst e0
    have hst' := hst
    rw [List.all_cons, Bool.and_eq_true] at hst'
    exact e_bm ng pa sl ty hm ho ha (base_ok hb) (few_ok hst hl pos) hline (star_cons hst'.1) (star_plain hst'.2 _)
  have nil : ∀ {p : Prim} {id : String}, p ≠ .get → es = [] → PlainAttrs (recvT p) → Slot (recvT p) m id → typeOf (.builtin id) = pure (.type "method_descriptor") → MtR X id (rM X T p) → PE X (.Call (.Attribute o m apos) es [] pos) (tE X T G (.bm p co ca)) := fun {p id} ng e0 pa sl ty hm => by
    subst e0
    have e1 : ca = .nil := by
      cases n with
      | zero => simp [trA] at h5
      | succ n => unfold trA at h5; cases h5; rfl
    subst e1
    exact e_bm0 ng pa sl ty hm ho (base_ok hb) hline
  unfold bmOf at hp
  split at hp
  · rename_i z
    cases hp
    obtain ⟨_, rfl, z⟩ := z
    obtain ⟨e, r, e0⟩ := alen_es h6 (by omega)
    exact one (by decide) e0 PySem.F.plainAttrs_dict PySem.F.slot_dict_pop rfl m_dpop1
  split at hp
  · rename_i z
    cases hp
    obtain ⟨rfl, z⟩ := z
    obtain ⟨e, r, e0⟩ := alen_es h6 (by omega)
    exact one (by decide) e0 PySem.F.plainAttrs_list PySem.F.slot_list_remove rfl m_remove
  split at hp
  · rename_i z
    cases hp
    obtain ⟨rfl, z⟩ := z
    obtain ⟨e, r, e0⟩ := alen_es h6 (by omega)
    exact one (by decide) e0 PySem.F.plainAttrs_list PySem.F.slot_list_count rfl m_count
  unfold bmOf0 at hp
  split at hp
  · rename_i z
    cases hp
    obtain ⟨rfl, z⟩ := z
    obtain ⟨e, r, e0⟩ := alen_es h6 (by omega)
    exact one (by decide) e0 PySem.F.plainAttrs_list PySem.F.slot_list_append rfl m_append
  split at hp
  · rename_i z
    cases hp
    obtain ⟨rfl, z⟩ := z
    exact nil (by decide) (List.eq_nil_of_length_eq_zero z) PySem.F.plainAttrs_list PySem.F.slot_list_pop rfl m_pop
  split at hp
  · rename_i z
    cases hp
    obtain ⟨rfl, z⟩ := z
    obtain ⟨e, r, e0⟩ := alen_es h6 (by omega)
    exact one (by decide) e0 PySem.F.plainAttrs_dict PySem.F.slot_dict_pop rfl m_dpop
  split at hp
  · rename_i z
    cases hp
    obtain ⟨rfl, z⟩ := z
    obtain ⟨e, r, e0⟩ := alen_es h6 (by omega)
    exact one (by decide) e0 PySem.F.plainAttrs_list PySem.F.slot_list_pop rfl m_popAt
  split at hp
  · rename_i z
    cases hp
    obtain ⟨rfl, z⟩ := z
    obtain ⟨e, r, e0⟩ := alen_es h6 (by omega)
    exact one (by decide) e0 PySem.F.plainAttrs_list PySem.F.slot_list_extend rfl m_extend
  split at hp
  · rename_i z
    cases hp
    obtain ⟨rfl, z⟩ := z
    obtain ⟨e, r, e0⟩ := alen_es h6 (by omega)
    exact one (by decide) e0 PySem.F.plainAttrs_list PySem.F.slot_list_insert rfl m_insert
  split at hp
  · rename_i z
    cases hp
    obtain ⟨rfl, z⟩ := z
    obtain ⟨e, r, e0⟩ := alen_es h6 (by omega)
    exact one (by decide) e0 PySem.F.plainAttrs_list PySem.F.slot_list_index rfl (m_index C.hu)
  split at hp
  · rename_i z
    cases hp
    obtain ⟨rfl, z⟩ := z
    obtain ⟨e, r, e0⟩ := alen_es h6 (by omega)
    exact one (by decide) e0 PySem.F.plainAttrs_str PySem.F.slot_str_join rfl m_join
  split at hp
  · rename_i z
    cases hp
    obtain ⟨rfl, z⟩ := z
    obtain ⟨e, r, e0⟩ := alen_es h6 (by omega)
    exact one (by decide) e0 PySem.F.plainAttrs_str PySem.F.slot_str_split rfl m_split
  · cases hp
theorem okMeth {n : Nat} (C : Cxt X N sc T G k tx) (hE : OkE T G k tx N n) (hA : OkA T G k tx N n) {o : Expr} {m : Str} {es : List Expr} {c : E} {apos pos : Pos} (h : trE tx N (n + 1) sc (.Call (.Attribute o m apos) es [] pos) = some c) : PE X (.Call (.Attribute o m apos) es [] pos) (tE X T G c) := by
  unfold trE at h
  simp only at h
  replace h := grd_get h
  obtain ⟨h1, h⟩ := h
  simp only [Bool.and_eq_true, decide_eq_true_eq] at h1
  obtain ⟨⟨⟨hb, hst⟩, hl⟩, hline⟩ := h1
  split at h
  · rename_i e f hg
    obtain ⟨rfl, rfl⟩ := getArgs_get hg
    replace h := bind_get h
    obtain ⟨co, h4, h⟩ := h
    replace h := bind_get h
    obtain ⟨ce, h5, h⟩ := h
    obtain ⟨cf, h6, rfl⟩ := map_get h
    have q2 := hst
    simp only [List.all_cons, Bool.and_eq_true] at q2
    refine e_get C.hu (hE X sc C o co h4).1 (hE X sc C e ce h5).1 (hE X sc C f cf h6).1 ⟨base_ok hb, few_ok hst hl pos, hline, ?_⟩
    rw [star_cons q2.1, star_cons q2.2.1]; rfl
  split at h
  · rename_i p hp
    replace h := bind_get h
    obtain ⟨co, h4, h⟩ := h
    replace h := bind_get h
    obtain ⟨ca, h5, h⟩ := h
    replace h := grd_get h
    obtain ⟨h6, h⟩ := h
    cases h
    exact okBm C hE hA hb hst hl hline hp h4 h5 (of_decide_eq_true h6)
  replace h := bind_get h
  obtain ⟨j, h2, h⟩ := h
  replace h := bind_get h
  obtain ⟨ar, h3, h⟩ := h
  replace h := bind_get h
  obtain ⟨co, h4, h⟩ := h
  replace h := bind_get h
  obtain ⟨ca, h5, h⟩ := h
  replace h := grd_get h
  obtain ⟨h6, h⟩ := h
  cases h
  have h6 := of_decide_eq_true h6
  have hm : T.fld[j]? = some m := by rw [C.F.fld]; exact findS_at h2
  obtain ⟨q1, q2, q3⟩ := hA X sc C es ca h5
  have hf : ∀ cl f, G.mt cl j = some f → ∃ fA fd ps, Meth X.K (T.cls cl) m fA ∧ FnX X T G k f fA fd ps ∧ alen ca + 1 = ps.length := fun cl f e => by
    obtain ⟨fA, fd, ps, hM, F, hp⟩ := C.F.mts cl j f m ar e (findS_at h2) h3
    exact ⟨fA, fd, ps, hM, F, by rw [hp]; exact h6⟩
  cases es with
  | nil =>
    have e0 : ca = .nil := by
      cases n with
      | zero => simp [trA] at h5
      | succ n => unfold trA at h5; cases h5; rfl
    subst e0
    exact e_meth0 hm hf C.room (hE X sc C o co h4).1 (meth_ok hb hst hl hline)
  | cons e r =>
    have hst' := hst
    rw [List.all_cons, Bool.and_eq_true] at hst'
    exact e_meth hm hf C.room (hE X sc C o co h4).1 q1 (star_cons hst'.1) (star_plain hst'.2 _) (meth_ok hb hst hl hline)
theorem okComp {n : Nat} (C : Cxt X N sc T G k tx) (hE : OkE T G k tx N n) (hI : OkI T G k tx N n) (hC : OkC T G k tx N n) {elt : Expr} {gs : List Comprehension} {scope : Scope} {pos : Pos} {c : E} (h : trE tx N (n + 1) sc (.ListComp elt gs scope pos) = some c) :
    ∃ tg iter ifs ce cc csrc p ki, gs = [⟨tg, iter, ifs, 0⟩] ∧ c = .comp ce p ki csrc cc ((ownOf N scope).map (·.2)) ∧ PI X tg iter (tI X T G ki csrc) ∧ BlkOk X.N X.env.scope scope (ownOf N scope) ∧
      (∀ s H C cl fp, PG (Blk X s H scope C cl fp) tg (tP X p)) ∧ (∀ s H C cl fp, PTs (Blk X s H scope C cl fp) ifs (tB X T G cc)) ∧ (∀ s H C cl fp, PE (Blk X s H scope C cl fp) elt (tE X T G ce)) ∧ (∀ x, foldedSetIterable iter X.env x = pure x) ∧ ∀ i ∈ slotsP p, i ∈ (ownOf N scope).map (·.2) := by
  unfold trE at h
  simp only at h
  split at h
  · rename_i tg iter ifs asy
    replace h := grd_get h
    obtain ⟨h1, h⟩ := h
    simp only [Bool.and_eq_true, decide_eq_true_eq] at h1
    obtain ⟨⟨rfl, hns⟩, hblk⟩ := h1
    replace h := bind_get h
    obtain ⟨p, h2, h⟩ := h
    replace h := grd_get h
    obtain ⟨h3, h⟩ := h
    simp only [Bool.and_eq_true, List.all_eq_true, decide_eq_true_eq] at h3
    replace h := bind_get h
    obtain ⟨ki, h4, h⟩ := h
    replace h := bind_get h
    obtain ⟨ce, h5, h⟩ := h
    replace h := bind_get h
    obtain ⟨cc, h6, h⟩ := h
    cases h
    have ok := blkOk_by hblk
    exact ⟨tg, iter, ifs, ce, cc, ki.2, p, ki.1, rfl, rfl, hI X sc C iter ki tg h4, C.S.blkOk ok, fun s H c cl fp => trP_ok (C.blk ok s H c cl fp).S h2 h3.1, fun s H c cl fp => hC _ scope (C.blk ok s H c cl fp) ifs cc h6, fun s H c cl fp => (hE _ scope (C.blk ok s H c cl fp) elt ce h5).1, folded_ok hns, h3.2⟩
  · cases h
theorem okE {n : Nat} (hE : OkE T G k tx N n) (hA : OkA T G k tx N n) (hB : OkB T G k tx N n) (hO : OkO T G k tx N n) (hC : OkC T G k tx N n) (hI : OkI T G k tx N n) (hD : OkD T G k tx N n) : OkE T G k tx N (n + 1) := by
  intro X sc C e c h
  cases e with
  | Constant v kk pos =>
    unfold trE at h
    cases v with
    | none => cases h; exact both e_non rfl
    | bool b => cases h; exact both e_bl rfl
    | int i => cases h; exact both e_int rfl
    | str x => cases h; exact both e_str rfl
    | _ => cases h
  | Name x pos =>
    unfold trE at h
    replace h := grd_get h
    obtain ⟨h1, h⟩ := h
    obtain ⟨d1, d2, d3⟩ := dbg_ok h1
    refine both ?_ rfl
    split at h
    · rename_i hv
      obtain ⟨i, h2, rfl⟩ := map_get h
      exact e_var (by rw [C.S.n]; exact findS_at h2) (C.S.see hv) d1 d2
    · obtain ⟨h2, h⟩ := grd_get h
      obtain ⟨j, h3, rfl⟩ := map_get h
      obtain ⟨d, v, u, m1, r, hk, rd⟩ := C.F.csts x j h3
      exact e_cst (C.S.glo h2) m1 r d1 hk rd
  | Tuple es kk pos =>
    unfold trE at h
    replace h := bind_get h
    obtain ⟨ca, h1, h⟩ := h
    replace h := grd_get h
    obtain ⟨h2, h⟩ := h
    cases h
    exact both (e_tup (hA X sc C es ca h1).1 (Nat.le_trans (of_decide_eq_true h2) (by decide))) rfl
  | List es pos =>
    unfold trE at h
    replace h := bind_get h
    obtain ⟨ca, h1, h⟩ := h
    replace h := grd_get h
    obtain ⟨h2, h⟩ := h
    cases h
    exact both (e_lst (hA X sc C es ca h1).1 (Nat.le_trans (of_decide_eq_true h2) (by decide))) rfl
  | Dict ks vs pos =>
    unfold trE at h
    simp only at h
    split at h
    · cases h
      refine both (pe_dnewK.imp fun σ H Q' ⟨ρ, μ, Q, rs, rh, hw, p⟩ q e => ?_) rfl
      exact p (.ref q) _ _ _ rfl (rh.newO e (ob := .dF []) ⟨[], L2.upd_same, rfl⟩) (Fr.newO e) (hw q (rh.free e))
    · replace h := grd_get h
      obtain ⟨h1, h⟩ := h
      simp only [Bool.and_eq_true, decide_eq_true_eq, Bool.not_eq_true', List.isEmpty_eq_false_iff] at h1
      obtain ⟨⟨⟨h15, hs⟩, hl⟩, h0⟩ := h1
      obtain ⟨cs, h2, rfl⟩ := map_get h
      exact both (e_dict C.hu (hD X sc C _ _ cs pos h2) hs hl h0 h15) rfl
  | BinOp a op b pos =>
    unfold trE at h
    replace h := bind_get h
    obtain ⟨o, h1, h⟩ := h
    replace h := bind_get h
    obtain ⟨ca, h2, h⟩ := h
    replace h := bind_get h
    obtain ⟨cb, h3, h⟩ := h
    cases h
    exact both (e_bin (op_bin h1) (hE X sc C a ca h2).1 (hE X sc C b cb h3).1) rfl
  | UnaryOp op a pos =>
    unfold trE at h
    cases op with
    | USub => obtain ⟨ca, h1, rfl⟩ := map_get h; exact both (e_neg (hE X sc C a ca h1).1) rfl
    | Not =>
      obtain ⟨ca, h1, rfl⟩ := map_get h
      cases a with
      | ListComp _ _ _ _ => exact ⟨e_notT (hE X sc C _ ca h1).1, t_not (t_tru (hE X sc C _ ca h1).1 fun _ => rfl)⟩
      | _ => exact ⟨e_not (hE X sc C _ ca h1).1, t_not (hE X sc C _ ca h1).2⟩
    | _ => cases h
  | Compare a ops bs pos =>
    unfold trE at h
    match ops, bs, h with
    | [op], [b], h =>
      replace h := grd_get h
      obtain ⟨h1, h⟩ := h
      replace h := bind_get h
      obtain ⟨o, h2, h⟩ := h
      replace h := bind_get h
      obtain ⟨ca, h3, h⟩ := h
      replace h := bind_get h
      obtain ⟨cb, h4, h⟩ := h
      cases h
      exact ⟨e_cmp C.hu h2 (hE X sc C a ca h3).1 (hE X sc C b cb h4).1 (behind_ok h1), t_cmp C.hu h2 (hE X sc C a ca h3).1 (hE X sc C b cb h4).1 (behind_ok h1)⟩
    | [op, op'], [b, b'], h =>
      replace h := grd_get h
      obtain ⟨h1, h⟩ := h
      replace h := bind_get h
      obtain ⟨o, h2, h⟩ := h
      replace h := bind_get h
      obtain ⟨o', h3, h⟩ := h
      replace h := bind_get h
      obtain ⟨ca, h4, h⟩ := h
      replace h := bind_get h
      obtain ⟨cb, h5, h⟩ := h
      replace h := bind_get h
      obtain ⟨cc, h6, h⟩ := h
      cases h
      have h1 : lastMarks [op, op'] [b, b'] = false := by simpa using h1
      exact ⟨e_cmp2 C.hu h2 h3 (hE X sc C a ca h4).1 (hE X sc C b cb h5).1 (hE X sc C b' cc h6).1 h1, t_cmp2 C.hu h2 h3 (hE X sc C a ca h4).1 (hE X sc C b cb h5).1 (hE X sc C b' cc h6).1 h1⟩
  | BoolOp op vs pos =>
    unfold trE at h
    obtain ⟨p1, p2⟩ := hB X sc C op vs c pos h
    exact ⟨p1, p2.pt⟩
  | Subscript a i pos =>
    unfold trE at h
    refine both ?_ rfl
    have gen : ∀ {i : Expr}, noSl i = true → (((trE tx N n sc a).bind fun ca => (trE tx N n sc i).bind fun ci => some (E.idx ca ci)) = some c) → PE X (.Subscript a i pos) (tE X T G c) := fun {i} hs h => by
      replace h := bind_get h
      obtain ⟨ca, h2, h⟩ := h
      replace h := bind_get h
      obtain ⟨ci, h3, h⟩ := h
      cases h
      exact e_idx C.hu (hE X sc C a ca h2).1 (hE X sc C i ci h3).1 (plainIx_ok hs)
    cases i with
    | Slice lo hi st p2 =>
      cases st with
      | none =>
        replace h := bind_get h
        obtain ⟨ca, h1, h⟩ := h
        replace h := bind_get h
        obtain ⟨cl, h2, h⟩ := h
        replace h := bind_get h
        obtain ⟨ch, h3, h⟩ := h
        cases h
        exact e_slc (hE X sc C a ca h1).1 (hO X sc C lo cl h2) (hO X sc C hi ch h3)
      | some s =>
        replace h := grd_get h
        obtain ⟨h1, h⟩ := h
        obtain ⟨rfl, rfl, k0, p3, p4, rfl⟩ := revStep_get h1
        obtain ⟨ca, h2, rfl⟩ := map_get h
        exact e_rev (hE X sc C a ca h2).1
    | _ => exact gen rfl (grd_get h).2
  | Attribute o f pos =>
    unfold trE at h
    replace h := grd_get h
    obtain ⟨h1, h⟩ := h
    replace h := bind_get h
    obtain ⟨j, h2, h⟩ := h
    replace h := bind_get h
    obtain ⟨co, h3, h⟩ := h
    cases h
    exact both (e_attr (by rw [C.F.fld]; exact findS_at h2) (fun cl hf => C.F.fl cl j f hf (findS_at h2)) (hE X sc C o co h3).1 (base_ok h1)) rfl
  | Call f es ks pos =>
    cases ks with
    | cons kw kws =>
      unfold trE at h
      simp only at h
      replace h := bind_get h
      obtain ⟨l, h1, h⟩ := h
      replace h := bind_get h
      obtain ⟨a, h2, h⟩ := h
      replace h := grd_get h
      obtain ⟨h3, h⟩ := h
      obtain ⟨ca, h4, rfl⟩ := map_get h
      simp only [Bool.and_eq_true, decide_eq_true_eq] at h3
      obtain ⟨⟨⟨⟨g1, g2⟩, g3⟩, g4⟩, g5⟩ := h3
      obtain ⟨kp, e1⟩ := keyLam_get h1
      obtain ⟨pf, rfl⟩ := nameOf_get g2
      rw [oneE_get h2, e1]
      obtain ⟨x, p, p1, p2, p3, k, sc2, lp, rfl, hsc⟩ := lamOk_get g4
      obtain ⟨s1, s2, s3, s4, s5⟩ := lamSc_get hsc
      exact both (e_skey C.hu C.hr.depth (C.key g1) (C.S.glo g3) (blt_of C (by simp [bltNames])) (hE X sc C a ca h4).1 (fun _ => star_cons g5) s1 s2 s3 s4 s5) rfl
    | nil =>
      cases f with
      | Name x pp => exact both (okCall C hE hA h) rfl
      | Attribute o m apos => exact both (okMeth C hE hA h) rfl
      | _ => unfold trE at h; cases h
  | ListComp elt gs scope pos =>
    obtain ⟨tg, iter, ifs, ce, cc, csrc, p, ki, rfl, rfl, h1, h2, h3, h4, h5, h6, h7⟩ := okComp C hE hI hC h
    exact both (e_comp C.S.calm (by rw [C.S.n]; exact C.S.nd) h1 h2 h3 h4 h5 h6 h7) rfl
  | _ => unfold trE at h; cases h
theorem ok_all : ∀ n, OkE T G k tx N n ∧ OkA T G k tx N n ∧ OkB T G k tx N n ∧ OkO T G k tx N n ∧ OkC T G k tx N n ∧ OkI T G k tx N n ∧ OkD T G k tx N n
  | 0 => ⟨fun X sc C e c h => (by unfold trE at h; cases h), fun X sc C e c h => (by unfold trA at h; cases h), fun X sc C op vs c pos h => (by unfold trB at h; cases h), fun X sc C o c h => (by unfold trO at h; cases h), fun X sc C l c h => (by unfold trC at h; cases h), fun X sc C e ki tg h => (by unfold trI at h; cases h), fun X sc C ks vs cs pos h => (by unfold trD at h; cases h)⟩
  | n + 1 =>
    let ⟨h1, h2, h3, h4, h5, h6, h7⟩ := ok_all n
    ⟨okE h1 h2 h3 h4 h5 h6 h7, okA h1 h2, okB h1 h3, okO h1, okC h1, okI h1 h2, okD h1 h7⟩
end
end MP

set_option linter.all false
set_option maxRecDepth 100000
set_option maxHeartbeats 4000000
set_option Elab.async false
/-! MP11: the translation of statements, and its soundness. -/
namespace MP
open PySem PySem.Spec PyProof.Rows L2
def notTup : Expr → Bool
  | .Tuple _ _ _ => false
  | _ => true
section
variable {env : PySem.Env} {e : Expr} {es : List Expr}
theorem stores_name {x : Str} {p : Pos} : swappedStores [.Name x p] e env = pure none := rfl
theorem stores_sub {o i : Expr} {p : Pos} : swappedStores [.Subscript o i p] e env = pure none := rfl
theorem stores_attr {o : Expr} {x : Str} {p : Pos} : swappedStores [.Attribute o x p] e env = pure none := rfl
theorem stores_tup {ts : List Expr} {k : Nat} {p : Pos} (h : notTup e = true) : swappedStores [.Tuple ts k p] e env = pure none := by
  cases e <;> first | rfl | cases h
theorem stores_fold {ts vs : List Expr} {k k2 : Nat} {p p2 : Pos} (h : vs.all (foldedForSure 8) = true) : swappedStores [.Tuple ts k p] (.Tuple vs k2 p2) env = pure none := by
  unfold swappedStores
  dsimp only
  split
  · rfl
  split
  · rfl
  split
  · rfl
  first
    | rfl
    | rw [if_pos h]
theorem any_two {a b : Expr} {f : Expr → Bool} (ha : notStar a = true) (hb : notStar b = true) (h : ∀ e, notStar e = true → f e = false) : [a, b].any f = false := by
  rw [List.any_cons, List.any_cons, List.any_nil, h a ha, h b hb]; rfl
theorem stores_two {x y : Str} {px py p p2 : Pos} {a b : Expr} {k k2 : Nat} (hk : env.scope.kind = .function) (hx : env.scope.names.lookup x = some .local) (hy : env.scope.names.lookup y = some .local) (hn : ¬ x = y) (hl : (py.line == px.line) = true)
    (ha : notStar a = true) (hb : notStar b = true) (hf : [a, b].all (foldedForSure 8) = false) (hc : [a, b].all (constantsAlone 8) = false) : swappedStores [.Tuple [.Name x px, .Name y py] k p] (.Tuple [a, b] k2 p2) env = pure (some [x, y]) := by
  have kx : env.kindOf x = some .local := hx
  have ky : env.kindOf y = some .local := hy
  have hbk : env.blockKind = .function := by unfold Env.blockKind; rw [hk]; rfl
  have hn2 : ¬ y = x := fun z => hn z.symm
  have hl2 : py.line = px.line := by simpa using hl
  have hnm : ∀ f : Expr → Option Str, f (.Name x px) = some x → f (.Name y py) = some y → ([.Name x px, .Name y py] : List Expr).filterMap f = [x, y] := fun f h1 h2 => by
    rw [List.filterMap_cons, h1, List.filterMap_cons, h2]; rfl
  have hne : ([x, y] : List Str).eraseDups = [x, y] := by
    simp [List.eraseDups_cons, hn2]
  unfold swappedStores
  dsimp only
  refine (if_neg (by rw [hbk]; exact fun h => Bool.noConfusion (show false = true from h))).trans ?_
  refine (if_neg (Bool.eq_false_iff.mp (any_two ha hb fun e h => by cases e <;> first | rfl | cases h))).trans ?_
  rw [hnm]
  · rw [hne]
    refine (if_neg fun h => Bool.noConfusion (show false = true from h)).trans ?_
    rw [hf, hc]; rfl
  · show (if (env.kindOf x == some NameKind.local && px.line == px.line) = true then some x else none) = some x
    rw [kx, beq_self_eq_true, beq_self_eq_true]; rfl
  · show (if (env.kindOf y == some NameKind.local && py.line == px.line) = true then some y else none) = some y
    rw [ky, hl2, beq_self_eq_true, beq_self_eq_true]; rfl
theorem stores_cell {x y : Str} {px py p p2 : Pos} {a b : Expr} {k k2 : Nat} (hy : env.scope.names.lookup y = some .cell) : swappedStores [.Tuple [.Name x px, .Name y py] k p] (.Tuple [a, b] k2 p2) env = pure none := by
  have ky : env.kindOf y = some .cell := hy
  have hl : ∀ f : Expr → Option Str, f (.Name y py) = none → (([.Name x px, .Name y py] : List Expr).filterMap f).length < 2 := fun f h => by
    rw [List.filterMap_cons]
    cases f (.Name x px) <;> simp [List.filterMap_cons, h]
  unfold swappedStores
  dsimp only
  split
  · rfl
  split
  · rfl
  refine if_pos ?_
  rw [Bool.or_eq_true]
  refine .inl ?_
  refine bne_iff_ne.mpr (Nat.ne_of_lt (hl _ ?_))
  show (if (env.kindOf y == some NameKind.local && py.line == px.line) = true then some y else none) = none
  rw [ky]; rfl
theorem sole_ok {t : Expr} {l : Nat} (h : notComp e = true) : swapsWithSole [t] e l env = pure false := by
  show swapsWith e (some t) l env = pure false
  exact swaps_ok h
theorem sw_cell {elt : Expr} {gs : List Comprehension} {scope : Scope} {pos py : Pos} {y : Str} {l : Nat} (hy : env.scope.names.lookup y = some .cell) : swapsWith (.ListComp elt gs scope pos) (some (.Name y py)) l env = pure false := by
  have ky : env.kindOf y = some .cell := hy
  unfold swapsWith
  simp only [ky]
  have h0 : ((some NameKind.cell == some NameKind.local) : Bool) = false := rfl
  rw [h0]
  simp only [Bool.and_false, Bool.false_and]
end
def isDoc : Expr → Bool
  | .Constant (.str _) _ _ => true
  | _ => false
def lcOf : Expr → Option (Scope × Pos)
  | .ListComp _ _ scope pos => some (scope, pos)
  | _ => none
def isCell (sc : Scope) (x : Str) : Bool := match sc.names.lookup x with
  | some .cell => true
  | _ => false
def isLocal (sc : Scope) (x : Str) : Bool := match sc.names.lookup x with
  | some .local => true
  | _ => false
/-- name = e: of its kind and place -/
def nameOk (sc : Scope) (x : Str) (px : Pos) (e : Expr) : Bool := match e with
  | .ListComp _ _ scope pos => isCell sc x || (isLocal sc x && (px.line == pos.line) && !(scope.names.any fun (n, k) => n == x && (k == .local || k == .cell)))
  | e => notComp e
/-- a, b = c, d -/
def pairOk (sc : Scope) (ts vs : List Expr) : Bool := match ts, vs with
  | [.Name x px, .Name y py], [a, b] => isLocal sc x && isLocal sc y && decide (¬ x = y) && (py.line == px.line) && notStar a && notStar b && !([a, b].all (foldedForSure 8)) && !([a, b].all (constantsAlone 8))
  | _, _ => false
def cellOk (sc : Scope) (ts vs : List Expr) : Bool := match ts, vs with
  | [.Name x px, .Name y py], [a, b] => isCell sc y
  | _, _ => false
def tupOk (sc : Scope) (ts : List Expr) (e : Expr) : Bool := match e with
  | .Tuple vs _ _ => (vs.all (foldedForSure 8) || cellOk sc ts vs) || pairOk sc ts vs
  | e => notComp e
/-- a name that holds a dict -/
def dictVar (tx : Tx) (sc : Scope) (e : Expr) : Option Str := (nameOf e).bind fun x => grd (tx.dv.contains x && isVis sc x && !dbg x) (some x)
theorem dictVar_get {tx : Tx} {sc : Scope} {e : Expr} {x : Str} (h : dictVar tx sc e = some x) : (∃ p, e = .Name x p) ∧ isVis sc x = true ∧ (!dbg x) = true := by
  obtain ⟨y, h1, h2⟩ := Option.bind_eq_some_iff.mp h
  obtain ⟨h3, h4⟩ := grd_get h2
  cases h4
  simp only [Bool.and_eq_true] at h3
  exact ⟨nameOf_get h1, h3.1.2, h3.2⟩
section
variable (tx : Tx) (N : List Str)
mutual
def trS : Nat → Scope → Stmt → Option St
  | 0, _, _ => none
  | n + 1, sc, st => match st with
    | .Expr e _ => if isDoc e = true then some .nop else grd (notComp e) ((trE tx N n sc e).map .expr)
    | .Return o _ => match o with
      | none => some (.ret .cn)
      | some e => (trE tx N n sc e).map .ret
    | .Pass _ => some .nop
    | .If c a b _ => (trE tx N n sc c).bind fun cc => (trSs n sc a).bind fun ca => (trSs n sc b).map fun cb => .ite cc ca cb
    | .While c a els _ => match els with
      | [] => (trE tx N n sc c).bind fun cc => (trSs n sc a).map fun ca => .while cc ca
      | _ => none
    | .For tg it a els _ => match els with
      | [] => match dictVar tx sc it with
        | some x => (trP N sc tg).bind fun p => grd (wfP p) ((findS N x 0).bind fun i => (trSs n sc a).map fun ca => .forD p i ca)
        | none => grd (notSet it) ((trP N sc tg).bind fun p => grd (wfP p) ((trI tx N n sc tg it).bind fun ki => (trSs n sc a).map fun ca => .for p ki.1 ki.2 ca))
      | _ => none
    | .Assign tgs e _ => match tgs with
      | [tg] => match tg with
        | .Name x px => grd (nameOk sc x px e) ((trP N sc (.Name x px)).bind fun p => (trE tx N n sc e).map fun c => .set p c)
        | .Tuple ts k p => grd (tupOk sc ts e) ((trP N sc (.Tuple ts k p)).bind fun p => grd (wfP p) ((trE tx N n sc e).map fun c => .set p c))
        | .Subscript o i _ => grd (noSl i && notComp e) ((trE tx N n sc o).bind fun co => (trE tx N n sc i).bind fun ci => (trE tx N n sc e).map fun ce => .setIdx co ci ce)
        | .Attribute o f _ => grd (notComp e) ((findS tx.fld f 0).bind fun j => (trE tx N n sc o).bind fun co => (trE tx N n sc e).map fun ce => .setAttr co j ce)
        | _ => none
      | _ => none
    | .AugAssign tg op e _ => match op with
      | .Add => match tg with
        | .Name x _ => grd (isLoc sc x) ((findS N x 0).bind fun i => (trE tx N n sc e).map fun c => .augVar i c)
        | .Attribute o f _ => (findS tx.fld f 0).bind fun j => (trE tx N n sc o).bind fun co => (trE tx N n sc e).map fun ce => .augAttr co j ce
        | _ => none
      | _ => none
    | .Raise x _ _ => match x with
      | some (.Call (.Name y _) as _ _) => (tx.exs.lookup y).bind fun c => (trA tx N n sc as).bind fun a => grd (simpleA a) (some (.raise c a))
      | _ => none
    | _ => none
def trSs : Nat → Scope → List Stmt → Option St
  | 0, _, _ => none
  | n + 1, sc, l => match l with
    | [] => some .nop
    | s :: r => match r with
      | [] => trS n sc s
      | r => (trS n sc s).bind fun a => (trSs n sc r).map fun b => .seq a b
end
end
/-- the frame of a def -/
structure Cxd (X : Cx) (N : List Str) (sc : Scope) (T : Tab) (G : Ctx) (k : Nat) (tx : Tx) : Prop extends Cxt X N sc T G k tx where
  kind : X.env.scope.kind = .function
  ps : PassesOwn (model X.prog X.w) X.A X.env X.xe
section
variable {X : Cx} {N : List Str} {sc : Scope} {T : Tab} {G : Ctx} {tx : Tx} {k : Nat}
abbrev OkS (X : Cx) (sc : Scope) (T : Tab) (G : Ctx) (k : Nat) (tx : Tx) (N : List Str) (n : Nat) : Prop := ∀ st c, trS tx N n sc st = some c → PS X st (tS X T G c)
abbrev OkSs (X : Cx) (sc : Scope) (T : Tab) (G : Ctx) (k : Nat) (tx : Tx) (N : List Str) (n : Nat) : Prop := ∀ st c, trSs tx N n sc st = some c → PSs X st (tS X T G c)
theorem isLocal_get {x : Str} (h : isLocal sc x = true) : sc.names.lookup x = some .local := by
  unfold isLocal at h
  split at h
  · assumption
  · cases h
theorem isCell_get {x : Str} (h : isCell sc x = true) : sc.names.lookup x = some .cell := by
  unfold isCell at h
  split at h
  · assumption
  · cases h
theorem trP_name {x : Str} {px : Pos} {p : P} (h : trP N sc (.Name x px) = some p) : ∃ i, N[i]? = some x ∧ p = .v i ∧ isLoc sc x = true := by
  unfold trP at h
  obtain ⟨h1, h2⟩ := grd_get h
  obtain ⟨i, h3, rfl⟩ := Option.map_eq_some_iff.mp h2
  exact ⟨i, findS_at h3, rfl, h1⟩
theorem okSs {n : Nat} (hS : OkS X sc T G k tx N n) (hSs : OkSs X sc T G k tx N n) : OkSs X sc T G k tx N (n + 1) := by
  intro l c h
  unfold trSs at h
  match l, h with
  | [], h => cases h; exact ss_nil
  | [s], h => exact ss_one (hS s c h)
  | s :: t :: r, h =>
    replace h := bind_get h
    obtain ⟨a, h1, h⟩ := h
    obtain ⟨b, h2, rfl⟩ := map_get h
    exact ss_cons (hS s a h1) (hSs (t :: r) b h2)
theorem okName {n : Nat} (C : Cxd X N sc T G k tx) {x : Str} {px pos : Pos} {e : Expr} {c : MP.St} (h : trS tx N (n + 1) sc (.Assign [.Name x px] e pos) = some c) : PS X (.Assign [.Name x px] e pos) (tS X T G c) := by
  unfold trS at h
  dsimp only at h
  replace h := grd_get h
  obtain ⟨h1, h⟩ := h
  replace h := bind_get h
  obtain ⟨p, h2, h⟩ := h
  obtain ⟨ce, h3, rfl⟩ := map_get h
  have hE := (ok_all (T := T) (G := G) (k := k) (tx := tx) (N := N) n).1
  have plain : notComp e = true → PS X (.Assign [.Name x px] e pos) (tS X T G (.set p ce)) := fun hn =>
    s_set (hE X sc C.toCxt e ce h3).1 (trP_ok C.S h2 (by obtain ⟨i, _, rfl, _⟩ := trP_name h2; rfl)) (sole_ok hn) stores_name rfl
  obtain ⟨i, hi, rfl, hl⟩ := trP_name h2
  have hi' : X.N[i]? = some x := by rw [C.S.n]; exact hi
  cases e with
  | ListComp elt gs scope lp =>
    have h1 : (isCell sc x || (isLocal sc x && (px.line == lp.line) && !(scope.names.any fun (n, k) => n == x && (k == .local || k == .cell)))) = true := h1
    rw [Bool.or_eq_true] at h1
    rcases h1 with h1 | h1
    · exact s_set (hE X sc C.toCxt _ ce h3).1 (trP_ok C.S h2 rfl) (sw_cell (l := pos.line) (C.S.look (isCell_get h1) (by decide))) stores_name rfl
    · simp only [Bool.and_eq_true, Bool.not_eq_true'] at h1
      obtain ⟨⟨l1, l2⟩, l3⟩ := h1
      have hx := C.S.look (isLocal_get l1) (by decide)
      cases n with
      | zero => unfold trE at h3; cases h3
      | succ n =>
        have oa := ok_all (T := T) (G := G) (k := k) (tx := tx) (N := N) n
        obtain ⟨tg, iter, ifs, ce, cc, csrc, p, ki, rfl, rfl, g1, g2, g3, g4, g5, g6, g7⟩ := okComp C.toCxt oa.1 oa.2.2.2.2.2.1 oa.2.2.2.2.1 h3
        exact s_setLc C.S.calm (by rw [C.S.n]; exact C.S.nd) hi' hx (sw_true C.kind hx l2 l3) g1 g2 g3 g4 g5 g6 g7
  | _ => exact plain h1
theorem okTup {n : Nat} (C : Cxd X N sc T G k tx) {ts : List Expr} {kk : Nat} {pp pos : Pos} {e : Expr} {c : MP.St} (h : trS tx N (n + 1) sc (.Assign [.Tuple ts kk pp] e pos) = some c) : PS X (.Assign [.Tuple ts kk pp] e pos) (tS X T G c) := by
  unfold trS at h
  dsimp only at h
  replace h := grd_get h
  obtain ⟨h1, h⟩ := h
  replace h := bind_get h
  obtain ⟨p, h2, h⟩ := h
  replace h := grd_get h
  obtain ⟨hw, h⟩ := h
  obtain ⟨ce, h3, rfl⟩ := map_get h
  have oa := ok_all (T := T) (G := G) (k := k) (tx := tx) (N := N) n
  have he := (oa.1 X sc C.toCxt e ce h3).1
  have hg := trP_ok C.S h2 hw
  cases e with
  | Tuple vs k2 p2 =>
    have h1 : ((vs.all (foldedForSure 8) || cellOk sc ts vs) || pairOk sc ts vs) = true := h1
    rw [Bool.or_eq_true, Bool.or_eq_true] at h1
    rcases h1 with (h1 | h1) | h1
    · exact s_set he hg rfl (stores_fold h1) rfl
    · unfold cellOk at h1
      split at h1
      · exact s_set he hg rfl (stores_cell (C.S.look (isCell_get h1) (by decide))) rfl
      · cases h1
    · unfold pairOk at h1
      split at h1
      · rename_i x px y py a b _
        simp only [Bool.and_eq_true, Bool.not_eq_true', decide_eq_true_eq] at h1
        obtain ⟨⟨⟨⟨⟨⟨⟨l1, l2⟩, l3⟩, l4⟩, l5⟩, l6⟩, l7⟩, l8⟩ := h1
        have hx := C.S.look (isLocal_get l1) (by decide)
        have hy := C.S.look (isLocal_get l2) (by decide)
        have q : trPs N sc [.Name x px, .Name y py] = some p := by simpa [trP] using h2
        unfold trPs at q
        obtain ⟨_, q⟩ := grd_get q
        cases q1 : trP N sc (.Name x px) with
        | none => rw [q1] at q; cases q
        | some pa =>
          cases q2 : trPs N sc [.Name y py] with
          | none => rw [q1, q2] at q; cases q
          | some pb =>
            rw [q1, q2] at q
            cases q
            unfold trPs at q2
            obtain ⟨_, q⟩ := grd_get q2
            cases q3 : trP N sc (.Name y py) with
            | none => rw [q3] at q; cases q
            | some pc =>
              rw [q3] at q
              have e0 : trPs N sc [] = some .nil := by simp [trPs]
              rw [e0] at q
              cases q
              obtain ⟨i, hi, rfl, _⟩ := trP_name q1
              obtain ⟨j, hj, rfl, _⟩ := trP_name q3
              have hij : i ≠ j := fun z => by subst z; rw [hi] at hj; exact l3 (Option.some.inj hj)
              cases n with
              | zero => unfold trE at h3; cases h3
              | succ n =>
                unfold trE at h3
                replace h3 := bind_get h3
                obtain ⟨ca, h3, h4⟩ := h3
                replace h4 := grd_get h4
                obtain ⟨_, h4⟩ := h4
                cases h4
                obtain ⟨a1, _, a3⟩ := (ok_all (T := T) (G := G) (k := k) (tx := tx) (N := N) n).2.1 X sc C.toCxt [a, b] ca h3
                exact s_par C.S.calm (by rw [C.S.n]; exact C.S.nd) (by rw [C.S.n]; exact hi) (by rw [C.S.n]; exact hj) hij hx hy a1 a3 (stores_two C.kind hx hy l3 l4 l5 l6 l7 l8) rfl
      · cases h1
  | ListComp _ _ _ _ => cases h1
  | SetComp _ _ _ _ => cases h1
  | DictComp _ _ _ _ _ => cases h1
  | _ => exact s_set he hg rfl (stores_tup rfl) rfl
theorem okS {n : Nat} (C : Cxd X N sc T G k tx) (hSs : OkSs X sc T G k tx N n) : OkS X sc T G k tx N (n + 1) := by
  intro st c h
  have oa := ok_all (T := T) (G := G) (k := k) (tx := tx) (N := N) n
  have hE := fun e c h => oa.1 X sc C.toCxt e c h
  cases st with
  | Expr e pos =>
    unfold trS at h
    dsimp only at h
    split at h
    · rename_i hd
      cases h
      unfold isDoc at hd
      split at hd
      · exact (s_expr (T := T) (G := G) e_str rfl).imp fun D0 σ H h => h
      · cases hd
    · replace h := grd_get h
      obtain ⟨h1, h⟩ := h
      obtain ⟨c1, h2, rfl⟩ := map_get h
      exact s_expr (hE e c1 h2).1 (swaps_none h1)
  | Return o pos =>
    unfold trS at h
    cases o with
    | none => cases h; exact s_retN
    | some e => obtain ⟨c1, h2, rfl⟩ := map_get h; exact s_ret (hE e c1 h2).1
  | Pass pos => unfold trS at h; cases h; exact s_pass
  | If cd a b pos =>
    unfold trS at h
    dsimp only at h
    replace h := bind_get h
    obtain ⟨cc, h1, h⟩ := h
    replace h := bind_get h
    obtain ⟨ca, h2, h⟩ := h
    obtain ⟨cb, h3, rfl⟩ := map_get h
    exact s_if (hE cd cc h1).2 (hSs a ca h2) (hSs b cb h3)
  | While cd a els pos =>
    unfold trS at h
    cases els with
    | cons _ _ => cases h
    | nil =>
      replace h := bind_get h
      obtain ⟨cc, h1, h⟩ := h
      obtain ⟨ca, h2, rfl⟩ := map_get h
      exact s_while C.ps (hE cd cc h1).2 (hSs a ca h2)
  | For tg it a els pos =>
    unfold trS at h
    cases els with
    | cons _ _ => cases h
    | nil =>
      dsimp only at h
      split at h
      · rename_i x hx
        obtain ⟨⟨px, rfl⟩, hv, hdb⟩ := dictVar_get hx
        obtain ⟨d1, d2, _⟩ := dbg_ok hdb
        replace h := bind_get h
        obtain ⟨p, h1, h⟩ := h
        replace h := grd_get h
        obtain ⟨hw, h⟩ := h
        replace h := bind_get h
        obtain ⟨i, h2, h⟩ := h
        obtain ⟨ca, h3, rfl⟩ := map_get h
        exact s_forD C.ps C.S.calm (by rw [C.S.n]; exact findS_at h2) (C.S.see hv) d1 d2 (trP_ok C.S h1 hw) (hSs a ca h3)
      replace h := grd_get h
      obtain ⟨h0, h⟩ := h
      replace h := bind_get h
      obtain ⟨p, h1, h⟩ := h
      replace h := grd_get h
      obtain ⟨hw, h⟩ := h
      replace h := bind_get h
      obtain ⟨ki, h2, h⟩ := h
      obtain ⟨ca, h3, rfl⟩ := map_get h
      exact s_for C.ps C.S.calm (oa.2.2.2.2.2.1 X sc C.toCxt it ki tg h2) (trP_ok C.S h1 hw) (hSs a ca h3) (folded_ok h0)
  | Assign tgs e pos =>
    match tgs, h with
    | [tg], h =>
      cases tg with
      | Name x px => exact okName C h
      | Tuple ts kk p => exact okTup C h
      | Subscript o i p2 =>
        unfold trS at h
        dsimp only at h
        replace h := grd_get h
        obtain ⟨h0, h⟩ := h
        simp only [Bool.and_eq_true] at h0
        replace h := bind_get h
        obtain ⟨co, h1, h⟩ := h
        replace h := bind_get h
        obtain ⟨ci, h2, h⟩ := h
        obtain ⟨ce, h3, rfl⟩ := map_get h
        exact s_setIdx C.hu (hE e ce h3).1 (hE o co h1).1 (hE i ci h2).1 h0.1 (sole_ok h0.2) stores_sub
      | Attribute o f p2 =>
        unfold trS at h
        dsimp only at h
        replace h := grd_get h
        obtain ⟨h0, h⟩ := h
        replace h := bind_get h
        obtain ⟨j, h1, h⟩ := h
        replace h := bind_get h
        obtain ⟨co, h2, h⟩ := h
        obtain ⟨ce, h3, rfl⟩ := map_get h
        exact s_setAttr (by rw [C.F.fld]; exact findS_at h1) (fun cl hf => C.F.fl cl j f hf (findS_at h1)) (hE e ce h3).1 (hE o co h2).1 (swaps_ok h0)
      | _ => unfold trS at h; cases h
    | [], h => unfold trS at h; cases h
    | _ :: _ :: _, h => unfold trS at h; cases h
  | AugAssign tg op e pos =>
    cases op with
    | Add =>
      cases tg with
      | Name x p2 =>
        unfold trS at h
        dsimp only at h
        replace h := grd_get h
        obtain ⟨h0, h⟩ := h
        replace h := bind_get h
        obtain ⟨i, h1, h⟩ := h
        obtain ⟨c1, h2, rfl⟩ := map_get h
        obtain ⟨l1, l2⟩ := C.S.loc h0
        exact s_augVar (by rw [C.S.n]; exact C.S.nd) (by rw [C.S.n]; exact findS_at h1) l1 (hE e c1 h2).1 l2
      | Attribute o f p2 =>
        unfold trS at h
        dsimp only at h
        replace h := bind_get h
        obtain ⟨j, h1, h⟩ := h
        replace h := bind_get h
        obtain ⟨co, h2, h⟩ := h
        obtain ⟨ce, h3, rfl⟩ := map_get h
        exact s_augAttr (by rw [C.F.fld]; exact findS_at h1) (fun cl hf => C.F.fl cl j f hf (findS_at h1)) (hE e ce h3).1 (hE o co h2).1
      | _ => unfold trS at h; cases h
    | _ => unfold trS at h; cases h
  | Raise x cs pos =>
    unfold trS at h
    dsimp only at h
    split at h
    · replace h := bind_get h
      obtain ⟨cl, _, h⟩ := h
      replace h := bind_get h
      obtain ⟨a, _, h⟩ := h
      replace h := grd_get h
      obtain ⟨h1, h⟩ := h
      cases h
      exact s_raise h1
    · cases h
  | _ => unfold trS at h; cases h
theorem ok_body (C : Cxd X N sc T G k tx) : ∀ n, OkS X sc T G k tx N n ∧ OkSs X sc T G k tx N n
  | 0 => ⟨fun st c h => (by unfold trS at h; cases h), fun st c h => (by unfold trSs at h; cases h)⟩
  | n + 1 => let ⟨h1, h2⟩ := ok_body C n; ⟨okS C h2, okSs h1 h2⟩
end
end MP

set_option linter.all false
set_option maxRecDepth 100000
set_option maxHeartbeats 4000000
set_option Elab.async false
/-! MP12: a whole text: its tables, the soundness of its defs by levels, the end. -/
namespace MP
open PySem PySem.Spec PyProof.Rows L2
/-! ### binding -/
theorem zip_look : ∀ {ns : List Str} {us : List Value}, ns.Nodup → us.length = ns.length → ∀ n ∈ ns, ((ns.zip us).lookup n).isNone = false
  | n :: ns, u :: us, nd, hl, m, hm => by
    rw [List.zip_cons_cons, List.lookup_cons]
    cases e : m == n with
    | true => rfl
    | false =>
      have ne : ¬ m = n := by simpa using e
      rcases List.mem_cons.mp hm with h | h
      · exact absurd h ne
      · exact zip_look (List.nodup_cons.mp nd).2 (by simpa using hl) m h
theorem zip_map : ∀ {ns : List Str} {us : List Value}, ns.Nodup → us.length = ns.length → ∀ f : Str → Option Value, (∀ p ∈ ns.zip us, f p.1 = some p.2) → ns.filterMap (fun n => (f n).map (n, ·)) = ns.zip us
  | [], [], _, _, _, _ => rfl
  | n :: ns, u :: us, nd, hl, f, h => by
    rw [List.zip_cons_cons, List.filterMap_cons, h (n, u) (by simp)]
    show (n, u) :: _ = _
    rw [zip_map (List.nodup_cons.mp nd).2 (by simpa using hl) f fun p hp => h p (by simp [hp])]
theorem zip_at : ∀ {ns : List Str} {us : List Value}, ns.Nodup → us.length = ns.length → ∀ p ∈ ns.zip us, (ns.zip us).lookup p.1 = some p.2
  | [], [], _, _, _, h => by simp at h
  | n :: ns, u :: us, nd, hl, p, h => by
    rw [List.zip_cons_cons] at h ⊢
    rw [List.lookup_cons]
    rcases List.mem_cons.mp h with e | e
    · subst e; simp
    · have h1 : p.1 ∈ ns := (List.of_mem_zip e).1
      have ne : (p.1 == n) = false := by
        have : ¬ p.1 = n := fun z => (List.nodup_cons.mp nd).1 (z ▸ h1)
        simpa using this
      rw [ne]
      exact zip_at (List.nodup_cons.mp nd).2 (by simpa using hl) p e
theorem bind_plain {as : List Arg} {x q : Str} {body : List Stmt} {scope : Scope} {kV doc pm : Value} {an : Option Addr} {cdv ct : Value} {us : List Value} (nd : (as.map (·.arg)).Nodup) (hl : us.length = (as.map (·.arg)).length) :
    bindArgs (PySem.W.fnOf x q ⟨[], as, none, [], [], none, []⟩ body scope .none kV doc pm an cdv ct) ⟨us, []⟩ = pure ((as.map (·.arg)).zip us) := by
  have hs : seqItems? Value.none = pure none := rfl
  unfold bindArgs
  dsimp only [PySem.W.fnOf]
  rw [hs]
  generalize as.map (·.arg) = ns at nd hl ⊢
  have h1 : ns.filter (fun n => ((ns.zip us).lookup n).isNone) = [] := List.filter_eq_nil_iff.mpr fun n hn => by rw [zip_look nd hl n hn]; decide
  have h2 := zip_map nd hl (fun n => (ns.zip us).lookup n) (zip_at nd hl)
  simp [h1, h2, hl]
/-! ### a text -/
structure DE where
  num : Nat
  cls : Option Str
  name : Str
  qual : Str
  st : Stmt
  N : List Str
  fd : FD
  /-- names that hold dicts where they are walked -/
  dv : List Str := []
def DE.par (d : DE) : List Str := (defArgs d.st).args.map (·.arg)
def DE.at_ (d : DE) : Str × Option Str := match d.cls with
  | none => (d.name, none)
  | some c => (c, some d.name)
def DE.dd (d : DE) : He.DefD := ⟨d.at_, d.name, d.qual, defArgs d.st, defBody d.st, defScope d.st, [], []⟩
def plainArgs : Arguments → Bool
  | ⟨[], _, none, [], [], none, []⟩ => true
  | _ => false
theorem plainArgs_ok {a : Arguments} (h : plainArgs a = true) : a = ⟨[], a.args, none, [], [], none, []⟩ := by
  obtain ⟨p, as, v, ko, kd, kw, df⟩ := a
  cases p <;> cases v <;> cases ko <;> cases kd <;> cases kw <;> cases df <;> first | rfl | cases h
def isFun : ScopeKind → Bool
  | .function => true
  | _ => false
def scOk (N ps : List Str) (sc : Scope) : Bool := isFun sc.kind && !sc.isCoroutine && !sc.isGenerator && decide N.Nodup && decide (N.take ps.length = ps) && ps.all (isLoc sc) && sc.names.all (fun y => match y.2 with
  | .free => false
  | _ => true)
theorem scOk_ok {N ps : List Str} {sc : Scope} (h : scOk N ps sc = true) : FnScope N ps sc := by
  unfold scOk at h
  simp only [Bool.and_eq_true, decide_eq_true_eq, Bool.not_eq_true', List.all_eq_true] at h
  obtain ⟨⟨⟨⟨⟨⟨h1, h2⟩, h3⟩, h4⟩, h5⟩, h6⟩, h7⟩ := h
  refine ⟨?_, h2, h3, h4, h5, fun x hx => ?_, fun y hy e => ?_⟩
  · unfold isFun at h1
    split at h1
    · assumption
    · cases h1
  · have q := h6 x hx
    unfold isLoc at q
    split at q
    · rename_i e; exact .inl e
    · rename_i e; exact .inr e
    · cases q
  · have q := h7 y hy
    rw [e] at q
    cases q
/-- the def whose lambda is served -/
def DE.isKey (d : DE) : Bool := d.cls.isNone && d.name == "with_known" && d.qual == "with_known"
def DE.ok (tx : Tx) (d : DE) : Bool := decide (trSs { tx with key := d.isKey, dv := d.dv } d.N 100 (defScope d.st) (defBody d.st) = some d.fd.body) && decide (d.fd.np = d.par.length) && decide (d.fd.ns = d.N.length) && plainArgs (defArgs d.st) && scOk d.N d.par (defScope d.st) && decide d.par.Nodup
structure Txt where
  ds : List DE
  cn : List (Str × Nat)
  ci : List (Str × Nat × Int)
  cs : List (Str × Nat × Str)
  fld : List Str
  mt : List ((Nat × Nat) × Nat)
  fl : List (Nat × Nat)
  exs : List (Str × Nat)
  /-- names of the module that stand for (None, None) -/
  ct : List (Str × Nat) := []
namespace Txt
variable (t : Txt)
def cname (c : Nat) : Str := ((t.cn.map fun e => (e.2, e.1)).lookup c).getD ""
def fname (i : Nat) : Str := (t.fld[i]?).getD ""
def initOf (x : Str) : Option DE := t.ds.find? fun d => d.cls == some x && d.name == "__init__"
def tx : Tx where
  fns := t.ds.filterMap fun d => match d.cls with
    | none => some (d.name, d.num, d.fd.np)
    | some _ => none
  cls := t.cn.filterMap fun e => (t.initOf e.1).map fun d => (e.1, e.2, d.num, d.fd.np)
  csts := t.ci.map (fun e => (e.1, e.2.1)) ++ t.cs.map (fun e => (e.1, e.2.1)) ++ t.ct
  fld := t.fld
  mts := t.ds.filterMap fun d => match d.cls with
    | none => none
    | some _ => (findS t.fld d.name 0).map fun i => (i, d.fd.np)
  exs := t.exs
def tab : List (Nat × FD) := t.ds.map fun d => (d.num, d.fd)
def cst (c : Nat) : Option D := match (t.ci.map (·.2)).lookup c with
  | some i => some (.int i)
  | none => match (t.cs.map (·.2)).lookup c with
    | some s => some (.str s.cps.toList)
    | none => if (t.ct.map (·.2)).contains c = true then some (.tup [.non, .non]) else none
def lev (f : Nat → Fn) : Ctx where
  fn := f
  mt := fun c m => t.mt.lookup (c, m)
  fl := fun c i => t.fl.contains (c, i)
  cst := t.cst
def fnOf (G : Ctx) (f : Nat) : Fn := match t.tab.lookup f with
  | some fd => runF G fd
  | none => fun _ _ _ _ => False
def ctx : Nat → Ctx
  | 0 => t.lev fun _ _ _ _ _ => False
  | k + 1 => t.lev (t.fnOf (ctx k))
/-- what is looked up in the heap -/
def fas : List He.Fa := t.ds.flatMap (fun d => match d.cls with
    | none => [.glo d.name]
    | some c => [.meth c d.name]) ++ t.cn.flatMap (fun e => [.glo e.1, .cls e.1]) ++ t.cn.flatMap (fun e => match t.initOf e.1 with
    | some _ => [.mkr e.1]
    | none => []) ++ t.fl.map (fun e => .noat (t.cname e.1) (t.fname e.2)) ++ t.ci.map (fun e => .int e.1 e.2.2) ++ t.cs.map (fun e => .str e.1 e.2.2) ++ bltNames.map .free ++ t.ct.map fun e => .glo e.1
/-- the defs with a table of code objects; what else is looked at -/
def tf : List He.Defn := if t.ds.any DE.isKey = true then [("with_known", none)] else []
def ex (K : PySem.W.Frag) : Bool := t.ct.all fun e => He.tupB K e.1 [.non, .non]
def dds : List He.DefD := t.ds.map DE.dd
def okDs : Bool := t.ds.all (DE.ok t.tx)
def okTab : Bool := decide (t.ds.map (·.num)).Nodup && decide t.fld.Nodup && t.cn.all (fun e => decide (t.cname e.2 = e.1)) &&
  t.mt.all (fun e => t.ds.any fun d => decide (d.num = e.2) && decide (d.cls = some (t.cname e.1.1)) && decide (t.fld[e.1.2]? = some d.name) && decide (t.tx.mts.lookup e.1.2 = some d.fd.np)) &&
  t.ci.all (fun e => decide ((t.ci.map (·.2)).lookup e.2.1 = some e.2.2)) && t.cs.all (fun e => decide ((t.ci.map (·.2)).lookup e.2.1 = none) && decide ((t.cs.map (·.2)).lookup e.2.1 = some e.2.2)) && t.ct.all (fun e => decide ((t.ci.map (·.2)).lookup e.2 = none) && decide ((t.cs.map (·.2)).lookup e.2 = none))
end Txt
theorem look_mem {α β : Type} [BEq α] [LawfulBEq α] : ∀ {l : List (α × β)} {x : α} {y : β}, l.lookup x = some y → (x, y) ∈ l
  | (a, b) :: r, x, y, h => by
    rw [List.lookup_cons] at h
    split at h
    · rename_i e
      cases h
      have e : x = a := by simpa using e
      rw [e]; exact List.mem_cons_self ..
    · exact List.mem_cons_of_mem _ (look_mem h)
theorem tab_at : ∀ {ds : List DE}, (ds.map (·.num)).Nodup → ∀ d ∈ ds, (ds.map fun d => (d.num, d.fd)).lookup d.num = some d.fd
  | e :: ds, nd, d, hd => by
    rw [List.map_cons, List.lookup_cons]
    rcases List.mem_cons.mp hd with h | h
    · subst h; simp
    · have nd : (e.num :: ds.map (·.num)).Nodup := nd
      have ne : (d.num == e.num) = false := by
        have : ¬ d.num = e.num := fun z => (List.nodup_cons.mp nd).1 (z ▸ List.mem_map_of_mem h)
        simpa using this
      rw [ne]
      exact tab_at (List.nodup_cons.mp nd).2 d h
theorem says_mem {fa : List He.Fa} {fn : List He.DefD} {K : PySem.W.Frag} (c : He.SaysD fa fn K) {f : He.Fa} (h : f ∈ fa) : f.ok K = true := by
  obtain ⟨i, hi, e⟩ := List.mem_iff_getElem.mp h
  exact c.fact i (by rw [List.getElem?_eq_getElem hi, e])
theorem says_def {fa : List He.Fa} {fn : List He.DefD} {K : PySem.W.Frag} (c : He.SaysD fa fn K) {d : He.DefD} (h : d ∈ fn) : ∃ fd, FunD K d.name d.qual d.params d.body d.scope (d.dvs K) (d.kws K) (He.fAd K d.at_) fd := by
  obtain ⟨i, hi, e⟩ := List.mem_iff_getElem.mp h
  exact c.def_ i (by rw [List.getElem?_eq_getElem hi, e])
section
variable {t : Txt} {P : Program} {w : World} {K : PySem.W.Frag} {mg : Str → Option Value} {base h : Heap}
def Txt.tabOf (t : Txt) (K : PySem.W.Frag) (nd : t.fld.Nodup) : Tab where
  fld := t.fld
  cls := fun c => He.ga K (t.cname c)
  nd := nd
  tabs := t.tf.map fun p => ((He.cT K p).2, "with_known" ++ ".<locals>." ++ "<lambda>")
/-- the base knows the code objects and their tables -/
abbrev TBs (t : Txt) (K : PySem.W.Frag) (mg : Str → Option Value) (base : Heap) : Prop := ∀ p ∈ t.tf, LamX.TabB base mg (He.cT K p).1 (He.cT K p).2
/-- each def at one level -/
def Lev (t : Txt) (P : Program) (w : World) (K : PySem.W.Frag) (mg : Str → Option Value) (base : Heap) (nd : t.fld.Nodup) (k : Nat) : Prop := ∀ d ∈ t.ds, ∀ fd, FunD K d.name d.qual (defArgs d.st) (defBody d.st) (defScope d.st) [] [] (He.fAd K d.at_) fd → FnI P w K mg base (t.tabOf K nd) (t.ctx k) (2 * k) d.num (He.fAd K d.at_) fd d.par
theorem initOf_get {x : Str} {d : DE} (e : t.initOf x = some d) : d ∈ t.ds ∧ d.cls = some x ∧ d.name = "__init__" := by
  unfold Txt.initOf at e
  have h1 := List.find?_some e
  simp only [Bool.and_eq_true, beq_iff_eq] at h1
  exact ⟨List.mem_of_find?_eq_some e, h1.1, h1.2⟩
theorem ctx_lev (k : Nat) : ∃ f, t.ctx k = t.lev f := by cases k <;> exact ⟨_, rfl⟩
theorem facts_ok (X : K.In h) (g : h.Ns mainGlobals mg) (c : He.SaysD t.fas t.dds K) (cx : t.ex K = true) (ht : t.okTab = true) (hd : t.okDs = true) (nd : t.fld.Nodup) {k : Nat} (L : Lev t P w K mg base nd k) : Facts P w K mg base (t.tabOf K nd) (t.ctx k) (2 * k) t.tx := by
  unfold Txt.okTab at ht
  simp only [Bool.and_eq_true, List.all_eq_true, List.any_eq_true, decide_eq_true_eq] at ht
  obtain ⟨⟨⟨⟨⟨⟨t1, t2⟩, t3⟩, t4⟩, t5⟩, t6⟩, t7⟩ := ht
  have np : ∀ d ∈ t.ds, d.fd.np = d.par.length := fun d m => by
    have q := List.all_eq_true.mp hd d m
    unfold DE.ok at q
    simp only [Bool.and_eq_true, decide_eq_true_eq] at q
    exact q.1.1.1.1.2
  have fa : ∀ {f : He.Fa}, f ∈ t.fas → f.ok K = true := fun m => says_mem c m
  obtain ⟨f0, e0⟩ := ctx_lev (t := t) k
  refine ⟨fun x f n e => ?_, fun x cl f n e => ?_, fun cl m f mn ar e1 e2 e3 => ?_, fun cl i x e1 e2 => ?_, fun x cc e => ?_, fun x hx => ?_, rfl⟩
  · have m := look_mem e
    obtain ⟨d, md, ed⟩ := List.mem_filterMap.mp m
    cases hc : d.cls with
    | some _ => rw [hc] at ed; cases ed
    | none =>
      rw [hc] at ed
      cases ed
      obtain ⟨fd, F0⟩ := says_def c (List.mem_map_of_mem md); have F := L d md fd F0
      refine ⟨_, fd, d.par, ?_, F, (np d md).symm⟩
      have q : (He.Fa.glo d.name) ∈ t.fas := by
        unfold Txt.fas
        simp only [List.mem_append, List.mem_flatMap]
        exact .inl (.inl (.inl (.inl (.inl (.inl (.inl ⟨d, md, by rw [hc]; exact List.mem_cons_self ..⟩))))))
      have ea : He.fAd K d.at_ = He.ga K d.name := by unfold DE.at_; rw [hc]; rfl
      rw [ea]
      exact He.glo_ok X g (fa q)
  · have m := look_mem e
    obtain ⟨ec, mc, ed⟩ := List.mem_filterMap.mp m
    obtain ⟨d, hi, ed⟩ := Option.map_eq_some_iff.mp ed
    cases ed
    obtain ⟨md, hc, hn⟩ := initOf_get hi
    obtain ⟨fd, F0⟩ := says_def c (List.mem_map_of_mem md); have F := L d md fd F0
    have q1 : (He.Fa.glo ec.1) ∈ t.fas := by
      unfold Txt.fas
      simp only [List.mem_append, List.mem_flatMap]
      exact .inl (.inl (.inl (.inl (.inl (.inl (.inr ⟨ec, mc, List.mem_cons_self ..⟩))))))
    have q2 : (He.Fa.cls ec.1) ∈ t.fas := by
      unfold Txt.fas
      simp only [List.mem_append, List.mem_flatMap]
      exact .inl (.inl (.inl (.inl (.inl (.inl (.inr ⟨ec, mc, List.mem_cons_of_mem _ (List.mem_cons_self ..)⟩))))))
    have q3 : (He.Fa.mkr ec.1) ∈ t.fas := by
      unfold Txt.fas
      simp only [List.mem_append, List.mem_flatMap]
      exact .inl (.inl (.inl (.inl (.inl (.inr ⟨ec, mc, by rw [hi]; exact List.mem_cons_self ..⟩)))))
    have ea : He.fAd K d.at_ = He.ma K (He.ga K ec.1) "__init__" := by unfold DE.at_; rw [hc, hn]; rfl
    have et : (t.tabOf K nd).cls ec.2 = He.ga K ec.1 := by show He.ga K (t.cname ec.2) = _; rw [t3 ec mc]
    refine ⟨_, fd, d.par, ?_, ?_, ?_, F, (np d md).symm⟩
    · rw [et]; exact He.glo_ok X g (fa q1)
    · rw [et, ea]; exact He.mkr_ok (fa q3)
    · rw [et]; exact He.cls_ok (fa q2)
  · rw [e0] at e1
    obtain ⟨d, md, q⟩ := t4 _ (look_mem (show t.mt.lookup (cl, m) = some f from e1))
    obtain ⟨⟨⟨q1, q2⟩, q3⟩, q4⟩ := q
    have e2 : t.fld[m]? = some mn := e2
    have e3 : t.tx.mts.lookup m = some ar := e3
    obtain ⟨fd, F0⟩ := says_def c (List.mem_map_of_mem md); have F := L d md fd F0
    have q1 : d.num = f := q1
    have q3 : t.fld[m]? = some d.name := q3
    have q4 : t.tx.mts.lookup m = some d.fd.np := q4
    have q2 : d.cls = some (t.cname cl) := q2
    rw [q3] at e2; cases e2
    rw [q4] at e3; cases e3
    subst q1
    have ea : He.fAd K d.at_ = He.ma K (He.ga K (t.cname cl)) d.name := by unfold DE.at_; rw [q2]; rfl
    refine ⟨_, fd, d.par, ?_, F, (np d md).symm⟩
    have q5 : (He.Fa.meth (t.cname cl) d.name) ∈ t.fas := by
      unfold Txt.fas
      simp only [List.mem_append, List.mem_flatMap]
      exact .inl (.inl (.inl (.inl (.inl (.inl (.inl ⟨d, md, by rw [q2]; exact List.mem_cons_self ..⟩))))))
    rw [ea]
    exact He.meth_ok (fa q5)
  · rw [e0] at e1
    have e1 : t.fl.contains (cl, i) = true := e1
    have m : (cl, i) ∈ t.fl := by simpa using e1
    have e2 : t.fld[i]? = some x := e2
    have en : t.fname i = x := by unfold Txt.fname; rw [e2]; rfl
    have q5 : (He.Fa.noat (t.cname cl) x) ∈ t.fas := by
      unfold Txt.fas
      simp only [List.mem_append, List.mem_map]
      exact .inl (.inl (.inl (.inl (.inr ⟨(cl, i), m, by rw [en]⟩))))
    exact He.noat_ok (fa q5)
  · have m := look_mem e
    rw [e0]
    rcases List.mem_append.mp m with m | m
    rcases List.mem_append.mp m with m | m
    · obtain ⟨q, mq, eq⟩ := List.mem_map.mp m
      cases eq
      have q5 : (He.Fa.int q.1 q.2.2) ∈ t.fas := by
        unfold Txt.fas
        simp only [List.mem_append, List.mem_map]
        exact .inl (.inl (.inl (.inr ⟨q, mq, rfl⟩)))
      obtain ⟨tk, em⟩ := He.int_ok X g (fa q5)
      refine ⟨.int q.2.2, .int q.2.2, _, em, ⟨tk, rfl⟩, ?_, fun _ => rfl⟩
      show t.cst q.2.1 = _
      unfold Txt.cst
      rw [t5 q mq]
    · obtain ⟨q, mq, eq⟩ := List.mem_map.mp m
      cases eq
      have q5 : (He.Fa.str q.1 q.2.2) ∈ t.fas := by
        unfold Txt.fas
        simp only [List.mem_append, List.mem_map]
        exact .inl (.inl (.inr ⟨q, mq, rfl⟩))
      obtain ⟨tk, em⟩ := He.str_ok X g (fa q5)
      refine ⟨.str q.2.2.cps.toList, .str q.2.2, _, em, ⟨tk, rfl⟩, ?_, fun _ => ?_⟩
      · show t.cst q.2.1 = _
        unfold Txt.cst
        rw [(t6 q mq).1, (t6 q mq).2]
      · show V.str q.2.2 = V.str (toS q.2.2.cps.toList)
        rw [toS_cps]
    · have q5 : (He.Fa.glo x) ∈ t.fas := by
        unfold Txt.fas
        simp only [List.mem_append, List.mem_map]
        exact .inr ⟨(x, cc), m, rfl⟩
      have em := He.glo_ok X g (fa q5)
      have et : He.tupB K x [.non, .non] = true := List.all_eq_true.mp cx (x, cc) m
      refine ⟨.tup [.non, .non], .ref (He.ga K x), _, em, rfl, ?_, fun H => ⟨He.ga K x, [.non, .non], rfl, He.tupB_ok et H, ⟨.non, [.non], rfl, rfl, .non, [], rfl, rfl, rfl⟩⟩⟩
      show t.cst cc = _
      unfold Txt.cst
      have hc : (t.ct.map (·.2)).contains cc = true := List.contains_iff_mem.mpr (List.mem_map_of_mem (f := (·.2)) m)
      rw [(t7 (x, cc) m).1, (t7 (x, cc) m).2]
      dsimp only
      rw [if_pos hc]
  · have q5 : (He.Fa.free x) ∈ t.fas := by
      unfold Txt.fas
      simp only [List.mem_append, List.mem_map]
      exact .inl (.inr ⟨x, hx, rfl⟩)
    exact He.free_ok X g (fa q5)
theorem RepVs.ix {K : PySem.W.Frag} {H : Hp} {ds : List D} {vs : List V} (r : RepVs K H ds vs) {i : Nat} {d : D} (h : ds[i]? = some d) : ∃ v, vs[i]? = some v ∧ RepV K H d v := r.get h
theorem rep_start {N : List Str} {ds : List D} {vs : List V} {H : Hp} (r : RepVs K H ds vs) (hl : vs.length ≤ N.length) {ns np : Nat} (e1 : ns = N.length) (e2 : np = vs.length) : RepS K H (ds.map some ++ List.replicate (ns - np) none) (L2.start N vs) := by
  subst e1 e2
  have el := r.length
  unfold L2.start
  refine ⟨by simp [el], fun i d e => ?_⟩
  by_cases hi : i < ds.length
  · rw [List.getElem?_append_left (by simpa using hi)] at e
    rw [List.getElem?_append_left (by simpa [← el] using hi)]
    have e : ds[i]? = some d := by
      rw [List.getElem?_map] at e
      cases q : ds[i]? with
      | none => rw [q] at e; cases e
      | some x => rw [q] at e; cases e; rfl
    obtain ⟨v, h1, h2⟩ := r.ix e
    exact ⟨v, by rw [List.getElem?_map, h1]; rfl, h2⟩
  · rw [List.getElem?_append_right (by simpa using hi)] at e
    rw [List.getElem?_replicate] at e
    split at e <;> cases e
theorem lev_zero (c : He.SaysD t.fas t.dds K) (hd : t.okDs = true) (nd : t.fld.Nodup) : Lev t P w K mg base nd 0 := fun d md fd F => by
  have q := List.all_eq_true.mp hd d md
  unfold DE.ok at q
  simp only [Bool.and_eq_true, decide_eq_true_eq] at q
  obtain ⟨⟨⟨⟨⟨q1, q2⟩, q3⟩, q4⟩, q5⟩, q6⟩ := q
  refine ⟨⟨fun vs H Q E h => h.1, fun A outer s H args us vs Q E hr he hb hv h => ?_⟩, ?_, F.kp⟩
  · obtain ⟨_, ds, μ, Q0, _, _, hf, _⟩ := h
    exact hf.elim
  · have F' := F
    rw [plainArgs_ok q4] at F'
    exact F'.bindsN fun kV doc pm an cdv ct us hl => bind_plain (as := (defArgs d.st).args) q6 hl
theorem lev_succ (X : K.In h) (g : h.Ns mainGlobals mg) (c : He.SaysD t.fas t.dds K) (cx : t.ex K = true) (tb : TBs t K mg base) (ht : t.okTab = true) (hd : t.okDs = true) (nd : t.fld.Nodup) {k : Nat} (L : Lev t P w K mg base nd k) : Lev t P w K mg base nd (k + 1) := fun d md fd F => by
  have Fc := facts_ok X g c cx ht hd nd L
  have q := List.all_eq_true.mp hd d md
  unfold DE.ok at q
  simp only [Bool.and_eq_true, decide_eq_true_eq] at q
  obtain ⟨⟨⟨⟨⟨q1, q2⟩, q3⟩, q4⟩, q5⟩, q6⟩ := q
  have S := scOk_ok q5
  have t1 : (t.ds.map (·.num)).Nodup := by
    unfold Txt.okTab at ht
    simp only [Bool.and_eq_true, decide_eq_true_eq] at ht
    exact ht.1.1.1.1.1.1
  have hpl : d.par.length ≤ d.N.length := by have := congrArg List.length S.pre; rw [List.length_take] at this; omega
  refine ⟨?_, ?_, F.kp⟩
  · obtain ⟨oc, od, dV, kV, doc, pm, an, cdv, ct, osl, rfl, lk, hcd, _, _⟩ := F.ex
    refine fn_of (k := 2 * k + 1) lk hcd S (fun vs H Q E h => h.1) fun A outer s H vs Q E hr h => ?_
    obtain ⟨hl, ds, μ, Q0, rv, rh, hf, hp⟩ := h
    refine ⟨tS (cxOf CX0 P w K mg base d.N d.qual (defScope d.st) (He.fAd K d.at_) cdv A outer s H E).nox (t.tabOf K nd) (t.ctx k) d.fd.body, PSs.nox ?_, ?_⟩
    · have hkey : d.isKey = true → KeyOk (cxOf CX0 P w K mg base d.N d.qual (defScope d.st) (He.fAd K d.at_) cdv A outer s H E).nox (t.tabOf K nd) := fun hk => by
        have hk2 := hk
        unfold DE.isKey at hk2
        simp only [Bool.and_eq_true, beq_iff_eq, Option.isNone_iff_eq_none] at hk2
        obtain ⟨⟨k1, k2⟩, k3⟩ := hk2
        have et : t.tf = ([("with_known", none)] : List He.Defn) := by
          unfold Txt.tf
          rw [if_pos (List.any_eq_true.mpr ⟨d, md, hk⟩)]
        have ea : d.at_ = (("with_known", none) : He.Defn) := by unfold DE.at_; rw [k1, k2]
        obtain ⟨cc, ec⟩ := He.codeIn_ref hcd
        have e1 : He.codeOf K (("with_known", none) : He.Defn) = cc := by
          rw [← ea]; exact He.codeOf_eq lk ec
        have m : (("with_known", none) : He.Defn) ∈ t.tf := by rw [et]; exact List.mem_cons_self ..
        refine ⟨(He.cT K (("with_known", none) : He.Defn)).1, (He.cT K (("with_known", none) : He.Defn)).2, ?_, tb _ m, ?_⟩
        · show cdv = .ref (He.codeOf K (("with_known", none) : He.Defn))
          rw [e1]; exact ec
        · show t.tf.map _ = _
          rw [et]
          show [((He.cT K (("with_known", none) : He.Defn)).2, _)] = [((He.cT K (("with_known", none) : He.Defn)).2, (d.qual ++ ".<locals>.") ++ "<lambda>")]
          rw [k3]
      have C : Cxd (cxOf CX0 P w K mg base d.N d.qual (defScope d.st) (He.fAd K d.at_) cdv A outer s H E).nox d.N (defScope d.st) (t.tabOf K nd) (t.ctx k) (2 * k) { t.tx with key := d.isKey, dv := d.dv } := ⟨⟨⟨rfl, S.nd, rfl, fun x k h => ⟨k, h, .inl rfl⟩, fun _ _ => rfl⟩, ⟨Fc.fns, Fc.cls, Fc.mts, Fc.fl, Fc.csts, Fc.blt, Fc.fld⟩, by have := hr.un; show (A.deeper _).units + 65 < _; omega, hr, hkey⟩, S.kind, PassesOwn.never⟩
      exact (ok_body C 100).2 _ _ q1
    · have hf : (t.fnOf (t.ctx k) d.num) ds μ Q0 XF := hf
      unfold Txt.fnOf Txt.tab at hf
      rw [tab_at t1 d md] at hf
      obtain ⟨_, hw⟩ := hf
      exact ⟨_, μ, _, rep_start rv (by omega) q3 (by omega), rh, hw, rfl, fun ρ' σ' H' μ' _ rh' f' q' => hp .non .non H' μ' rfl rh' f' q', fun d' v H' μ' rv' rh' f' q' => hp d' v H' μ' rv' rh' f' q'⟩
  · have F' := F
    rw [plainArgs_ok q4] at F'
    exact F'.bindsN fun kV doc pm an cdv ct us hl => bind_plain (as := (defArgs d.st).args) q6 hl
theorem lev_all (X : K.In h) (g : h.Ns mainGlobals mg) (c : He.SaysD t.fas t.dds K) (cx : t.ex K = true) (tb : TBs t K mg base) (ht : t.okTab = true) (hd : t.okDs = true) (nd : t.fld.Nodup) : ∀ k, Lev t P w K mg base nd k
  | 0 => lev_zero c hd nd
  | k + 1 => lev_succ X g c cx tb ht hd nd (lev_all X g c cx tb ht hd nd k)
/-- the promise where the script may be tracked as a list that may change: it is taken as one that is but read -/
def spZ (sp : Sp) : Sp := fun vs H Q E => sp vs H Q E ∨ ∃ a l, vs = [.ref a] ∧ H a = some (.lst l) ∧ ∀ o, sp vs (L2.upd H a (.frz o (.lst l))) Q E
theorem fnOk_frz {CX : CXT} (hCX : ∀ H H' outer s E e s', CX outer H' s E e s' → (∀ H'', Un (frs outer) [] H' H'' s.heap s'.heap → Un (frs outer) [] H H'' s.heap s'.heap) → CX outer H s E e s') {k : Nat} {f : Addr} {fd : FuncData} {ps : List Str} {sp : Sp} (F : FnOk P w K mg base CX k f fd ps sp) : FnOk P w K mg base CX k f fd ps (spZ sp) := by
  refine ⟨fun vs H Q E h => ?_, fun A outer s H args us vs Q E hr e0 hb r h => ?_⟩
  · rcases h with h | ⟨a, l, _, _, h⟩
    · exact F.len _ _ _ _ h
    · exact F.len _ _ _ _ (h ⟨.none, none, .plain, #[]⟩)
  · rcases h with h | ⟨a, l, _, ha, h⟩
    · exact F.run A outer s H args us vs Q E hr e0 hb r h
    · obtain ⟨hz, its, n, rv, eo⟩ := e0.hok a _ ha
      have off : ∀ b u, H b = some u → u ≠ .lst l → b ≠ a := fun b u q nu z => by subst z; rw [ha] at q; cases q; exact nu rfl
      have offn : ∀ b, H b = none → b ≠ a := fun b q z => by subst z; rw [ha] at q; cases q
      let o : Obj := { cls := .type "list", data := .seq its.toArray n }
      have at_ : ∀ b u, H b = some u → u ≠ .lst l → L2.upd H a (.frz o (.lst l)) b = some u := fun b u q nu => by rw [L2.upd_ne (off b u q nu)]; exact q
      have atn : ∀ b, H b = none → L2.upd H a (.frz o (.lst l)) b = none := fun b q => by rw [L2.upd_ne (offn b q)]; exact q
      have un : ∀ H'' h'', Un (frs outer) [] (L2.upd H a (.frz o (.lst l))) H'' s.heap h'' → Un (frs outer) [] H H'' s.heap h'' := fun H'' h'' u =>
        ⟨fun b o q n h1 h2 => u.keep b o q (atn b n) h1 h2, fun b o q n h1 h2 => u.slot b o q (atn b n) h1 h2, fun b o q n h2 => u.free b o q (atn b n) h2, u.there, fun b xs q => u.tups b xs (at_ b _ q (by intro z; cases z)), fun b o x q => u.frzs b o x (at_ b _ q (by intro z; cases z)), fun b ps q => u.tbls b ps (at_ b _ q (by intro z; cases z))⟩
      have hok : HOk P w (L2.upd H a (.frz o (.lst l))) s.heap := fun b u q => by
        by_cases hb : b = a
        · subst hb
          rw [L2.upd_same] at q; cases q
          exact ⟨eo, hz, its, n, rv, eo⟩
        · rw [L2.upd_ne hb] at q
          exact (e0.hok b u q).stay (fun c v _ z => z) (fun c z => at_ c _ z (by intro z; cases z)) fun c xs z => at_ c _ z (by intro z; cases z)
      have e1 : Env0 P w K mg base A outer s (L2.upd H a (.frz o (.lst l))) := ⟨e0.frames, e0.mod, fun b o q => ⟨(e0.bs b o q).1, atn b (e0.bs b o q).2⟩, e0.bsz, e0.funs, fun b hb => atn b (e0.frf b hb), hok, e0.bare⟩
      refine codeAny_mono (F.run A outer s _ args us vs Q E hr e1 hb r (h o)) fun r s' q => ?_
      cases r with
      | error e => exact hCX _ _ _ _ _ _ _ q fun H'' u => un H'' _ u
      | ok fl =>
        cases fl with
        | ret u =>
          obtain ⟨v, H'', q1, q2, q3, q4⟩ := q
          exact ⟨v, H'', q1, q2, un H'' _ q3, q4⟩
        | next => exact q
        | brk => exact q
        | cont => exact q
/-- the end: what walk_ofTsE asks -/
theorem law_facts {f : Addr} {d : DE} {x : Str} {n k : Nat} {l : PySem.W.OpenLaw} (hP : l.prog = P) (X : K.In h) (g : h.Ns mainGlobals mg) (hfa : mg ("law" : Str) = some (.ref f)) (c : He.SaysX t.fas t.dds [] t.tf t.ex w h K) (ht : t.okTab = true) (hd : t.okDs = true) (md : d ∈ t.ds) (hn : d.name = "law") (hc : d.cls = none) (hp : d.par = [x])
    (core : ∀ ns : List Int, ns.length ≤ n → (t.ctx k).fn d.num [.scr ns] (fun _ => none) (fun v _ => v = .bl true) XF) : LamX.LawAtS l w K CX0 (2 * k) n x mg f h := by
  have cd := c.t.d
  have nd : t.fld.Nodup := by
    unfold Txt.okTab at ht
    simp only [Bool.and_eq_true, decide_eq_true_eq] at ht
    exact ht.1.1.1.1.1.2
  obtain ⟨fd, F⟩ := says_def cd (List.mem_map_of_mem md)
  have F : FunD K d.name d.qual (defArgs d.st) (defBody d.st) (defScope d.st) [] [] (He.fAd K d.at_) fd := F
  have ea : He.fAd K d.at_ = He.ga K "law" := by unfold DE.at_; rw [hc, hn]; rfl
  have em : mg ("law" : Str) = some (.ref (He.ga K "law")) := by
    have q : (He.Fa.glo d.name) ∈ t.fas := by
      unfold Txt.fas
      simp only [List.mem_append, List.mem_flatMap]
      exact .inl (.inl (.inl (.inl (.inl (.inl (.inl ⟨d, md, by rw [hc]; exact List.mem_cons_self ..⟩))))))
    rw [hn] at q
    exact He.glo_ok X g (says_mem cd q)
  have ef : f = He.ga K "law" := by
    rw [hfa] at em; cases em; rfl
  have q := List.all_eq_true.mp hd d md
  unfold DE.ok at q
  simp only [Bool.and_eq_true, decide_eq_true_eq] at q
  obtain ⟨⟨⟨⟨⟨q1, q2⟩, q3⟩, q4⟩, q5⟩, q6⟩ := q
  have cs : ∀ p ∈ t.tf.map (He.cT K), ∃ z ∈ t.tf, p = He.cT K z := fun p hp => by
    obtain ⟨z, h1, h2⟩ := List.mem_map.mp hp
    exact ⟨z, h1, h2.symm⟩
  have fin : ∀ (H : Hp) (a : Addr) (ns : List Int), ns.length ≤ n → (∀ p ∈ t.tf.map (He.cT K), H p.2 = some (.tbl #[])) → FrzL K H a (ns.map V.int) → spF w K (t.tabOf K nd) (t.ctx k) d.num 1 [.ref a] H (fun v _ => v = .bl true) fun _ _ _ => False := fun H a ns hl hT fz => by
    refine ⟨rfl, [.scr ns], fun _ => none, _, ⟨_, _, rfl, ⟨a, rfl, fz⟩, rfl⟩, ⟨fun b o e => (by cases e), fun p hp => ?_⟩, core ns hl, fun d' v H' μ' rv _ _ q' => by
      have q' : d' = .bl true := q'
      subst q'
      exact rv⟩
    obtain ⟨z, h1, rfl⟩ := List.mem_map.mp hp
    exact ⟨#[], hT _ (List.mem_map_of_mem h1), True.intro, fun pos cv hcv => by
      have z : codeAmong pos [] = some cv := hcv
      simp [codeAmong] at z⟩
  refine ⟨fd, t.tf.map (He.cT K), spZ (spF w K (t.tabOf K nd) (t.ctx k) d.num 1), fun p hp => ?_, fun p hp => ?_, fun p hp => ?_, fun s v => ?_, fun H a ns hl _ hT hs => ?_, fun base _ _ tb => ?_⟩
  · obtain ⟨z, h1, rfl⟩ := cs p hp; exact c.empty z h1
  · obtain ⟨z, h1, rfl⟩ := cs p hp; exact c.out z h1
  · obtain ⟨z, h1, rfl⟩ := cs p hp; exact PySem.W.codeHd_of_K X (c.hd z h1)
  · have F' := F
    rw [plainArgs_ok q4] at F'
    have := FunD.bindsA (ps := d.par) F' (fun kV doc pm an cdv ct us hl => bind_plain (as := (defArgs d.st).args) q6 hl) s [v] (by rw [hp]; rfl)
    rw [hp] at this
    exact this
  · rcases hs with hs | hs
    · rcases hs with hs | ⟨o, hs⟩
      · refine .inr ⟨a, _, rfl, hs, fun o => fin _ a ns hl (fun p hp => ?_) (.inl ⟨o, L2.upd_same⟩)⟩
        rw [L2.upd_ne (fun z => by have := hT p hp; rw [z, hs] at this; cases this)]
        exact hT p hp
      · exact .inl (fin H a ns hl hT (.inl ⟨o, hs⟩))
    · exact .inl (fin H a ns hl hT (.inr hs))
  · have := (lev_all (P := P) (w := w) (mg := mg) (base := base) X g cd c.more (fun p hp => tb _ (List.mem_map_of_mem hp)) ht hd nd k d md fd F).ok
    rw [hp] at this
    rw [ef, ← ea, hP]
    exact fnOk_frz (fun _ _ _ _ _ _ _ q _ => q) this
end
/-! ### the levels of the core -/
namespace Txt
variable (t : Txt)
theorem fl_ctx (k c i : Nat) : (t.ctx k).fl c i = t.fl.contains (c, i) := by cases k <;> rfl
theorem mt_ctx (k c m : Nat) : (t.ctx k).mt c m = t.mt.lookup (c, m) := by cases k <;> rfl
theorem cst_ctx (k c : Nat) : (t.ctx k).cst c = t.cst c := by cases k <;> rfl
theorem mono_lev {f : Nat → Fn} (h : ∀ n, MonoF (f n)) : Mono (t.lev f) := h
theorem mono_fn {G : Ctx} (hG : Mono G) (f : Nat) : MonoF (t.fnOf G f) := by
  unfold fnOf
  cases t.tab.lookup f with
  | none => exact fun _ _ q => q.elim
  | some fd => exact m_run hG fd
theorem mono_ctx : ∀ k, Mono (t.ctx k)
  | 0 => t.mono_lev fun _ => fun _ _ q => q.elim
  | k + 1 => t.mono_lev (t.mono_fn (mono_ctx k))
theorem fn_lev (k : Nat) {f : Nat} {fd : FD} (h : t.tab.lookup f = some fd) : (t.ctx (k + 1)).fn f = runF (t.ctx k) fd := by
  show t.fnOf (t.ctx k) f = _
  unfold fnOf
  rw [h]
theorem up {f : Nat} {fd : FD} (S : Fn → Prop) (h : t.tab.lookup f = some fd) (n : Nat) (ok : ∀ k, n ≤ k → S (runF (t.ctx k) fd)) : ∀ k, n + 1 ≤ k → S ((t.ctx k).fn f)
  | 0, z => absurd z (by omega)
  | k + 1, z => by rw [t.fn_lev k h]; exact ok k (by omega)
end Txt
end MP

set_option linter.all false
set_option maxRecDepth 100000
set_option maxHeartbeats 1000000
set_option Elab.async false
/-! F1: the bag. -/
namespace MP
def f_take : FD := ⟨2, 3, (.seq (.ite (.cmp .gt (.idx (.var 0) (.ci 0)) (.ci 0)) (.seq (.set (.v 2) (.bin .mod (.idx (.var 0) (.ci 0)) (.var 1))) (.seq (.setIdx (.var 0) (.ci 0) (.bin .fdiv (.idx (.var 0) (.ci 0)) (.var 1))) (.ret (.var 2)))) .nop) (.seq (.setIdx (.var 0) (.ci 1) (.bin .mod (.bin .mul (.idx (.var 0) (.ci 1)) (.ci 48271)) (.ci 2147483647))) (.ret (.bin .mod (.bin .fdiv (.bin .mod (.bin .mul (.idx (.var 0) (.ci 1)) (.idx (.var 0) (.ci 1))) (.ci 2147483629)) (.ci 64)) (.var 1)))))⟩
def f_bag : FD := ⟨2, 3, (.seq (.set (.v 2) (.ci 0)) (.seq (.ite (.cmp .lt (.var 1) (.prim .len (.cons (.var 0) .nil))) (.set (.v 2) (.bin .mod (.idx (.var 0) (.var 1)) (.bin .mul (.bin .pow (.ci 10) (.ci 60)) (.bin .pow (.ci 10) (.ci 60))))) .nop) (.seq (.ite (.cmp .lt (.var 2) (.bin .pow (.ci 10) (.ci 18))) (.ret (.lst (.cons (.ci 0) (.cons (.bin .add (.ci 1) (.bin .mod (.bin .add (.bin .mul (.var 2) (.ci 7919)) (.bin .mul (.ci 104729) (.var 1))) (.ci 2147483646))) .nil)))) .nop) (.ret (.lst (.cons (.var 2) (.cons (.bin .add (.ci 1) (.bin .mod (.bin .add (.var 2) (.var 1)) (.ci 2147483646))) .nil)))))))⟩
theorem take_ok (G : Ctx) : TakeS (runF G f_take) := by
  intro b m μ Q X hb hm hm2 q
  obtain ⟨x, y, hb, o1, o3, o4⟩ := hb
  have hs : Small m := small_of (by omega) (by have : (10 : Int) ^ 100 ≤ 10 ^ 200 := by decide
                                               omega)
  refine ⟨rfl, ?_⟩
  refine idx_lst hb rfl ⟨fun h => ?_, fun h => ?_⟩
  · have h := of_decide_eq_true h
    refine idx_lst hb rfl ⟨hm, ?_⟩
    refine idx_lst hb rfl ⟨hm, hs, ?_⟩
    refine setIdx_lst hb rfl ?_
    exact q _ _ (Int.emod_nonneg _ (by omega)) (Int.emod_lt_of_pos _ hm) ⟨_, _, up_same, Int.ediv_nonneg o1 (by omega), o3, o4⟩ (.set rfl)
  · have h := of_decide_eq_false h
    refine idx_lst hb rfl ⟨small_of (by omega) (by omega), small_of (by omega) (by omega), by omega, ?_⟩
    refine setIdx_lst hb rfl ?_
    refine idx_lst up_same rfl (idx_lst up_same rfl ?_)
    refine ⟨small_of (by omega) (by omega), small_of (by omega) (by omega), by omega, by omega, small_of (by omega) (by omega), hm, ?_⟩
    exact q _ _ (Int.emod_nonneg _ (by omega)) (Int.emod_lt_of_pos _ hm) ⟨_, _, up_same, o1, by omega, by omega⟩ (.set rfl)
theorem pow_pos' {n : Nat} : (0 : Int) < 10 ^ n := Int.pow_pos (by decide)
theorem bag_ok (G : Ctx) : BagS (runF G f_bag) := by
  intro ns k μ Q X h0 h1 q
  refine ⟨rfl, ?_⟩
  have fin : ∀ c : Int, 0 ≤ c → c < 10 ^ 60 * 10 ^ 60 → wpS G (.seq (.ite (.cmp .lt (.var 2) (.bin .pow (.ci 10) (.ci 18))) (.ret (.lst (.cons (.ci 0) (.cons (.bin .add (.ci 1) (.bin .mod (.bin .add (.bin .mul (.var 2) (.ci 7919)) (.bin .mul (.ci 104729) (.var 1))) (.ci 2147483646))) .nil)))) .nop) (.ret (.lst (.cons (.var 2) (.cons (.bin .add (.ci 1) (.bin .mod (.bin .add (.var 2) (.var 1)) (.ci 2147483646))) .nil))))) [some (.scr ns), some (.int k), some (.int c)] μ ⟨fun _ μ1 => Q .non μ1, Q, X⟩ := fun c hc hc2 => by
    refine ⟨rfl, fun h => ?_, fun h => ?_⟩
    · have h : c < 10 ^ 18 := of_decide_eq_true h
      refine ⟨small_of (by omega) (by omega), small_of (by omega) (by omega), small_of (by omega) (by omega), small_of (by omega) (by omega), by decide, fun b hb => ?_⟩
      refine q b _ hb ⟨_, _, up_same, by omega, ?_, ?_⟩ (.new hb)
      · have := Int.emod_nonneg (c * 7919 + 104729 * k) (b := 2147483646) (by decide)
        omega
      · have := Int.emod_lt_of_pos (c * 7919 + 104729 * k) (b := 2147483646) (by decide)
        omega
    · refine ⟨by decide, fun b hb => ?_⟩
      refine q b _ hb ⟨_, _, up_same, hc, ?_, ?_⟩ (.new hb)
      · have := Int.emod_nonneg (c + k) (b := 2147483646) (by decide)
        omega
      · have := Int.emod_lt_of_pos (c + k) (b := 2147483646) (by decide)
        omega
  refine ⟨fun h => ?_, fun h => ?_⟩
  · have h : k < ns.length := of_decide_eq_true h
    have e : getI ns k = ns[k.toNat]? := by
      unfold getI ixN; rw [if_pos h0, if_pos h]
    have hk : k.toNat < ns.length := by omega
    show optP (getI ns k) _
    rw [e, List.getElem?_eq_getElem hk]
    refine ⟨rfl, rfl, small_of (by decide) (by decide), small_of (by decide) (by decide), by decide, ?_⟩
    exact fin _ (Int.emod_nonneg _ (by decide)) (Int.emod_lt_of_pos _ (by decide))
  · exact fin 0 (by decide) (by decide)
end MP

set_option linter.all false
set_option maxRecDepth 100000
set_option maxHeartbeats 1000000
set_option Elab.async false
/-! F2: whole numbers, stretches. -/
namespace MP
def f_is_whole : FD := ⟨1, 1, (.ret (.and (.isi (.var 0) .int) (.not (.isi (.var 0) .bool))))⟩
def f_is_stretch : FD := ⟨1, 3, (.seq (.ite (.or (.not (.isi (.var 0) .tuple)) (.cmp .ne (.prim .len (.cons (.var 0) .nil)) (.ci 2))) (.ret (.cb false)) .nop) (.seq (.set (.cons (.v 1) (.cons (.v 2) .nil)) (.var 0)) (.seq (.ite (.or (.and (.cmp .isnot (.var 1) .cn) (.not (.call 181 (.cons (.var 1) .nil)))) (.and (.cmp .isnot (.var 2) .cn) (.not (.call 181 (.cons (.var 2) .nil))))) (.ret (.cb false)) .nop) (.ret (.or (.cmp .is (.var 1) .cn) (.or (.cmp .is (.var 2) .cn) (.cmp .le (.var 1) (.var 2))))))))⟩
def f_lies_in : FD := ⟨2, 4, (.seq (.set (.cons (.v 2) (.cons (.v 3) .nil)) (.var 1)) (.ret (.and (.or (.cmp .is (.var 2) .cn) (.cmp .le (.var 2) (.var 0))) (.or (.cmp .is (.var 3) .cn) (.cmp .le (.var 0) (.var 3))))))⟩
/-- what may be asked for its kind and is no script -/
def isW1 : D → Bool
  | .int _ => true
  | _ => false
def okN (d : D) : Prop := d = .non ∨ ∃ i, d = .int i
abbrev WholeS (F : Fn) : Prop := ∀ {d : D} {μ : Sto} {Q : D → Sto → Prop} {X : EX}, isiOk d μ → Q (.bl (isW1 d)) μ → F [d] μ Q X
theorem whole_ok (G : Ctx) : WholeS (runF G f_is_whole) := by
  intro d μ Q X h q
  refine ⟨rfl, h, ?_⟩
  cases d with
  | int i => exact ⟨fun _ => ⟨h, q⟩, fun z => nomatch z⟩
  | bl b => exact ⟨fun _ => ⟨h, q⟩, fun z => nomatch z⟩
  | _ => exact ⟨fun z => (nomatch z), fun _ => q⟩
def leE : D → D → Bool
  | .int i, .int j => decide (i ≤ j)
  | _, _ => true
def isEnd : D → Bool
  | .non => true
  | .int _ => true
  | _ => false
/-- is_stretch -/
def stB : D → Bool
  | .tup [x, y] => isEnd x && isEnd y && leE x y
  | _ => false
def stOk (d : D) (μ : Sto) : Prop := isiOk d μ ∧ ∀ x y, d = .tup [x, y] → isiOk x μ ∧ isiOk y μ
abbrev StretchS (F : Fn) : Prop := ∀ {d : D} {μ : Sto} {Q : D → Sto → Prop} {X : EX}, stOk d μ → Q (.bl (stB d)) μ → F [d] μ Q X
theorem isNon_end {d : D} (h : isNon d = true) : d = .non := by cases d <;> first | rfl | cases h
theorem isN_f {d : D} (h : isNon d = false) (h2 : isW1 d = false) : isEnd d = false := by cases d <;> simp_all [isNon, isW1, isEnd]
theorem isN_t {d : D} (h : isNon d = false) (h2 : isW1 d = true) : ∃ i, d = .int i := by cases d <;> simp_all [isNon, isW1]
theorem stB_two {x y : D} : stB (.tup [x, y]) = (isEnd x && isEnd y && leE x y) := rfl
theorem stB_no {l : List D} (h : ¬ l.length = 2) : stB (.tup l) = false := by
  match l, h with
  | [], _ => rfl
  | [_], _ => rfl
  | [_, _], e => exact absurd rfl e
  | _ :: _ :: _ :: _, _ => rfl
theorem stretch_ok {G : Ctx} (hG : Mono G) (hW : WholeS (G.fn 181)) : StretchS (runF G f_is_stretch) := by
  intro d μ Q X h q
  refine ⟨rfl, if_then hG (b := !(isiP d .tuple) || !(match d with | .tup l => decide (l.length = 2) | _ => false)) (v_or hG (v_not hG ⟨h.1, rfl, rfl⟩) fun z => ?_) (fun z => ?_) (fun z => ?_)⟩
  · cases d with
    | tup l => exact ⟨congrArg (fun b => D.bl (!b)) (eqb_len (k := 2)), rfl⟩
    | _ => cases z
  · have : stB d = false := by
      cases d with
      | tup l => exact stB_no (by simpa [isiP] using z)
      | _ => rfl
    rw [this] at q
    exact q
  · have : ∃ x y, d = .tup [x, y] := by
      cases d with
      | tup l =>
        have e : l.length = 2 := by simpa [isiP] using z
        match l, e with
        | [x, y], _ => exact ⟨x, y, rfl⟩
      | _ => cases z
    obtain ⟨x, y, rfl⟩ := this
    obtain ⟨hx, hy⟩ := h.2 x y rfl
    rw [stB_two] at q
    refine if_then hG (v_or hG (v_and hG (b1 := !isNon x) (b2 := !isW1 x) ⟨rfl, rfl⟩ fun _ => hW hx ⟨rfl, rfl⟩) fun _ => v_and hG (b1 := !isNon y) (b2 := !isW1 y) ⟨rfl, rfl⟩ fun _ => hW hy ⟨rfl, rfl⟩) (fun z => ?_) (fun z => ?_)
    · have : (isEnd x && isEnd y && leE x y) = false := by
        cases x <;> cases y <;> simp_all [isNon, isW1, isEnd]
      rw [this] at q
      exact q
    · refine ret_v hG (v_or hG (b1 := isNon x) (b2 := isNon y || leE x y) ⟨rfl, rfl⟩ fun e1 => v_or hG (b1 := isNon y) (b2 := leE x y) ⟨rfl, rfl⟩ fun e2 => ?_) ?_
      · cases x <;> cases y <;> first | exact ⟨rfl, rfl⟩ | simp_all [isNon, isW1]
      · have : (isNon x || (isNon y || leE x y)) = (isEnd x && isEnd y && leE x y) := by
          cases x <;> cases y <;> simp_all [isNon, isW1, isEnd, leE]
        rw [this]; exact q
def geLo (n : Int) : D → Bool
  | .int i => decide (i ≤ n)
  | _ => true
def leHi (n : Int) : D → Bool
  | .int i => decide (n ≤ i)
  | _ => true
abbrev LiesS (F : Fn) : Prop := ∀ {n : Int} {x y : D} {μ : Sto} {Q : D → Sto → Prop} {X : EX}, isEnd x = true → isEnd y = true → Q (.bl (geLo n x && leHi n y)) μ → F [.int n, .tup [x, y]] μ Q X
theorem end_cases {d : D} (h : isEnd d = true) : d = .non ∨ ∃ i, d = .int i := by cases d <;> simp_all [isEnd]
theorem lies_ok {G : Ctx} (hG : Mono G) : LiesS (runF G f_lies_in) := by
  intro n x y μ Q X hx hy q
  refine ⟨rfl, ret_v hG (v_and hG (b1 := geLo n x) (b2 := leHi n y) ?_ fun _ => ?_) q⟩
  · rcases end_cases hx with rfl | ⟨i, rfl⟩
    · exact yes ⟨rfl, rfl⟩
    · exact nay ⟨rfl, rfl⟩
  · rcases end_cases hy with rfl | ⟨i, rfl⟩
    · exact yes ⟨rfl, rfl⟩
    · exact nay ⟨rfl, rfl⟩
end MP

set_option linter.all false
set_option maxRecDepth 100000
set_option maxHeartbeats 1000000
set_option Elab.async false
/-! F3: parts of stretches, answers. -/
namespace MP
local macro_rules
  | `(tactic| simp_wf) => `(tactic| simp only [wpE, wpA, optP, getV, matP, List.set, List.getElem?_cons_succ, List.getElem?_cons_zero, primP, arg1, arg2, arg3, binP, intP, absP, min2P, max2P])
def f_greater_end : FD := ⟨2, 2, (.seq (.ite (.or (.cmp .is (.var 0) .cn) (.and (.cmp .isnot (.var 1) .cn) (.cmp .gt (.var 1) (.var 0)))) (.ret (.var 1)) .nop) (.ret (.var 0)))⟩
def f_lesser_end : FD := ⟨2, 2, (.seq (.ite (.or (.cmp .is (.var 0) .cn) (.and (.cmp .isnot (.var 1) .cn) (.cmp .lt (.var 1) (.var 0)))) (.ret (.var 1)) .nop) (.ret (.var 0)))⟩
def f_between : FD := ⟨3, 5, (.seq (.set (.v 3) (.call 169 (.cons (.idx (.var 0) (.ci 0)) (.cons (.var 1) .nil)))) (.seq (.set (.v 4) (.call 190 (.cons (.idx (.var 0) (.ci 1)) (.cons (.var 2) .nil)))) (.seq (.ite (.and (.cmp .isnot (.var 3) .cn) (.and (.cmp .isnot (.var 4) .cn) (.cmp .gt (.var 3) (.var 4)))) (.ret .cn) .nop) (.ret (.tup (.cons (.var 3) (.cons (.var 4) .nil)))))))⟩
def f_part_of : FD := ⟨4, 4, (.seq (.ite (.cmp .eq (.var 1) (.cs [108, 101, 115, 115])) (.seq (.ite (.var 3) (.ret (.call 164 (.cons (.var 0) (.cons .cn (.cons (.bin .sub (.var 2) (.ci 1)) .nil))))) .nop) (.ret (.call 164 (.cons (.var 0) (.cons (.var 2) (.cons .cn .nil)))))) .nop) (.seq (.ite (.var 3) (.ret (.call 164 (.cons (.var 0) (.cons (.var 2) (.cons (.var 2) .nil))))) .nop) (.seq (.ite (.cmp .eq (.var 0) (.tup (.cons (.var 2) (.cons (.var 2) .nil)))) (.ret .cn) .nop) (.seq (.ite (.cmp .eq (.idx (.var 0) (.ci 0)) (.var 2)) (.ret (.tup (.cons (.bin .add (.var 2) (.ci 1)) (.cons (.idx (.var 0) (.ci 1)) .nil)))) .nop) (.seq (.ite (.cmp .eq (.idx (.var 0) (.ci 1)) (.var 2)) (.ret (.tup (.cons (.idx (.var 0) (.ci 0)) (.cons (.bin .sub (.var 2) (.ci 1)) .nil)))) .nop) (.ret (.var 0)))))))⟩
def f_answer_of : FD := ⟨3, 3, (.seq (.ite (.cmp .is (.call 202 (.cons (.var 0) (.cons (.var 1) (.cons (.var 2) (.cons (.cb false) .nil))))) .cn) (.ret (.cs [121, 101, 115])) .nop) (.seq (.ite (.cmp .is (.call 202 (.cons (.var 0) (.cons (.var 1) (.cons (.var 2) (.cons (.cb true) .nil))))) .cn) (.ret (.cs [110, 111])) .nop) (.ret (.cs [111, 112, 101, 110]))))⟩
/-- an end, a stretch -/
abbrev En := Option Int
def encE : En → D
  | none => .non
  | some i => .int i
abbrev Sh := En × En
def encS (s : Sh) : D := .tup [encE s.1, encE s.2]
def encO : Option Sh → D
  | none => .non
  | some s => encS s
theorem encE_end (e : En) : isEnd (encE e) = true := by cases e <;> rfl
def gE : En → En → En
  | none, b => b
  | some i, none => some i
  | some i, some j => if i < j then some j else some i
def lE : En → En → En
  | none, b => b
  | some i, none => some i
  | some i, some j => if j < i then some j else some i
def okSh : Sh → Bool
  | (some i, some j) => decide (i ≤ j)
  | _ => true
def betw (s : Sh) (lo hi : En) : Option Sh := if okSh (gE s.1 lo, lE s.2 hi) = true then some (gE s.1 lo, lE s.2 hi) else none
abbrev GreatS (F : Fn) : Prop := ∀ {a b : En} {μ : Sto} {Q : D → Sto → Prop} {X : EX}, Q (encE (gE a b)) μ → F [encE a, encE b] μ Q X
abbrev LessS (F : Fn) : Prop := ∀ {a b : En} {μ : Sto} {Q : D → Sto → Prop} {X : EX}, Q (encE (lE a b)) μ → F [encE a, encE b] μ Q X
theorem great_ok (G : Ctx) : GreatS (runF G f_greater_end) := by
  intro a b μ Q X q
  refine ⟨rfl, ?_⟩
  cases a with
  | none => exact yes (yes q)
  | some i =>
    cases b with
    | none => exact nay (nay (nay q))
    | some j =>
      refine nay (yes ⟨fun z => ?_, fun z => ?_⟩)
      · have z : i < j := of_decide_eq_true z
        rw [show gE (some i) (some j) = some j from if_pos z] at q; exact q
      · have z : ¬ i < j := of_decide_eq_false z
        rw [show gE (some i) (some j) = some i from if_neg z] at q; exact q
theorem less_ok (G : Ctx) : LessS (runF G f_lesser_end) := by
  intro a b μ Q X q
  refine ⟨rfl, ?_⟩
  cases a with
  | none => exact yes (yes q)
  | some i =>
    cases b with
    | none => exact nay (nay (nay q))
    | some j =>
      refine nay (yes ⟨fun z => ?_, fun z => ?_⟩)
      · have z : j < i := of_decide_eq_true z
        rw [show lE (some i) (some j) = some j from if_pos z] at q; exact q
      · have z : ¬ j < i := of_decide_eq_false z
        rw [show lE (some i) (some j) = some i from if_neg z] at q; exact q
abbrev BetwS (F : Fn) : Prop := ∀ {s : Sh} {lo hi : En} {μ : Sto} {Q : D → Sto → Prop} {X : EX}, Q (encO (betw s lo hi)) μ → F [encS s, encE lo, encE hi] μ Q X
theorem notOk {G : Ctx} (hG : Mono G) {a b : En} {e1 e2 : E} {ρ : Env} {μ : Sto} (h1 : Val G e1 ρ μ (encE a)) (h2 : Val G e2 ρ μ (encE b)) : Val G (.and (.cmp .isnot e1 .cn) (.and (.cmp .isnot e2 .cn) (.cmp .gt e1 e2))) ρ μ (.bl (!okSh (a, b))) := by
  cases a with
  | none => exact v_use (e := e1) hG h1 (nay ⟨rfl, rfl⟩)
  | some i =>
    refine v_use (e := e1) hG h1 (yes (v_use (e := e2) hG h2 ?_))
    cases b with
    | none => exact nay ⟨rfl, rfl⟩
    | some j =>
      refine yes (v_use (e := e1) hG h1 (v_use (e := e2) hG h2 ⟨congrArg D.bl ?_, rfl⟩))
      show decide (j < i) = !decide (i ≤ j)
      rw [Bool.eq_iff_iff]; simp
theorem betw_ok {G : Ctx} (hG : Mono G) (h1 : GreatS (G.fn 169)) (h2 : LessS (G.fn 190)) : BetwS (runF G f_between) := by
  intro s lo hi μ Q X q
  refine ⟨rfl, h1 (h2 ?_)⟩
  refine if_then hG (notOk hG (a := gE s.1 lo) (b := lE s.2 hi) ⟨rfl, rfl⟩ ⟨rfl, rfl⟩) (fun z => ?_) fun z => ?_
  · rw [show betw s lo hi = none from if_neg (by simpa using z)] at q; exact q
  · rw [show betw s lo hi = some (gE s.1 lo, lE s.2 hi) from if_pos (by simpa using z)] at q; exact q
/-- the part of a stretch that a test answers so -/
def part (s : Sh) (less : Bool) (n : Int) (side : Bool) : Option Sh :=
  if less = true then (if side = true then betw s none (some (n - 1)) else betw s (some n) none)
  else if side = true then betw s (some n) (some n)
  else if s = (some n, some n) then none
  else if s.1 = some n then some (some (n + 1), s.2)
  else if s.2 = some n then some (s.1, some (n - 1))
  else some s
def wordC (less : Bool) : List Nat := if less = true then [108, 101, 115, 115] else [105, 115]
abbrev PartS (F : Fn) : Prop := ∀ {s : Sh} {less side : Bool} {n : Int} {μ : Sto} {Q : D → Sto → Prop} {X : EX}, Q (encO (part s less n side)) μ → F [encS s, .str (wordC less), .int n, .bl side] μ Q X
theorem eqb_end {e : En} {n : Int} : D.eqb (encE e) (.int n) = decide (e = some n) := by
  cases e with
  | none => rfl
  | some i => rw [show encE (some i) = D.int i from rfl, eqb_int, decide_eq_decide]; simp
theorem end_flat {e : En} : isFl (encE e) = true := by cases e <;> rfl
theorem val_eq {G : Ctx} (hG : Mono G) {e1 : E} {ρ : Env} {μ : Sto} {e : En} {n : Int} {i : Nat} (h1 : Val G e1 ρ μ (encE e)) (hn : getV ρ i = some (.int n)) : Val G (.cmp .eq e1 (.var i)) ρ μ (.bl (decide (e = some n))) := by
  refine v_use (e := e1) hG h1 (opt_of hn ?_)
  cases e with
  | none => exact ⟨rfl, rfl⟩
  | some i => exact ⟨congrArg D.bl eqb_end, rfl⟩
theorem eq_w {l : Bool} : D.eqb (.str (wordC l)) (.str [108, 101, 115, 115]) = l := by cases l <;> rfl
theorem eq_pair {s : Sh} {n : Int} : D.eqb (encS s) (.tup [.int n, .int n]) = decide (s = (some n, some n)) := by
  obtain ⟨a, b⟩ := s
  show (D.eqb (encE a) (.int n) && (D.eqb (encE b) (.int n) && true)) = _
  rw [eqb_end, eqb_end, Bool.eq_iff_iff]; simp
theorem encS_ok {s : Sh} : D.ok 60 (encS s) = true := by obtain ⟨a, b⟩ := s; cases a <;> cases b <;> rfl
theorem part_ok {G : Ctx} (hG : Mono G) (hB : BetwS (G.fn 164)) : PartS (runF G f_part_of) := by
  intro s less side n μ Q X q
  refine ⟨rfl, if_then hG (b := less) ⟨congrArg D.bl eq_w, rfl⟩ (fun z => ?_) fun z => ?_⟩
  · subst z
    refine if_then hG (b := side) ⟨rfl, rfl⟩ (fun z => ?_) fun z => ?_
    · subst z; exact hB (lo := none) (hi := some (n - 1)) q
    · subst z; exact hB (lo := some n) (hi := none) q
  · subst z
    refine if_then hG (b := side) ⟨rfl, rfl⟩ (fun z => ?_) fun z => ?_
    · subst z; exact hB (lo := some n) (hi := some n) q
    · subst z
      have e0 : part s false n false = if s = (some n, some n) then none else if s.1 = some n then some (some (n + 1), s.2) else if s.2 = some n then some (s.1, some (n - 1)) else some s := rfl
      rw [e0] at q
      refine if_then hG (b := decide (s = (some n, some n))) (.inl ⟨encS_ok, rfl, congrArg D.bl eq_pair, rfl⟩) (fun z => ?_) fun z => ?_
      · rw [if_pos (of_decide_eq_true z)] at q; exact q
      rw [if_neg (of_decide_eq_false z)] at q
      refine if_then hG (val_eq hG (e := s.1) ⟨rfl, rfl⟩ rfl) (fun z => ?_) fun z => ?_
      · rw [if_pos (of_decide_eq_true z)] at q; exact q
      rw [if_neg (of_decide_eq_false z)] at q
      refine if_then hG (val_eq hG (e := s.2) ⟨rfl, rfl⟩ rfl) (fun z => ?_) fun z => ?_
      · rw [if_pos (of_decide_eq_true z)] at q; exact q
      rw [if_neg (of_decide_eq_false z)] at q
      exact q
/-- what a test is answered: yes, no, open -/
def ansC (s : Sh) (less : Bool) (n : Int) : List Nat := if part s less n false = none then [121, 101, 115] else if part s less n true = none then [110, 111] else [111, 112, 101, 110]
abbrev AnsS (F : Fn) : Prop := ∀ {s : Sh} {less : Bool} {n : Int} {μ : Sto} {Q : D → Sto → Prop} {X : EX}, Q (.str (ansC s less n)) μ → F [encS s, .str (wordC less), .int n] μ Q X
theorem isNon_O {o : Option Sh} : isNon (encO o) = decide (o = none) := by cases o <;> rfl
theorem ans_ok {G : Ctx} (hG : Mono G) (hP : PartS (G.fn 202)) : AnsS (runF G f_answer_of) := by
  intro s less n μ Q X q
  refine ⟨rfl, if_then hG (b := decide (part s less n false = none)) (hP ⟨congrArg D.bl isNon_O, rfl⟩) (fun z => ?_) fun z => ?_⟩
  · rw [show ansC s less n = [121, 101, 115] from if_pos (of_decide_eq_true z)] at q; exact q
  refine if_then hG (b := decide (part s less n true = none)) (hP ⟨congrArg D.bl isNon_O, rfl⟩) (fun z2 => ?_) fun z2 => ?_
  · rw [show ansC s less n = [110, 111] from (if_neg (of_decide_eq_false z)).trans (if_pos (of_decide_eq_true z2))] at q; exact q
  · rw [show ansC s less n = [111, 112, 101, 110] from (if_neg (of_decide_eq_false z)).trans (if_neg (of_decide_eq_false z2))] at q; exact q
end MP

set_option linter.all false
set_option maxRecDepth 100000
set_option maxHeartbeats 1000000
set_option Elab.async false
/-! F4: plans, typed; the making of plans by draws. -/
namespace MP
local macro_rules
  | `(tactic| simp_wf) => `(tactic| simp only [wpE, wpA, optP, getV, matP, List.set, List.getElem?_cons_succ, List.getElem?_cons_zero, primP, arg1, arg2, arg3, binP, intP, absP, min2P, max2P])
/-! ### plans -/
abbrev Nm := List Nat
inductive Deed where
  | put (a : Nm) (n : Int) | copy (a b : Nm) | add (a : Nm) (n : Int) | read (a : Nm) | tell (a : Nm)
  deriving DecidableEq, Repr
inductive Ed where
  | stop | go (p : Nat) | test (less : Bool) (a : Nm) (n : Int) (y z : Nat)
  deriving DecidableEq, Repr
abbrev Pc := List Deed × Ed
abbrev Plan := List Pc
def wPut : List Nat := [112, 117, 116]
def wCopy : List Nat := [99, 111, 112, 121]
def wAdd : List Nat := [97, 100, 100]
def wRead : List Nat := [114, 101, 97, 100]
def wTell : List Nat := [116, 101, 108, 108]
def wStop : List Nat := [115, 116, 111, 112]
def wGo : List Nat := [103, 111]
def wLess : List Nat := [108, 101, 115, 115]
def wIs : List Nat := [105, 115]
def wTest (less : Bool) : List Nat := if less = true then wLess else wIs
def encD : Deed → D
  | .put a n => .tup [.str wPut, .str a, .int n]
  | .copy a b => .tup [.str wCopy, .str a, .str b]
  | .add a n => .tup [.str wAdd, .str a, .int n]
  | .read a => .tup [.str wRead, .str a]
  | .tell a => .tup [.str wTell, .str a]
abbrev encN (n : Nat) : D := .int n
def encEd : Ed → D
  | .stop => .tup [.str wStop]
  | .go p => .tup [.str wGo, encN p]
  | .test l a n y z => .tup [.str (wTest l), .str a, .int n, encN y, encN z]
def encDs (ds : List Deed) : D := .tup (ds.map encD)
def encPc (p : Pc) : D := .tup [encDs p.1, encEd p.2]
def encPl (p : Plan) : D := .tup (p.map encPc)
def okNm (a : Nm) : Prop := 1 ≤ a.length ∧ a.length ≤ 8 ∧ ∀ c ∈ a, 97 ≤ c ∧ c ≤ 122
/-- numbers as the laws draw them -/
def ok40 (n : Int) : Prop := -(10 ^ 40) < n ∧ n < 10 ^ 40
def okDeed (ns : List Nm) : Deed → Prop
  | .put a n => a ∈ ns ∧ ok40 n
  | .copy a b => a ∈ ns ∧ b ∈ ns
  | .add a n => a ∈ ns ∧ ok40 n
  | .read a => a ∈ ns
  | .tell a => a ∈ ns
def okEd (ns : List Nm) (k : Nat) : Ed → Prop
  | .stop => True
  | .go p => p < k
  | .test _ a n y z => a ∈ ns ∧ ok40 n ∧ y < k ∧ z < k
structure OkPl (ns : List Nm) (most : Nat) (pl : Plan) : Prop where
  names : ∀ a ∈ ns, okNm a
  deeds : ∀ p ∈ pl, p.1.length ≤ most ∧ ∀ d ∈ p.1, okDeed ns d
  ends : ∀ p ∈ pl, okEd ns pl.length p.2
/-! ### comprehensions by an invariant -/
local macro_rules
  | `(tactic| clean_wf) => `(tactic| simp only [wpE, wpA, opt_some, gv_0, gv_s, matP, List.set, b_add, b_addS, b_addT, b_sub, b_mul, b_div, b_mod, b_pow])
variable {μ μ' μ1 μ2 : Sto} {a b p q : Nat} {l : List D} {i : Int} {x y d : D} {o : Ob} {ρ : Env}
theorem comp_ix {chk : Sto → Prop} {turn : D → Sto → (Option D → Sto → Prop) → Prop} {K : List D → Sto → Prop} (I : Nat → List D → Sto → Prop) {l : List D} (hc : ∀ i acc μ, I i acc μ → chk μ)
    (ht : ∀ i d, l[i]? = some d → ∀ acc μ K', I i acc μ → (∀ x μ', I (i + 1) (acc ++ [x]) μ' → K' (some x) μ') → (∀ μ', I (i + 1) acc μ' → K' none μ') → turn d μ K') (hk : ∀ acc μ, I l.length acc μ → K acc μ) : ∀ {acc μ}, acc.length + l.length ≤ sizeMax → I 0 acc μ → compP chk turn K l acc μ := by
  induction l generalizing I with
  | nil => exact fun _ h => ⟨hc _ _ _ h, hk _ _ h⟩
  | cons d r ih =>
    intro acc μ hz h
    rw [List.length_cons] at hz
    refine ⟨hc _ _ _ h, ht 0 d rfl acc μ _ h (fun x μ' h' => ⟨by omega, ?_⟩) fun μ' h' => ?_⟩
    · exact ih (fun i => I (i + 1)) (fun i => hc (i + 1)) (fun i d hd => ht (i + 1) d hd) (fun acc μ h => hk acc μ h) (by rw [List.length_append, List.length_singleton]; omega) h'
    · exact ih (fun i => I (i + 1)) (fun i => hc (i + 1)) (fun i d hd => ht (i + 1) d hd) (fun acc μ h => hk acc μ h) (by omega) h'
/-- a comprehension that makes typed things -/
theorem comp_ty {α : Type} {chk : Sto → Prop} {turn : D → Sto → (Option D → Sto → Prop) → Prop} {K : List D → Sto → Prop} (enc : α → D) (P : α → Prop) (I : Sto → Prop) {l : List D} (hc : ∀ μ, I μ → chk μ)
    (ht : ∀ d ∈ l, ∀ μ (K' : Option D → Sto → Prop), I μ → (∀ x μ', P x → I μ' → K' (some (enc x)) μ') → turn d μ K') (hz : l.length ≤ sizeMax) (h : I μ) (hk : ∀ (xs : List α) μ', xs.length = l.length → (∀ x ∈ xs, P x) → I μ' → K (xs.map enc) μ') : compP chk turn K l [] μ := by
  refine comp_ix (fun i acc μ => I μ ∧ ∃ xs : List α, xs.length = i ∧ acc = xs.map enc ∧ ∀ x ∈ xs, P x) (fun i acc μ h => hc _ h.1) ?_ ?_ (by simpa using hz) ⟨h, [], rfl, rfl, by simp⟩
  · rintro i d hd acc μ K' ⟨h, xs, e1, e2, e3⟩ k1 k2
    refine ht d (List.mem_of_getElem? hd) μ _ h fun x μ' px h' => k1 _ _ ⟨h', xs ++ [x], by simp [e1], by simp [e2], ?_⟩
    intro z hz
    rcases List.mem_append.mp hz with hz | hz
    · exact e3 z hz
    · rw [List.mem_singleton.mp hz]; exact px
  · rintro acc μ ⟨h, xs, e1, e2, e3⟩
    rw [e2]
    exact hk xs μ e1 e3 h
/-! ### words -/
def lettersC : List Nat := [97, 98, 99, 100, 101, 102, 103, 104, 105, 106, 107, 108, 109, 110, 111, 112, 113, 114, 115, 116, 117, 118, 119, 120, 121, 122]
theorem letters_ok : ∀ c ∈ lettersC, 97 ≤ c ∧ c ≤ 122 := by decide
theorem letter {r : Int} (h0 : 0 ≤ r) (h1 : r < 26) {Q : D → Prop} (q : ∀ c, 97 ≤ c → c ≤ 122 → Q (.str [c])) : idxP (.str lettersC) (.int r) μ Q := by
  obtain ⟨c, e, hm⟩ := getI_in (l := lettersC) h0 (by simpa [lettersC] using h1)
  refine ⟨by decide, opt_of e (q c (letters_ok c hm).1 (letters_ok c hm).2)⟩
theorem joinS_ones : ∀ cs : List Nat, joinS [] (cs.map fun c => [c]) = cs
  | [] => rfl
  | [c] => rfl
  | c :: d :: r => by
    show [c] ++ [] ++ joinS [] ((d :: r).map fun c => [c]) = _
    rw [joinS_ones (d :: r)]; rfl
def chr (c : Nat) : D := .str [c]
theorem strsD_map : ∀ zs : List (List Nat), strsD (zs.map D.str) = some zs
  | [] => rfl
  | z :: zs => by show (strsD (zs.map D.str)).map (z :: ·) = _; rw [strsD_map zs]; rfl
theorem strsD_chr (cs : List Nat) : strsD (cs.map chr) = some (cs.map fun c => [c]) := by
  have := strsD_map (cs.map fun c => [c])
  rw [List.map_map] at this
  exact this
/-- "".join(l), l of single signs -/
theorem join_chr {cs : List Nat} {Q : D → Sto → Prop} (h : μ a = some (.lst (cs.map chr))) (hz : cs.length ≤ 1000) (q : Q (.str cs) μ) : primP .join [.str [], .ref a] μ Q := by
  show rdL μ a fun l => optP (strsD l) fun zs => joinFits [] zs = true ∧ Q (.str (joinS [] zs)) μ
  refine rdL_of h (opt_of (strsD_chr cs) ⟨?_, by rw [joinS_ones]; exact q⟩)
  unfold joinFits
  have e : ((cs.map fun c => [c]).map (·.length)).sum = cs.length := by
    rw [List.map_map]
    clear hz q h
    induction cs with
    | nil => rfl
    | cons c r ih => rw [List.map_cons, List.sum_cons, ih, List.length_cons]; simp [Function.comp]; omega
  rw [e]
  simp [sizeMax]
  omega
theorem str_ok {z : List Nat} (h : ∀ c ∈ z, c < 1114112) : D.ok 60 (.str z) = true := List.all_eq_true.mpr fun c hc => decide_eq_true (h c hc)
theorem okNm_lt {z : Nm} (h : okNm z) : ∀ c ∈ z, c < 1114112 := fun c hc => by have := (h.2.2 c hc).2; omega
theorem strs_ok {ns : List (List Nat)} (h : ∀ z ∈ ns, ∀ c ∈ z, c < 1114112) : (ns.map D.str).all (D.ok 60) = true := by
  rw [List.all_eq_true]
  intro x hx
  obtain ⟨z, hz, rfl⟩ := List.mem_map.mp hx
  exact str_ok (h z hz)
theorem any_str {ns : List (List Nat)} {z : List Nat} : (ns.map D.str).any (fun y => D.eqb y (.str z)) = decide (z ∈ ns) := by
  rw [Bool.eq_iff_iff, List.any_map, List.any_eq_true]
  simp only [Function.comp, eqb_str, decide_eq_true_eq]
  constructor
  · rintro ⟨x, h, rfl⟩; exact h
  · exact fun h => ⟨z, h, rfl⟩
theorem in_lst {k : Bool → Prop} (h : μ a = some (.lst l)) (h1 : D.ok 60 x = true) (h2 : l.all (D.ok 60) = true) (q : k (l.any fun y => D.eqb y x)) : inP x (.ref a) μ k := by
  unfold inP
  cases x <;> simp only [h] <;> exact ⟨h1, h2, q⟩
theorem isin_lst {k : Bool → Prop} (h : μ a = some (.lst l)) (h1 : D.ok 60 x = true) (h2 : l.all (D.ok 60) = true) (q : k (l.any fun y => D.eqb y x)) : cmpP .isin x (.ref a) μ k := in_lst h h1 h2 q
theorem notin_lst {k : Bool → Prop} (h : μ a = some (.lst l)) (h1 : D.ok 60 x = true) (h2 : l.all (D.ok 60) = true) (q : k (!l.any fun y => D.eqb y x)) : cmpP .notin x (.ref a) μ k := in_lst (k := fun b => k (!b)) h h1 h2 q
theorem app_lst {Q : D → Sto → Prop} (h : μ a = some (.lst l)) (hz : l.length < sizeMax) (q : Q .non (upd μ a (.lst (l ++ [x])))) : primP .append [.ref a, x] μ Q := rdL_of h ⟨hz, q⟩
theorem rdR_lst {k : Nat → List D → Prop} (h : μ a = some (.lst l)) (q : k a l) : rdR (.ref a) μ k := rdL_of h q
theorem rcv_lst' {P : Prim} (h : μ a = some (.lst l)) (hp : P = .append ∨ P = .pop ∨ P = .popAt ∨ P = .extend ∨ P = .insert ∨ P = .index) : recvP P (.ref a) μ := by
  rcases hp with rfl | rfl | rfl | rfl | rfl | rfl <;> exact rdL_of h trivial
/-! ### the names of a plan -/
abbrev NamesS (F : Fn) : Prop := ∀ {b : Nat} {μ : Sto} {Q : D → Sto → Prop} {X : EX}, BagAt μ b → (∀ (p : Nat) (μ' : Sto) (ns : List Nm), μ p = none → μ' p = some (.lst (ns.map D.str)) → 0 < ns.length → ns.length ≤ 4 → (∀ z ∈ ns, okNm z) → ns.Nodup → BagAt μ' b → Kp b μ μ' → Q (.ref p) μ') → F [.ref b] μ Q X
def f_names : FD := ⟨1, 8, (.seq (.set (.v 1) (.cs [97, 98, 99, 100, 101, 102, 103, 104, 105, 106, 107, 108, 109, 110, 111, 112, 113, 114, 115, 116, 117, 118, 119, 120, 121, 122])) (.seq (.set (.v 2) (.bin .add (.ci 1) (.call 136 (.cons (.var 0) (.cons (.ci 4) .nil))))) (.seq (.set (.v 3) (.comp (.idx (.var 1) (.call 136 (.cons (.var 0) (.cons (.ci 26) .nil)))) (.v 4) .range (.cons (.bin .add (.ci 1) (.call 136 (.cons (.var 0) (.cons (.ci 8) .nil)))) .nil) (.cb true) [4])) (.seq (.set (.v 5) (.call 136 (.cons (.var 0) (.cons (.prim .len (.cons (.var 3) .nil)) .nil)))) (.seq (.set (.v 6) (.lst .nil)) (.seq (.for (.v 4) .range (.cons (.var 2) .nil) (.seq (.set (.v 7) (.prim .list (.cons (.var 3) .nil))) (.seq (.setIdx (.var 7) (.var 5) (.idx (.var 1) (.call 136 (.cons (.var 0) (.cons (.ci 26) .nil))))) (.ite (.cmp .notin (.bm .join (.cs []) (.cons (.var 7) .nil)) (.var 6)) (.expr (.bm .append (.var 6) (.cons (.bm .join (.cs []) (.cons (.var 7) .nil)) .nil))) .nop)))) (.ret (.var 6))))))))⟩
theorem own_lst {k : List D → Prop} (h : μ a = some (.lst l)) (q : k l) : lstK (.ref a) μ k := opt_of (x := l) (by rw [h]; rfl) q
theorem ixN_of {n : Nat} {r : Int} (h0 : 0 ≤ r) (h : r < n) : ixN n r = some r.toNat := by unfold ixN; rw [if_pos h0, if_pos h]
theorem names_ok {G : Ctx} (hG : Mono G) (hT : TakeS (G.fn 136)) : NamesS (runF G f_names) := by
  intro b μ Q X hb q
  refine ⟨rfl, ?_⟩
  refine hT hb (by decide) (by decide) fun m μ1 m0 m4 b1 k1 => ?_
  refine hT b1 (by decide) (by decide) fun w μ2 w0 w8 b2 k2 => ?_
  refine ⟨⟨by omega, by omega⟩, ?_⟩
  refine comp_ty chr (fun c => 97 ≤ c ∧ c ≤ 122) (fun μ' => BagAt μ' b ∧ Kp b μ μ') (fun _ _ => trivial) ?_ (by simp [rangeL, sizeMax]; omega) ⟨b2, k1.trans k2⟩ ?_
  · rintro d hd μ3 K' ⟨b3, k3⟩ hK
    refine ⟨fun _ => ?_, fun z => nomatch z⟩
    refine hT b3 (by decide) (by decide) fun r μ4 r0 r26 b4 k4 => ?_
    exact letter r0 r26 fun c c0 c1 => hK c _ ⟨c0, c1⟩ ⟨b4, k3.trans k4⟩
  · rintro cs μ3 hl hcs ⟨b3, k3⟩
    have hl : cs.length = (1 + w).toNat := by rw [hl]; simp [rangeL]
    intro a ha
    have b4 := b3.new (o := .lst (cs.map chr)) ha
    simp_wf
    refine seq_set ?_
    simp_wf
    refine len_lst up_same ?_
    refine hT b4 (by rw [List.length_map]; omega) (by rw [List.length_map]; omega) fun r μ5 r0 r1 b5 k5 => ?_
    rw [List.length_map] at r1
    have e5 : μ5 a = some (.lst (cs.map chr)) := k5 a _ (b3.ne ha) up_same
    have k05 : Kp b μ μ5 := (k3.trans (.new (o := .lst (cs.map chr)) ha)).trans k5
    intro p hp
    refine ⟨⟨by omega, by omega⟩, ?_⟩
    have hab : a ≠ p := ne_new e5 hp
    have hpb := b5.ne hp
    have hm : μ p = none := by
      cases e : μ p with
      | none => rfl
      | some o => rw [k05 p o hpb e] at hp; cases hp
    refine for_ix (fun i ρ μ' => BagAt μ' b ∧ Kp b μ μ' ∧ μ' a = some (.lst (cs.map chr)) ∧ ∃ ns : List Nm, ∃ o1 o2 : Option D, μ' p = some (.lst (ns.map D.str)) ∧ ns.length ≤ i ∧ (0 < i → 0 < ns.length) ∧ (∀ z ∈ ns, okNm z) ∧ ns.Nodup ∧ ρ = [some (.ref b), some (.str lettersC), some (.int (1 + m)), some (.ref a), o1, some (.int r), some (.ref p), o2]) (fun _ _ _ _ => trivial) ?_ ?_ ?_
    · rintro i d hd ρ μ6 K' ⟨b6, k6, e6, ns, o1, o2, ep, h1, h2, h3, h4, rfl⟩ hK
      have ei := range_at hd
      refine opt_of (x := cs.map chr) (by rw [e6]; rfl) fun c hc => ?_
      have bc := b6.new (o := .lst (cs.map chr)) hc
      refine hT bc (by decide) (by decide) fun t μ7 t0 t26 b7 k7 => ?_
      have e7 := k7 c _ (b6.ne hc) up_same
      refine letter t0 t26 fun g g0 g1 => ?_
      refine setIdx_lst (j := r.toNat) e7 (ixN_of r0 (by rw [List.length_map]; omega)) ?_
      have k67 : Kp b μ6 μ7 := (Kept.new hc).trans k7
      have ne1 : a ≠ c := ne_new e6 hc
      have ne2 : p ≠ c := ne_new ep hc
      have e8 : (upd μ7 c (.lst ((cs.map chr).set r.toNat (.str [g])))) c = some (.lst ((cs.set r.toNat g).map chr)) := by rw [up_same, List.map_set]; rfl
      generalize hμ8 : upd μ7 c (.lst ((cs.map chr).set r.toNat (.str [g]))) = μ8
      rw [hμ8] at e8
      have old : ∀ z o, z ≠ c → z ≠ b → μ6 z = some o → μ8 z = some o := fun z o h1 h2 e => by rw [← hμ8, up_ne h1]; exact k67 z o h2 e
      have b8 : BagAt μ8 b := by
        obtain ⟨x, y, e, h⟩ := b7
        exact ⟨x, y, by rw [← hμ8, up_ne (b6.ne hc).symm]; exact e, h⟩
      have hab' : a ≠ b := fun z => by subst z; exact b5.ne hp (by subst_vars; exact absurd rfl (b3.ne ha))
      have hz : ∀ z ∈ cs.set r.toNat g, 97 ≤ z ∧ z ≤ 122 := fun z hz => by
        rcases List.mem_or_eq_of_mem_set hz with hz | rfl
        · exact hcs z hz
        · exact ⟨g0, g1⟩
      have okz : okNm (cs.set r.toNat g) := ⟨by rw [List.length_set]; omega, by rw [List.length_set]; omega, hz⟩
      have k8 : Kp b μ μ8 := fun z o hzb e => by
        have e6' := k6 z o hzb e
        exact old z o (ne_new e6' hc) hzb e6'
      have ea8 := old a _ ne1 (b3.ne ha) e6
      have ep8 := old p _ ne2 hpb ep
      refine ite_v hG (b := !decide (cs.set r.toNat g ∈ ns)) (vl (by clean_wf; exact ⟨rfl, join_chr e8 (by rw [List.length_set]; omega) (notin_lst ep8 (str_ok (okNm_lt okz)) (strs_ok fun z hz => okNm_lt (h3 z hz)) ⟨congrArg (fun b => D.bl (!b)) any_str, rfl⟩)⟩)) (fun z => ?_) fun z => ?_
      · have z : cs.set r.toNat g ∉ ns := by simpa using z
        show wpE _ _ _ _ _ _
        clean_wf
        refine ⟨rdL_of ep8 trivial, rfl, join_chr e8 (by rw [List.length_set]; omega) (app_lst ep8 (by rw [List.length_map]; simp [sizeMax]; omega) ?_)⟩
        have ea9 : (upd μ8 p (.lst (ns.map D.str ++ [.str (cs.set r.toNat g)]))) a = some (.lst (cs.map chr)) := by rw [up_ne hab]; exact ea8
        refine hK _ _ ⟨?_, ?_, ea9, ns ++ [cs.set r.toNat g], _, _, by rw [up_same, List.map_append]; rfl, by rw [List.length_append, List.length_singleton]; omega, fun _ => by rw [List.length_append, List.length_singleton]; omega, ?_, ?_, rfl⟩
        · obtain ⟨x, y, e, h⟩ := b8
          exact ⟨x, y, by rw [up_ne (Ne.symm hpb)]; exact e, h⟩
        · intro z o hzb e
          rw [up_ne (fun w => by subst w; rw [hm] at e; cases e)]
          exact k8 z o hzb e
        · intro z hz
          rcases List.mem_append.mp hz with hz | hz
          · exact h3 z hz
          · rw [List.mem_singleton.mp hz]; exact okz
        · exact List.nodup_append.mpr ⟨h4, by simp, fun x hx y hy => by rw [List.mem_singleton.mp hy]; exact fun w => by subst w; exact z hx⟩
      · have z : cs.set r.toNat g ∈ ns := by simpa using z
        refine hK _ _ ⟨b8, k8, ea8, ns, _, _, ep8, by omega, fun _ => List.length_pos_of_mem z, h3, h4, rfl⟩
    · rintro ρ μ6 ⟨b6, k6, e6, ns, o1, o2, ep, h1, h2, h3, h4, rfl⟩
      simp only [rangeL, List.length_map, List.length_range] at h1 h2
      exact q p μ6 ns hm ep (h2 (by omega)) (by omega) h3 h4 b6 k6
    · exact ⟨b5.new hp, fun z o hzb e => up_old (k05 z o hzb e) hp, by rw [up_ne hab]; exact e5, [], _, _, up_same, Nat.le_refl _, fun h => absurd h (by omega), by simp, .nil, rfl⟩
end MP

set_option linter.all false
set_option maxRecDepth 100000
set_option maxHeartbeats 1000000
set_option Elab.async false
/-! F5: numbers, deeds, ends, plans by draws. -/
namespace MP
local macro_rules
  | `(tactic| clean_wf) => `(tactic| simp only [ws_set, ws_set1, ws_ret, ws_nop, ws_exp, ws_exp1, ws_sidx, ws_sidx1, ws_satt, ws_satt1, ws_aat, ws_aat1, ws_avar, ws_avar1, augK_int, ws_for, ws_forS, wpE, wpA, opt_some, gv_0, gv_s, matP, List.set, b_add, b_addS, b_addT, b_sub, b_mul, b_div, b_mod, b_pow, c_len, c_lenT, c_int, c_intB, c_abs, c_min, c_max, c_tupT, c_eqI, c_neI, c_eqS, c_neS, c_lt, c_le, c_gt, c_ge, c_is, c_isnot, c_isB, c_isnotB, c_idxT, g_0, g_1, g_2, g_3, g_4, g_5, g_6, o_non, o_int, Bool.not_true, Bool.not_false, br_t, br_f, c_itA, c_itT, c_itS])
local macro_rules
  | `(tactic| sizeOf_list_dec) => `(tactic| first
    | assumption
    | exact Ne.symm (by assumption)
    | exact ne_new (by assumption) (by assumption)
    | exact Ne.symm (ne_new (by assumption) (by assumption))
    | exact BagAt.ne (by assumption) (by assumption)
    | exact Ne.symm (BagAt.ne (by assumption) (by assumption))
    | exact id)
local macro_rules
  | `(tactic| array_mem_dec) => `(tactic| first
    | assumption
    | exact up_same
    | (refine (up_ne (by sizeOf_list_dec)).trans ?_; array_mem_dec)
    | (refine (by assumption : Kept _ _ _) _ _ (by sizeOf_list_dec) ?_; array_mem_dec)
    | (refine BagAt.new ?_ (by assumption); array_mem_dec)
    | (refine BagAt.off ?_ (by sizeOf_list_dec); array_mem_dec)
    | (refine BagAt.keep ?_ (by assumption) (by sizeOf_list_dec); array_mem_dec)
    | exact Kept.refl
    | exact Kept.new (by assumption)
    | (refine Kept.trans ?_ (by assumption); array_mem_dec)
    | (refine Kept.loc (by assumption) ?_; array_mem_dec)
    | (refine Kept.nw (by assumption) ?_; array_mem_dec))
variable {μ μ' μ1 μ2 : Sto} {a b p q : Nat} {l : List D} {i : Int} {x y d : D} {o : Ob} {ρ : Env}
def f_number : FD := ⟨1, 1, (.seq (.ite (.cmp .eq (.call 136 (.cons (.var 0) (.cons (.ci 8) .nil))) (.ci 7)) (.ret (.bin .mul (.bin .sub (.bin .sub (.bin .pow (.ci 10) (.ci 40)) (.ci 9)) (.call 136 (.cons (.var 0) (.cons (.ci 3) .nil)))) (.bin .sub (.ci 1) (.bin .mul (.ci 2) (.call 136 (.cons (.var 0) (.cons (.ci 2) .nil))))))) .nop) (.ret (.bin .sub (.call 136 (.cons (.var 0) (.cons (.ci 8) .nil))) (.ci 3))))⟩
def f_deed : FD := ⟨2, 4, (.seq (.set (.v 2) (.idx (.lst (.cons (.cs [112, 117, 116]) (.cons (.cs [99, 111, 112, 121]) (.cons (.cs [97, 100, 100]) (.cons (.cs [114, 101, 97, 100]) (.cons (.cs [116, 101, 108, 108]) (.cons (.cs [116, 101, 108, 108]) (.cons (.cs [97, 100, 100]) .nil)))))))) (.call 136 (.cons (.var 0) (.cons (.ci 7) .nil))))) (.seq (.set (.v 3) (.idx (.var 1) (.call 136 (.cons (.var 0) (.cons (.prim .len (.cons (.var 1) .nil)) .nil))))) (.seq (.ite (.cmp .eq (.var 2) (.cs [99, 111, 112, 121])) (.ret (.tup (.cons (.var 2) (.cons (.var 3) (.cons (.idx (.var 1) (.call 136 (.cons (.var 0) (.cons (.prim .len (.cons (.var 1) .nil)) .nil)))) .nil))))) .nop) (.seq (.ite (.or (.cmp .eq (.var 2) (.cs [112, 117, 116])) (.cmp .eq (.var 2) (.cs [97, 100, 100]))) (.ret (.tup (.cons (.var 2) (.cons (.var 3) (.cons (.call 96 (.cons (.var 0) .nil)) .nil))))) .nop) (.ret (.tup (.cons (.var 2) (.cons (.var 3) .nil))))))))⟩
def f_end : FD := ⟨3, 6, (.seq (.set (.v 3) (.call 136 (.cons (.var 0) (.cons (.ci 9) .nil)))) (.seq (.ite (.cmp .eq (.var 3) (.ci 0)) (.ret (.tup (.cons (.cs [115, 116, 111, 112]) .nil))) .nop) (.seq (.ite (.cmp .lt (.var 3) (.ci 3)) (.ret (.tup (.cons (.cs [103, 111]) (.cons (.call 136 (.cons (.var 0) (.cons (.var 2) .nil))) .nil)))) .nop) (.seq (.set (.v 4) (.idx (.lst (.cons (.cs [108, 101, 115, 115]) (.cons (.cs [105, 115]) .nil))) (.bin .fdiv (.call 136 (.cons (.var 0) (.cons (.ci 3) .nil))) (.ci 2)))) (.seq (.set (.v 5) (.idx (.var 1) (.call 136 (.cons (.var 0) (.cons (.prim .len (.cons (.var 1) .nil)) .nil))))) (.ret (.tup (.cons (.var 4) (.cons (.var 5) (.cons (.call 96 (.cons (.var 0) .nil)) (.cons (.call 136 (.cons (.var 0) (.cons (.var 2) .nil))) (.cons (.call 136 (.cons (.var 0) (.cons (.var 2) .nil))) .nil))))))))))))⟩
def f_plan : FD := ⟨3, 9, (.seq (.set (.v 3) (.call 92 (.cons (.var 0) .nil))) (.seq (.set (.v 4) (.lst .nil)) (.seq (.for (.v 5) .range (.cons (.var 1) .nil) (.seq (.set (.v 6) (.call 136 (.cons (.var 0) (.cons (.bin .add (.var 2) (.ci 1)) .nil)))) (.seq (.set (.v 7) (.call 59 (.cons (.var 0) (.cons (.var 3) (.cons (.var 1) .nil))))) (.expr (.bm .append (.var 4) (.cons (.tup (.cons (.prim .tuple (.cons (.comp (.call 54 (.cons (.var 0) (.cons (.var 3) .nil))) (.v 8) .range (.cons (.var 6) .nil) (.cb true) [8]) .nil)) (.cons (.var 7) .nil))) .nil)))))) (.ret (.prim .tuple (.cons (.var 4) .nil))))))⟩
def f_count : FD := ⟨2, 2, (.ret (.idx (.lst (.cons (.bin .add (.ci 1) (.call 136 (.cons (.var 0) (.cons (.var 1) .nil)))) (.cons (.bin .add (.ci 1) (.call 136 (.cons (.var 0) (.cons (.prim .min2 (.cons (.ci 4) (.cons (.var 1) .nil))) .nil)))) (.cons (.var 1) .nil)))) (.call 136 (.cons (.var 0) (.cons (.ci 3) .nil)))))⟩
def f_input : FD := ⟨1, 3, (.seq (.set (.v 1) (.call 136 (.cons (.var 0) (.cons (.idx (.lst (.cons (.ci 9) (.cons (.ci 60) (.cons (.ci 201) .nil)))) (.call 136 (.cons (.var 0) (.cons (.ci 3) .nil)))) .nil)))) (.ret (.prim .tuple (.cons (.comp (.call 96 (.cons (.var 0) .nil)) (.v 2) .range (.cons (.var 1) .nil) (.cb true) [2]) .nil))))⟩
abbrev NumS (F : Fn) : Prop := ∀ {b : Nat} {μ : Sto} {Q : D → Sto → Prop} {X : EX}, BagAt μ b → (∀ (n : Int) (μ' : Sto), ok40 n → BagAt μ' b → Kp b μ μ' → Q (.int n) μ') → F [.ref b] μ Q X
theorem number_ok {G : Ctx} (hG : Mono G) (hT : TakeS (G.fn 136)) : NumS (runF G f_number) := by
  intro b μ Q X hb q
  refine ⟨rfl, hT hb (by decide) (by decide) fun w μ1 w0 w8 b1 k1 => ?_⟩
  refine ⟨fun _ => ?_, fun _ => ?_⟩
  · refine ⟨by decide, ?_⟩
    refine hT b1 (by decide) (by decide) fun t μ3 t0 t3 b3 k3 => ?_
    refine hT b3 (by decide) (by decide) fun u μ4 u0 u2 b4 k4 => ?_
    have hu : u = 0 ∨ u = 1 := by omega
    have e40 : (10 : Int) ^ Int.toNat 40 = 10 ^ 40 := rfl
    refine ⟨small_of (by omega) (by omega), small_of (by omega) (by omega), small_of (by omega) (by omega), small_of (by omega) (by omega), ?_⟩
    refine q _ _ ?_ b4 (k1.trans (k3.trans k4))
    unfold ok40
    rcases hu with rfl | rfl <;> omega
  · refine hT b1 (by decide) (by decide) fun r μ2 r0 r3 b2 k2 => ?_
    exact q _ _ (by unfold ok40; omega) b2 (k1.trans k2)
/-- one of the names -/
theorem name_at {ns : List Nm} {r : Int} {k : D → Prop} (h : μ p = some (.lst (ns.map D.str))) (h0 : 0 ≤ r) (h1 : r < ns.length) (q : ∀ z ∈ ns, k (.str z)) : idxP (.ref p) (.int r) μ k := by
  obtain ⟨d, e, hm⟩ := getI_in (l := ns.map D.str) h0 (by simpa using h1)
  obtain ⟨z, hz, rfl⟩ := List.mem_map.mp hm
  exact idx_lst h e (q z hz)
abbrev DeedS (F : Fn) : Prop := ∀ {b p : Nat} {ns : List Nm} {μ : Sto} {Q : D → Sto → Prop} {X : EX}, BagAt μ b → μ p = some (.lst (ns.map D.str)) → p ≠ b → 0 < ns.length → ns.length < 1000 → (∀ (d : Deed) (μ' : Sto), okDeed ns d → BagAt μ' b → Kp b μ μ' → Q (encD d) μ') → F [.ref b, .ref p] μ Q X
theorem deed_ok {G : Ctx} (hG : Mono G) (hT : TakeS (G.fn 136)) (hN : NumS (G.fn 96)) : DeedS (runF G f_deed) := by
  intro b p ns μ Q X hb hp hpb h0 h1 q
  refine ⟨rfl, ?_⟩
  show wpS G f_deed.body [some (.ref b), some (.ref p), none, none] μ _
  intro a ha
  refine hT (hb.new ha) (by decide) (by decide) fun w μ1 w0 w7 b1 k1 => ?_
  have e1 := k1 a _ (hb.ne ha) up_same
  have k01 : Kp b μ μ1 := (Kept.new ha).trans k1
  have hp1 := k01 p _ hpb hp
  have : ∃ z, getI [D.str wPut, .str wCopy, .str wAdd, .str wRead, .str wTell, .str wTell, .str wAdd] w = some (.str z) ∧ (z = wPut ∨ z = wCopy ∨ z = wAdd ∨ z = wRead ∨ z = wTell) := by
    have : w = 0 ∨ w = 1 ∨ w = 2 ∨ w = 3 ∨ w = 4 ∨ w = 5 ∨ w = 6 := by omega
    rcases this with rfl | rfl | rfl | rfl | rfl | rfl | rfl <;> exact ⟨_, rfl, by decide⟩
  obtain ⟨z, ez, hz⟩ := this
  refine idx_lst e1 ez ?_
  clean_wf
  refine len_lst hp1 ?_
  refine hT b1 (by rw [List.length_map]; omega) (by rw [List.length_map]; omega) fun r μ2 r0 r1 b2 k2 => ?_
  have hp2 := k2 p _ hpb hp1
  refine name_at hp2 r0 (by simpa using r1) fun n hn => ?_
  have k02 := k01.trans k2
  rcases hz with rfl | rfl | rfl | rfl | rfl
  · refine nay (yes (yes (hN b2 fun i μ3 hi b3 k3 => ?_)))
    exact q (.put n i) _ ⟨hn, hi⟩ b3 (k02.trans k3)
  · refine yes ?_
    clean_wf
    refine len_lst hp2 ?_
    refine hT b2 (by rw [List.length_map]; omega) (by rw [List.length_map]; omega) fun r μ3 r0 r1 b3 k3 => ?_
    refine name_at (k3 p _ hpb hp2) r0 (by simpa using r1) fun m hm => ?_
    exact q (.copy n m) _ ⟨hn, hm⟩ b3 (k02.trans k3)
  · refine nay (nay (yes (hN b2 fun i μ3 hi b3 k3 => ?_)))
    exact q (.add n i) _ ⟨hn, hi⟩ b3 (k02.trans k3)
  · exact nay (nay (nay (q (.read n) _ hn b2 k02)))
  · exact nay (nay (nay (q (.tell n) _ hn b2 k02)))
abbrev EndS (F : Fn) : Prop := ∀ {b p k : Nat} {ns : List Nm} {μ : Sto} {Q : D → Sto → Prop} {X : EX}, BagAt μ b → μ p = some (.lst (ns.map D.str)) → p ≠ b → 0 < ns.length → ns.length < 1000 → 0 < k → k < 1000000 → (∀ (d : Ed) (μ' : Sto), okEd ns k d → BagAt μ' b → Kp b μ μ' → Q (encEd d) μ') → F [.ref b, .ref p, .int k] μ Q X
theorem nat_of {r : Int} (h : 0 ≤ r) : D.int r = encN r.toNat := by unfold encN; rw [Int.toNat_of_nonneg h]
theorem end_ok {G : Ctx} (hG : Mono G) (hT : TakeS (G.fn 136)) (hN : NumS (G.fn 96)) : EndS (runF G f_end) := by
  intro b p k ns μ Q X hb hp hpb h0 h1 hk0 hk q
  refine ⟨rfl, ?_⟩
  show wpS G f_end.body [some (.ref b), some (.ref p), some (.int k), none, none, none] μ _
  refine hT hb (by decide) (by decide) fun w μ1 w0 w7 b1 k1 => ?_
  have hp1 := k1 p _ hpb hp
  refine if_then hG (b := decide (w = 0)) ⟨congrArg D.bl eqb_int, rfl⟩ (fun _ => q .stop _ trivial b1 k1) fun _ => ?_
  refine if_then hG (b := decide (w < 3)) ⟨rfl, rfl⟩ (fun _ => ?_) fun _ => ?_
  · refine hT b1 (by omega) (by omega) fun r μ2 r0 r1 b2 k2 => ?_
    clean_wf
    rw [nat_of r0]
    exact q (.go r.toNat) _ (show r.toNat < k by omega) b2 (k1.trans k2)
  intro a ha
  refine hT (b1.new ha) (by decide) (by decide) fun t μ2 t0 t3 b2 k2 => ?_
  refine ⟨by decide, small_of (by decide) (by decide), ?_⟩
  have k12 : Kp b μ1 μ2 := (Kept.new ha).trans k2
  have e2 := k2 a _ (b1.ne ha) up_same
  have hp2 := k12 p _ hpb hp1
  have : ∃ l : Bool, getI [D.str wLess, .str wIs] (t / 2) = some (.str (wTest l)) := by
    have : t = 0 ∨ t = 1 ∨ t = 2 := by omega
    rcases this with rfl | rfl | rfl
    · exact ⟨true, rfl⟩
    · exact ⟨true, rfl⟩
    · exact ⟨false, rfl⟩
  obtain ⟨l, el⟩ := this
  refine idx_lst e2 el ?_
  clean_wf
  refine len_lst hp2 ?_
  refine hT b2 (by rw [List.length_map]; omega) (by rw [List.length_map]; omega) fun r μ3 r0 r1 b3 k3 => ?_
  refine name_at (k3 p _ hpb hp2) r0 (by simpa using r1) fun n hn => ?_
  clean_wf
  refine hN b3 fun i μ4 hi b4 k4 => ?_
  refine hT b4 (by omega) (by omega) fun y μ5 y0 y1 b5 k5 => ?_
  refine hT b5 (by omega) (by omega) fun z μ6 z0 z1 b6 k6 => ?_
  rw [nat_of y0, nat_of z0]
  exact q (.test l n i y.toNat z.toNat) _ ⟨hn, hi, by omega, by omega⟩ b6 (k1.trans (k12.trans (k3.trans (k4.trans (k5.trans k6)))))
/-- a plan over some names -/
abbrev PlanS (F : Fn) : Prop := ∀ {b k m : Nat} {μ : Sto} {Q : D → Sto → Prop} {X : EX}, BagAt μ b → 0 < k → k < 100000 → m < 1000 → (∀ (ns : List Nm) (pl : Plan) (μ' : Sto), 0 < ns.length → ns.length ≤ 4 → ns.Nodup → OkPl ns m pl → pl.length = k → BagAt μ' b → Kp b μ μ' → Q (encPl pl) μ') → F [.ref b, .int k, .int m] μ Q X
theorem tup_lst {Q : D → Sto → Prop} (h : μ a = some (.lst l)) (q : Q (.tup l) μ) : primP .tuple [.ref a] μ Q := rdL_of h q
theorem plan_ok {G : Ctx} (hG : Mono G) (hT : TakeS (G.fn 136)) (hNs : NamesS (G.fn 92)) (hD : DeedS (G.fn 54)) (hE : EndS (G.fn 59)) : PlanS (runF G f_plan) := by
  intro b k m μ Q X hb hk0 hk hm q
  refine ⟨rfl, hNs hb fun p μ1 ns hp0 hp n0 n4 nok nd b1 k1 => ?_⟩
  intro s hs
  have hpb : p ≠ b := hb.ne hp0
  have hsb : s ≠ b := b1.ne hs
  have hps : p ≠ s := ne_new hp hs
  have hs0 : μ s = none := k1.none hsb hs
  refine ⟨⟨by omega, by omega⟩, ?_⟩
  refine for_ix (fun i ρ μ' => BagAt μ' b ∧ Kp b μ μ' ∧ μ' p = some (.lst (ns.map D.str)) ∧ ∃ pl : Plan, ∃ o1 o2 o3 o4 : Option D, pl.length = i ∧ μ' s = some (.lst (pl.map encPc)) ∧ (∀ z ∈ pl, z.1.length ≤ m ∧ (∀ d ∈ z.1, okDeed ns d) ∧ okEd ns k z.2) ∧
    ρ = [some (.ref b), some (.int k), some (.int m), some (.ref p), some (.ref s), o1, o2, o3, o4]) (fun _ _ _ _ => trivial) ?_ ?_ ?_
  · rintro i d hd ρ μ2 K' ⟨b2, k2, e2, pl, o1, o2, o3, o4, hl, es, hpl, rfl⟩ hK
    have ei := range_at hd
    refine hT b2 (by omega) (by omega) fun r μ3 r0 r1 b3 k3 => ?_
    have e3 := k3 p _ hpb e2
    refine hE b3 e3 hpb n0 (by omega) hk0 (by omega) fun ed μ4 hed b4 k4 => ?_
    have e4 := k4 p _ hpb e3
    have s4 := k4 s _ hsb (k3 s _ hsb es)
    clean_wf
    refine ⟨rdL_of s4 trivial, ?_⟩
    refine ⟨⟨by omega, by omega⟩, ?_⟩
    refine comp_ty encD (okDeed ns) (fun μ' => BagAt μ' b ∧ Kp b μ4 μ') (fun _ _ => trivial) ?_ (by simp [rangeL, sizeMax]; omega) ⟨b4, .refl⟩ ?_
    · rintro d hd μ5 K2 ⟨b5, k5⟩ hK2
      exact hD b5 (k5 p _ hpb e4) hpb n0 (by omega) fun dd μ6 hdd b6 k6 => hK2 dd _ hdd ⟨b6, k5.trans k6⟩
    · rintro ds μ5 hdl hds ⟨b5, k5⟩
      simp only [rangeL, List.length_map, List.length_range] at hdl
      intro c hc
      clean_wf
      refine tup_lst up_same ?_
      have s5 := k5 s _ hsb s4
      refine app_lst (l := pl.map encPc) (up_old s5 hc) (by rw [List.length_map]; simp [sizeMax]; omega) ?_
      have nsc : s ≠ c := ne_new s5 hc
      refine hK _ _ ⟨(b5.new hc).off hsb, ?_, ?_, pl ++ [(ds, ed)], _, _, _, _, by simp [hl], by rw [up_same, List.map_append]; rfl, ?_, rfl⟩
      · exact Kept.loc hs0 (Kept.nw hc (k2.trans (k3.trans (k4.trans k5))))
      · rw [up_ne hps]; exact up_old (k5 p _ hpb e4) hc
      · intro z hz
        rcases List.mem_append.mp hz with hz | hz
        · exact hpl z hz
        · rw [List.mem_singleton.mp hz]; exact ⟨by show ds.length ≤ m; omega, hds, hed⟩
  · rintro ρ μ2 ⟨b2, k2, e2, pl, o1, o2, o3, o4, hl, es, hpl, rfl⟩
    simp only [rangeL, List.length_map, List.length_range] at hl
    clean_wf
    refine tup_lst es ?_
    have hl : pl.length = k := by omega
    exact q ns pl μ2 n0 n4 nd ⟨nok, fun z hz => ⟨(hpl z hz).1, (hpl z hz).2.1⟩, fun z hz => by rw [hl]; exact (hpl z hz).2.2⟩ hl b2 k2
  · exact ⟨b1.new hs, Kept.nw hs k1, up_old hp hs, [], _, _, _, _, rfl, up_same, by simp, rfl⟩
abbrev CountS (F : Fn) : Prop := ∀ {b m : Nat} {μ : Sto} {Q : D → Sto → Prop} {X : EX}, BagAt μ b → 0 < m → m < 100000 → (∀ (k : Nat) (μ' : Sto), 0 < k → k ≤ m ∨ k ≤ 4 → k ≤ m → BagAt μ' b → Kp b μ μ' → Q (.int k) μ') → F [.ref b, .int m] μ Q X
theorem count_ok {G : Ctx} (hG : Mono G) (hT : TakeS (G.fn 136)) : CountS (runF G f_count) := by
  intro b m μ Q X hb h0 h1 q
  refine ⟨rfl, ?_⟩
  refine hT hb (by omega) (by omega) fun r μ1 r0 r1 b1 k1 => ?_
  refine hT b1 (by omega) (by omega) fun t μ2 t0 t1 b2 k2 => ?_
  intro a ha
  refine hT (b2.new ha) (by decide) (by decide) fun w μ3 w0 w3 b3 k3 => ?_
  have e3 := k3 a _ (b2.ne ha) up_same
  have k03 : Kp b μ μ3 := k1.trans (k2.trans ((Kept.new ha).trans k3))
  have : ∃ k : Nat, 0 < k ∧ k ≤ m ∧ getI [D.int (1 + r), .int (1 + t), .int m] w = some (.int k) := by
    have : w = 0 ∨ w = 1 ∨ w = 2 := by omega
    rcases this with rfl | rfl | rfl
    · exact ⟨(1 + r).toNat, by omega, by omega, by rw [Int.toNat_of_nonneg (by omega)]; rfl⟩
    · exact ⟨(1 + t).toNat, by omega, by omega, by rw [Int.toNat_of_nonneg (by omega)]; rfl⟩
    · exact ⟨m, h0, Nat.le_refl _, rfl⟩
  obtain ⟨k, k0, km, ek⟩ := this
  exact idx_lst e3 ek (q k μ3 k0 (.inl km) km b3 k03)
/-- none to 200 numbers -/
def encI (ns : List Int) : D := .tup (ns.map D.int)
abbrev InputS (F : Fn) : Prop := ∀ {b : Nat} {μ : Sto} {Q : D → Sto → Prop} {X : EX}, BagAt μ b → (∀ (ns : List Int) (μ' : Sto), ns.length ≤ 200 → (∀ n ∈ ns, ok40 n) → BagAt μ' b → Kp b μ μ' → Q (encI ns) μ') → F [.ref b] μ Q X
theorem input_ok {G : Ctx} (hG : Mono G) (hT : TakeS (G.fn 136)) (hN : NumS (G.fn 96)) : InputS (runF G f_input) := by
  intro b μ Q X hb q
  refine ⟨rfl, fun a ha => ?_⟩
  refine hT (hb.new ha) (by decide) (by decide) fun w μ1 w0 w3 b1 k1 => ?_
  have e1 := k1 a _ (hb.ne ha) up_same
  have k01 : Kp b μ μ1 := (Kept.new ha).trans k1
  have : ∃ g : Int, getI [D.int 9, .int 60, .int 201] w = some (.int g) ∧ 0 < g ∧ g ≤ 201 := by
    have : w = 0 ∨ w = 1 ∨ w = 2 := by omega
    rcases this with rfl | rfl | rfl <;> exact ⟨_, rfl, by decide, by decide⟩
  obtain ⟨g, eg, g0, g1⟩ := this
  refine idx_lst e1 eg ?_
  refine hT b1 g0 (by omega) fun m μ2 m0 m1 b2 k2 => ?_
  refine ⟨⟨by omega, by omega⟩, ?_⟩
  refine comp_ty D.int ok40 (fun μ' => BagAt μ' b ∧ Kp b μ μ') (fun _ _ => trivial) ?_ (by simp [rangeL, sizeMax]; omega) ⟨b2, k01.trans k2⟩ ?_
  · rintro d hd μ3 K' ⟨b3, k3⟩ hK
    exact ⟨fun _ => hN b3 fun n μ4 hn b4 k4 => hK n _ hn ⟨b4, k3.trans k4⟩, fun z => nomatch z⟩
  · rintro ns μ3 hl hns ⟨b3, k3⟩
    simp only [rangeL, List.length_map, List.length_range] at hl
    intro c hc
    exact tup_lst up_same (q ns _ (by omega) hns (b3.new hc) (Kept.nw hc k3))
end MP

set_option linter.all false
set_option maxRecDepth 100000
set_option maxHeartbeats 1000000
set_option Elab.async false
/-! F6: names, ways on, reached pieces, heads. -/
namespace MP
local macro_rules
  | `(tactic| clean_wf) => `(tactic| simp only [ws_set, ws_set1, ws_ret, ws_nop, ws_exp, ws_exp1, ws_sidx, ws_sidx1, ws_satt, ws_satt1, ws_aat, ws_aat1, ws_avar, ws_avar1, augK_int, ws_for, ws_forS, wpE, wpA, opt_some, gv_0, gv_s, matP, List.set, b_add, b_addS, b_addT, b_sub, b_mul, b_div, b_mod, b_pow, c_len, c_lenT, c_int, c_intB, c_abs, c_min, c_max, c_tupT, c_eqI, c_neI, c_eqS, c_neS, c_lt, c_le, c_gt, c_ge, c_is, c_isnot, c_isB, c_isnotB, c_idxT, g_0, g_1, g_2, g_3, g_4, g_5, g_6, o_non, o_int, Bool.not_true, Bool.not_false, br_t, br_f, c_itA, c_itT, c_itS])
local macro_rules
  | `(tactic| sizeOf_list_dec) => `(tactic| first
    | assumption
    | exact Ne.symm (by assumption)
    | exact ne_new (by assumption) (by assumption)
    | exact Ne.symm (ne_new (by assumption) (by assumption))
    | exact BagAt.ne (by assumption) (by assumption)
    | exact Ne.symm (BagAt.ne (by assumption) (by assumption))
    | exact id)
local macro_rules
  | `(tactic| array_mem_dec) => `(tactic| first
    | assumption
    | exact up_same
    | (refine (up_ne (by sizeOf_list_dec)).trans ?_; array_mem_dec)
    | (refine (by assumption : Kept _ _ _) _ _ (by sizeOf_list_dec) ?_; array_mem_dec)
    | (refine BagAt.new ?_ (by assumption); array_mem_dec)
    | (refine BagAt.off ?_ (by sizeOf_list_dec); array_mem_dec)
    | (refine BagAt.keep ?_ (by assumption) (by sizeOf_list_dec); array_mem_dec)
    | exact Kept.refl
    | exact Kept.new (by assumption)
    | (refine Kept.trans ?_ (by assumption); array_mem_dec)
    | (refine Kept.loc (by assumption) ?_; array_mem_dec)
    | (refine Kept.nw (by assumption) ?_; array_mem_dec))
variable {μ μ' μ1 μ2 : Sto} {a b p q : Nat} {l : List D} {i : Int} {x y d : D} {o : Ob} {ρ : Env}
def f_ways_on : FD := ⟨1, 1, (.seq (.ite (.cmp .eq (.idx (.var 0) (.ci 0)) (.cs [115, 116, 111, 112])) (.ret (.tup .nil)) .nop) (.seq (.ite (.cmp .eq (.idx (.var 0) (.ci 0)) (.cs [103, 111])) (.ret (.tup (.cons (.idx (.var 0) (.ci 1)) .nil))) .nop) (.ret (.tup (.cons (.idx (.var 0) (.ci 3)) (.cons (.idx (.var 0) (.ci 4)) .nil))))))⟩
def f_is_test : FD := ⟨1, 1, (.ret (.or (.cmp .eq (.idx (.var 0) (.ci 0)) (.cs [108, 101, 115, 115])) (.cmp .eq (.idx (.var 0) (.ci 0)) (.cs [105, 115]))))⟩
def f_names_of : FD := ⟨1, 5, (.seq (.set (.v 1) .dnew) (.seq (.for (.cons (.v 2) (.cons (.v 3) .nil)) .any (.cons (.var 0) .nil) (.seq (.for (.v 4) .any (.cons (.var 2) .nil) (.seq (.setIdx (.var 1) (.idx (.var 4) (.ci 1)) (.cb true)) (.ite (.cmp .eq (.idx (.var 4) (.ci 0)) (.cs [99, 111, 112, 121])) (.setIdx (.var 1) (.idx (.var 4) (.ci 2)) (.cb true)) .nop))) (.ite (.call 180 (.cons (.var 3) .nil)) (.setIdx (.var 1) (.idx (.var 3) (.ci 1)) (.cb true)) .nop))) (.ret (.prim .tuple (.cons (.prim .sorted (.cons (.var 1) .nil)) .nil)))))⟩
def f_reached : FD := ⟨1, 4, (.seq (.set (.v 1) (.dict (.cons (.ci 0) (.cons (.cb true) .nil)))) (.seq (.set (.v 2) (.lst (.cons (.ci 0) .nil))) (.seq (.while (.cmp .gt (.prim .len (.cons (.var 2) .nil)) (.ci 0)) (.for (.v 3) .any (.cons (.call 229 (.cons (.idx (.idx (.var 0) (.bm .pop (.var 2) .nil)) (.ci 1)) .nil)) .nil) (.ite (.cmp .notin (.var 3) (.var 1)) (.seq (.setIdx (.var 1) (.var 3) (.cb true)) (.expr (.bm .append (.var 2) (.cons (.var 3) .nil)))) .nop))) (.ret (.prim .tuple (.cons (.prim .sorted (.cons (.var 1) .nil)) .nil))))))⟩
def f_heads : FD := ⟨1, 4, (.seq (.set (.v 1) .dnew) (.seq (.for (.v 2) .any (.cons (.call 208 (.cons (.var 0) .nil)) .nil) (.for (.v 3) .any (.cons (.call 229 (.cons (.idx (.idx (.var 0) (.var 2)) (.ci 1)) .nil)) .nil) (.ite (.cmp .le (.var 3) (.var 2)) (.setIdx (.var 1) (.var 3) (.cb true)) .nop))) (.ret (.prim .tuple (.cons (.prim .sorted (.cons (.var 1) .nil)) .nil)))))⟩
def f_ways : FD := ⟨1, 1, (.seq (.ite (.cmp .eq (.prim .len (.cons (.var 0) .nil)) (.ci 5)) (.ret (.lst (.cons (.idx (.var 0) (.ci 3)) (.cons (.idx (.var 0) (.ci 4)) .nil)))) .nop) (.ret (.prim .list (.cons (.slc (.var 0) (.part (.ci 1)) .cn) .nil))))⟩
def f_all_names : FD := ⟨1, 5, (.seq (.set (.v 1) .dnew) (.seq (.for (.cons (.v 2) (.cons (.v 3) .nil)) .any (.cons (.var 0) .nil) (.seq (.for (.v 4) .any (.cons (.var 2) .nil) (.seq (.setIdx (.var 1) (.idx (.var 4) (.ci 1)) (.cb true)) (.ite (.cmp .eq (.idx (.var 4) (.ci 0)) (.cs [99, 111, 112, 121])) (.setIdx (.var 1) (.idx (.var 4) (.ci 2)) (.cb true)) .nop))) (.ite (.cmp .eq (.prim .len (.cons (.var 3) .nil)) (.ci 5)) (.setIdx (.var 1) (.idx (.var 3) (.ci 1)) (.cb true)) .nop))) (.ret (.prim .sorted (.cons (.var 1) .nil)))))⟩
def fl_reached : FD := ⟨1, 4, (.seq (.set (.v 1) (.lst (.cons (.ci 0) .nil))) (.seq (.set (.v 2) (.ci 0)) (.seq (.while (.cmp .lt (.var 2) (.prim .len (.cons (.var 1) .nil))) (.seq (.for (.v 3) .any (.cons (.call 150 (.cons (.idx (.idx (.var 0) (.idx (.var 1) (.var 2))) (.ci 1)) .nil)) .nil) (.ite (.cmp .notin (.var 3) (.var 1)) (.expr (.bm .append (.var 1) (.cons (.var 3) .nil))) .nop)) (.set (.v 2) (.bin .add (.var 2) (.ci 1))))) (.ret (.prim .sorted (.cons (.var 1) .nil))))))⟩
def fl_heads : FD := ⟨1, 4, (.seq (.set (.v 1) .dnew) (.seq (.for (.v 2) .any (.cons (.call 117 (.cons (.var 0) .nil)) .nil) (.for (.v 3) .any (.cons (.call 150 (.cons (.idx (.idx (.var 0) (.var 2)) (.ci 1)) .nil)) .nil) (.ite (.cmp .le (.var 3) (.var 2)) (.setIdx (.var 1) (.var 3) (.cb true)) .nop))) (.ret (.prim .sorted (.cons (.var 1) .nil)))))⟩
/-! ### sorting, typed -/
def ins {α : Type} (le : α → α → Bool) (x : α) : List α → List α
  | [] => [x]
  | y :: r => if le x y = true then x :: y :: r else y :: ins le x r
def isort {α : Type} (le : α → α → Bool) : List α → List α
  | [] => []
  | x :: r => ins le x (isort le r)
theorem insD_map {α : Type} {f : α → D} {le : α → α → Bool} (h : ∀ a b, leB (f a) (f b) = le a b) {x : α} : ∀ {l : List α}, insD (f x) (l.map f) = (ins le x l).map f
  | [] => rfl
  | y :: r => by
    show (if leB (f x) (f y) = true then f x :: f y :: r.map f else f y :: insD (f x) (r.map f)) = (if le x y = true then x :: y :: r else y :: ins le x r).map f
    rw [h, insD_map h]
    split <;> rfl
theorem sortD_map {α : Type} {f : α → D} {le : α → α → Bool} (h : ∀ a b, leB (f a) (f b) = le a b) : ∀ {l : List α}, sortD (l.map f) = (isort le l).map f
  | [] => rfl
  | y :: r => by
    show insD (f y) (sortD (r.map f)) = (ins le y (isort le r)).map f
    rw [sortD_map h, insD_map h]
theorem ins_perm {α : Type} {le : α → α → Bool} {x : α} : ∀ {l : List α}, (ins le x l).Perm (x :: l)
  | [] => .refl _
  | y :: r => by
    unfold ins
    split
    · exact .refl _
    · exact (List.Perm.cons y ins_perm).trans (.swap x y r)
theorem isort_perm {α : Type} {le : α → α → Bool} : ∀ {l : List α}, (isort le l).Perm l
  | [] => .refl _
  | x :: r => ins_perm.trans (.cons x isort_perm)
def leNm (a b : Nm) : Bool := !strLt b a
def leNt (a b : Nat) : Bool := decide (a ≤ b)
def sortNm : List Nm → List Nm := isort leNm
def sortNt : List Nat → List Nat := isort leNt
theorem sort_nm {l : List Nm} : sortD (l.map D.str) = (sortNm l).map D.str := sortD_map fun a b => rfl
theorem leB_nt (a b : Nat) : leB (encN a) (encN b) = leNt a b := by
  show decide ((a : Int) ≤ b) = decide (a ≤ b)
  rw [decide_eq_decide]; omega
theorem sort_nt {l : List Nat} : sortD (l.map encN) = (sortNt l).map encN := sortD_map leB_nt
theorem nt_int {l : List Nat} : (l.map encN).all isInt = true := by
  rw [List.all_eq_true]; intro x hx; obtain ⟨n, _, rfl⟩ := List.mem_map.mp hx; rfl
theorem sortNt_eq {l m : List Nat} (h : l.Perm m) : sortNt l = sortNt m := by
  have := sortD_eq ord_int (nt_int (l := m)) (h.map encN)
  rw [sort_nt, sort_nt] at this
  exact List.map_inj_right (f := encN) (fun a b e => by unfold encN at e; injection e with e; omega) |>.mp this
/-! ### dicts that keep what was met -/
def addK {α : Type} [DecidableEq α] (ks : List α) (x : α) : List α := if x ∈ ks then ks else ks ++ [x]
def encT {α : Type} (f : α → D) (ks : List α) : List (D × D) := ks.map fun k => (f k, .bl true)
section
variable {α : Type} [DecidableEq α] {f : α → D} {ks : List α} {z : α}
theorem any_key (hf : ∀ a b, D.eqb (f a) (f b) = decide (a = b)) : (encT f ks).any (fun p => D.eqb p.1 (f z)) = decide (z ∈ ks) := by
  rw [Bool.eq_iff_iff]
  unfold encT
  rw [List.any_map, List.any_eq_true]
  simp only [Function.comp, hf, decide_eq_true_eq]
  constructor
  · rintro ⟨x, h, rfl⟩; exact h
  · exact fun h => ⟨z, h, rfl⟩
theorem dput_T (hf : ∀ a b, D.eqb (f a) (f b) = decide (a = b)) : dput (encT f ks) (f z) (.bl true) = encT f (addK ks z) := by
  unfold dput addK
  rw [any_key hf]
  by_cases h : z ∈ ks
  · rw [if_pos (decide_eq_true h), if_pos h]
    unfold encT
    rw [List.map_map]
    refine List.map_congr_left fun k _ => ?_
    show (if D.eqb (f k) (f z) = true then (f k, D.bl true) else (f k, D.bl true)) = (f k, D.bl true)
    split <;> rfl
  · rw [if_neg (by simpa using h), if_neg h]
    unfold encT
    rw [List.map_append]; rfl
theorem dget_T (hf : ∀ a b, D.eqb (f a) (f b) = decide (a = b)) : (dget (encT f ks) (f z)).isSome = decide (z ∈ ks) := by
  induction ks with
  | nil => rfl
  | cons k r ih =>
    show (if D.eqb (f k) (f z) = true then some (D.bl true) else dget (encT f r) (f z)).isSome = _
    rw [hf]
    by_cases h : k = z
    · subst h; simp
    · rw [if_neg (by simpa using h), ih, decide_eq_decide]
      simp [Ne.symm h]
theorem keys_T : (encT f ks).map (·.1) = ks.map f := by unfold encT; rw [List.map_map]; rfl
theorem mem_addK {x : α} : x ∈ addK ks z ↔ x ∈ ks ∨ x = z := by
  unfold addK
  split
  · rename_i h; exact ⟨.inl, fun q => q.elim id fun e => by subst e; exact h⟩
  · rw [List.mem_append, List.mem_singleton]
theorem nodup_addK (h : ks.Nodup) : (addK ks z).Nodup := by
  unfold addK
  split
  · exact h
  · rename_i hz
    exact List.nodup_append.mpr ⟨h, by simp, fun x hx y hy => by rw [List.mem_singleton.mp hy]; exact fun w => by subst w; exact hz hx⟩
theorem nodup_le : ∀ {l m : List α}, l.Nodup → (∀ x ∈ l, x ∈ m) → l.length ≤ m.length
  | [], _, _, _ => Nat.zero_le _
  | x :: l, m, h, hs => by
    have hx := hs x (List.mem_cons_self ..)
    rw [List.nodup_cons] at h
    have := nodup_le (l := l) (m := m.erase x) h.2 fun y hy => (List.mem_erase_of_ne (fun e => by subst e; exact h.1 hy)).mpr (hs y (List.mem_cons_of_mem _ hy))
    have h2 := (List.perm_cons_erase hx).length_eq
    rw [List.length_cons] at h2 ⊢
    omega
end
theorem eqb_nm (a b : Nm) : D.eqb (.str a) (.str b) = decide (a = b) := eqb_str
theorem eqb_nt (a b : Nat) : D.eqb (encN a) (encN b) = decide (a = b) := eqb_len
theorem setIdx_dic {Q : Sto → Prop} {l : List (D × D)} (h : μ a = some (.dF l)) (hf : isFlat x = true) (hz : l.length < sizeMax) (q : Q (upd μ a (.dF (dput l x y)))) : setIdxP (.ref a) x y μ Q := by
  unfold setIdxP
  simp only [h]
  exact .inl ⟨hf, hz, q⟩
theorem isin_dic {k : Bool → Prop} {l : List (D × D)} (h : μ a = some (.dF l)) (hf : isFlat x = true) (q : k (dget l x).isSome) : inP x (.ref a) μ k := by
  unfold inP
  cases x <;> first | (simp only [h]; exact .inl ⟨rfl, q⟩) | (cases hf)
theorem cisin_dic {k : Bool → Prop} {l : List (D × D)} (h : μ a = some (.dF l)) (hf : isFlat x = true) (q : k (dget l x).isSome) : cmpP .isin x (.ref a) μ k := isin_dic h hf q
theorem cnotin_dic {k : Bool → Prop} {l : List (D × D)} (h : μ a = some (.dF l)) (hf : isFlat x = true) (q : k (!(dget l x).isSome)) : cmpP .notin x (.ref a) μ k := isin_dic (k := fun b => k (!b)) h hf q
theorem sort_dic {Q : D → Sto → Prop} {l : List (D × D)} (h : μ a = some (.dF l)) (hs : sortable (l.map (·.1)) = true) (q : ∀ p, μ p = none → Q (.ref p) (upd μ p (.lst (sortD (l.map (·.1)))))) : primP .sorted [.ref a] μ Q :=
  opt_of (x := l.map fun p : D × D => p.1) (by rw [h]; rfl) ⟨hs, q⟩
theorem sort_lst {Q : D → Sto → Prop} (h : μ a = some (.lst l)) (hs : sortable l = true) (q : ∀ p, μ p = none → Q (.ref p) (upd μ p (.lst (sortD l)))) : primP .sorted [.ref a] μ Q :=
  opt_of (x := l) (by rw [h]; rfl) ⟨hs, q⟩
theorem sortable_nt {l : List Nat} : sortable (l.map encN) = true := by unfold sortable; rw [nt_int]; rfl
theorem sortable_nm {l : List Nm} (h : l.length < 64) : sortable (l.map D.str) = true := by unfold sortable; rw [all_strs, List.length_map, decide_eq_true h]; simp
/-! ### ways on -/
def waysE : Ed → List Nat
  | .stop => []
  | .go p => [p]
  | .test _ _ _ y z => [y, z]
abbrev WaysS (F : Fn) : Prop := ∀ {e : Ed} {μ : Sto} {Q : D → Sto → Prop} {X : EX}, Q (.tup ((waysE e).map encN)) μ → F [encEd e] μ Q X
theorem ways_on_ok (G : Ctx) : WaysS (runF G f_ways_on) := by
  intro e μ Q X q
  refine ⟨rfl, ?_⟩
  cases e with
  | stop => exact yes q
  | go p => exact nay (yes q)
  | test l a n y z => cases l <;> exact nay (nay q)
def isTestE : Ed → Bool
  | .test _ _ _ _ _ => true
  | _ => false
abbrev IsTestS (F : Fn) : Prop := ∀ {e : Ed} {μ : Sto} {Q : D → Sto → Prop} {X : EX}, Q (.bl (isTestE e)) μ → F [encEd e] μ Q X
theorem is_test_ok (G : Ctx) : IsTestS (runF G f_is_test) := by
  intro e μ Q X q
  refine ⟨rfl, ?_⟩
  cases e with
  | stop => exact nay q
  | go p => exact nay q
  | test l a n y z => cases l
                      · exact nay q
                      · exact yes q
abbrev WaysLS (F : Fn) : Prop := ∀ {e : Ed} {μ : Sto} {Q : D → Sto → Prop} {X : EX}, (∀ p, μ p = none → Q (.ref p) (upd μ p (.lst ((waysE e).map encN)))) → F [encEd e] μ Q X
theorem ways_ok {G : Ctx} (hG : Mono G) : WaysLS (runF G f_ways) := by
  intro e μ Q X q
  refine ⟨rfl, ?_⟩
  cases e with
  | stop => exact nay fun p hp => q p hp
  | go p => exact nay fun p hp => q p hp
  | test l a n y z => cases l <;> exact yes fun p hp => q p hp
/-! ### names -/
def nmD : Deed → List Nm
  | .put a _ => [a]
  | .copy a b => [a, b]
  | .add a _ => [a]
  | .read a => [a]
  | .tell a => [a]
def nmE : Ed → List Nm
  | .test _ a _ _ _ => [a]
  | _ => []
def nmDs (ds : List Deed) : List Nm := ds.flatMap nmD
def nmPc (p : Pc) : List Nm := nmDs p.1 ++ nmE p.2
def nmPl (pl : Plan) : List Nm := pl.flatMap nmPc
def addKs {α : Type} [DecidableEq α] (ks l : List α) : List α := l.foldl addK ks
def namesK (pl : Plan) : List Nm := addKs [] (nmPl pl)
def namesOf (pl : Plan) : List Nm := sortNm (namesK pl)
theorem mem_addKs {α : Type} [DecidableEq α] {x : α} : ∀ {l ks : List α}, x ∈ addKs ks l ↔ x ∈ ks ∨ x ∈ l
  | [], ks => by simp [addKs]
  | y :: r, ks => by
    show x ∈ addKs (addK ks y) r ↔ _
    rw [mem_addKs, mem_addK, List.mem_cons]
    constructor
    · rintro ((h | h) | h)
      · exact .inl h
      · exact .inr (.inl h)
      · exact .inr (.inr h)
    · rintro (h | h | h)
      · exact .inl (.inl h)
      · exact .inl (.inr h)
      · exact .inr h
theorem nodup_addKs {α : Type} [DecidableEq α] : ∀ {l ks : List α}, ks.Nodup → (addKs ks l).Nodup
  | [], ks, h => h
  | y :: r, ks, h => nodup_addKs (l := r) (nodup_addK h)
theorem addKs_app {α : Type} [DecidableEq α] {ks l m : List α} : addKs ks (l ++ m) = addKs (addKs ks l) m := List.foldl_append ..
theorem okNmD {ns : List Nm} {d : Deed} (h : okDeed ns d) : ∀ z ∈ nmD d, z ∈ ns := by
  intro z hz
  cases d <;> simp only [nmD, List.mem_cons, List.not_mem_nil, or_false] at hz <;> simp only [okDeed] at h
  · subst hz; exact h.1
  · rcases hz with rfl | rfl
    · exact h.1
    · exact h.2
  · subst hz; exact h.1
  · subst hz; exact h
  · subst hz; exact h
theorem okNmE {ns : List Nm} {k : Nat} {e : Ed} (h : okEd ns k e) : ∀ z ∈ nmE e, z ∈ ns := by
  intro z hz
  cases e <;> simp only [nmE, List.mem_cons, List.not_mem_nil, or_false] at hz <;> simp only [okEd] at h
  subst hz; exact h.1
theorem OkPl.sub {ns : List Nm} {m : Nat} {pl : Plan} (h : OkPl ns m pl) : ∀ z ∈ nmPl pl, z ∈ ns := by
  intro z hz
  obtain ⟨p, hp, hz⟩ := List.mem_flatMap.mp hz
  rcases List.mem_append.mp hz with hz | hz
  · obtain ⟨d, hd, hz⟩ := List.mem_flatMap.mp hz
    exact okNmD ((h.deeds p hp).2 d hd) z hz
  · exact okNmE (h.ends p hp) z hz
theorem namesK_le {ns : List Nm} {pl : Plan} (h : ∀ z ∈ nmPl pl, z ∈ ns) : (namesK pl).length ≤ ns.length :=
  nodup_le (nodup_addKs .nil) fun x hx => h x ((mem_addKs.mp hx).resolve_left (by simp))
theorem dic_str {G : Ctx} : True := trivial
/-- the dict of names met: at a, keys ks -/
abbrev DicN (μ : Sto) (a : Nat) (ks : List Nm) : Prop := μ a = some (.dF (encT D.str ks))
theorem put_nm {Q : Sto → Prop} {ks : List Nm} {z : Nm} (h : DicN μ a ks) (hz : ks.length < 100000) (q : Q (upd μ a (.dF (encT D.str (addK ks z))))) : setIdxP (.ref a) (.str z) (.bl true) μ Q := by
  refine setIdx_dic h rfl (by unfold encT; rw [List.length_map]; simp [sizeMax]; omega) ?_
  rw [dput_T eqb_nm]; exact q
theorem nmDs_cons {d : Deed} {r : List Deed} : nmDs (d :: r) = nmD d ++ nmDs r := rfl
theorem deed_name (d : Deed) : ∃ z r, encD d = .tup (.str z :: .str ((nmD d).headD []) :: r) := by cases d <;> exact ⟨_, _, rfl⟩
/-- one deed's names into the dict -/
theorem addK_len {α : Type} [DecidableEq α] {ks : List α} {z : α} : (addK ks z).length ≤ ks.length + 1 := by unfold addK; split <;> simp
theorem addKs_len {α : Type} [DecidableEq α] {ks l : List α} : (addKs ks l).length ≤ ks.length + l.length := by
  induction l generalizing ks with
  | nil => exact Nat.le_refl _
  | cons x r ih =>
    have h1 := ih (ks := addK ks x)
    have h2 : (addK ks x).length ≤ ks.length + 1 := by unfold addK; split <;> simp
    show (addKs (addK ks x) r).length ≤ _
    rw [List.length_cons]; omega
theorem nmD_len (d : Deed) : (nmD d).length ≤ 2 := by cases d <;> simp [nmD]
theorem nmDs_len : ∀ ds : List Deed, (nmDs ds).length ≤ 2 * ds.length
  | [] => by simp [nmDs]
  | d :: r => by rw [nmDs_cons, List.length_append, List.length_cons]; have := nmD_len d; have := nmDs_len r; omega
theorem nmPc_len (p : Pc) : (nmPc p).length ≤ 2 * p.1.length + 1 := by
  unfold nmPc
  rw [List.length_append]
  have := nmDs_len p.1
  have : (nmE p.2).length ≤ 1 := by cases p.2 <;> simp [nmE]
  omega
theorem nmPl_len {m : Nat} : ∀ {pl : Plan}, (∀ p ∈ pl, p.1.length ≤ m) → (nmPl pl).length ≤ pl.length * (2 * m + 1)
  | [], _ => by simp [nmPl]
  | p :: r, h => by
    have h1 := nmPl_len (pl := r) fun p hp => h p (List.mem_cons_of_mem _ hp)
    have h2 := nmPc_len p
    have h3 := h p (List.mem_cons_self ..)
    show (nmPc p ++ nmPl r).length ≤ _
    rw [List.length_append, List.length_cons, Nat.succ_mul]; omega
theorem nmPl_take {pl : Plan} {i : Nat} {p : Pc} (h : pl[i]? = some p) : nmPl (pl.take (i + 1)) = nmPl (pl.take i) ++ nmPc p := by
  rw [List.take_add_one, h]
  show (pl.take i ++ [p]).flatMap nmPc = _
  rw [List.flatMap_append]; simp [nmPl]
theorem nmDs_take {ds : List Deed} {i : Nat} {d : Deed} (h : ds[i]? = some d) : nmDs (ds.take (i + 1)) = nmDs (ds.take i) ++ nmD d := by
  rw [List.take_add_one, h]
  show (ds.take i ++ [d]).flatMap nmD = _
  rw [List.flatMap_append]; simp [nmDs]
theorem map_get? {α : Type} {f : α → D} {l : List α} {i : Nat} {d : D} (h : (l.map f)[i]? = some d) : ∃ x, l[i]? = some x ∧ d = f x := by
  rw [List.getElem?_map] at h
  obtain ⟨x, e, rfl⟩ := Option.map_eq_some_iff.mp h
  exact ⟨x, e, rfl⟩
/-- the loop that puts a piece's deeds' names -/
theorem deeds_loop {G : Ctx} {rt : D → Sto → Prop} {ex : EX} {ds : List Deed} {a : Nat} {ks : List Nm} {pd s3 : D} {s4 : Option D} {K : Env → Sto → Prop} (h : DicN μ a ks) (hz : ks.length + 2 * ds.length < 100000)
    (hk : ∀ s4 μ', DicN μ' a (addKs ks (nmDs ds)) → Kp a μ μ' → K [some pd, some (.ref a), some (encDs ds), some s3, s4] μ') :
    forP (fun _ => True) (fun d ρ1 μ2 K => optP (matP (.v 4) d ρ1) fun ρ2 => wpS G (.seq (.setIdx (.var 1) (.idx (.var 4) (.ci 1)) (.cb true)) (.ite (.cmp .eq (.idx (.var 4) (.ci 0)) (.cs [99, 111, 112, 121])) (.setIdx (.var 1) (.idx (.var 4) (.ci 2)) (.cb true)) .nop)) ρ2 μ2 ⟨K, rt, ex⟩) K (ds.map encD) [some pd, some (.ref a), some (encDs ds), some s3, s4] μ := by
  refine for_ix (fun i ρ μ' => Kp a μ μ' ∧ DicN μ' a (addKs ks (nmDs (ds.take i))) ∧ ∃ o, ρ = [some pd, some (.ref a), some (encDs ds), some s3, o]) (fun _ _ _ _ => trivial) ?_ ?_ ⟨.refl, by simpa [nmDs, addKs] using h, _, rfl⟩
  · rintro i d hd ρ μ2 K' ⟨k2, h2, o, rfl⟩ hK
    obtain ⟨x, hx, rfl⟩ := map_get? hd
    have e := nmDs_take hx
    have hl : (addKs ks (nmDs (ds.take i))).length < 99000 ∨ True := .inr trivial
    have hi := (List.getElem?_eq_some_iff.mp hx).1
    have len : (addKs ks (nmDs (ds.take i))).length + 2 < 100000 := by
      have h1 := addKs_len (ks := ks) (l := nmDs (ds.take i))
      have h2 := nmDs_len (ds.take i)
      rw [List.length_take] at h2; omega
    have fin : ∀ μ3, Kp a μ2 μ3 → DicN μ3 a (addKs (addKs ks (nmDs (ds.take i))) (nmD x)) → K' [some pd, some (.ref a), some (encDs ds), some s3, some (encD x)] μ3 := fun μ3 k3 h3 => hK _ _ ⟨k2.trans k3, by rw [e, addKs_app]; exact h3, _, rfl⟩
    cases x with
    | put n i => exact put_nm h2 (by omega) (nay (fin _ (.set rfl) up_same))
    | copy n m => exact put_nm h2 (by omega) (yes (put_nm up_same (by have := addK_len (ks := addKs ks (nmDs (ds.take i))) (z := n); omega) (fin _ ((Kept.set (S := (· = a)) rfl).trans (.set rfl)) up_same)))
    | add n i => exact put_nm h2 (by omega) (nay (fin _ (.set rfl) up_same))
    | read n => exact put_nm h2 (by omega) (nay (fin _ (.set rfl) up_same))
    | tell n => exact put_nm h2 (by omega) (nay (fin _ (.set rfl) up_same))
  · rintro ρ μ2 ⟨k2, h2, o, rfl⟩
    rw [List.length_map, List.take_length] at h2
    exact hk o μ2 h2 k2
theorem pl_get {pl : Plan} {i : Nat} {d : D} (h : (pl.map encPc)[i]? = some d) : ∃ p, pl[i]? = some p ∧ d = .tup [encDs p.1, encEd p.2] := by
  obtain ⟨p, h1, rfl⟩ := map_get? h
  exact ⟨p, h1, rfl⟩
/-- a plan whose names are few -/
structure Few (pl : Plan) : Prop where
  len : pl.length ≤ 1000
  deeds : ∀ p ∈ pl, p.1.length ≤ 40
  names : (namesK pl).length < 64
theorem Few.all {pl : Plan} (h : Few pl) : (nmPl pl).length ≤ 81000 := by
  have h1 := nmPl_len (m := 40) h.deeds
  have h2 := h.len
  omega
theorem take_sub {α : Type} {l : List α} {n : Nat} {x : α} (h : x ∈ l.take n) : x ∈ l := List.mem_of_mem_take h
theorem Few.upto {pl : Plan} (h : Few pl) (i : Nat) : (nmPl (pl.take i)).length ≤ 81000 := by
  have h1 := nmPl_len (m := 40) (pl := pl.take i) fun p hp => h.deeds p (take_sub hp)
  have h2 := h.len
  rw [List.length_take] at h1
  omega
abbrev NamesOfS (F : Fn) : Prop := ∀ {pl : Plan} {μ : Sto} {Q : D → Sto → Prop} {X : EX}, Few pl → (∀ μ', Kn μ μ' → Q (.tup ((namesOf pl).map D.str)) μ') → F [encPl pl] μ Q X
theorem names_loop {G : Ctx} (hG : Mono G) {rt : D → Sto → Prop} {ex : EX} {pl : Plan} (hf : Few pl) {a : Nat} {K : Env → Sto → Prop} {tst : E} (h : DicN μ a [])
    (ht : ∀ (e : Ed) (ρ : Env) (μ : Sto) (k : D → Sto → Prop) (X : EX), ρ[3]? = some (some (encEd e)) → k (.bl (isTestE e)) μ → wpE G tst ρ μ k X)
    (hk : ∀ o2 o3 o4 μ', DicN μ' a (namesK pl) → Kp a μ μ' → K [some (encPl pl), some (.ref a), o2, o3, o4] μ') :
    forP (fun _ => True) (fun d ρ1 μ2 K => optP (matP (.cons (.v 2) (.cons (.v 3) .nil)) d ρ1) fun ρ2 => wpS G (.seq (.for (.v 4) .any (.cons (.var 2) .nil) (.seq (.setIdx (.var 1) (.idx (.var 4) (.ci 1)) (.cb true)) (.ite (.cmp .eq (.idx (.var 4) (.ci 0)) (.cs [99, 111, 112, 121])) (.setIdx (.var 1) (.idx (.var 4) (.ci 2)) (.cb true)) .nop))) (.ite tst (.setIdx (.var 1) (.idx (.var 3) (.ci 1)) (.cb true)) .nop)) ρ2 μ2 ⟨K, rt, ex⟩) K (pl.map encPc) [some (encPl pl), some (.ref a), none, none, none] μ := by
  refine for_ix (fun i ρ μ' => Kp a μ μ' ∧ DicN μ' a (addKs [] (nmPl (pl.take i))) ∧ ∃ o2 o3 o4, ρ = [some (encPl pl), some (.ref a), o2, o3, o4]) (fun _ _ _ _ => trivial) ?_ ?_ ⟨.refl, h, _, _, _, rfl⟩
  · rintro i d hd ρ μ2 K' ⟨k2, h2, o2, o3, o4, rfl⟩ hK
    obtain ⟨p, hp, rfl⟩ := pl_get hd
    have hm := List.mem_of_getElem? hp
    have l1 := hf.upto i
    have l2 := addKs_len (ks := []) (l := nmPl (pl.take i))
    have l3 := hf.deeds p hm
    rw [List.length_nil] at l2
    refine deeds_loop (pd := encPl pl) (s3 := encEd p.2) h2 (by omega) fun s4 μ3 h3 k3 => ?_
    refine ht p.2 _ _ _ _ rfl ?_
    have e : addKs [] (nmPl (pl.take (i + 1))) = addKs (addKs (addKs [] (nmPl (pl.take i))) (nmDs p.1)) (nmE p.2) := by
      rw [nmPl_take hp]
      show addKs [] (nmPl (pl.take i) ++ (nmDs p.1 ++ nmE p.2)) = _
      rw [addKs_app, addKs_app]
    cases h4 : p.2 with
    | stop => exact nay (hK _ _ ⟨k2.trans k3, by rw [e, h4]; exact h3, _, _, _, rfl⟩)
    | go q => exact nay (hK _ _ ⟨k2.trans k3, by rw [e, h4]; exact h3, _, _, _, rfl⟩)
    | test l n q y z =>
      have l4 := addKs_len (ks := addKs [] (nmPl (pl.take i))) (l := nmDs p.1)
      have l5 := nmDs_len p.1
      exact yes (put_nm h3 (by omega) (hK _ _ ⟨k2.trans (k3.trans (.set rfl)), by rw [e, h4]; exact up_same, _, _, _, rfl⟩))
  · rintro ρ μ2 ⟨k2, h2, o2, o3, o4, rfl⟩
    rw [List.length_map, List.take_length] at h2
    exact hk _ _ _ _ h2 k2
theorem names_of_ok {G : Ctx} (hG : Mono G) (hT : IsTestS (G.fn 180)) : NamesOfS (runF G f_names_of) := by
  intro pl μ Q X hf q
  refine ⟨rfl, ?_⟩
  show wpS G f_names_of.body [some (encPl pl), none, none, none, none] μ _
  intro a ha
  refine names_loop hG hf up_same (fun e ρ μ k X h hk => ?_) fun o2 o3 o4 μ' h' k' => ?_
  · exact opt_of (by unfold getV; rw [h]) (hT hk)
  · clean_wf
    refine sort_dic h' (by rw [keys_T]; exact sortable_nm hf.names) fun p hp => ?_
    refine tup_lst up_same ?_
    rw [keys_T, sort_nm]
    exact q _ (Kept.nw hp (Kept.none_set ha k'))
abbrev AllNamesS (F : Fn) : Prop := ∀ {pl : Plan} {μ : Sto} {Q : D → Sto → Prop} {X : EX}, Few pl → (∀ p μ', μ p = none → Kn μ μ' → μ' p = some (.lst ((namesOf pl).map D.str)) → Q (.ref p) μ') → F [encPl pl] μ Q X
theorem all_names_ok {G : Ctx} (hG : Mono G) : AllNamesS (runF G f_all_names) := by
  intro pl μ Q X hf q
  refine ⟨rfl, ?_⟩
  show wpS G f_all_names.body [some (encPl pl), none, none, none, none] μ _
  intro a ha
  refine names_loop hG hf up_same (fun e ρ μ k X h hk => ?_) fun o2 o3 o4 μ' h' k' => ?_
  · refine opt_of (x := encEd e) (by unfold getV; rw [h]) ?_
    cases e with
    | stop => exact hk
    | go p => exact hk
    | test l a n y z => exact hk
  · clean_wf
    refine sort_dic h' (by rw [keys_T]; exact sortable_nm hf.names) fun p hp => ?_
    rw [keys_T, sort_nm]
    have kn : Kn μ μ' := Kept.none_set ha k'
    exact q p _ (kn.none id hp) (Kept.nw hp kn) up_same
/-! ### reached pieces -/
def okWays (pl : Plan) : Prop := ∀ p ∈ pl, ∀ w ∈ waysE p.2, w < pl.length
theorem okEd_ways {ns : List Nm} {k : Nat} {e : Ed} (h : okEd ns k e) : ∀ w ∈ waysE e, w < k := by
  intro w hw
  cases e <;> simp only [waysE, List.mem_cons, List.not_mem_nil, or_false] at hw <;> simp only [okEd] at h
  · subst hw; exact h
  · rcases hw with rfl | rfl
    · exact h.2.2.1
    · exact h.2.2.2
theorem OkPl.ways {ns : List Nm} {m : Nat} {pl : Plan} (h : OkPl ns m pl) : okWays pl := fun p hp => okEd_ways (h.ends p hp)
/-- the ways on of a piece by its number -/
def waysAt (pl : Plan) (k : Nat) : List Nat := ((pl[k]?).map fun p => waysE p.2).getD []
inductive Reach (pl : Plan) : Nat → Prop
  | zero : Reach pl 0
  | step {k w : Nat} : Reach pl k → w ∈ waysAt pl k → Reach pl w
open Classical in
noncomputable def reachedOf (pl : Plan) : List Nat := (List.range pl.length).filter fun k => decide (Reach pl k)
theorem waysAt_lt {pl : Plan} (h : okWays pl) {k w : Nat} (hw : w ∈ waysAt pl k) : w < pl.length := by
  unfold waysAt at hw
  cases e : pl[k]? with
  | none => rw [e] at hw; simp at hw
  | some p => rw [e] at hw; exact h p (List.mem_of_getElem? e) w hw
theorem Reach.lt {pl : Plan} (h : okWays pl) (h0 : 0 < pl.length) {k : Nat} (r : Reach pl k) : k < pl.length := by
  cases r with
  | zero => exact h0
  | step _ hw => exact waysAt_lt h hw
open Classical in
theorem mem_reached {pl : Plan} (h : okWays pl) (h0 : 0 < pl.length) {k : Nat} : k ∈ reachedOf pl ↔ Reach pl k := by
  unfold reachedOf
  rw [List.mem_filter, List.mem_range, decide_eq_true_eq]
  exact ⟨fun h => h.2, fun r => ⟨r.lt h h0, r⟩⟩
theorem sortNt_id {l : List Nat} (h : l.Pairwise (· < ·)) : sortNt l = l := by
  have e := sortD_of ord_int (nt_int (l := l)) (.refl _) (List.pairwise_map.mpr (h.imp fun {a b} h => by rw [leB_nt]; exact decide_eq_true (Nat.le_of_lt h)))
  rw [sort_nt] at e
  exact (List.map_inj_right (f := encN) (fun a b e => by unfold encN at e; injection e with e; omega) |>.mp e).symm
theorem reached_pw {pl : Plan} : (reachedOf pl).Pairwise (· < ·) := List.pairwise_lt_range.filter _
/-- a list that has just the reached ones, sorted -/
theorem sort_reached {pl : Plan} (h : okWays pl) (h0 : 0 < pl.length) {l : List Nat} (nd : l.Nodup) (hl : ∀ k, k ∈ l ↔ Reach pl k) : sortNt l = reachedOf pl := by
  rw [← sortNt_id reached_pw]
  exact sortNt_eq ((List.perm_ext_iff_of_nodup nd (reached_pw.imp fun h => Nat.ne_of_lt h)).mpr fun k => by rw [hl, mem_reached h h0])
/-- all that is found, is reached; what is found and waits no more has its ways on found -/
structure Seek (pl : Plan) (found waits : List Nat) : Prop where
  nd : found.Nodup
  wnd : waits.Nodup
  zero : 0 ∈ found
  reach : ∀ k ∈ found, Reach pl k
  sub : ∀ k ∈ waits, k ∈ found
  done : ∀ k ∈ found, k ∈ waits ∨ ∀ w ∈ waysAt pl k, w ∈ found
theorem Seek.fin {pl : Plan} {found : List Nat} (s : Seek pl found []) : ∀ k, k ∈ found ↔ Reach pl k := fun k => ⟨s.reach k, fun r => by
  induction r with
  | zero => exact s.zero
  | step _ hw ih => exact ((s.done _ ih).resolve_left (by simp)) _ hw⟩
theorem sk_len {pl : Plan} {f w : List Nat} (s : Seek pl f w) : w.length ≤ f.length := nodup_le s.wnd s.sub
theorem seek_add {pl : Plan} {found new r : List Nat} {k w : Nat} (s : Seek pl (found ++ new) (k :: (r ++ new))) (hw : w ∈ waysAt pl k) (hn : w ∉ found ++ new) : Seek pl (found ++ (new ++ [w])) (k :: (r ++ (new ++ [w]))) := by
  have hk := s.sub k (List.mem_cons_self ..)
  rw [← List.append_assoc, ← List.append_assoc]
  refine ⟨List.nodup_append.mpr ⟨s.nd, by simp, fun x hx y hy => by rw [List.mem_singleton.mp hy]; exact fun z => by subst z; exact hn hx⟩, ?_, List.mem_append.mpr (.inl s.zero), fun x hx => ?_, fun x hx => ?_, fun x hx => ?_⟩
  · have e : (k :: (r ++ new ++ [w])) = (k :: (r ++ new)) ++ [w] := rfl
    rw [e]
    exact List.nodup_append.mpr ⟨s.wnd, by simp, fun x hx y hy => by rw [List.mem_singleton.mp hy]; exact fun z => by subst z; exact hn (s.sub x hx)⟩
  · rcases List.mem_append.mp hx with hx | hx
    · exact s.reach x hx
    · rw [List.mem_singleton.mp hx]; exact .step (s.reach k hk) hw
  · rcases List.mem_cons.mp hx with rfl | hx
    · exact List.mem_append.mpr (.inl hk)
    · rcases List.mem_append.mp hx with hx | hx
      · exact List.mem_append.mpr (.inl (s.sub x (List.mem_cons_of_mem _ hx)))
      · exact List.mem_append.mpr (.inr hx)
  · rcases List.mem_append.mp hx with hx | hx
    · rcases s.done x hx with h | h
      · left
        rcases List.mem_cons.mp h with rfl | h
        · exact List.mem_cons_self ..
        · exact List.mem_cons_of_mem _ (List.mem_append.mpr (.inl h))
      · exact .inr fun w hw => List.mem_append.mpr (.inl (h w hw))
    · exact .inl (List.mem_cons_of_mem _ (List.mem_append.mpr (.inr hx)))
theorem pl_idx {Q : D → Prop} {pl : Plan} {k : Nat} {p : Pc} (h : pl[k]? = some p) (q : Q (.tup [encDs p.1, encEd p.2])) : idxP (encPl pl) (encN k) μ Q := by
  have hk := (List.getElem?_eq_some_iff.mp h).1
  refine opt_of (x := encPc p) ?_ q
  unfold getI
  rw [ixN_of (by omega) (by rw [List.length_map]; omega)]
  show (pl.map encPc)[((k : Nat) : Int).toNat]? = _
  rw [Int.toNat_natCast, List.getElem?_map, h]; rfl
theorem waysAt_eq {pl : Plan} {k : Nat} {p : Pc} (h : pl[k]? = some p) : waysAt pl k = waysE p.2 := by unfold waysAt; rw [h]; rfl
theorem pl_some {pl : Plan} {k : Nat} (h : k < pl.length) : ∃ p, pl[k]? = some p := ⟨pl[k], List.getElem?_eq_getElem h⟩
abbrev ReachedS (F : Fn) : Prop := ∀ {pl : Plan} {μ : Sto} {Q : D → Sto → Prop} {X : EX}, okWays pl → 0 < pl.length → pl.length < 100000 → (∀ μ', Kn μ μ' → Q (.tup ((reachedOf pl).map encN)) μ') → F [encPl pl] μ Q X
theorem reached_ok {G : Ctx} (hG : Mono G) (hW : WaysS (G.fn 229)) : ReachedS (runF G f_reached) := by
  intro pl μ Q X hw h0 hz q
  refine ⟨rfl, ?_⟩
  show wpS G f_reached.body [some (encPl pl), none, none, none] μ _
  clean_wf
  refine opt_of rfl ⟨by decide, rfl, fun f hf => fun s hs => ?_⟩
  have nfs : f ≠ s := fun z => by subst z; rw [up_same] at hs; cases hs
  refine ⟨fun m ρ μ' => ∃ found waits : List Nat, ∃ o, m = 2 * (pl.length - found.length) + waits.length ∧ Seek pl found waits ∧ μ' f = some (.dF (encT encN found)) ∧ μ' s = some (.lst (waits.map encN)) ∧ Kn μ μ' ∧ ρ = [some (encPl pl), some (.ref f), some (.ref s), o],
    ⟨_, [0], [0], none, rfl, ⟨by simp, by simp, by simp, fun k hk => by rw [List.mem_singleton.mp hk]; exact .zero, fun k hk => hk, fun k hk => .inl hk⟩, up_old up_same hs, up_same, ?_, rfl⟩, ?_⟩
  · exact Kept.nw hs (Kept.nw hf .refl)
  have hms : μ s = none := by
    cases e : μ s with
    | none => rfl
    | some o => rw [up_old e hf] at hs; cases hs
  rintro m ρ μ1 ⟨found, waits, o, rfl, sk, e1, e2, kn, rfl⟩
  have fl : ∀ k ∈ found, k < pl.length := fun k hk => (sk.reach k hk).lt hw h0
  have flen : found.length ≤ pl.length := by
    have := nodup_le (m := List.range pl.length) sk.nd fun x hx => List.mem_range.mpr (fl x hx)
    rw [List.length_range] at this; exact this
  clean_wf
  refine len_lst e2 ?_
  clean_wf
  refine ⟨fun hc => ?_, fun hc => ?_⟩
  · have hc : 0 < waits.length := by have := of_decide_eq_true hc; rw [List.length_map] at this; omega
    have hl : waits ≠ [] := by intro z; subst z; simp at hc
    refine ⟨rdL_of e2 trivial, rdL_of e2 ?_⟩
    obtain ⟨r, k, rfl⟩ : ∃ r k, waits = r ++ [k] := ⟨waits.dropLast, waits.getLast hl, (List.dropLast_concat_getLast hl).symm⟩
    refine opt_of (x := encN k) (by simp) ?_
    rw [List.map_append, List.map_cons, List.map_nil, List.dropLast_concat]
    have hk := sk.sub k (by simp)
    obtain ⟨p, hp⟩ := pl_some (fl k hk)
    refine pl_idx hp ?_
    clean_wf
    refine hW ?_
    clean_wf
    refine for_ix (fun i ρ μ2 => ∃ new : List Nat, ∃ o, Seek pl (found ++ new) (k :: (r ++ new)) ∧ (∀ w ∈ (waysE p.2).take i, w ∈ found ++ new) ∧ μ2 f = some (.dF (encT encN (found ++ new))) ∧ μ2 s = some (.lst ((r ++ new).map encN)) ∧ Kn μ μ2 ∧ ρ = [some (encPl pl), some (.ref f), some (.ref s), o]) (fun _ _ _ _ => trivial) ?_ ?_ ?_
    · rintro i d hd ρ μ2 K' ⟨new, o, sk2, tk, e3, e4, kn2, rfl⟩ hK
      obtain ⟨w, hwi, rfl⟩ := map_get? hd
      have hwm : w ∈ waysAt pl k := by rw [waysAt_eq hp]; exact List.mem_of_getElem? hwi
      have tk' : ∀ z ∈ (waysE p.2).take (i + 1), z ∈ (waysE p.2).take i ∨ z = w := fun z hz => by
        rw [List.take_add_one, hwi] at hz
        rcases List.mem_append.mp hz with hz | hz
        · exact .inl hz
        · exact .inr (by simpa using hz)
      have fl2 : (found ++ new).length ≤ pl.length := by
        have := nodup_le (m := List.range pl.length) sk2.nd fun x hx => List.mem_range.mpr ((sk2.reach x hx).lt hw h0)
        rw [List.length_range] at this; exact this
      refine ite_v hG (b := !decide (w ∈ found ++ new)) (vl (by clean_wf; exact cnotin_dic e3 rfl ⟨congrArg (fun b => D.bl (!b)) (dget_T eqb_nt), trivial⟩)) (fun hn => ?_) fun hn => ?_
      · have hn : w ∉ found ++ new := by simpa using hn
        clean_wf
        refine setIdx_dic e3 rfl (by unfold encT; rw [List.length_map]; simp [sizeMax]; rw [List.length_append] at fl2; omega) ?_
        rw [dput_T eqb_nt]
        have e5 : (upd μ2 f (.dF (encT encN (addK (found ++ new) w)))) s = some (.lst ((r ++ new).map encN)) := by rw [up_ne (Ne.symm nfs)]; exact e4
        refine ⟨rdL_of e5 trivial, app_lst e5 (by rw [List.length_map, List.length_append]; rw [List.length_append] at fl2; have := sk_len sk2; simp only [List.length_append, List.length_cons] at this; unfold sizeMax; omega) ?_⟩
        have ea : addK (found ++ new) w = found ++ (new ++ [w]) := by unfold addK; rw [if_neg hn, List.append_assoc]
        refine hK _ _ ⟨new ++ [w], _, ?_, fun z hz => ?_, ?_, ?_, ?_, rfl⟩
        · exact seek_add sk2 hwm hn
        · rw [← List.append_assoc, List.mem_append, List.mem_singleton]
          exact (tk' z hz).imp (tk z) id
        · rw [up_ne nfs, up_same, ea]
        · rw [up_same, List.map_append, List.map_append, List.map_append, List.append_assoc]; rfl
        · exact Kept.loc hms (Kept.loc hf kn2)
      · have hn : w ∈ found ++ new := by rw [Bool.not_eq_false'] at hn; exact of_decide_eq_true hn
        exact hK _ _ ⟨new, _, sk2, fun z hz => (tk' z hz).elim (tk z) fun e => by rw [e]; exact hn, e3, e4, kn2, rfl⟩
    · rintro ρ μ2 ⟨new, o, sk2, tk, e3, e4, kn2, rfl⟩
      rw [List.length_map, List.take_length] at tk
      have fl2 : (found ++ new).length ≤ pl.length := by
        have := nodup_le (m := List.range pl.length) sk2.nd fun x hx => List.mem_range.mpr ((sk2.reach x hx).lt hw h0)
        rw [List.length_range] at this; exact this
      refine ⟨2 * (pl.length - (found ++ new).length) + (r ++ new).length, ?_, found ++ new, r ++ new, o, rfl, ⟨sk2.nd, (List.nodup_cons.mp sk2.wnd).2, sk2.zero, sk2.reach, fun z hz => sk2.sub z (List.mem_cons_of_mem _ hz), fun z hz => ?_⟩, e3, e4, kn2, rfl⟩
      · simp only [List.length_append] at fl2 ⊢
        simp only [List.length_cons, List.length_nil]; omega
      · rcases sk2.done z hz with h | h
        · rcases List.mem_cons.mp h with rfl | h
          · exact .inr fun w hw => tk w (by rw [← waysAt_eq hp]; exact hw)
          · exact .inl h
        · exact .inr h
    · refine ⟨[], _, ⟨?_, ?_, ?_, ?_, ?_, ?_⟩, by simp, ?_, ?_, ?_, rfl⟩
      · simpa using sk.nd
      · rw [List.append_nil]
        exact (List.perm_append_comm (l₁ := r) (l₂ := [k])).nodup_iff.mp sk.wnd
      · simpa using sk.zero
      · simpa using sk.reach
      · intro z hz
        rw [List.append_nil]
        refine sk.sub z ?_
        rw [List.append_nil] at hz
        rcases List.mem_cons.mp hz with rfl | hz <;> simp_all
      · intro z hz
        rw [List.append_nil] at hz
        rw [List.append_nil, List.append_nil]
        refine (sk.done z hz).imp (fun h => ?_) id
        rcases List.mem_append.mp h with h | h <;> simp_all
      · rw [up_ne nfs, List.append_nil]; exact e1
      · rw [List.append_nil]; exact up_same
      · exact Kept.loc hms kn
  · have hc : waits = [] := by
      have := of_decide_eq_false hc; rw [List.length_map] at this
      cases waits with
      | nil => rfl
      | cons _ _ => simp at this
    subst hc
    clean_wf
    refine sort_dic e1 (by rw [keys_T]; exact sortable_nt) fun p hp => ?_
    refine tup_lst up_same ?_
    rw [keys_T, sort_nt, sort_reached hw h0 sk.nd sk.fin]
    exact q _ (Kept.nw hp kn)
/-! ### heads -/
def headW (pl : Plan) (k : Nat) : List Nat := (waysAt pl k).filter fun w => decide (w ≤ k)
def headKs (pl : Plan) (l : List Nat) : List Nat := addKs [] (l.flatMap (headW pl))
noncomputable def headsOf (pl : Plan) : List Nat := sortNt (headKs pl (reachedOf pl))
theorem mem_heads {pl : Plan} (hw : okWays pl) (h0 : 0 < pl.length) {h : Nat} : h ∈ headsOf pl ↔ ∃ k, Reach pl k ∧ h ∈ waysAt pl k ∧ h ≤ k := by
  unfold headsOf headKs
  rw [show (h ∈ sortNt (addKs [] ((reachedOf pl).flatMap (headW pl))) ↔ h ∈ addKs [] ((reachedOf pl).flatMap (headW pl))) from (isort_perm).mem_iff, mem_addKs, List.mem_flatMap]
  simp only [List.not_mem_nil, false_or, headW, List.mem_filter, decide_eq_true_eq, mem_reached hw h0]
theorem heads_nodup {pl : Plan} : (headsOf pl).Nodup := (isort_perm (le := leNt)).nodup_iff.mpr (nodup_addKs .nil)
theorem flat_take {f : Nat → List Nat} {l : List Nat} {i k : Nat} (h : l[i]? = some k) : (l.take (i + 1)).flatMap f = (l.take i).flatMap f ++ f k := by
  rw [List.take_add_one, h, List.flatMap_append]; simp
theorem waysAt_len {pl : Plan} {k : Nat} : (waysAt pl k).length ≤ 2 := by
  unfold waysAt
  cases pl[k]? with
  | none => simp
  | some p => cases h : p.2 <;> simp [waysE, h]
theorem heads_inner {G : Ctx} (hG : Mono G) {rt : D → Sto → Prop} {ex : EX} {chk : Sto → Prop} {P0 : D} {ws ks : List Nat} {f k : Nat} {o3 : Option D} {K : Env → Sto → Prop} (hc : ∀ μ', Kp f μ μ' → chk μ') (h : μ f = some (.dF (encT encN ks))) (hz : ks.length + ws.length < 100000)
    (hk : ∀ o3 μ', Kp f μ μ' → μ' f = some (.dF (encT encN (addKs ks (ws.filter fun w => decide (w ≤ k))))) → K [some P0, some (.ref f), some (encN k), o3] μ') :
    forP chk (fun d ρ1 μ2 K => optP (matP (.v 3) d ρ1) fun ρ2 => wpS G (.ite (.cmp .le (.var 3) (.var 2)) (.setIdx (.var 1) (.var 3) (.cb true)) .nop) ρ2 μ2 ⟨K, rt, ex⟩) K (ws.map encN) [some P0, some (.ref f), some (encN k), o3] μ := by
  refine for_ix (fun i ρ μ' => Kp f μ μ' ∧ μ' f = some (.dF (encT encN (addKs ks ((ws.take i).filter fun w => decide (w ≤ k))))) ∧ ∃ o, ρ = [some P0, some (.ref f), some (encN k), o]) (fun i ρ μ' h => hc _ h.1) ?_ ?_ ⟨.refl, by simpa [addKs] using h, _, rfl⟩
  · rintro i d hd ρ μ2 K' ⟨k2, h2, o, rfl⟩ hK
    obtain ⟨w, hw, rfl⟩ := map_get? hd
    have hi := (List.getElem?_eq_some_iff.mp hw).1
    have e : (ws.take (i + 1)).filter (fun w => decide (w ≤ k)) = (ws.take i).filter (fun w => decide (w ≤ k)) ++ [w].filter fun w => decide (w ≤ k) := by
      rw [List.take_add_one, hw, List.filter_append]; rfl
    have l1 : (addKs ks ((ws.take i).filter fun w => decide (w ≤ k))).length < 100000 := by
      have h1 := addKs_len (ks := ks) (l := (ws.take i).filter fun w => decide (w ≤ k))
      have h2 := List.length_filter_le (fun w => decide (w ≤ k)) (ws.take i)
      rw [List.length_take] at h2; omega
    refine ⟨fun hle => ?_, fun hle => ?_⟩
    · have hle : w ≤ k := by have : (w : Int) ≤ k := of_decide_eq_true hle; omega
      refine setIdx_dic (x := encN w) h2 rfl (by unfold encT; rw [List.length_map]; unfold sizeMax; omega) ?_
      rw [dput_T eqb_nt]
      refine hK _ _ ⟨k2.trans (.set rfl), ?_, _, rfl⟩
      rw [up_same, e, addKs_app, List.filter_cons, if_pos (decide_eq_true hle)]; rfl
    · have hle : ¬ w ≤ k := by have : ¬ (w : Int) ≤ k := of_decide_eq_false hle; omega
      refine hK _ _ ⟨k2, ?_, _, rfl⟩
      rw [h2, e, List.filter_cons, if_neg (by simpa using hle)]; simp
  · rintro ρ μ2 ⟨k2, h2, o, rfl⟩
    rw [List.length_map, List.take_length] at h2
    exact hk _ _ k2 h2
theorem heads_len {pl : Plan} : ∀ {l : List Nat}, (l.flatMap (headW pl)).length ≤ 2 * l.length
  | [] => by simp
  | k :: r => by
    have h1 := heads_len (pl := pl) (l := r)
    have h2 := List.length_filter_le (fun w => decide (w ≤ k)) (waysAt pl k)
    have h3 := waysAt_len (pl := pl) (k := k)
    rw [List.flatMap_cons, List.length_append, List.length_cons]
    have h2 : (headW pl k).length ≤ (waysAt pl k).length := h2
    omega
theorem reached_len {pl : Plan} : (reachedOf pl).length ≤ pl.length := by
  have := List.length_filter_le (fun k => (Classical.propDecidable (Reach pl k)).decide) (List.range pl.length)
  rw [List.length_range] at this
  exact this
abbrev HeadsS (F : Fn) : Prop := ∀ {pl : Plan} {μ : Sto} {Q : D → Sto → Prop} {X : EX}, okWays pl → 0 < pl.length → pl.length < 10000 → (∀ μ', Kn μ μ' → Q (.tup ((headsOf pl).map encN)) μ') → F [encPl pl] μ Q X
theorem heads_ok {G : Ctx} (hG : Mono G) (hW : WaysS (G.fn 229)) (hR : ReachedS (G.fn 208)) : HeadsS (runF G f_heads) := by
  intro pl μ Q X hw h0 hz q
  refine ⟨rfl, ?_⟩
  show wpS G f_heads.body [some (encPl pl), none, none, none] μ _
  intro f hf
  refine hR hw h0 (by omega) fun μ1 k1 => ?_
  have e1 := k1 f _ id up_same
  have kn1 : Kn μ μ1 := (Kept.new hf).trans k1
  refine for_ix (fun i ρ μ' => Kn μ μ' ∧ μ' f = some (.dF (encT encN (headKs pl ((reachedOf pl).take i)))) ∧ ∃ o2 o3, ρ = [some (encPl pl), some (.ref f), o2, o3]) (fun _ _ _ _ => trivial) ?_ ?_ ⟨kn1, e1, _, _, rfl⟩
  · rintro i d hd ρ μ2 K' ⟨kn2, e2, o2, o3, rfl⟩ hK
    obtain ⟨k, hk, rfl⟩ := map_get? hd
    have hkl := ((mem_reached hw h0).mp (List.mem_of_getElem? hk)).lt hw h0
    obtain ⟨p, hp⟩ := pl_some hkl
    clean_wf
    refine pl_idx hp ?_
    clean_wf
    refine hW ?_
    clean_wf
    have l2 : (headKs pl ((reachedOf pl).take i)).length ≤ 2 * pl.length := by
      have h1 := addKs_len (ks := []) (l := ((reachedOf pl).take i).flatMap (headW pl))
      have h2 := heads_len (pl := pl) (l := (reachedOf pl).take i)
      have h3 := reached_len (pl := pl)
      rw [List.length_take] at h2
      show (addKs [] _).length ≤ _
      rw [List.length_nil] at h1
      omega
    have l3 := waysAt_len (pl := pl) (k := k)
    rw [waysAt_eq hp] at l3
    refine heads_inner hG (P0 := encPl pl) (fun _ _ => trivial) e2 (by omega) fun o3 μ3 k3 e3 => hK _ _ ⟨Kept.via hf kn2 k3, ?_, _, _, rfl⟩
    rw [e3]
    unfold headKs
    rw [flat_take hk, addKs_app]
    unfold headW
    rw [waysAt_eq hp]
  · rintro ρ μ2 ⟨kn2, e2, o2, o3, rfl⟩
    rw [List.length_map, List.take_length] at e2
    clean_wf
    refine sort_dic e2 (by rw [keys_T]; exact sortable_nt) fun p hp => ?_
    refine tup_lst up_same ?_
    rw [keys_T, sort_nt]
    exact q _ (Kept.nw hp kn2)
/-! ### the same, as the laws have them -/
/-- all ahead of at have their ways on found -/
structure Seek2 (pl : Plan) (found : List Nat) (at_ : Nat) : Prop where
  nd : found.Nodup
  zero : 0 ∈ found
  reach : ∀ k ∈ found, Reach pl k
  done : ∀ j k, j < at_ → found[j]? = some k → ∀ w ∈ waysAt pl k, w ∈ found
theorem Seek2.fin {pl : Plan} {found : List Nat} {n : Nat} (s : Seek2 pl found n) (h : found.length ≤ n) : ∀ k, k ∈ found ↔ Reach pl k := fun k => ⟨s.reach k, fun r => by
  induction r with
  | zero => exact s.zero
  | step _ hw ih =>
    obtain ⟨j, hj⟩ := List.mem_iff_getElem?.mp ih
    exact s.done j _ (by have := (List.getElem?_eq_some_iff.mp hj).1; omega) hj _ hw⟩
theorem Seek2.le {pl : Plan} {found : List Nat} {n : Nat} (s : Seek2 pl found n) (hw : okWays pl) (h0 : 0 < pl.length) : found.length ≤ pl.length := by
  have := nodup_le (m := List.range pl.length) s.nd fun x hx => List.mem_range.mpr ((s.reach x hx).lt hw h0)
  rw [List.length_range] at this; exact this
theorem Seek2.add {pl : Plan} {found : List Nat} {n k w : Nat} (s : Seek2 pl found n) (hk : Reach pl k) (hw : w ∈ waysAt pl k) (hn : w ∉ found) (hl : n ≤ found.length) : Seek2 pl (found ++ [w]) n :=
  ⟨List.nodup_append.mpr ⟨s.nd, by simp, fun x hx y hy => by rw [List.mem_singleton.mp hy]; exact fun z => by subst z; exact hn hx⟩, List.mem_append.mpr (.inl s.zero), fun x hx => (List.mem_append.mp hx).elim (s.reach x) fun h => by rw [List.mem_singleton.mp h]; exact .step hk hw,
    fun j k hj e w hw => by
      rw [List.getElem?_append_left (by omega)] at e
      exact List.mem_append.mpr (.inl (s.done j k hj e w hw))⟩
theorem nts_ok {ks : List Nat} : (ks.map encN).all (D.ok 60) = true := by
  rw [List.all_eq_true]; intro x hx; obtain ⟨n, _, rfl⟩ := List.mem_map.mp hx; rfl
theorem any_nt {ks : List Nat} {w : Nat} : (ks.map encN).any (fun y => D.eqb y (encN w)) = decide (w ∈ ks) := by
  rw [Bool.eq_iff_iff, List.any_map, List.any_eq_true]
  simp only [Function.comp, eqb_nt, decide_eq_true_eq]
  constructor
  · rintro ⟨x, h, rfl⟩; exact h
  · exact fun h => ⟨w, h, rfl⟩
theorem nt_at {Q : D → Prop} {ks : List Nat} {j k : Nat} (h : μ a = some (.lst (ks.map encN))) (e : ks[j]? = some k) (q : Q (encN k)) : idxP (.ref a) (encN j) μ Q := by
  have hk := (List.getElem?_eq_some_iff.mp e).1
  refine idx_lst h ?_ q
  unfold getI
  rw [ixN_of (by omega) (by rw [List.length_map]; omega)]
  show (ks.map encN)[((j : Nat) : Int).toNat]? = _
  rw [Int.toNat_natCast, List.getElem?_map, e]; rfl
abbrev ReachedLS (F : Fn) : Prop := ∀ {pl : Plan} {μ : Sto} {Q : D → Sto → Prop} {X : EX}, okWays pl → 0 < pl.length → pl.length < 100000 → (∀ p μ', μ p = none → Kn μ μ' → μ' p = some (.lst ((reachedOf pl).map encN)) → Q (.ref p) μ') → F [encPl pl] μ Q X
theorem reachedL_ok {G : Ctx} (hG : Mono G) (hW : WaysLS (G.fn 150)) : ReachedLS (runF G fl_reached) := by
  intro pl μ Q X hw h0 hz q
  refine ⟨rfl, ?_⟩
  show wpS G fl_reached.body [some (encPl pl), none, none, none] μ _
  clean_wf
  intro f hf
  clean_wf
  refine ⟨fun m ρ μ' => ∃ found : List Nat, ∃ n : Nat, ∃ o, m = pl.length - n ∧ n ≤ found.length ∧ Seek2 pl found n ∧ μ' f = some (.lst (found.map encN)) ∧ Kn μ μ' ∧ ρ = [some (encPl pl), some (.ref f), some (encN n), o],
    ⟨_, [0], 0, none, rfl, by simp, ⟨by simp, by simp, fun k hk => by rw [List.mem_singleton.mp hk]; exact .zero, fun j k hj => absurd hj (by omega)⟩, up_same, Kept.nw hf .refl, rfl⟩, ?_⟩
  rintro m ρ μ1 ⟨found, n, o, rfl, hn, sk, e1, kn, rfl⟩
  have fl := sk.le hw h0
  clean_wf
  refine len_lst e1 ?_
  refine ⟨fun hc => ?_, fun hc => ?_⟩
  · have hc : n < found.length := by have : (n : Int) < (found.map encN).length := of_decide_eq_true hc; rw [List.length_map] at this; omega
    obtain ⟨k, hk⟩ : ∃ k, found[n]? = some k := ⟨found[n], List.getElem?_eq_getElem hc⟩
    have rk := sk.reach k (List.mem_of_getElem? hk)
    obtain ⟨p, hp⟩ := pl_some (rk.lt hw h0)
    clean_wf
    refine nt_at e1 hk ?_
    refine pl_idx hp ?_
    clean_wf
    refine hW fun s hs => ?_
    clean_wf
    have nfs : f ≠ s := ne_new e1 hs
    refine rdL_of up_same ?_
    refine for_ix (fun i ρ μ2 => ∃ found : List Nat, ∃ o, n < found.length ∧ found[n]? = some k ∧ Seek2 pl found n ∧ (∀ w ∈ (waysE p.2).take i, w ∈ found) ∧ μ2 f = some (.lst (found.map encN)) ∧ μ2 s = some (.lst ((waysE p.2).map encN)) ∧ Kn μ μ2 ∧ ρ = [some (encPl pl), some (.ref f), some (encN n), o]) ?_ ?_ ?_ ⟨found, _, hc, hk, sk, by simp, up_old e1 hs, up_same, Kept.nw hs kn, rfl⟩
    · rintro i ρ μ' ⟨_, _, _, _, _, _, _, h, _⟩; exact h
    · rintro i d hd ρ μ2 K' ⟨found, o, hl, hk, sk, tk, e2, e3, kn2, rfl⟩ hK
      obtain ⟨w, hwi, rfl⟩ := map_get? hd
      have hwm : w ∈ waysAt pl k := by rw [waysAt_eq hp]; exact List.mem_of_getElem? hwi
      have tk' : ∀ z ∈ (waysE p.2).take (i + 1), z ∈ (waysE p.2).take i ∨ z = w := fun z hz => by
        rw [List.take_add_one, hwi] at hz
        rcases List.mem_append.mp hz with hz | hz
        · exact .inl hz
        · exact .inr (by simpa using hz)
      have fl := sk.le hw h0
      clean_wf
      refine ite_v hG (b := !decide (w ∈ found)) (vl (by clean_wf; exact notin_lst e2 rfl nts_ok ⟨congrArg (fun b => D.bl (!b)) any_nt, trivial⟩)) (fun hn => ?_) fun hn => ?_
      · have hn : w ∉ found := by simpa using hn
        clean_wf
        refine ⟨rdL_of e2 trivial, app_lst e2 (by rw [List.length_map]; unfold sizeMax; omega) ?_⟩
        refine hK _ _ ⟨found ++ [w], _, by simp; omega, by rw [List.getElem?_append_left hl]; exact hk, sk.add rk hwm hn (by omega), fun z hz => ?_, by rw [up_same, List.map_append]; rfl, by rw [up_ne (Ne.symm nfs)]; exact e3, Kept.loc hf kn2, rfl⟩
        rw [List.mem_append, List.mem_singleton]
        exact (tk' z hz).imp (tk z) id
      · have hn : w ∈ found := by rw [Bool.not_eq_false'] at hn; exact of_decide_eq_true hn
        exact hK _ _ ⟨found, _, hl, hk, sk, fun z hz => (tk' z hz).elim (tk z) fun e => by rw [e]; exact hn, e2, e3, kn2, rfl⟩
    · rintro ρ μ2 ⟨found, o, hl, hk, sk, tk, e2, e3, kn2, rfl⟩
      rw [List.length_map, List.take_length] at tk
      have fl := sk.le hw h0
      clean_wf
      refine ⟨pl.length - (n + 1), by omega, found, n + 1, o, rfl, hl, ⟨sk.nd, sk.zero, sk.reach, fun j k' hj e w hw => ?_⟩, e2, kn2, rfl⟩
      by_cases hjn : j = n
      · subst hjn
        rw [hk] at e; cases e
        exact tk w (by rw [← waysAt_eq hp]; exact hw)
      · exact sk.done j k' (by omega) e w hw
  · have hc : ¬ n < found.length := by have : ¬ (n : Int) < (found.map encN).length := of_decide_eq_false hc; rw [List.length_map] at this; omega
    clean_wf
    refine sort_lst e1 sortable_nt fun p hp => ?_
    rw [sort_nt, sort_reached hw h0 sk.nd (sk.fin (by omega))]
    exact q p _ (kn.none id hp) (Kept.nw hp kn) up_same
abbrev HeadsLS (F : Fn) : Prop := ∀ {pl : Plan} {μ : Sto} {Q : D → Sto → Prop} {X : EX}, okWays pl → 0 < pl.length → pl.length < 10000 → (∀ p μ', μ p = none → Kn μ μ' → μ' p = some (.lst ((headsOf pl).map encN)) → Q (.ref p) μ') → F [encPl pl] μ Q X
theorem headsL_ok {G : Ctx} (hG : Mono G) (hW : WaysLS (G.fn 150)) (hR : ReachedLS (G.fn 117)) : HeadsLS (runF G fl_heads) := by
  intro pl μ Q X hw h0 hz q
  refine ⟨rfl, ?_⟩
  show wpS G fl_heads.body [some (encPl pl), none, none, none] μ _
  intro f hf
  refine hR hw h0 (by omega) fun r μ1 hr k1 er => ?_
  have e1 := k1 f _ id up_same
  have kn1 : Kn μ μ1 := (Kept.new hf).trans k1
  have nfr : f ≠ r := ne_new up_same hr
  refine rdL_of er ?_
  refine for_ix (fun i ρ μ' => Kn μ μ' ∧ μ' r = some (.lst ((reachedOf pl).map encN)) ∧ μ' f = some (.dF (encT encN (headKs pl ((reachedOf pl).take i)))) ∧ ∃ o2 o3, ρ = [some (encPl pl), some (.ref f), o2, o3]) (fun _ _ _ h => h.2.1) ?_ ?_ ⟨kn1, er, e1, _, _, rfl⟩
  · rintro i d hd ρ μ2 K' ⟨kn2, er2, e2, o2, o3, rfl⟩ hK
    obtain ⟨k, hk, rfl⟩ := map_get? hd
    have hkl := ((mem_reached hw h0).mp (List.mem_of_getElem? hk)).lt hw h0
    obtain ⟨p, hp⟩ := pl_some hkl
    clean_wf
    refine pl_idx hp ?_
    clean_wf
    refine hW fun s hs => ?_
    clean_wf
    refine rdL_of up_same ?_
    have l2 : (headKs pl ((reachedOf pl).take i)).length ≤ 2 * pl.length := by
      have h1 := addKs_len (ks := []) (l := ((reachedOf pl).take i).flatMap (headW pl))
      have h2 := heads_len (pl := pl) (l := (reachedOf pl).take i)
      have h3 := reached_len (pl := pl)
      rw [List.length_take] at h2
      show (addKs [] _).length ≤ _
      rw [List.length_nil] at h1
      omega
    have l3 := waysAt_len (pl := pl) (k := k)
    rw [waysAt_eq hp] at l3
    have nfs : f ≠ s := ne_new e2 hs
    refine heads_inner hG (P0 := encPl pl) (fun μ' k' => k' s _ (Ne.symm nfs) up_same) (up_old e2 hs) (by omega) fun o3 μ3 k3 e3 => hK _ _ ⟨Kept.via hf (Kept.nw hs kn2) k3, k3 r _ (Ne.symm nfr) (up_old er2 hs), ?_, _, _, rfl⟩
    rw [e3]
    unfold headKs
    rw [flat_take hk, addKs_app]
    unfold headW
    rw [waysAt_eq hp]
  · rintro ρ μ2 ⟨kn2, er2, e2, o2, o3, rfl⟩
    rw [List.length_map, List.take_length] at e2
    clean_wf
    refine sort_dic e2 (by rw [keys_T]; exact sortable_nt) fun p hp => ?_
    rw [keys_T, sort_nt]
    exact q p _ (kn2.none id hp) (Kept.nw hp kn2) up_same
end MP

set_option linter.all false
set_option maxRecDepth 100000
set_option maxHeartbeats 1000000
set_option Elab.async false
/-! F7: equal data; lists made without a change. -/
namespace MP
local macro_rules
  | `(tactic| clean_wf) => `(tactic| simp only [ws_set, ws_set1, ws_ret, ws_nop, ws_exp, ws_exp1, ws_sidx, ws_sidx1, ws_satt, ws_satt1, ws_aat, ws_aat1, ws_avar, ws_avar1, augK_int, ws_for, ws_forS, wpE, wpA, opt_some, gv_0, gv_s, matP, List.set, b_add, b_addS, b_addT, b_sub, b_mul, b_div, b_mod, b_pow, c_len, c_lenT, c_int, c_intB, c_abs, c_min, c_max, c_tupT, c_eqI, c_neI, c_eqS, c_neS, c_lt, c_le, c_gt, c_ge, c_is, c_isnot, c_isB, c_isnotB, c_idxT, g_0, g_1, g_2, g_3, g_4, g_5, g_6, o_non, o_int, Bool.not_true, Bool.not_false, br_t, br_f, c_itA, c_itT, c_itS])
local macro_rules
  | `(tactic| sizeOf_list_dec) => `(tactic| first
    | assumption
    | exact Ne.symm (by assumption)
    | exact ne_new (by assumption) (by assumption)
    | exact Ne.symm (ne_new (by assumption) (by assumption))
    | exact BagAt.ne (by assumption) (by assumption)
    | exact Ne.symm (BagAt.ne (by assumption) (by assumption))
    | exact id)
local macro_rules
  | `(tactic| array_mem_dec) => `(tactic| first
    | assumption
    | exact up_same
    | (refine (up_ne (by sizeOf_list_dec)).trans ?_; array_mem_dec)
    | (refine (by assumption : Kept _ _ _) _ _ (by sizeOf_list_dec) ?_; array_mem_dec)
    | (refine BagAt.new ?_ (by assumption); array_mem_dec)
    | (refine BagAt.off ?_ (by sizeOf_list_dec); array_mem_dec)
    | (refine BagAt.keep ?_ (by assumption) (by sizeOf_list_dec); array_mem_dec)
    | exact Kept.refl
    | exact Kept.new (by assumption)
    | (refine Kept.trans ?_ (by assumption); array_mem_dec)
    | (refine Kept.loc (by assumption) ?_; array_mem_dec)
    | (refine Kept.nw (by assumption) ?_; array_mem_dec))
variable {μ μ' μ1 μ2 : Sto} {a b p q : Nat} {l : List D} {i : Int} {x y d : D} {o : Ob} {ρ : Env}
theorem comp_tyM {α : Type} {chk : Sto → Prop} {turn : D → Sto → (Option D → Sto → Prop) → Prop} {K : List D → Sto → Prop} (enc : α → D) (P : α → Prop) (f : Nat → α) {l : List D} (hc : chk μ)
    (ht : ∀ i d, l[i]? = some d → P (f i) ∧ ∀ K' : Option D → Sto → Prop, K' (some (enc (f i))) μ → turn d μ K') (hz : l.length ≤ sizeMax) (hk : (∀ i, i < l.length → P (f i)) → K ((List.range l.length).map fun i => enc (f i)) μ) : compP chk turn K l [] μ := by
  refine comp_ix (fun i acc μ' => μ' = μ ∧ acc = (List.range i).map (fun i => enc (f i)) ∧ ∀ j, j < i → P (f j)) (fun i acc μ' h => by rw [h.1]; exact hc) ?_ ?_ (by simpa using hz) ⟨rfl, rfl, fun j hj => absurd hj (by omega)⟩
  · rintro i d hd acc μ' K' ⟨rfl, rfl, h⟩ k1 k2
    obtain ⟨p, t⟩ := ht i d hd
    refine t _ (k1 _ _ ⟨rfl, ?_, fun j hj => ?_⟩)
    · rw [List.range_succ, List.map_append]; rfl
    · by_cases e : j = i
      · subst e; exact p
      · exact h j (by omega)
  · rintro acc μ' ⟨rfl, rfl, h⟩
    exact hk h
theorem letter_k {r : Int} (h0 : 0 ≤ r) (h1 : r < 26) {Q : D → Prop} (q : Q (.str [97 + r.toNat])) : idxP (.str lettersC) (.int r) μ Q := by
  refine ⟨by decide, opt_of (x := 97 + r.toNat) ?_ q⟩
  unfold getI
  rw [ixN_of h0 (by simpa [lettersC] using h1)]
  have : ∀ n : Nat, n < 26 → lettersC[n]? = some (97 + n) := by decide
  exact this _ (by omega)
mutual
theorem eqb_refl : ∀ {n : Nat} {d : D}, D.ok n d = true → D.eqb d d = true
  | 0, _, h => by simp [D.ok] at h
  | n + 1, .tup xs, h => by
    have h : xs.all (D.ok n) = true := by simpa [D.ok] using h
    exact eqbs_refl h
  | n + 1, .non, _ => rfl
  | n + 1, .bl b, _ => by show (b == b) = true; simp
  | n + 1, .int b, _ => by show (b == b) = true; simp
  | n + 1, .str b, _ => by show (b == b) = true; simp
  | n + 1, .ref _, h => by simp [D.ok] at h
  | n + 1, .scr _, h => by simp [D.ok] at h
theorem eqbs_refl : ∀ {n : Nat} {ds : List D}, ds.all (D.ok n) = true → D.eqbs ds ds = true
  | _, [], _ => rfl
  | n, d :: r, h => by
    rw [List.all_cons, Bool.and_eq_true] at h
    show (D.eqb d d && D.eqbs r r) = true
    rw [eqb_refl h.1, eqbs_refl h.2]; rfl
end
theorem eq_self {k : Bool → Prop} (h : D.ok 60 x = true) (q : k true) : eqP x x μ k := by
  unfold eqP
  cases e : isFl x && isFl x with
  | true => show k (D.eqb x x); rw [eqb_refl h]; exact q
  | false => exact .inl ⟨h, h, by rw [eqb_refl h]; exact q⟩
theorem ceq_self {k : Bool → Prop} (h : D.ok 60 x = true) (q : k true) : cmpP .eq x x μ k := eq_self h q
theorem cne_self {k : Bool → Prop} (h : D.ok 60 x = true) (q : k false) : cmpP .ne x x μ k := eq_self (k := fun b => k (!b)) h q
theorem nts_tup {ks : List Nat} : D.ok 60 (.tup (ks.map encN)) = true := by
  show (ks.map encN).all (D.ok 59) = true
  rw [List.all_eq_true]; intro x hx; obtain ⟨n, _, rfl⟩ := List.mem_map.mp hx; rfl
theorem nms_tup {ks : List Nm} (h : ∀ z ∈ ks, okNm z) : D.ok 60 (.tup (ks.map D.str)) = true := by
  show (ks.map D.str).all (D.ok 59) = true
  rw [List.all_eq_true]; intro x hx; obtain ⟨n, hn, rfl⟩ := List.mem_map.mp hx
  exact List.all_eq_true.mpr fun c hc => decide_eq_true (okNm_lt (h n hn) c hc)
theorem OkPl.few {ns : List Nm} {m : Nat} {pl : Plan} (h : OkPl ns m pl) (hm : m ≤ 40) (hn : ns.length < 64) (hl : pl.length ≤ 1000) : Few pl :=
  ⟨hl, fun p hp => Nat.le_trans (h.deeds p hp).1 hm, Nat.lt_of_le_of_lt (namesK_le h.sub) hn⟩
theorem mem_namesOf {pl : Plan} {z : Nm} : z ∈ namesOf pl ↔ z ∈ nmPl pl := by
  unfold namesOf sortNm namesK
  rw [(isort_perm).mem_iff, mem_addKs]; simp
end MP

set_option linter.all false
set_option maxRecDepth 100000
set_option maxHeartbeats 1000000
set_option Elab.async false
/-! F8: runs. -/
namespace MP
local macro_rules
  | `(tactic| clean_wf) => `(tactic| simp only [ws_set, ws_set1, ws_ret, ws_nop, ws_exp, ws_exp1, ws_sidx, ws_sidx1, ws_satt, ws_satt1, ws_aat, ws_aat1, ws_avar, ws_avar1, augK_int, ws_for, ws_forS, wpE, wpA, opt_some, gv_0, gv_s, matP, List.set, b_add, b_addS, b_addT, b_sub, b_mul, b_div, b_mod, b_pow, c_len, c_lenT, c_int, c_intB, c_abs, c_min, c_max, c_tupT, c_eqI, c_neI, c_eqS, c_neS, c_lt, c_le, c_gt, c_ge, c_is, c_isnot, c_isB, c_isnotB, c_idxT, g_0, g_1, g_2, g_3, g_4, g_5, g_6, o_non, o_int, Bool.not_true, Bool.not_false, br_t, br_f, c_itA, c_itT, c_itS])
local macro_rules
  | `(tactic| sizeOf_list_dec) => `(tactic| first
    | assumption
    | exact Ne.symm (by assumption)
    | exact ne_new (by assumption) (by assumption)
    | exact Ne.symm (ne_new (by assumption) (by assumption))
    | exact BagAt.ne (by assumption) (by assumption)
    | exact Ne.symm (BagAt.ne (by assumption) (by assumption))
    | exact id)
local macro_rules
  | `(tactic| array_mem_dec) => `(tactic| first
    | assumption
    | exact up_same
    | (refine (up_ne (by sizeOf_list_dec)).trans ?_; array_mem_dec)
    | (refine (by assumption : Kept _ _ _) _ _ (by sizeOf_list_dec) ?_; array_mem_dec)
    | (refine BagAt.new ?_ (by assumption); array_mem_dec)
    | (refine BagAt.off ?_ (by sizeOf_list_dec); array_mem_dec)
    | (refine BagAt.keep ?_ (by assumption) (by sizeOf_list_dec); array_mem_dec)
    | exact Kept.refl
    | exact Kept.new (by assumption)
    | (refine Kept.trans ?_ (by assumption); array_mem_dec)
    | (refine Kept.loc (by assumption) ?_; array_mem_dec)
    | (refine Kept.nw (by assumption) ?_; array_mem_dec))
variable {μ μ' μ1 μ2 : Sto} {a b p q : Nat} {l : List D} {i : Int} {x y d : D} {o : Ob} {ρ : Env}
def f_Runner___init__ : FD := ⟨5, 5, (.seq (.setAttr (.var 0) 15 (.var 1)) (.seq (.setAttr (.var 0) 23 (.var 2)) (.seq (.setAttr (.var 0) 41 (.ci 0)) (.seq (.setAttr (.var 0) 48 (.prim .dict (.cons (.var 4) .nil))) (.seq (.setAttr (.var 0) 36 (.lst .nil)) (.seq (.setAttr (.var 0) 30 (.lst (.cons (.var 3) .nil))) (.seq (.setAttr (.var 0) 31 (.ci 0)) (.setAttr (.var 0) 38 (.cs [111, 110])))))))))⟩
def f_Runner_worth : FD := ⟨2, 2, (.ret (.bm .get (.attr (.var 0) 48) (.cons (.var 1) (.cons (.ci 0) .nil))))⟩
def f_Runner_do : FD := ⟨2, 3, (.seq (.set (.v 2) (.idx (.var 1) (.ci 1))) (.ite (.cmp .eq (.idx (.var 1) (.ci 0)) (.cs [112, 117, 116])) (.setIdx (.attr (.var 0) 48) (.var 2) (.idx (.var 1) (.ci 2))) (.ite (.cmp .eq (.idx (.var 1) (.ci 0)) (.cs [99, 111, 112, 121])) (.setIdx (.attr (.var 0) 48) (.var 2) (.meth 47 (.var 0) (.cons (.idx (.var 1) (.ci 2)) .nil))) (.ite (.cmp .eq (.idx (.var 1) (.ci 0)) (.cs [97, 100, 100])) (.setIdx (.attr (.var 0) 48) (.var 2) (.bin .add (.meth 47 (.var 0) (.cons (.var 2) .nil)) (.idx (.var 1) (.ci 2)))) (.ite (.cmp .eq (.idx (.var 1) (.ci 0)) (.cs [116, 101, 108, 108])) (.expr (.bm .append (.attr (.var 0) 36) (.cons (.meth 47 (.var 0) (.cons (.var 2) .nil)) .nil))) (.ite (.cmp .eq (.attr (.var 0) 41) (.prim .len (.cons (.attr (.var 0) 23) .nil))) (.setAttr (.var 0) 38 (.cs [100, 114, 121])) (.seq (.setIdx (.attr (.var 0) 48) (.var 2) (.idx (.attr (.var 0) 23) (.attr (.var 0) 41))) (.augAttr (.var 0) 41 (.ci 1)))))))))⟩
def f_Runner_is_yes : FD := ⟨2, 2, (.seq (.ite (.cmp .eq (.idx (.var 1) (.ci 0)) (.cs [108, 101, 115, 115])) (.ret (.cmp .lt (.meth 47 (.var 0) (.cons (.idx (.var 1) (.ci 1)) .nil)) (.idx (.var 1) (.ci 2)))) .nop) (.ret (.cmp .eq (.meth 47 (.var 0) (.cons (.idx (.var 1) (.ci 1)) .nil)) (.idx (.var 1) (.ci 2)))))⟩
def f_Runner_lead_on : FD := ⟨2, 2, (.seq (.setAttr (.var 0) 31 (.ci 0)) (.ite (.cmp .eq (.idx (.var 1) (.ci 0)) (.cs [115, 116, 111, 112])) (.setAttr (.var 0) 38 (.cs [115, 116, 111, 112])) (.ite (.cmp .eq (.idx (.var 1) (.ci 0)) (.cs [103, 111])) (.expr (.bm .append (.attr (.var 0) 30) (.cons (.idx (.var 1) (.ci 1)) .nil))) (.ite (.meth 11 (.var 0) (.cons (.var 1) .nil)) (.expr (.bm .append (.attr (.var 0) 30) (.cons (.idx (.var 1) (.ci 3)) .nil))) (.expr (.bm .append (.attr (.var 0) 30) (.cons (.idx (.var 1) (.ci 4)) .nil)))))))⟩
def f_Runner_step : FD := ⟨1, 3, (.seq (.set (.cons (.v 1) (.cons (.v 2) .nil)) (.idx (.attr (.var 0) 15) (.idx (.attr (.var 0) 30) (.neg (.ci 1))))) (.ite (.cmp .eq (.attr (.var 0) 31) (.prim .len (.cons (.var 1) .nil))) (.expr (.meth 16 (.var 0) (.cons (.var 2) .nil))) (.seq (.augAttr (.var 0) 31 (.ci 1)) (.expr (.meth 4 (.var 0) (.cons (.idx (.var 1) (.bin .sub (.attr (.var 0) 31) (.ci 1))) .nil))))))⟩
def f_walked : FD := ⟨5, 7, (.seq (.set (.v 5) (.new 3 21 (.cons (.var 0) (.cons (.prim .tuple (.cons (.var 1) .nil)) (.cons (.var 3) (.cons (.var 4) .nil)))))) (.seq (.for (.v 6) .range (.cons (.var 2) .nil) (.ite (.cmp .eq (.attr (.var 5) 38) (.cs [111, 110])) (.expr (.meth 39 (.var 5) .nil)) .nop)) (.ret (.var 5))))⟩
def f_run_at : FD := ⟨5, 6, (.seq (.set (.v 5) (.call 228 (.cons (.var 0) (.cons (.var 3) (.cons (.var 4) (.cons (.var 1) (.cons (.var 2) .nil))))))) (.ret (.tup (.cons (.attr (.var 5) 38) (.cons (.prim .tuple (.cons (.attr (.var 5) 36) .nil)) .nil)))))⟩
def f_run : FD := ⟨3, 3, (.ret (.call 217 (.cons (.var 0) (.cons (.ci 0) (.cons .dnew (.cons (.var 1) (.cons (.var 2) .nil)))))))⟩
def f_seen : FD := ⟨3, 3, (.ret (.prim .tuple (.cons (.attr (.call 228 (.cons (.var 0) (.cons (.var 1) (.cons (.var 2) (.cons (.ci 0) (.cons .dnew .nil)))))) 30) .nil)))⟩
/-! ### dicts from names -/
def alook {α : Type} : List (Nm × α) → Nm → Option α
  | [], _ => none
  | (k, v) :: r, x => if k = x then some v else alook r x
def aput {α : Type} : List (Nm × α) → Nm → α → List (Nm × α)
  | [], x, y => [(x, y)]
  | (k, v) :: r, x, y => if k = x then (k, y) :: r else (k, v) :: aput r x y
def akeys {α : Type} (l : List (Nm × α)) : List Nm := l.map (·.1)
def encA {α : Type} (g : α → D) (l : List (Nm × α)) : List (D × D) := l.map fun p => (D.str p.1, g p.2)
section
variable {α : Type} {g : α → D} {l : List (Nm × α)} {z k : Nm} {v : α}
theorem dget_A : ∀ {l : List (Nm × α)}, dget (encA g l) (.str z) = (alook l z).map g
  | [] => rfl
  | (k, v) :: r => by
    show (if D.eqb (.str k) (.str z) = true then some (g v) else dget (encA g r) (.str z)) = (if k = z then some v else alook r z).map g
    rw [eqb_str, dget_A]
    by_cases h : k = z
    · rw [if_pos (decide_eq_true h), if_pos h]; rfl
    · rw [if_neg (by simpa using h), if_neg h]
theorem alook_none : ∀ {l : List (Nm × α)}, alook l z = none ↔ z ∉ akeys l
  | [] => by simp [alook, akeys]
  | (k, v) :: r => by
    unfold alook
    have ih := alook_none (l := r)
    unfold akeys at ih ⊢
    by_cases h : k = z
    · subst h; simp
    · rw [if_neg h, ih]; simp [Ne.symm h]
theorem aput_new : ∀ {l : List (Nm × α)}, z ∉ akeys l → aput l z v = l ++ [(z, v)]
  | [], _ => rfl
  | (k, u) :: r, h => by
    have h1 : ¬ k = z := fun e => h (by simp [akeys, e])
    have h2 : z ∉ akeys r := fun e => h (by simp [akeys] at e ⊢; exact .inr e)
    show (if k = z then _ else _) = _
    rw [if_neg h1, aput_new h2]; rfl
theorem aput_keys (h : z ∈ akeys l) : akeys (aput l z v) = akeys l := by
  induction l with
  | nil => simp [akeys] at h
  | cons p r ih =>
    obtain ⟨k, u⟩ := p
    show akeys (if k = z then _ else _) = _
    by_cases e : k = z
    · rw [if_pos e]; rfl
    · rw [if_neg e]
      have h2 : z ∈ akeys r := by simp [akeys, Ne.symm e] at h ⊢; exact h
      show k :: akeys (aput r z v) = k :: akeys r
      rw [ih h2]
theorem aput_map (nd : (akeys l).Nodup) (h : z ∈ akeys l) : aput l z v = l.map fun p => if p.1 = z then (p.1, v) else p := by
  induction l with
  | nil => simp [akeys] at h
  | cons p r ih =>
    obtain ⟨k, u⟩ := p
    have nd' : k ∉ akeys r ∧ (akeys r).Nodup := List.nodup_cons.mp nd
    show (if k = z then _ else _) = _
    rw [List.map_cons]
    by_cases e : k = z
    · rw [if_pos e, if_pos e]
      congr 1
      symm
      have : ∀ q ∈ r, (if q.1 = z then (q.1, v) else q) = q := fun q hq => if_neg fun w => nd'.1 (by rw [e, ← w]; exact List.mem_map_of_mem hq)
      rw [List.map_congr_left this, List.map_id']
    · rw [if_neg e, if_neg e]
      have h2 : z ∈ akeys r := by simp [akeys, Ne.symm e] at h ⊢; exact h
      rw [ih nd'.2 h2]
theorem any_A : (encA g l).any (fun p => D.eqb p.1 (.str z)) = decide (z ∈ akeys l) := by
  rw [Bool.eq_iff_iff]
  unfold encA akeys
  rw [List.any_map, List.any_eq_true, decide_eq_true_eq, List.mem_map]
  simp only [Function.comp, eqb_str, decide_eq_true_eq]
theorem dput_A (nd : (akeys l).Nodup) : dput (encA g l) (.str z) (g v) = encA g (aput l z v) := by
  unfold dput
  rw [any_A]
  by_cases h : z ∈ akeys l
  · rw [if_pos (decide_eq_true h), aput_map nd h]
    unfold encA
    rw [List.map_map, List.map_map]
    refine List.map_congr_left fun p _ => ?_
    show (if D.eqb (.str p.1) (.str z) = true then _ else _) = _
    rw [eqb_str]
    by_cases e : p.1 = z
    · rw [if_pos (decide_eq_true e)]; simp [Function.comp, e]
    · rw [if_neg (by simpa using e)]; simp [Function.comp, e]
  · rw [if_neg (by simpa using h), aput_new h]
    unfold encA
    rw [List.map_append]; rfl
theorem aput_nodup (nd : (akeys l).Nodup) : (akeys (aput l z v)).Nodup := by
  by_cases h : z ∈ akeys l
  · rw [aput_keys h]; exact nd
  · rw [aput_new h]
    unfold akeys
    rw [List.map_append]
    exact List.nodup_append.mpr ⟨nd, by simp, fun x hx y hy => by rw [List.mem_singleton.mp hy]; exact fun w => by subst w; exact h hx⟩
theorem aput_len : (aput l z v).length ≤ l.length + 1 := by
  by_cases h : z ∈ akeys l
  · have := congrArg List.length (aput_keys (v := v) h)
    unfold akeys at this
    rw [List.length_map, List.length_map] at this; omega
  · rw [aput_new h]; simp
theorem alook_put : alook (aput l z v) k = if z = k then some v else alook l k := by
  induction l with
  | nil => rfl
  | cons p r ih =>
    obtain ⟨j, u⟩ := p
    show alook (if j = z then (j, v) :: r else (j, u) :: aput r z v) k = _
    by_cases e : j = z
    · subst e
      rw [if_pos rfl]
      show (if j = k then _ else _) = _
      by_cases e2 : j = k
      · rw [if_pos e2, if_pos e2]
      · rw [if_neg e2, if_neg e2]; show _ = (if j = k then _ else _); rw [if_neg e2]
    · rw [if_neg e]
      show (if j = k then _ else _) = _
      by_cases e2 : j = k
      · rw [if_pos e2]
        have : ¬ z = k := fun w => e (by rw [e2, w])
        rw [if_neg this]; show _ = (if j = k then _ else _); rw [if_pos e2]
      · rw [if_neg e2, ih]; show _ = if z = k then some v else (if j = k then _ else _); rw [if_neg e2]
end
theorem get_A {α : Type} {g : α → D} {l : List (Nm × α)} {z : Nm} {d : D} {Q : D → Sto → Prop} (h : μ a = some (.dF (encA g l))) (q : Q (((alook l z).map g).getD d) μ) : primP .get [.ref a, .str z, d] μ Q := by
  show rdG (.ref a) μ fun _ l => isFlat (.str z) = true ∧ Q ((dget l (.str z)).getD d) μ
  unfold rdG
  simp only [h]
  exact ⟨rfl, by rw [dget_A]; exact q⟩
theorem rcv_get {l : List (D × D)} (h : μ a = some (.dF l)) : recvP .get (.ref a) μ := by
  show rdG (.ref a) μ fun _ _ => True
  unfold rdG
  simp only [h]
theorem set_A {α : Type} {g : α → D} {l : List (Nm × α)} {z : Nm} {v : α} {Q : Sto → Prop} (h : μ a = some (.dF (encA g l))) (nd : (akeys l).Nodup) (hz : l.length < 10000000) (q : Q (upd μ a (.dF (encA g (aput l z v))))) : setIdxP (.ref a) (.str z) (g v) μ Q := by
  refine setIdx_dic h rfl (by unfold encA; rw [List.length_map]; unfold sizeMax; omega) ?_
  rw [dput_A nd]; exact q
/-! ### runs, typed -/
inductive Wd where
  | on | stop | dry
  deriving DecidableEq, Repr
def wdC : Wd → List Nat
  | .on => [111, 110]
  | .stop => [115, 116, 111, 112]
  | .dry => [100, 114, 121]
structure RS where
  been : List Nat
  place : Nat
  ws : List (Nm × Int)
  taken : Nat
  said : List Int
  stand : Wd
def worthOf (ws : List (Nm × Int)) (a : Nm) : Int := (alook ws a).getD 0
def RS.cur (s : RS) : Nat := s.been.getLastD 0
def doS (nums : List Int) (d : Deed) (s : RS) : RS := match d with
  | .put a n => { s with ws := aput s.ws a n }
  | .copy a b => { s with ws := aput s.ws a (worthOf s.ws b) }
  | .add a n => { s with ws := aput s.ws a (worthOf s.ws a + n) }
  | .tell a => { s with said := s.said ++ [worthOf s.ws a] }
  | .read a => match nums[s.taken]? with
    | some n => { s with ws := aput s.ws a n, taken := s.taken + 1 }
    | none => { s with stand := .dry }
def isYes (l : Bool) (w n : Int) : Bool := if l = true then decide (w < n) else decide (w = n)
def endS (e : Ed) (s : RS) : RS := match e with
  | .stop => { s with stand := .stop }
  | .go p => { s with been := s.been ++ [p], place := 0 }
  | .test l a n y z => { s with been := s.been ++ [if isYes l (worthOf s.ws a) n = true then y else z], place := 0 }
def pcAt (pl : Plan) (k : Nat) : Pc := (pl[k]?).getD ([], .stop)
def stepS (pl : Plan) (nums : List Int) (s : RS) : RS := match (pcAt pl s.cur).1[s.place]? with
  | some d => if (doS nums d s).stand = .on then { doS nums d s with place := s.place + 1 } else doS nums d s
  | none => endS (pcAt pl s.cur).2 s
def runS (pl : Plan) (nums : List Int) : Nat → RS → RS
  | 0, s => s
  | n + 1, s => if (runS pl nums n s).stand = .on then stepS pl nums (runS pl nums n s) else runS pl nums n s
def initS (piece : Nat) (ws : List (Nm × Int)) : RS := ⟨[piece], 0, ws, 0, [], .on⟩
def RS.sz (s : RS) : Nat := s.ws.length + s.said.length + s.been.length
structure WfR (pl : Plan) (nums : List Int) (s : RS) : Prop where
  been : ∀ k ∈ s.been, k < pl.length
  ne : s.been ≠ []
  place : s.place ≤ (pcAt pl s.cur).1.length
  taken : s.taken ≤ nums.length
  nd : (akeys s.ws).Nodup
theorem cur_mem {s : RS} (h : s.been ≠ []) : s.cur ∈ s.been := by
  unfold RS.cur
  rw [List.getLastD_eq_getLast?, List.getLast?_eq_some_getLast h]
  exact List.getLast_mem h
theorem cur_app {l : List Nat} {p : Nat} : (l ++ [p]).getLastD 0 = p := by rw [List.getLastD_eq_getLast?]; simp
theorem pcAt_get {pl : Plan} {k : Nat} (h : k < pl.length) : pl[k]? = some (pcAt pl k) := by unfold pcAt; rw [List.getElem?_eq_getElem h]; rfl
theorem pcAt_mem {pl : Plan} {k : Nat} (h : k < pl.length) : pcAt pl k ∈ pl := List.mem_of_getElem? (pcAt_get h)
theorem endS_wf {pl : Plan} {nums : List Int} {s : RS} {e : Ed} (w : WfR pl nums s) (he : ∀ k ∈ waysE e, k < pl.length) : WfR pl nums (endS e s) := by
  have go : ∀ p, p ∈ waysE e → WfR pl nums { s with been := s.been ++ [p], place := 0 } := fun p hp =>
    ⟨fun k hk => (List.mem_append.mp hk).elim (w.been k) fun h => by rw [List.mem_singleton.mp h]; exact he p hp, by simp, Nat.zero_le _, w.taken, w.nd⟩
  cases e with
  | stop => exact ⟨w.been, w.ne, w.place, w.taken, w.nd⟩
  | go p => exact go p (by simp [waysE])
  | test l a n y z =>
    unfold endS
    refine go _ ?_
    split <;> simp [waysE]
theorem doS_wf {pl : Plan} {nums : List Int} {s : RS} {d : Deed} (w : WfR pl nums s) : WfR pl nums (doS nums d s) := by
  cases d with
  | put a n => exact ⟨w.been, w.ne, w.place, w.taken, aput_nodup w.nd⟩
  | copy a b => exact ⟨w.been, w.ne, w.place, w.taken, aput_nodup w.nd⟩
  | add a n => exact ⟨w.been, w.ne, w.place, w.taken, aput_nodup w.nd⟩
  | tell a => exact ⟨w.been, w.ne, w.place, w.taken, w.nd⟩
  | read a =>
    unfold doS
    cases h : nums[s.taken]? with
    | none => exact ⟨w.been, w.ne, w.place, w.taken, w.nd⟩
    | some n => exact ⟨w.been, w.ne, w.place, (List.getElem?_eq_some_iff.mp h).1, aput_nodup w.nd⟩
theorem doS_cur {nums : List Int} {s : RS} {d : Deed} : (doS nums d s).been = s.been ∧ (doS nums d s).place = s.place := by
  cases d <;> first | exact ⟨rfl, rfl⟩ | (unfold doS; cases nums[s.taken]? <;> exact ⟨rfl, rfl⟩)
theorem stepS_wf {pl : Plan} {nums : List Int} {s : RS} (hw : okWays pl) (w : WfR pl nums s) : WfR pl nums (stepS pl nums s) := by
  unfold stepS
  cases h : (pcAt pl s.cur).1[s.place]? with
  | none => exact endS_wf w (hw _ (pcAt_mem (w.been _ (cur_mem w.ne))))
  | some d =>
    have w1 := doS_wf (d := d) w
    obtain ⟨e1, e2⟩ := doS_cur (nums := nums) (s := s) (d := d)
    show WfR pl nums (if _ then _ else _)
    split
    · refine ⟨w1.been, w1.ne, ?_, w1.taken, w1.nd⟩
      show s.place + 1 ≤ (pcAt pl ((doS nums d s).been.getLastD 0)).1.length
      rw [e1]
      exact (List.getElem?_eq_some_iff.mp h).1
    · exact w1
theorem runS_wf {pl : Plan} {nums : List Int} {s : RS} (hw : okWays pl) (w : WfR pl nums s) : ∀ n, WfR pl nums (runS pl nums n s)
  | 0 => w
  | n + 1 => by
    unfold runS
    split
    · exact stepS_wf hw (runS_wf hw w n)
    · exact runS_wf hw w n
theorem doS_sz {nums : List Int} {s : RS} {d : Deed} : (doS nums d s).sz ≤ s.sz + 1 := by
  unfold RS.sz
  cases d with
  | put a n => have := aput_len (l := s.ws) (z := a) (v := n); show _ + _ + _ ≤ _; simp only [doS]; omega
  | copy a b => have := aput_len (l := s.ws) (z := a) (v := worthOf s.ws b); simp only [doS]; omega
  | add a n => have := aput_len (l := s.ws) (z := a) (v := worthOf s.ws a + n); simp only [doS]; omega
  | tell a => simp [doS]; omega
  | read a =>
    simp only [doS]
    cases h : nums[s.taken]? with
    | none => simp
    | some n => have := aput_len (l := s.ws) (z := a) (v := n); simp only; omega
theorem stepS_sz {pl : Plan} {nums : List Int} {s : RS} : (stepS pl nums s).sz ≤ s.sz + 1 := by
  unfold stepS
  cases h : (pcAt pl s.cur).1[s.place]? with
  | none =>
    show (endS _ s).sz ≤ _
    unfold RS.sz
    cases (pcAt pl s.cur).2 <;> simp [endS] <;> omega
  | some d =>
    have := doS_sz (nums := nums) (s := s) (d := d)
    show (if _ then _ else _ : RS).sz ≤ _
    split
    · exact this
    · exact this
theorem runS_sz {pl : Plan} {nums : List Int} {s : RS} : ∀ n, (runS pl nums n s).sz ≤ s.sz + n
  | 0 => Nat.le_refl _
  | n + 1 => by
    have h1 := runS_sz (pl := pl) (nums := nums) (s := s) n
    unfold runS
    split
    · have := stepS_sz (pl := pl) (nums := nums) (s := runS pl nums n s); omega
    · omega
theorem init_wf {pl : Plan} {nums : List Int} {piece : Nat} {ws : List (Nm × Int)} (h : piece < pl.length) (nd : (akeys ws).Nodup) : WfR pl nums (initS piece ws) :=
  ⟨fun k hk => by rw [List.mem_singleton.mp hk]; exact h, by simp [initS], Nat.zero_le _, Nat.zero_le _, nd⟩
/-! ### the runner -/
structure RunnerG (G : Ctx) : Prop where
  fl : ∀ f ∈ [15, 23, 41, 48, 36, 30, 31, 38], G.fl 3 f = true
  worth : G.mt 3 47 = some 26
  do_ : G.mt 3 4 = some 22
  yes : G.mt 3 11 = some 23
  lead : G.mt 3 16 = some 24
  step : G.mt 3 39 = some 25
def runFs (pl : Plan) (nums : List Int) (s : RS) (w sd pc : Nat) (q : Int) : List (Nat × D) := [(15, encPl pl), (23, encI nums), (41, encN s.taken), (48, .ref w), (36, .ref sd), (30, .ref pc), (31, .int q), (38, .str (wdC s.stand))]
/-- a runner at r, its place being q -/
structure RunAt (μ : Sto) (r w sd pc : Nat) (pl : Plan) (nums : List Int) (q : Int) (s : RS) : Prop where
  obj : μ r = some (.ins 3 (runFs pl nums s w sd pc q))
  hw : μ w = some (.dF (encA D.int s.ws))
  hs : μ sd = some (.lst (s.said.map D.int))
  hp : μ pc = some (.lst (s.been.map encN))
  ne : sd ≠ pc
abbrev Rs (r w sd pc : Nat) : Nat → Prop := fun q => q = r ∨ q = w ∨ q = sd ∨ q = pc
section
variable {r w sd pc : Nat} {pl : Plan} {nums : List Int} {s : RS} {pq : Int}
theorem RunAt.rw_ (h : RunAt μ r w sd pc pl nums pq s) : r ≠ w ∧ r ≠ sd ∧ r ≠ pc ∧ w ≠ sd ∧ w ≠ pc := by
  refine ⟨fun e => ?_, fun e => ?_, fun e => ?_, fun e => ?_, fun e => ?_⟩
  · have := h.obj; rw [e, h.hw] at this; cases this
  · have := h.obj; rw [e, h.hs] at this; cases this
  · have := h.obj; rw [e, h.hp] at this; cases this
  · have := h.hw; rw [e, h.hs] at this; cases this
  · have := h.hw; rw [e, h.hp] at this; cases this
theorem RunAt.keep {S : Nat → Prop} (h : RunAt μ r w sd pc pl nums pq s) (k : Kept S μ μ') (hs : ∀ q, Rs r w sd pc q → ¬ S q) : RunAt μ' r w sd pc pl nums pq s :=
  ⟨k _ _ (hs _ (.inl rfl)) h.obj, k _ _ (hs _ (.inr (.inl rfl))) h.hw, k _ _ (hs _ (.inr (.inr (.inl rfl)))) h.hs, k _ _ (hs _ (.inr (.inr (.inr rfl)))) h.hp, h.ne⟩
theorem ins_at {c : Nat} {l : List (Nat × D)} {k : Nat → Nat → List (Nat × D) → Prop} (h : μ a = some (.ins c l)) (q : k a c l) : insP (.ref a) μ k := by
  unfold insP; simp only [h]; exact q
/-- a field of the runner -/
theorem r_fld (f : Nat) {G : Ctx} (g : RunnerG G) {d : D} {k : D → Prop} (h : RunAt μ r w sd pc pl nums pq s) (hf : f ∈ [15, 23, 41, 48, 36, 30, 31, 38]) (e : lookF (runFs pl nums s w sd pc pq) f = some d) (q : k d) : insP (.ref r) μ (fun _ c l => G.fl c f = true ∧ optP (lookF l f) k) :=
  ins_at h.obj ⟨g.fl f hf, opt_of e q⟩
/-- a field set -/
theorem r_set (f : Nat) {G : Ctx} (g : RunnerG G) {d : D} {K : Sto → Prop} (h : RunAt μ r w sd pc pl nums pq s) (hf : f ∈ [15, 23, 41, 48, 36, 30, 31, 38]) (q : K (upd μ r (.ins 3 (putF (runFs pl nums s w sd pc pq) f d)))) : insP (.ref r) μ (fun p c l => G.fl c f = true ∧ l.length < 1000 ∧ K (upd μ p (.ins c (putF l f d)))) :=
  ins_at h.obj ⟨g.fl f hf, by simp [runFs], q⟩
/-- the runner with an own object changed -/
theorem RunAt.wsU (h : RunAt μ r w sd pc pl nums pq s) (x : List (Nm × Int)) : RunAt (upd μ w (.dF (encA D.int x))) r w sd pc pl nums pq { s with ws := x } := by
  obtain ⟨n1, n2, n3, n4, n5⟩ := h.rw_
  exact ⟨by rw [up_ne n1]; exact h.obj, up_same, by rw [up_ne (Ne.symm n4)]; exact h.hs, by rw [up_ne (Ne.symm n5)]; exact h.hp, h.ne⟩
theorem RunAt.sdU (h : RunAt μ r w sd pc pl nums pq s) (x : List Int) : RunAt (upd μ sd (.lst (x.map D.int))) r w sd pc pl nums pq { s with said := x } := by
  obtain ⟨n1, n2, n3, n4, n5⟩ := h.rw_
  exact ⟨by rw [up_ne n2]; exact h.obj, by rw [up_ne n4]; exact h.hw, up_same, by rw [up_ne (Ne.symm h.ne)]; exact h.hp, h.ne⟩
theorem RunAt.pcU (h : RunAt μ r w sd pc pl nums pq s) (x : List Nat) : RunAt (upd μ pc (.lst (x.map encN))) r w sd pc pl nums pq { s with been := x } := by
  obtain ⟨n1, n2, n3, n4, n5⟩ := h.rw_
  exact ⟨by rw [up_ne n3]; exact h.obj, by rw [up_ne n5]; exact h.hw, by rw [up_ne h.ne]; exact h.hs, up_same, h.ne⟩
theorem RunAt.ob (h : RunAt μ r w sd pc pl nums pq s) {t : Nat} {st : Wd} {pq' : Int} {nums' : List Int} : RunAt (upd μ r (.ins 3 (runFs pl nums' { s with taken := t, stand := st } w sd pc pq'))) r w sd pc pl nums' pq' { s with taken := t, stand := st } := by
  obtain ⟨n1, n2, n3, n4, n5⟩ := h.rw_
  exact ⟨up_same, by rw [up_ne (Ne.symm n1)]; exact h.hw, by rw [up_ne (Ne.symm n2)]; exact h.hs, by rw [up_ne (Ne.symm n3)]; exact h.hp, h.ne⟩
end
abbrev RWorthS (F : Fn) : Prop := ∀ {r w sd pc : Nat} {pl : Plan} {nums : List Int} {s : RS} {pq : Int} {a : Nm} {μ : Sto} {Q : D → Sto → Prop} {X : EX}, RunAt μ r w sd pc pl nums pq s → Q (.int (worthOf s.ws a)) μ → F [.ref r, .str a] μ Q X
theorem worth_ok {G : Ctx} (g : RunnerG G) : RWorthS (runF G f_Runner_worth) := by
  intro r w sd pc pl nums s pq a μ Q X h q
  refine ⟨rfl, ?_⟩
  show wpS G f_Runner_worth.body [some (.ref r), some (.str a)] μ _
  unfold f_Runner_worth
  clean_wf
  refine r_fld 48 g h (by simp) rfl ?_
  refine ⟨rcv_get h.hw, get_A h.hw ?_⟩
  unfold worthOf at q
  cases e : alook s.ws a with
  | none => rw [e] at q; exact q
  | some n => rw [e] at q; exact q
/-- self.worth(..) -/
theorem r_meth {G : Ctx} {m f : Nat} {r w sd pc : Nat} {pl : Plan} {nums : List Int} {s : RS} {pq : Int} {K : Nat → Prop} (h : RunAt μ r w sd pc pl nums pq s) (e : G.mt 3 m = some f) (hm : m ∉ [15, 23, 41, 48, 36, 30, 31, 38]) (q : K f) :
    insP (.ref r) μ (fun p c l => lookF l m = none ∧ optP (G.mt c m) K) := by
  refine ins_at h.obj ⟨?_, opt_of e q⟩
  simp only [List.mem_cons, List.not_mem_nil, or_false, not_or] at hm
  obtain ⟨h1, h2, h3, h4, h5, h6, h7, h8⟩ := hm
  have nb : ∀ {a b : Nat}, ¬ b = a → Nat.beq a b = false := fun {a b} h => by
    cases e : Nat.beq a b with
    | false => rfl
    | true => exact absurd (Nat.eq_of_beq_eq_true e).symm h
  simp [runFs, lookF, nb h1, nb h2, nb h3, nb h4, nb h5, nb h6, nb h7, nb h8]
abbrev RDoS (F : Fn) : Prop := ∀ {r w sd pc : Nat} {pl : Plan} {nums : List Int} {s : RS} {pq : Int} {d : Deed} {μ : Sto} {Q : D → Sto → Prop} {X : EX}, RunAt μ r w sd pc pl nums pq s → (akeys s.ws).Nodup → s.taken ≤ nums.length → s.sz < 5000000 →
  (∀ μ', RunAt μ' r w sd pc pl nums pq (doS nums d s) → Kept (Rs r w sd pc) μ μ' → Q .non μ') → F [.ref r, encD d] μ Q X
theorem do_ok {G : Ctx} (hG : Mono G) (g : RunnerG G) (hW : RWorthS (G.fn 26)) : RDoS (runF G f_Runner_do) := by
  intro r w sd pc pl nums s pq d μ Q X h nd ht hz q
  have hz' : s.ws.length < 10000000 ∧ s.said.length < 10000000 := by unfold RS.sz at hz; omega
  have kw : ∀ {o}, Kept (Rs r w sd pc) μ (upd μ w o) := .set (.inr (.inl rfl))
  have ks : ∀ {o}, Kept (Rs r w sd pc) μ (upd μ sd o) := .set (.inr (.inr (.inl rfl)))
  have kr : ∀ {o}, Kept (Rs r w sd pc) μ (upd μ r o) := .set (.inl rfl)
  refine ⟨rfl, ?_⟩
  cases d with
  | put a n =>
    show wpS G f_Runner_do.body [some (.ref r), some (.tup [.str wPut, .str a, .int n]), none] μ _
    unfold f_Runner_do
    refine yes ?_
    clean_wf
    refine r_fld 48 g h (by simp) rfl ?_
    exact set_A h.hw nd hz'.1 (q _ (h.wsU _) kw)
  | copy a b =>
    show wpS G f_Runner_do.body [some (.ref r), some (.tup [.str wCopy, .str a, .str b]), none] μ _
    unfold f_Runner_do
    refine nay (yes ?_)
    clean_wf
    refine r_meth h g.worth (by simp) (hW h ?_)
    refine r_fld 48 g h (by simp) rfl ?_
    exact set_A h.hw nd hz'.1 (q _ (h.wsU _) kw)
  | add a n =>
    show wpS G f_Runner_do.body [some (.ref r), some (.tup [.str wAdd, .str a, .int n]), none] μ _
    unfold f_Runner_do
    refine nay (nay (yes ?_))
    clean_wf
    refine r_meth h g.worth (by simp) (hW h ?_)
    clean_wf
    refine r_fld 48 g h (by simp) rfl ?_
    exact set_A h.hw nd hz'.1 (q _ (h.wsU _) kw)
  | tell a =>
    show wpS G f_Runner_do.body [some (.ref r), some (.tup [.str wTell, .str a]), none] μ _
    unfold f_Runner_do
    refine nay (nay (nay (yes ?_)))
    clean_wf
    refine r_fld 36 g h (by simp) rfl ?_
    refine ⟨rdL_of h.hs trivial, ?_⟩
    refine r_meth h g.worth (by simp) (hW h ?_)
    refine app_lst h.hs (by rw [List.length_map]; unfold sizeMax; omega) ?_
    refine q _ ?_ ks
    have := h.sdU (s.said ++ [worthOf s.ws a])
    rw [List.map_append] at this
    exact this
  | read a =>
    show wpS G f_Runner_do.body [some (.ref r), some (.tup [.str wRead, .str a]), none] μ _
    unfold f_Runner_do
    refine nay (nay (nay (nay ?_)))
    refine ite_v hG (b := decide (s.taken = nums.length)) (vl ?_) (fun e => ?_) fun e => ?_
    · clean_wf
      refine r_fld 41 g h (by simp) rfl ?_
      refine r_fld 23 g h (by simp) rfl ?_
      unfold encI
      clean_wf
      refine ⟨congrArg D.bl ?_, trivial⟩
      rw [List.length_map, decide_eq_decide]; omega
    · have e := of_decide_eq_true e
      clean_wf
      refine ins_at h.obj ⟨g.fl 38 (by simp), by simp [runFs], q _ ?_ kr⟩
      have : doS nums (.read a) s = { s with stand := .dry } := by
        unfold doS; rw [List.getElem?_eq_none (by omega)]
      rw [this]
      exact h.ob (t := s.taken) (st := .dry) (pq' := pq) (nums' := nums)
    · have e := of_decide_eq_false e
      have hlt : s.taken < nums.length := by omega
      clean_wf
      refine r_fld 23 g h (by simp) rfl ?_
      refine r_fld 41 g h (by simp) rfl ?_
      have ei : getI (nums.map D.int) (s.taken : Int) = some (.int nums[s.taken]) := by
        unfold getI
        rw [ixN_of (by omega) (by rw [List.length_map]; omega)]
        show (nums.map D.int)[((s.taken : Nat) : Int).toNat]? = _
        rw [Int.toNat_natCast, List.getElem?_map, List.getElem?_eq_getElem hlt]; rfl
      refine opt_of ei ?_
      refine r_fld 48 g h (by simp) rfl ?_
      refine set_A h.hw nd hz'.1 ?_
      have h2 := h.wsU (aput s.ws a nums[s.taken])
      refine ins_at h2.obj ⟨g.fl 41 (by simp), opt_of (x := encN s.taken) rfl ?_⟩
      refine ins_at h2.obj ⟨rfl, ?_⟩
      clean_wf
      refine ⟨by simp [runFs], ?_⟩
      have : doS nums (.read a) s = { s with ws := aput s.ws a nums[s.taken], taken := s.taken + 1 } := by
        unfold doS; rw [List.getElem?_eq_getElem hlt]
      refine q _ ?_ (kw.trans (.set (.inl rfl)))
      rw [this]
      exact h2.ob (t := s.taken + 1) (st := s.stand) (pq' := pq) (nums' := nums)
abbrev RYesS (F : Fn) : Prop := ∀ {r w sd pc : Nat} {pl : Plan} {nums : List Int} {s : RS} {pq : Int} {l : Bool} {a : Nm} {n : Int} {y z : Nat} {μ : Sto} {Q : D → Sto → Prop} {X : EX}, RunAt μ r w sd pc pl nums pq s → Q (.bl (isYes l (worthOf s.ws a) n)) μ → F [.ref r, encEd (.test l a n y z)] μ Q X
theorem yes_ok {G : Ctx} (hG : Mono G) (g : RunnerG G) (hW : RWorthS (G.fn 26)) : RYesS (runF G f_Runner_is_yes) := by
  intro r w sd pc pl nums s pq l a n y z μ Q X h q
  refine ⟨rfl, ?_⟩
  show wpS G f_Runner_is_yes.body [some (.ref r), some (.tup [.str (wTest l), .str a, .int n, encN y, encN z])] μ _
  unfold f_Runner_is_yes
  cases l with
  | true =>
    refine yes ?_
    clean_wf
    refine r_meth h g.worth (by simp) (hW h ?_)
    clean_wf
    exact q
  | false =>
    refine nay ?_
    clean_wf
    refine r_meth h g.worth (by simp) (hW h ?_)
    clean_wf
    exact q
abbrev RLeadS (F : Fn) : Prop := ∀ {r w sd pc : Nat} {pl : Plan} {nums : List Int} {s : RS} {pq : Int} {e : Ed} {μ : Sto} {Q : D → Sto → Prop} {X : EX}, RunAt μ r w sd pc pl nums pq s → s.sz < 5000000 →
  (∀ μ', RunAt μ' r w sd pc pl nums 0 (endS e s) → Kept (Rs r w sd pc) μ μ' → Q .non μ') → F [.ref r, encEd e] μ Q X
theorem lead_ok {G : Ctx} (hG : Mono G) (g : RunnerG G) (hY : RYesS (G.fn 23)) : RLeadS (runF G f_Runner_lead_on) := by
  intro r w sd pc pl nums s pq e μ Q X h hz q
  have hz' : s.been.length < 10000000 := by unfold RS.sz at hz; omega
  refine ⟨rfl, ?_⟩
  have go : ∀ p : Nat, (∀ μ', RunAt μ' r w sd pc pl nums 0 { s with been := s.been ++ [p], place := 0 } → Kept (Rs r w sd pc) μ μ' → Q .non μ') → ∀ μ1, RunAt μ1 r w sd pc pl nums 0 s → Kept (Rs r w sd pc) μ μ1 → insP (.ref r) μ1 (fun _ c l => G.fl c 30 = true ∧ optP (lookF l 30) fun x => recvP .append x μ1 ∧ primP .append [x, encN p] μ1 fun d μ2 => Q .non μ2) := fun p q μ1 h1 k1 => by
    refine r_fld 30 g h1 (by simp) rfl ⟨rdL_of h1.hp trivial, app_lst h1.hp (by rw [List.length_map]; unfold sizeMax; omega) ?_⟩
    refine q _ ?_ (k1.trans (.set (.inr (.inr (.inr rfl)))))
    have := h1.pcU (s.been ++ [p])
    rw [List.map_append] at this
    exact ⟨this.obj, this.hw, this.hs, this.hp, this.ne⟩
  have kr : ∀ {o}, Kept (Rs r w sd pc) μ (upd μ r o) := .set (.inl rfl)
  have h1 : RunAt (upd μ r (.ins 3 (putF (runFs pl nums s w sd pc pq) 31 (.int 0)))) r w sd pc pl nums 0 s := h.ob (t := s.taken) (st := s.stand) (pq' := 0) (nums' := nums)
  cases e with
  | stop =>
    show wpS G f_Runner_lead_on.body [some (.ref r), some (.tup [.str wStop])] μ _
    unfold f_Runner_lead_on
    clean_wf
    refine ins_at h.obj ⟨g.fl 31 (by simp), by simp [runFs], yes ?_⟩
    clean_wf
    refine ins_at h1.obj ⟨g.fl 38 (by simp), by simp [runFs], q _ ?_ (kr.trans (.set (.inl rfl)))⟩
    exact h1.ob (t := s.taken) (st := .stop) (pq' := 0) (nums' := nums)
  | go p =>
    show wpS G f_Runner_lead_on.body [some (.ref r), some (.tup [.str wGo, encN p])] μ _
    unfold f_Runner_lead_on
    clean_wf
    refine ins_at h.obj ⟨g.fl 31 (by simp), by simp [runFs], nay (yes ?_)⟩
    clean_wf
    exact go p q _ h1 kr
  | test l a n y z =>
    show wpS G f_Runner_lead_on.body [some (.ref r), some (encEd (.test l a n y z))] μ _
    unfold f_Runner_lead_on
    clean_wf
    refine ins_at h.obj ⟨g.fl 31 (by simp), by simp [runFs], ?_⟩
    refine ite_v hG (b := false) (by cases l <;> exact ⟨rfl, rfl⟩) (fun z => nomatch z) fun _ => ?_
    refine ite_v hG (b := false) (by cases l <;> exact ⟨rfl, rfl⟩) (fun z => nomatch z) fun _ => ?_
    refine ite_v hG (b := isYes l (worthOf s.ws a) n) (vl ?_) (fun hy => ?_) fun hy => ?_
    · clean_wf
      exact r_meth h1 g.yes (by simp) (hY h1 ⟨rfl, rfl⟩)
    · have e : endS (.test l a n y z) s = { s with been := s.been ++ [y], place := 0 } := by simp [endS, hy]
      rw [e] at q
      clean_wf
      exact go y q _ h1 kr
    · have e : endS (.test l a n y z) s = { s with been := s.been ++ [z], place := 0 } := by simp [endS, hy]
      rw [e] at q
      clean_wf
      exact go z q _ h1 kr
theorem getI_last {α : Type} {l : List α} (h : l ≠ []) : getI l (-1) = some (l.getLast h) := by
  have hl : 0 < l.length := List.length_pos_iff.mpr h
  unfold getI ixN
  rw [if_neg (by decide), if_pos (by omega)]
  have : (-1 + (l.length : Int)).toNat = l.length - 1 := by omega
  show l[(-1 + (l.length : Int)).toNat]? = _
  rw [this, List.getLast_eq_getElem, List.getElem?_eq_getElem]
theorem last_at {l : List Nat} {Q : D → Prop} (h : μ a = some (.lst (l.map encN))) (hl : l ≠ []) (q : Q (encN (l.getLastD 0))) : idxP (.ref a) (.int (-1)) μ Q := by
  have e : l.map encN ≠ [] := by simpa using hl
  refine idx_lst h (getI_last e) ?_
  rw [List.getLast_map]
  rw [List.getLastD_eq_getLast?, List.getLast?_eq_some_getLast hl] at q
  exact q
abbrev RStepS (F : Fn) : Prop := ∀ {r w sd pc : Nat} {pl : Plan} {nums : List Int} {s : RS} {μ : Sto} {Q : D → Sto → Prop} {X : EX}, RunAt μ r w sd pc pl nums s.place s → s.stand = .on → WfR pl nums s → s.sz < 4000000 →
  (∀ μ' (q : Int), RunAt μ' r w sd pc pl nums q (stepS pl nums s) → ((stepS pl nums s).stand = .on → q = (stepS pl nums s).place) → Kept (Rs r w sd pc) μ μ' → Q .non μ') → F [.ref r] μ Q X
theorem step_ok {G : Ctx} (hG : Mono G) (g : RunnerG G) (hD : RDoS (G.fn 22)) (hL : RLeadS (G.fn 24)) : RStepS (runF G f_Runner_step) := by
  intro r w sd pc pl nums s μ Q X h hon wf hz q
  have hk := wf.been _ (cur_mem wf.ne)
  have ep := pcAt_get hk
  refine ⟨rfl, ?_⟩
  show wpS G f_Runner_step.body [some (.ref r), none, none] μ _
  unfold f_Runner_step
  clean_wf
  refine r_fld 15 g h (by simp) rfl ?_
  refine r_fld 30 g h (by simp) rfl ?_
  refine last_at h.hp wf.ne ?_
  refine pl_idx ep ?_
  clean_wf
  refine ite_v hG (b := decide (s.place = (pcAt pl s.cur).1.length)) (vl ?_) (fun e => ?_) fun e => ?_
  · clean_wf
    refine r_fld 31 g h (by simp) rfl ?_
    unfold encDs
    clean_wf
    refine ⟨congrArg D.bl ?_, trivial⟩
    rw [List.length_map, decide_eq_decide]; omega
  · have e := of_decide_eq_true e
    have es : stepS pl nums s = endS (pcAt pl s.cur).2 s := by
      unfold stepS; rw [List.getElem?_eq_none (by omega)]
    rw [es] at q
    clean_wf
    refine r_meth h g.lead (by simp) (hL h (by omega) fun μ' h' k' => q μ' 0 h' (fun hs => ?_) k')
    cases he : (pcAt pl s.cur).2 with
    | stop => rw [he] at hs; cases hs
    | go p => rfl
    | test l a n y z => rfl
  · have e := of_decide_eq_false e
    have hlt : s.place < (pcAt pl s.cur).1.length := by have := wf.place; omega
    have ed := List.getElem?_eq_getElem hlt
    clean_wf
    refine ins_at h.obj ⟨g.fl 31 (by simp), opt_of (x := encN s.place) rfl ?_⟩
    refine ins_at h.obj ⟨rfl, ?_⟩
    clean_wf
    refine ⟨by simp [runFs], ?_⟩
    have h1 : RunAt (upd μ r (.ins 3 (putF (runFs pl nums s w sd pc s.place) 31 (.int (s.place + 1))))) r w sd pc pl nums (s.place + 1) s := h.ob (t := s.taken) (st := s.stand) (pq' := s.place + 1) (nums' := nums)
    refine r_meth h1 g.do_ (by simp) ?_
    refine r_fld 31 g h1 (by simp) rfl ?_
    clean_wf
    have ei : getI ((pcAt pl s.cur).1.map encD) ((s.place : Int) + 1 - 1) = some (encD (pcAt pl s.cur).1[s.place]) := by
      rw [Int.add_sub_cancel]
      unfold getI
      rw [ixN_of (by omega) (by rw [List.length_map]; omega)]
      show ((pcAt pl s.cur).1.map encD)[((s.place : Nat) : Int).toNat]? = _
      rw [Int.toNat_natCast, List.getElem?_map, ed]; rfl
    refine opt_of ei ?_
    refine hD h1 wf.nd wf.taken (by omega) fun μ' h' k' => ?_
    have es : stepS pl nums s = if (doS nums (pcAt pl s.cur).1[s.place] s).stand = .on then { doS nums (pcAt pl s.cur).1[s.place] s with place := s.place + 1 } else doS nums (pcAt pl s.cur).1[s.place] s := by
      unfold stepS; rw [ed]
    refine q μ' (s.place + 1) ?_ (fun hs => ?_) ((Kept.set (.inl rfl)).trans k')
    · rw [es]
      split
      · exact ⟨h'.obj, h'.hw, h'.hs, h'.hp, h'.ne⟩
      · exact h'
    · rw [es] at hs ⊢
      split
      · rfl
      · rename_i hn; rw [if_neg hn] at hs; exact absurd hs hn
abbrev RInitS (F : Fn) : Prop := ∀ {r : Nat} {pl : Plan} {nums : List Int} {piece wd : Nat} {ws : List (Nm × Int)} {μ : Sto} {Q : D → Sto → Prop} {X : EX}, μ r = some (.ins 3 []) → μ wd = some (.dF (encA D.int ws)) →
  (∀ μ' w sd pc, RunAt μ' r w sd pc pl nums 0 (initS piece ws) → (∀ q, Rs r w sd pc q → q = r ∨ μ q = none) → Kp r μ μ' → Q .non μ') → F [.ref r, encPl pl, encI nums, encN piece, .ref wd] μ Q X
theorem init_ok {G : Ctx} (hG : Mono G) (g : RunnerG G) : RInitS (runF G f_Runner___init__) := by
  intro r pl nums piece wd ws μ Q X hr hwd q
  refine ⟨rfl, ?_⟩
  show wpS G f_Runner___init__.body [some (.ref r), some (encPl pl), some (encI nums), some (encN piece), some (.ref wd)] μ _
  unfold f_Runner___init__
  have nrw : wd ≠ r := fun e => by subst e; rw [hr] at hwd; cases hwd
  clean_wf
  refine ins_at hr ⟨g.fl 15 (by simp), by simp, ?_⟩
  refine ins_at up_same ⟨g.fl 23 (by simp), by simp [putF], ?_⟩
  refine ins_at up_same ⟨g.fl 41 (by simp), by simp [putF], ?_⟩
  generalize h1 : upd (upd (upd μ r _) r _) r _ = μ1
  have e1 : μ1 r = some (.ins 3 [(15, encPl pl), (23, encI nums), (41, .int 0)]) := by rw [← h1]; exact up_same
  have k1 : Kp r μ μ1 := by rw [← h1]; exact (Kept.set (S := (· = r)) rfl).trans ((Kept.set (S := (· = r)) rfl).trans (Kept.set (S := (· = r)) rfl))
  have n1 : ∀ z, μ1 z = none → μ z = none := fun z hz => k1.none (fun e => by subst e; rw [e1] at hz; cases hz) hz
  clear h1
  have ew := k1 wd _ nrw hwd
  show rdD (.ref wd) μ1 fun _ l => new μ1 (.dF l) _
  unfold rdD
  simp only [ew]
  intro w hw
  have rw_ : r ≠ w := ne_new e1 hw
  refine ins_at (up_old e1 hw) ⟨g.fl 48 (by simp), by simp, ?_⟩
  intro sd hsd
  have rsd : r ≠ sd := ne_new up_same hsd
  have wsd : w ≠ sd := ne_new (show upd (upd μ1 w (.dF (encA D.int ws))) r _ w = some (.dF (encA D.int ws)) by rw [up_ne (Ne.symm rw_)]; exact up_same) hsd
  refine ins_at (up_old up_same hsd) ⟨g.fl 36 (by simp), by simp [putF], ?_⟩
  intro pc hpc
  have rpc : r ≠ pc := ne_new up_same hpc
  have wpc : w ≠ pc := ne_new (show _ = some (Ob.dF (encA D.int ws)) by rw [up_ne (Ne.symm rw_), up_ne wsd, up_ne (Ne.symm rw_)]; exact up_same) hpc
  have spc : sd ≠ pc := ne_new (show _ = some (Ob.lst []) by rw [up_ne (Ne.symm rsd)]; exact up_same) hpc
  refine ins_at (up_old up_same hpc) ⟨g.fl 30 (by simp), by simp [putF], ?_⟩
  refine ins_at up_same ⟨g.fl 31 (by simp), by simp [putF], ?_⟩
  refine ins_at up_same ⟨g.fl 38 (by simp), by simp [putF], ?_⟩
  have mw := n1 w hw
  rw [up_ne (Ne.symm rsd), up_ne (Ne.symm wsd)] at hsd
  have msd := n1 sd hsd
  rw [up_ne (Ne.symm rpc), up_ne (Ne.symm spc), up_ne (Ne.symm rpc), up_ne (Ne.symm wpc)] at hpc
  have mpc := n1 pc hpc
  refine q _ w sd pc ⟨up_same, ?_, ?_, ?_, spc⟩ ?_ ?_
  · rw [up_ne (Ne.symm rw_), up_ne (Ne.symm rw_), up_ne (Ne.symm rw_), up_ne wpc, up_ne (Ne.symm rw_), up_ne wsd, up_ne (Ne.symm rw_)]; exact up_same
  · rw [up_ne (Ne.symm rsd), up_ne (Ne.symm rsd), up_ne (Ne.symm rsd), up_ne spc, up_ne (Ne.symm rsd)]; exact up_same
  · rw [up_ne (Ne.symm rpc), up_ne (Ne.symm rpc), up_ne (Ne.symm rpc)]; exact up_same
  · rintro q (rfl | rfl | rfl | rfl)
    · exact .inl rfl
    · exact .inr mw
    · exact .inr msd
    · exact .inr mpc
  · intro z o hz e
    have e' := k1 z o hz e
    have z1 : z ≠ w := ne_new e mw
    have z2 : z ≠ sd := ne_new e msd
    have z3 : z ≠ pc := ne_new e mpc
    rw [up_ne hz, up_ne hz, up_ne hz, up_ne z3, up_ne hz, up_ne z2, up_ne hz, up_ne z1]; exact e'
/-- a runner behind so many steps -/
abbrev WalkedS (F : Fn) : Prop := ∀ {pl : Plan} {nums : List Int} {n piece wd : Nat} {ws : List (Nm × Int)} {μ : Sto} {Q : D → Sto → Prop} {X : EX}, okWays pl → piece < pl.length → (akeys ws).Nodup → ws.length < 1000000 → n < 1000000 → μ wd = some (.dF (encA D.int ws)) →
  (∀ μ' r w sd pc pq, RunAt μ' r w sd pc pl nums pq (runS pl nums n (initS piece ws)) → Kn μ μ' → μ r = none → Q (.ref r) μ') → F [encPl pl, encI nums, .int n, encN piece, .ref wd] μ Q X
theorem walked_ok {G : Ctx} (hG : Mono G) (g : RunnerG G) (hI : RInitS (G.fn 21)) (hS : RStepS (G.fn 25)) : WalkedS (runF G f_walked) := by
  intro pl nums n piece wd ws μ Q X hw hp nd hz hn hwd q
  refine ⟨rfl, ?_⟩
  show wpS G f_walked.body [some (encPl pl), some (encI nums), some (.int n), some (encN piece), some (.ref wd), none, none] μ _
  unfold f_walked
  clean_wf
  show ∀ r, μ r = none → _
  intro r hr
  refine hI (nums := nums) up_same (up_old hwd hr) fun μ1 w sd pc h1 hq k1 => ⟨rfl, ?_⟩
  have kn1 : Kn μ μ1 := fun z o _ e => k1 z o (ne_new e hr) (up_old e hr)
  have own : ∀ z, Rs r w sd pc z → μ z = none := fun z hz => by
    rcases hq z hz with rfl | h
    · exact hr
    · exact (Kept.new (S := fun _ => False) hr).none id h
  clean_wf
  refine ⟨⟨by omega, by omega⟩, ?_⟩
  have wf0 := init_wf (pl := pl) (nums := nums) hp nd
  refine for_ix (fun i ρ μ' => (∃ pq, RunAt μ' r w sd pc pl nums pq (runS pl nums i (initS piece ws)) ∧ ((runS pl nums i (initS piece ws)).stand = .on → pq = (runS pl nums i (initS piece ws)).place)) ∧ Kn μ μ' ∧ ∃ o, ρ = [some (encPl pl), some (encI nums), some (.int n), some (encN piece), some (.ref wd), some (.ref r), o]) (fun _ _ _ _ => trivial) ?_ ?_ ⟨⟨0, h1, fun _ => rfl⟩, kn1, _, rfl⟩
  · rintro i d hd ρ μ2 K' ⟨⟨pq, h2, hq2⟩, kn2, o, rfl⟩ hK
    have hi := (range_at hd).1
    have wf := runS_wf (nums := nums) hw wf0 i
    have sz := runS_sz (pl := pl) (nums := nums) (s := initS piece ws) i
    have sz0 : (initS piece ws).sz = ws.length + 1 := by simp [RS.sz, initS]
    generalize hs : runS pl nums i (initS piece ws) = s at h2 hq2 wf sz
    have es : runS pl nums (i + 1) (initS piece ws) = if s.stand = .on then stepS pl nums s else s := by rw [← hs]; rfl
    refine ite_v hG (b := decide (s.stand = .on)) (vl ?_) (fun e => ?_) fun e => ?_
    · clean_wf
      refine r_fld 38 g h2 (by simp) rfl ?_
      clean_wf
      refine ⟨congrArg D.bl ?_, trivial⟩
      cases s.stand <;> rfl
    · have e := of_decide_eq_true e
      rw [if_pos e] at es
      have hq3 := hq2 e
      subst hq3
      clean_wf
      refine r_meth h2 g.step (by simp) (hS h2 e wf (by omega) fun μ3 q3 h3 hq3 k3 => hK _ _ ⟨⟨q3, by rw [es]; exact h3, by rw [es]; exact hq3⟩, fun z o _ e => k3 z o (fun hz => by rw [own z hz] at e; cases e) (kn2 z o id e), _, rfl⟩)
    · have e := of_decide_eq_false e
      rw [if_neg e] at es
      exact hK _ _ ⟨⟨pq, by rw [es]; exact h2, by rw [es]; exact hq2⟩, kn2, _, rfl⟩
  · rintro ρ μ2 ⟨⟨pq, h2, _⟩, kn2, o, rfl⟩
    have el : (rangeL 0 ((n : Int)).toNat 1).length = n := by simp [rangeL]
    rw [el] at h2
    exact q μ2 r w sd pc pq h2 kn2 hr
def finD (s : RS) : D := .tup [.str (wdC s.stand), encI s.said]
abbrev RunAtS (F : Fn) : Prop := ∀ {pl : Plan} {nums : List Int} {n piece wd : Nat} {ws : List (Nm × Int)} {μ : Sto} {Q : D → Sto → Prop} {X : EX}, okWays pl → piece < pl.length → (akeys ws).Nodup → ws.length < 1000000 → n < 1000000 → μ wd = some (.dF (encA D.int ws)) →
  (∀ μ', Kn μ μ' → Q (finD (runS pl nums n (initS piece ws))) μ') → F [encPl pl, encN piece, .ref wd, encI nums, .int n] μ Q X
theorem run_at_ok {G : Ctx} (hG : Mono G) (g : RunnerG G) (hW : WalkedS (G.fn 228)) : RunAtS (runF G f_run_at) := by
  intro pl nums n piece wd ws μ Q X hw hp nd hz hn hwd q
  refine ⟨rfl, ?_⟩
  show wpS G f_run_at.body [some (encPl pl), some (encN piece), some (.ref wd), some (encI nums), some (.int n), none] μ _
  unfold f_run_at
  clean_wf
  refine hW hw hp nd hz hn hwd fun μ1 r w sd pc pq h k hr => ?_
  clean_wf
  refine r_fld 38 g h (by simp) rfl ?_
  refine r_fld 36 g h (by simp) rfl ?_
  exact tup_lst h.hs (q μ1 k)
abbrev RunS (F : Fn) : Prop := ∀ {pl : Plan} {nums : List Int} {n : Nat} {μ : Sto} {Q : D → Sto → Prop} {X : EX}, okWays pl → 0 < pl.length → n < 1000000 →
  (∀ μ', Kn μ μ' → Q (finD (runS pl nums n (initS 0 []))) μ') → F [encPl pl, encI nums, .int n] μ Q X
theorem run_ok {G : Ctx} (hG : Mono G) (hW : RunAtS (G.fn 217)) : RunS (runF G f_run) := by
  intro pl nums n μ Q X hw hp hn q
  refine ⟨rfl, ?_⟩
  show wpS G f_run.body [some (encPl pl), some (encI nums), some (.int n)] μ _
  unfold f_run
  clean_wf
  intro a ha
  refine hW (ws := []) hw hp .nil (by decide) hn up_same fun μ1 k1 => ?_
  exact q μ1 ((Kept.new ha).trans k1)
abbrev SeenS (F : Fn) : Prop := ∀ {pl : Plan} {nums : List Int} {n : Nat} {μ : Sto} {Q : D → Sto → Prop} {X : EX}, okWays pl → 0 < pl.length → n < 1000000 →
  (∀ μ', Kn μ μ' → Q (.tup ((runS pl nums n (initS 0 [])).been.map encN)) μ') → F [encPl pl, encI nums, .int n] μ Q X
theorem seen_ok {G : Ctx} (hG : Mono G) (g : RunnerG G) (hW : WalkedS (G.fn 228)) : SeenS (runF G f_seen) := by
  intro pl nums n μ Q X hw hp hn q
  refine ⟨rfl, ?_⟩
  show wpS G f_seen.body [some (encPl pl), some (encI nums), some (.int n)] μ _
  unfold f_seen
  clean_wf
  intro a ha
  refine hW (ws := []) hw hp .nil (by decide) hn up_same fun μ1 r w sd pc pq h k hr => ?_
  clean_wf
  refine r_fld 30 g h (by simp) rfl ?_
  exact tup_lst h.hp (q μ1 ((Kept.new ha).trans k))
end MP

set_option linter.all false
set_option maxRecDepth 100000
set_option maxHeartbeats 1000000
set_option Elab.async false
/-! F9: walks of the laws. -/
namespace MP
local macro_rules
  | `(tactic| clean_wf) => `(tactic| simp only [ws_set, ws_set1, ws_ret, ws_nop, ws_exp, ws_exp1, ws_sidx, ws_sidx1, ws_satt, ws_satt1, ws_aat, ws_aat1, ws_avar, ws_avar1, augK_int, ws_for, ws_forS, wpE, wpA, opt_some, gv_0, gv_s, matP, List.set, b_add, b_addS, b_addT, b_sub, b_mul, b_div, b_mod, b_pow, c_len, c_lenT, c_int, c_intB, c_abs, c_min, c_max, c_tupT, c_eqI, c_neI, c_eqS, c_neS, c_lt, c_le, c_gt, c_ge, c_is, c_isnot, c_isB, c_isnotB, c_idxT, g_0, g_1, g_2, g_3, g_4, g_5, g_6, o_non, o_int, Bool.not_true, Bool.not_false, br_t, br_f, c_itA, c_itT, c_itS])
local macro_rules
  | `(tactic| sizeOf_list_dec) => `(tactic| first
    | assumption
    | exact Ne.symm (by assumption)
    | exact ne_new (by assumption) (by assumption)
    | exact Ne.symm (ne_new (by assumption) (by assumption))
    | exact BagAt.ne (by assumption) (by assumption)
    | exact Ne.symm (BagAt.ne (by assumption) (by assumption))
    | exact id)
local macro_rules
  | `(tactic| array_mem_dec) => `(tactic| first
    | assumption
    | exact up_same
    | (refine (up_ne (by sizeOf_list_dec)).trans ?_; array_mem_dec)
    | (refine (by assumption : Kept _ _ _) _ _ (by sizeOf_list_dec) ?_; array_mem_dec)
    | (refine BagAt.new ?_ (by assumption); array_mem_dec)
    | (refine BagAt.off ?_ (by sizeOf_list_dec); array_mem_dec)
    | (refine BagAt.keep ?_ (by assumption) (by sizeOf_list_dec); array_mem_dec)
    | exact Kept.refl
    | exact Kept.new (by assumption)
    | (refine Kept.trans ?_ (by assumption); array_mem_dec)
    | (refine Kept.loc (by assumption) ?_; array_mem_dec)
    | (refine Kept.nw (by assumption) ?_; array_mem_dec))
variable {μ μ' μ1 μ2 : Sto} {a b p q : Nat} {l : List D} {i : Int} {x y d : D} {o : Ob} {ρ : Env}
def f_step : FD := ⟨3, 16, (.seq (.set (.cons (.v 3) (.cons (.v 4) (.cons (.v 5) (.cons (.v 6) (.cons (.v 7) (.cons (.v 8) (.cons (.v 9) .nil))))))) (.var 1)) (.seq (.set (.cons (.v 10) (.cons (.v 11) .nil)) (.idx (.var 0) (.var 3))) (.seq (.ite (.cmp .lt (.var 4) (.prim .len (.cons (.var 10) .nil))) (.seq (.set (.v 12) (.idx (.var 10) (.var 4))) (.seq (.set (.v 13) (.bm .get (.var 5) (.cons (.idx (.var 12) (.ci 1)) (.cons (.ci 0) .nil)))) (.seq (.ite (.cmp .eq (.idx (.var 12) (.ci 0)) (.cs [112, 117, 116])) (.setIdx (.var 5) (.idx (.var 12) (.ci 1)) (.idx (.var 12) (.ci 2))) .nop) (.seq (.ite (.cmp .eq (.idx (.var 12) (.ci 0)) (.cs [99, 111, 112, 121])) (.setIdx (.var 5) (.idx (.var 12) (.ci 1)) (.bm .get (.var 5) (.cons (.idx (.var 12) (.ci 2)) (.cons (.ci 0) .nil)))) .nop) (.seq (.ite (.cmp .eq (.idx (.var 12) (.ci 0)) (.cs [97, 100, 100])) (.setIdx (.var 5) (.idx (.var 12) (.ci 1)) (.bin .add (.var 13) (.idx (.var 12) (.ci 2)))) .nop) (.seq (.ite (.cmp .eq (.idx (.var 12) (.ci 0)) (.cs [116, 101, 108, 108])) (.expr (.bm .append (.var 7) (.cons (.var 13) .nil))) .nop) (.seq (.ite (.cmp .eq (.idx (.var 12) (.ci 0)) (.cs [114, 101, 97, 100])) (.seq (.ite (.cmp .eq (.var 6) (.prim .len (.cons (.var 2) .nil))) (.ret (.tup (.cons (.var 3) (.cons (.var 4) (.cons (.var 5) (.cons (.var 6) (.cons (.var 7) (.cons (.cs [100, 114, 121]) (.cons (.var 9) .nil))))))))) .nop) (.seq (.setIdx (.var 5) (.idx (.var 12) (.ci 1)) (.idx (.var 2) (.var 6))) (.set (.v 6) (.bin .add (.var 6) (.ci 1))))) .nop) (.ret (.tup (.cons (.var 3) (.cons (.bin .add (.var 4) (.ci 1)) (.cons (.var 5) (.cons (.var 6) (.cons (.var 7) (.cons (.var 8) (.cons (.var 9) .nil)))))))))))))))) .nop) (.seq (.ite (.cmp .eq (.idx (.var 11) (.ci 0)) (.cs [115, 116, 111, 112])) (.ret (.tup (.cons (.var 3) (.cons (.var 4) (.cons (.var 5) (.cons (.var 6) (.cons (.var 7) (.cons (.cs [115, 116, 111, 112]) (.cons (.var 9) .nil))))))))) .nop) (.seq (.ite (.cmp .eq (.idx (.var 11) (.ci 0)) (.cs [103, 111])) (.set (.v 14) (.idx (.var 11) (.ci 1))) (.seq (.set (.v 13) (.bm .get (.var 5) (.cons (.idx (.var 11) (.ci 1)) (.cons (.ci 0) .nil)))) (.seq (.set (.v 15) (.idx (.lst (.cons (.cmp .lt (.var 13) (.idx (.var 11) (.ci 2))) (.cons (.cmp .eq (.var 13) (.idx (.var 11) (.ci 2))) .nil))) (.prim .int (.cons (.cmp .eq (.idx (.var 11) (.ci 0)) (.cs [105, 115])) .nil)))) (.set (.v 14) (.idx (.var 11) (.bin .sub (.ci 4) (.prim .int (.cons (.var 15) .nil)))))))) (.seq (.expr (.bm .append (.var 9) (.cons (.var 14) .nil))) (.ret (.tup (.cons (.var 14) (.cons (.ci 0) (.cons (.var 5) (.cons (.var 6) (.cons (.var 7) (.cons (.var 8) (.cons (.var 9) .nil)))))))))))))))⟩
def f_walk : FD := ⟨3, 5, (.seq (.set (.v 3) (.tup (.cons (.ci 0) (.cons (.ci 0) (.cons .dnew (.cons (.ci 0) (.cons (.lst .nil) (.cons (.cs [111, 110]) (.cons (.lst (.cons (.ci 0) .nil)) .nil))))))))) (.seq (.for (.v 4) .range (.cons (.var 2) .nil) (.ite (.cmp .eq (.idx (.var 3) (.ci 5)) (.cs [111, 110])) (.set (.v 3) (.call 131 (.cons (.var 0) (.cons (.var 3) (.cons (.var 1) .nil))))) .nop)) (.ret (.var 3))))⟩
/-! ### the laws' own walk -/
def stD (s : RS) (w sd pc : Nat) : D := .tup [encN s.cur, encN s.place, .ref w, encN s.taken, .ref sd, .str (wdC s.stand), .ref pc]
/-- the lists and the dict of a walk's state -/
structure WkAt (μ : Sto) (w sd pc : Nat) (s : RS) : Prop where
  hw : μ w = some (.dF (encA D.int s.ws))
  hs : μ sd = some (.lst (s.said.map D.int))
  hp : μ pc = some (.lst (s.been.map encN))
  ne : sd ≠ pc
abbrev Ws (w sd pc : Nat) : Nat → Prop := fun q => q = w ∨ q = sd ∨ q = pc
section
variable {w sd pc : Nat} {s : RS}
theorem WkAt.rw_ (h : WkAt μ w sd pc s) : w ≠ sd ∧ w ≠ pc := by
  refine ⟨fun e => ?_, fun e => ?_⟩
  · have := h.hw; rw [e, h.hs] at this; cases this
  · have := h.hw; rw [e, h.hp] at this; cases this
theorem WkAt.keep {S : Nat → Prop} (h : WkAt μ w sd pc s) (k : Kept S μ μ') (hs : ∀ q, Ws w sd pc q → ¬ S q) : WkAt μ' w sd pc s :=
  ⟨k _ _ (hs _ (.inl rfl)) h.hw, k _ _ (hs _ (.inr (.inl rfl))) h.hs, k _ _ (hs _ (.inr (.inr rfl))) h.hp, h.ne⟩
theorem WkAt.wsU (h : WkAt μ w sd pc s) (x : List (Nm × Int)) : WkAt (upd μ w (.dF (encA D.int x))) w sd pc { s with ws := x } := by
  obtain ⟨n4, n5⟩ := h.rw_
  exact ⟨up_same, by rw [up_ne (Ne.symm n4)]; exact h.hs, by rw [up_ne (Ne.symm n5)]; exact h.hp, h.ne⟩
theorem WkAt.sdU (h : WkAt μ w sd pc s) (x : List Int) : WkAt (upd μ sd (.lst (x.map D.int))) w sd pc { s with said := x } := by
  obtain ⟨n4, n5⟩ := h.rw_
  exact ⟨by rw [up_ne n4]; exact h.hw, up_same, by rw [up_ne (Ne.symm h.ne)]; exact h.hp, h.ne⟩
theorem WkAt.pcU (h : WkAt μ w sd pc s) (x : List Nat) : WkAt (upd μ pc (.lst (x.map encN))) w sd pc { s with been := x } := by
  obtain ⟨n4, n5⟩ := h.rw_
  exact ⟨by rw [up_ne n5]; exact h.hw, by rw [up_ne h.ne]; exact h.hs, up_same, h.ne⟩
end
abbrev StepLS (F : Fn) : Prop := ∀ {w sd pc : Nat} {pl : Plan} {nums : List Int} {s : RS} {nv : D} {μ : Sto} {Q : D → Sto → Prop} {X : EX}, WkAt μ w sd pc s → s.stand = .on → WfR pl nums s → s.sz < 4000000 → (nv = encI nums ∨ ∃ a, nv = .ref a ∧ μ a = some (.lst (nums.map D.int)) ∧ ¬ Ws w sd pc a) →
  (∀ μ', WkAt μ' w sd pc (stepS pl nums s) → Kept (Ws w sd pc) μ μ' → Q (stD (stepS pl nums s) w sd pc) μ') → F [encPl pl, stD s w sd pc, nv] μ Q X
/-- the numbers handed in: a tuple or a list -/
theorem nv_len {nv : D} {nums : List Int} {Q : D → Sto → Prop} (h : nv = encI nums ∨ ∃ a, nv = .ref a ∧ μ a = some (.lst (nums.map D.int))) (q : Q (.int nums.length) μ) : lenP nv μ Q := by
  rcases h with rfl | ⟨a, rfl, e⟩
  · show Q (.int (nums.map D.int).length) μ
    rw [List.length_map]; exact q
  · exact len_lst e (by rw [List.length_map]; exact q)
theorem nv_at {nv : D} {nums : List Int} {k : Nat} {n : Int} {Q : D → Prop} (h : nv = encI nums ∨ ∃ a, nv = .ref a ∧ μ a = some (.lst (nums.map D.int))) (e : nums[k]? = some n) (q : Q (.int n)) : idxP nv (encN k) μ Q := by
  have hk := (List.getElem?_eq_some_iff.mp e).1
  have ei : getI (nums.map D.int) (k : Int) = some (.int n) := by
    unfold getI
    rw [ixN_of (by omega) (by rw [List.length_map]; omega)]
    show (nums.map D.int)[((k : Nat) : Int).toNat]? = _
    rw [Int.toNat_natCast, List.getElem?_map, e]; rfl
  rcases h with rfl | ⟨a, rfl, em⟩
  · exact opt_of ei q
  · exact idx_lst em ei q
theorem worth_get {ws : List (Nm × Int)} {z : Nm} {Q : D → Sto → Prop} (h : μ a = some (.dF (encA D.int ws))) (q : Q (.int (worthOf ws z)) μ) : primP .get [.ref a, .str z, .int 0] μ Q := by
  refine get_A h ?_
  unfold worthOf at q
  cases e : alook ws z with
  | none => rw [e] at q; exact q
  | some n => rw [e] at q; exact q
theorem deed_two (d : Deed) : ∃ u v r, encD d = .tup (.str u :: .str v :: r) := by cases d <;> exact ⟨_, _, _, rfl⟩
theorem stepL_ok {G : Ctx} (hG : Mono G) : StepLS (runF G f_step) := by
  intro w sd pc pl nums s nv μ Q X h hon wf hz hnv q
  have hk := wf.been _ (cur_mem wf.ne)
  have ep := pcAt_get hk
  have hnv0 : nv = encI nums ∨ ∃ a, nv = .ref a ∧ μ a = some (.lst (nums.map D.int)) := hnv.imp id fun ⟨a, e1, e2, _⟩ => ⟨a, e1, e2⟩
  have szs : s.ws.length < 10000000 ∧ s.said.length < 10000000 ∧ s.been.length < 10000000 := by unfold RS.sz at hz; omega
  have kw : ∀ {o}, Kept (Ws w sd pc) μ (upd μ w o) := .set (.inl rfl)
  have ks : ∀ {o}, Kept (Ws w sd pc) μ (upd μ sd o) := .set (.inr (.inl rfl))
  have kp : ∀ {o}, Kept (Ws w sd pc) μ (upd μ pc o) := .set (.inr (.inr rfl))
  refine ⟨rfl, ?_⟩
  show wpS G f_step.body [some (encPl pl), some (stD s w sd pc), some nv, none, none, none, none, none, none, none, none, none, none, none, none, none] μ _
  unfold f_step stD
  clean_wf
  refine pl_idx ep ?_
  clean_wf
  refine if_then hG (b := decide (s.place < (pcAt pl s.cur).1.length)) (vl ?_) (fun e => ?_) fun e => ?_
  · unfold encDs
    clean_wf
    refine ⟨congrArg D.bl ?_, trivial⟩
    rw [List.length_map, decide_eq_decide]; omega
  · have hlt := of_decide_eq_true e
    have ed := List.getElem?_eq_getElem hlt
    have ei : getI ((pcAt pl s.cur).1.map encD) (s.place : Int) = some (encD (pcAt pl s.cur).1[s.place]) := by
      unfold getI
      rw [ixN_of (by omega) (by rw [List.length_map]; omega)]
      show ((pcAt pl s.cur).1.map encD)[((s.place : Nat) : Int).toNat]? = _
      rw [Int.toNat_natCast, List.getElem?_map, ed]; rfl
    generalize hd : (pcAt pl s.cur).1[s.place] = d at ed ei
    have es : stepS pl nums s = if (doS nums d s).stand = .on then { doS nums d s with place := s.place + 1 } else doS nums d s := by
      unfold stepS; rw [ed]
    unfold encDs
    clean_wf
    refine opt_of ei ?_
    have fin : ∀ s' μ', (doS nums d s) = s' → s'.stand = .on → WkAt μ' w sd pc s' → s'.been = s.been → Kept (Ws w sd pc) μ μ' → Q (.tup [encN s.cur, .int (s.place + 1), .ref w, encN s'.taken, .ref sd, .str (wdC s.stand), .ref pc]) μ' := fun s' μ' e1 e2 h' eb k' => by
      have es2 : stepS pl nums s = { s' with place := s.place + 1 } := by rw [es, e1, if_pos e2]
      have := q μ' (by rw [es2]; exact ⟨h'.hw, h'.hs, h'.hp, h'.ne⟩) k'
      rw [es2] at this
      have ec : ({ s' with place := s.place + 1 } : RS).cur = s.cur := by unfold RS.cur; rw [eb]
      unfold stD at this
      rw [ec] at this
      rw [hon, ← e2]
      have en : (encN (s.place + 1) : D) = .int ((s.place : Int) + 1) := by show D.int ((s.place + 1 : Nat) : Int) = _; rw [Int.natCast_add]; rfl
      rw [show ({ s' with place := s.place + 1 } : RS).place = s.place + 1 from rfl, en] at this
      exact this
    cases d with
    | put a n =>
      unfold encD
      clean_wf
      refine ⟨rcv_get h.hw, worth_get h.hw ?_⟩
      clean_wf
      refine yes ?_
      clean_wf
      refine set_A h.hw wf.nd szs.1 ?_
      refine nay (nay (nay (nay ?_)))
      clean_wf
      exact fin (doS nums (.put a n) s) _ rfl hon (h.wsU _) rfl kw
    | copy a b =>
      unfold encD
      clean_wf
      refine ⟨rcv_get h.hw, worth_get h.hw ?_⟩
      clean_wf
      refine nay (yes ?_)
      clean_wf
      refine ⟨rcv_get h.hw, worth_get h.hw ?_⟩
      refine set_A h.hw wf.nd szs.1 ?_
      refine nay (nay (nay ?_))
      clean_wf
      exact fin (doS nums (.copy a b) s) _ rfl hon (h.wsU _) rfl kw
    | add a n =>
      unfold encD
      clean_wf
      refine ⟨rcv_get h.hw, worth_get h.hw ?_⟩
      clean_wf
      refine nay (nay (yes ?_))
      clean_wf
      refine set_A h.hw wf.nd szs.1 ?_
      refine nay (nay ?_)
      clean_wf
      exact fin (doS nums (.add a n) s) _ rfl hon (h.wsU _) rfl kw
    | tell a =>
      unfold encD
      clean_wf
      refine ⟨rcv_get h.hw, worth_get h.hw ?_⟩
      clean_wf
      refine nay (nay (nay (yes ?_)))
      clean_wf
      refine ⟨rdL_of h.hs trivial, app_lst h.hs (by rw [List.length_map]; unfold sizeMax; omega) ?_⟩
      refine nay ?_
      clean_wf
      have h2 := h.sdU (s.said ++ [worthOf s.ws a])
      rw [List.map_append] at h2
      exact fin (doS nums (.tell a) s) _ rfl hon h2 rfl ks
    | read a =>
      unfold encD
      clean_wf
      refine ⟨rcv_get h.hw, worth_get h.hw ?_⟩
      clean_wf
      refine nay (nay (nay (nay (yes ?_))))
      refine if_then hG (b := decide (s.taken = nums.length)) (vl ?_) (fun e => ?_) fun e => ?_
      · clean_wf
        refine nv_len hnv0 ?_
        clean_wf
        refine ⟨congrArg D.bl ?_, trivial⟩
        rw [decide_eq_decide]; omega
      · have e := of_decide_eq_true e
        clean_wf
        have e1 : doS nums (.read a) s = { s with stand := .dry } := by
          unfold doS; rw [List.getElem?_eq_none (by omega)]
        have es2 : stepS pl nums s = { s with stand := .dry } := by rw [es, e1, if_neg (by simp)]
        rw [es2] at q
        exact q μ ⟨h.hw, h.hs, h.hp, h.ne⟩ .refl
      · have e := of_decide_eq_false e
        have hlt2 : s.taken < nums.length := by have := wf.taken; omega
        have en := List.getElem?_eq_getElem hlt2
        clean_wf
        refine nv_at hnv0 en ?_
        refine set_A h.hw wf.nd szs.1 ?_
        have e1 : doS nums (.read a) s = { s with ws := aput s.ws a nums[s.taken], taken := s.taken + 1 } := by
          unfold doS; rw [en]
        have h2 := h.wsU (aput s.ws a nums[s.taken])
        exact fin _ _ e1 hon ⟨h2.hw, h2.hs, h2.hp, h2.ne⟩ rfl kw
  · have e := of_decide_eq_false e
    have es : stepS pl nums s = endS (pcAt pl s.cur).2 s := by
      unfold stepS; rw [List.getElem?_eq_none (by omega)]
    rw [es] at q
    have go : ∀ p : Nat, endS (pcAt pl s.cur).2 s = { s with been := s.been ++ [p], place := 0 } → ∀ μ1, μ1 = μ ∨ (∃ x o, μ x = none ∧ μ1 = upd μ x o) → recvP .append (.ref pc) μ1 ∧ primP .append [.ref pc, encN p] μ1 fun _ μ2 => Q (.tup [encN p, .int 0, .ref w, encN s.taken, .ref sd, .str (wdC s.stand), .ref pc]) μ2 := fun p e1 μ1 hμ => by
      have k1 : Kept (Ws w sd pc) μ μ1 := by
        rcases hμ with rfl | ⟨x, o, hx, rfl⟩
        · exact .refl
        · exact .new hx
      have h1 : WkAt μ1 w sd pc s := by
        rcases hμ with rfl | ⟨x, o, hx, rfl⟩
        · exact h
        · exact ⟨up_old h.hw hx, up_old h.hs hx, up_old h.hp hx, h.ne⟩
      refine ⟨rdL_of h1.hp trivial, app_lst h1.hp (by rw [List.length_map]; unfold sizeMax; omega) ?_⟩
      have h2 := h1.pcU (s.been ++ [p])
      rw [List.map_append] at h2
      rw [e1] at q
      have := q _ ⟨h2.hw, h2.hs, h2.hp, h2.ne⟩ (k1.trans (.set (.inr (.inr rfl))))
      unfold stD at this
      have ec : ({ s with been := s.been ++ [p], place := 0 } : RS).cur = p := cur_app
      rw [ec] at this
      exact this
    cases he : (pcAt pl s.cur).2 with
    | stop =>
      unfold encEd
      refine yes ?_
      clean_wf
      rw [he] at q
      exact q μ ⟨h.hw, h.hs, h.hp, h.ne⟩ .refl
    | go p =>
      unfold encEd
      refine nay (yes ?_)
      clean_wf
      exact go p (by rw [he]; rfl) μ (.inl rfl)
    | test l a n y z =>
      refine if_then hG (b := false) (by cases l <;> exact ⟨rfl, rfl⟩) (fun z => nomatch z) fun _ => ?_
      refine seq_of (s := .ite _ _ _) hG (fun ρ1 μ1 => (∃ x o, μ x = none ∧ μ1 = upd μ x o) ∧ ∃ o12 o13 o15, ρ1 = [some (encPl pl), some (stD s w sd pc), some nv, some (encN s.cur), some (encN s.place), some (.ref w), some (encN s.taken), some (.ref sd), some (.str (wdC s.stand)), some (.ref pc), some (encDs (pcAt pl s.cur).1), some (encEd (.test l a n y z)), o12, o13, some (encN (if isYes l (worthOf s.ws a) n = true then y else z)), o15]) ?_ ?_
      · refine ite_v hG (b := false) (by cases l <;> exact ⟨rfl, rfl⟩) (fun z => nomatch z) fun _ => ?_
        unfold encEd
        clean_wf
        refine ⟨rcv_get h.hw, worth_get h.hw ?_⟩
        clean_wf
        intro x hx
        clean_wf
        have ey : getI [D.bl (decide (worthOf s.ws a < n)), D.bl (decide (worthOf s.ws a = n))] (b2i (decide (wTest l = wIs))) = some (.bl (isYes l (worthOf s.ws a) n)) := by cases l <;> rfl
        refine idx_lst up_same ey ?_
        clean_wf
        have e4 : getI [D.str (wTest l), .str a, .int n, encN y, encN z] (4 - b2i (isYes l (worthOf s.ws a) n)) = some (encN (if isYes l (worthOf s.ws a) n = true then y else z)) := by
          cases isYes l (worthOf s.ws a) n <;> rfl
        refine opt_of e4 ?_
        exact ⟨⟨x, _, hx, rfl⟩, _, _, _, rfl⟩
      · rintro ρ1 μ1 ⟨hμ, o12, o13, o15, rfl⟩
        clean_wf
        exact go _ (by rw [he]; rfl) μ1 (.inr hμ)
abbrev WalkLS (F : Fn) : Prop := ∀ {pl : Plan} {nums : List Int} {n : Nat} {μ : Sto} {Q : D → Sto → Prop} {X : EX}, okWays pl → 0 < pl.length → n < 1000000 →
  (∀ μ' w sd pc, WkAt μ' w sd pc (runS pl nums n (initS 0 [])) → Kn μ μ' → Q (stD (runS pl nums n (initS 0 [])) w sd pc) μ') → F [encPl pl, encI nums, .int n] μ Q X
theorem walkL_ok {G : Ctx} (hG : Mono G) (hS : StepLS (G.fn 131)) : WalkLS (runF G f_walk) := by
  intro pl nums n μ Q X hw hp hn q
  refine ⟨rfl, ?_⟩
  show wpS G f_walk.body [some (encPl pl), some (encI nums), some (.int n), none, none] μ _
  unfold f_walk
  clean_wf
  intro w hwn
  clean_wf
  intro sd hsd
  clean_wf
  intro pc hpc
  clean_wf
  have n1 : w ≠ sd := ne_new up_same hsd
  have n2 : w ≠ pc := ne_new (show _ = some (Ob.dF []) by rw [up_ne n1]; exact up_same) hpc
  have n3 : sd ≠ pc := ne_new up_same hpc
  have h0 : WkAt (upd (upd (upd μ w (.dF [])) sd (.lst [])) pc (.lst [.int 0])) w sd pc (initS 0 []) := ⟨by rw [up_ne n2, up_ne n1]; exact up_same, by rw [up_ne n3]; exact up_same, up_same, n3⟩
  have kn0 : Kn μ (upd (upd (upd μ w (.dF [])) sd (.lst [])) pc (.lst [.int 0])) := (Kept.new hwn).trans ((Kept.new hsd).trans (.new hpc))
  have m1 : μ w = none := hwn
  have m2 : μ sd = none := (Kept.new (S := fun _ => False) hwn).none id hsd
  have m3 : μ pc = none := ((Kept.new (S := fun _ => False) hwn).trans (Kept.new hsd)).none id hpc
  refine ⟨⟨by omega, by omega⟩, ?_⟩
  have wf0 := init_wf (pl := pl) (nums := nums) (ws := []) hp .nil
  refine for_ix (fun i ρ μ' => WkAt μ' w sd pc (runS pl nums i (initS 0 [])) ∧ Kn μ μ' ∧ ∃ o, ρ = [some (encPl pl), some (encI nums), some (.int n), some (stD (runS pl nums i (initS 0 [])) w sd pc), o]) (fun _ _ _ _ => trivial) ?_ ?_ ⟨h0, kn0, _, rfl⟩
  · rintro i d hd ρ μ2 K' ⟨h2, kn2, o, rfl⟩ hK
    have hi := (range_at hd).1
    have wf := runS_wf (nums := nums) hw wf0 i
    have sz := runS_sz (pl := pl) (nums := nums) (s := initS 0 []) i
    have sz0 : (initS 0 []).sz = 1 := by simp [RS.sz, initS]
    generalize hs : runS pl nums i (initS 0 []) = s at h2 wf sz hK
    have es : runS pl nums (i + 1) (initS 0 []) = if s.stand = .on then stepS pl nums s else s := by rw [← hs]; rfl
    refine ite_v hG (b := decide (s.stand = .on)) ⟨congrArg D.bl (by cases s.stand <;> rfl), rfl⟩ (fun e => ?_) fun e => ?_
    · have e := of_decide_eq_true e
      rw [if_pos e] at es
      clean_wf
      refine hS h2 e wf (by omega) (.inl rfl) fun μ3 h3 k3 => ?_
      refine hK _ _ ⟨by rw [es]; exact h3, fun z o _ ez => k3 z o (fun hz => ?_) (kn2 z o id ez), _, by rw [es]⟩
      rcases hz with rfl | rfl | rfl
      · rw [m1] at ez; cases ez
      · rw [m2] at ez; cases ez
      · rw [m3] at ez; cases ez
    · have e := of_decide_eq_false e
      rw [if_neg e] at es
      exact hK _ _ ⟨by rw [es]; exact h2, kn2, _, by rw [es]; rfl⟩
  · rintro ρ μ2 ⟨h2, kn2, o, rfl⟩
    have el : (rangeL 0 ((n : Int)).toNat 1).length = n := by simp [rangeL]
    rw [el] at h2 ⊢
    clean_wf
    exact q μ2 w sd pc h2 kn2
theorem encI_ok {nums : List Int} {n : Nat} : D.ok (n + 2) (encI nums) = true := by
  show (nums.map D.int).all (D.ok (n + 1)) = true
  rw [List.all_eq_true]; intro x hx; obtain ⟨n, _, rfl⟩ := List.mem_map.mp hx; rfl
theorem wdC_ok {n : Nat} (w : Wd) : D.ok (n + 1) (.str (wdC w)) = true := by cases w <;> rfl
theorem finD_ok {s : RS} : D.ok 60 (finD s) = true := by
  show ([D.str (wdC s.stand), encI s.said].all (D.ok 59)) = true
  rw [List.all_cons, List.all_cons, wdC_ok, encI_ok]; rfl
theorem comp_pureM {chk : Sto → Prop} {turn : D → Sto → (Option D → Sto → Prop) → Prop} {K : List D → Sto → Prop} {l : List D} (y : D) (hc : chk μ) (ht : ∀ d ∈ l, ∀ K' : Option D → Sto → Prop, K' (some y) μ → turn d μ K') (hz : l.length ≤ sizeMax) (hk : K (List.replicate l.length y) μ) : compP chk turn K l [] μ := by
  refine comp_ix (fun i acc μ' => μ' = μ ∧ acc = List.replicate i y) (fun i acc μ' h => by rw [h.1]; exact hc) ?_ ?_ (by simpa using hz) ⟨rfl, rfl⟩
  · rintro i d hd acc μ' K' ⟨rfl, rfl⟩ k1 k2
    refine ht d (List.mem_of_getElem? hd) _ (k1 _ _ ⟨rfl, ?_⟩)
    rw [List.replicate_succ']
  · rintro acc μ' ⟨rfl, rfl⟩
    exact hk
end MP

set_option linter.all false
set_option maxRecDepth 100000
set_option maxHeartbeats 1000000
set_option Elab.async false
/-! C18: k18. -/
namespace MP
local macro_rules
  | `(tactic| clean_wf) => `(tactic| simp only [ws_set, ws_set1, ws_ret, ws_nop, ws_exp, ws_exp1, ws_sidx, ws_sidx1, ws_satt, ws_satt1, ws_aat, ws_aat1, ws_avar, ws_avar1, augK_int, ws_for, ws_forS, wpE, wpA, opt_some, gv_0, gv_s, matP, List.set, b_add, b_addS, b_addT, b_sub, b_mul, b_div, b_mod, b_pow, c_len, c_lenT, c_int, c_intB, c_abs, c_min, c_max, c_tupT, c_eqI, c_neI, c_eqS, c_neS, c_lt, c_le, c_gt, c_ge, c_is, c_isnot, c_isB, c_isnotB, c_idxT, g_0, g_1, g_2, g_3, g_4, g_5, g_6, o_non, o_int, Bool.not_true, Bool.not_false, br_t, br_f, c_itA, c_itT, c_itS])
local macro_rules
  | `(tactic| sizeOf_list_dec) => `(tactic| first
    | assumption
    | exact Ne.symm (by assumption)
    | exact ne_new (by assumption) (by assumption)
    | exact Ne.symm (ne_new (by assumption) (by assumption))
    | exact BagAt.ne (by assumption) (by assumption)
    | exact Ne.symm (BagAt.ne (by assumption) (by assumption))
    | exact id)
local macro_rules
  | `(tactic| array_mem_dec) => `(tactic| first
    | assumption
    | exact up_same
    | (refine (up_ne (by sizeOf_list_dec)).trans ?_; array_mem_dec)
    | (refine (by assumption : Kept _ _ _) _ _ (by sizeOf_list_dec) ?_; array_mem_dec)
    | (refine BagAt.new ?_ (by assumption); array_mem_dec)
    | (refine BagAt.off ?_ (by sizeOf_list_dec); array_mem_dec)
    | (refine BagAt.keep ?_ (by assumption) (by sizeOf_list_dec); array_mem_dec)
    | exact Kept.refl
    | exact Kept.new (by assumption)
    | (refine Kept.trans ?_ (by assumption); array_mem_dec)
    | (refine Kept.loc (by assumption) ?_; array_mem_dec)
    | (refine Kept.nw (by assumption) ?_; array_mem_dec))
variable {μ μ' μ1 μ2 : Sto} {a b p q : Nat} {l : List D} {i : Int} {x y d : D} {o : Ob} {ρ : Env}
def f_is_idle : FD := ⟨1, 1, (.ret (.and (.cmp .eq (.idx (.var 0) (.ci 0)) (.tup .nil)) (.cmp .eq (.idx (.idx (.var 0) (.ci 1)) (.ci 0)) (.cs [103, 111]))))⟩
def f_followed : FD := ⟨2, 3, (.seq (.set (.v 2) (.lst .nil)) (.seq (.while (.call 174 (.cons (.idx (.var 0) (.var 1)) .nil)) (.seq (.ite (.cmp .isin (.var 1) (.var 2)) (.ret (.prim .min1 (.cons (.slc (.var 2) (.part (.bm .index (.var 2) (.cons (.var 1) .nil))) .cn) .nil))) .nop) (.seq (.expr (.bm .append (.var 2) (.cons (.var 1) .nil))) (.set (.v 1) (.idx (.idx (.idx (.var 0) (.var 1)) (.ci 1)) (.ci 1)))))) (.ret (.var 1))))⟩
def f_end_by : FD := ⟨2, 2, (.seq (.ite (.cmp .eq (.idx (.var 0) (.ci 0)) (.cs [115, 116, 111, 112])) (.ret (.var 0)) .nop) (.seq (.ite (.cmp .eq (.idx (.var 0) (.ci 0)) (.cs [103, 111])) (.ret (.tup (.cons (.cs [103, 111]) (.cons (.idx (.var 1) (.ci 0)) .nil)))) .nop) (.ret (.bin .add (.slc (.var 0) .cn (.part (.ci 3))) (.tup (.cons (.idx (.var 1) (.ci 0)) (.cons (.idx (.var 1) (.ci 1)) .nil)))))))⟩
def f_short : FD := ⟨1, 8, (.seq (.set (.v 1) (.lst (.cons (.call 168 (.cons (.var 0) (.cons (.ci 0) .nil))) .nil))) (.seq (.set (.v 2) (.lst .nil)) (.seq (.while (.cmp .lt (.prim .len (.cons (.var 2) .nil)) (.prim .len (.cons (.var 1) .nil))) (.seq (.set (.cons (.v 3) (.cons (.v 4) .nil)) (.idx (.var 0) (.idx (.var 1) (.prim .len (.cons (.var 2) .nil))))) (.seq (.set (.v 5) (.lst .nil)) (.seq (.for (.v 6) .any (.cons (.call 229 (.cons (.var 4) .nil)) .nil) (.seq (.set (.v 7) (.call 168 (.cons (.var 0) (.cons (.var 6) .nil)))) (.seq (.ite (.cmp .notin (.var 7) (.var 1)) (.expr (.bm .append (.var 1) (.cons (.var 7) .nil))) .nop) (.expr (.bm .append (.var 5) (.cons (.bm .index (.var 1) (.cons (.var 7) .nil)) .nil)))))) (.expr (.bm .append (.var 2) (.cons (.tup (.cons (.var 3) (.cons (.call 166 (.cons (.var 4) (.cons (.var 5) .nil))) .nil))) .nil))))))) (.ret (.tup (.cons (.prim .tuple (.cons (.var 2) .nil)) (.cons (.prim .tuple (.cons (.var 1) .nil)) .nil)))))))⟩
def f_idle_plan : FD := ⟨2, 6, (.seq (.set (.v 2) (.call 114 (.cons (.var 0) (.cons (.var 1) (.cons (.ci 2) .nil))))) (.seq (.set (.v 3) (.lst .nil)) (.seq (.for (.cons (.v 4) (.cons (.v 5) .nil)) .any (.cons (.var 2) .nil) (.seq (.ite (.cmp .eq (.call 136 (.cons (.var 0) (.cons (.ci 2) .nil))) (.ci 0)) (.seq (.set (.v 4) (.tup .nil)) (.set (.v 5) (.tup (.cons (.cs [103, 111]) (.cons (.call 136 (.cons (.var 0) (.cons (.var 1) .nil))) .nil))))) .nop) (.expr (.bm .append (.var 3) (.cons (.tup (.cons (.var 4) (.cons (.var 5) .nil))) .nil))))) (.ret (.prim .tuple (.cons (.var 3) .nil))))))⟩
def fl_followed : FD := ⟨2, 3, (.seq (.set (.v 2) (.lst .nil)) (.seq (.while (.and (.cmp .eq (.idx (.idx (.var 0) (.var 1)) (.ci 0)) (.tup .nil)) (.cmp .eq (.idx (.idx (.idx (.var 0) (.var 1)) (.ci 1)) (.ci 0)) (.cs [103, 111]))) (.seq (.ite (.cmp .isin (.var 1) (.var 2)) (.ret (.prim .min1 (.cons (.slc (.var 2) (.part (.bm .index (.var 2) (.cons (.var 1) .nil))) .cn) .nil))) .nop) (.seq (.expr (.bm .append (.var 2) (.cons (.var 1) .nil))) (.set (.v 1) (.idx (.idx (.idx (.var 0) (.var 1)) (.ci 1)) (.ci 1)))))) (.ret (.var 1))))⟩
def f_law_k18 : FD := ⟨1, 10, (.seq (.set (.v 1) (.call 42 (.cons (.var 0) (.cons (.ci 0) .nil)))) (.seq (.set (.v 2) (.call 69 (.cons (.call 42 (.cons (.var 0) (.cons (.ci 1) .nil))) (.cons (.idx (.lst (.cons (.call 52 (.cons (.var 1) (.cons (.ci 40) .nil))) (.cons (.ci 400) .nil))) (.prim .int (.cons (.cmp .eq (.call 136 (.cons (.var 1) (.cons (.ci 6) .nil))) (.ci 0)) .nil))) .nil)))) (.seq (.set (.v 3) (.lst (.cons (.call 64 (.cons (.var 2) (.cons (.ci 0) .nil))) .nil))) (.seq (.set (.v 4) (.lst .nil)) (.seq (.while (.cmp .lt (.prim .len (.cons (.var 4) .nil)) (.prim .len (.cons (.var 3) .nil))) (.seq (.set (.cons (.v 5) (.cons (.v 6) .nil)) (.idx (.var 2) (.idx (.var 3) (.prim .len (.cons (.var 4) .nil))))) (.seq (.set (.v 7) (.comp (.call 64 (.cons (.var 2) (.cons (.var 8) .nil))) (.v 8) .any (.cons (.call 150 (.cons (.var 6) .nil)) .nil) (.cb true) [8])) (.seq (.for (.v 8) .any (.cons (.var 7) .nil) (.ite (.cmp .notin (.var 8) (.var 3)) (.expr (.bm .append (.var 3) (.cons (.var 8) .nil))) .nop)) (.seq (.set (.v 9) (.comp (.bm .index (.var 3) (.cons (.var 8) .nil)) (.v 8) .any (.cons (.var 7) .nil) (.cb true) [8])) (.expr (.bm .append (.var 4) (.cons (.tup (.cons (.var 5) (.cons (.bin .add (.slc (.var 6) .cn (.part (.bin .sub (.prim .len (.cons (.var 6) .nil)) (.prim .len (.cons (.var 7) .nil))))) (.prim .tuple (.cons (.var 9) .nil))) .nil))) .nil)))))))) (.ret (.cmp .eq (.call 220 (.cons (.var 2) .nil)) (.tup (.cons (.prim .tuple (.cons (.var 4) .nil)) (.cons (.prim .tuple (.cons (.var 3) .nil)) .nil))))))))))⟩
/-! ### texts of a plan -/
def strlt (a : Nm) : Prop := ∀ c ∈ a, c < 1114112
theorem str_lt {a : Nm} (h : strlt a) {n : Nat} : D.ok (n + 1) (.str a) = true := List.all_eq_true.mpr fun c hc => decide_eq_true (h c hc)
theorem okD_ {d : Deed} (h : ∀ a ∈ nmD d, strlt a) {n : Nat} : D.ok (n + 2) (encD d) = true := by
  have w : ∀ {u : List Nat}, (u = wPut ∨ u = wCopy ∨ u = wAdd ∨ u = wRead ∨ u = wTell) → D.ok (n + 1) (.str u) = true := fun h => by
    refine str_lt ?_
    rcases h with rfl | rfl | rfl | rfl | rfl <;> (unfold strlt; decide)
  cases d with
  | put a i => show (List.all [D.str wPut, .str a, .int i] (D.ok (n + 1))) = true; rw [List.all_cons, List.all_cons, List.all_cons, w (.inl rfl), str_lt (h a (by simp [nmD]))]; rfl
  | copy a b => show (List.all [D.str wCopy, .str a, .str b] (D.ok (n + 1))) = true; rw [List.all_cons, List.all_cons, List.all_cons, w (.inr (.inl rfl)), str_lt (h a (by simp [nmD])), str_lt (h b (by simp [nmD]))]; rfl
  | add a i => show (List.all [D.str wAdd, .str a, .int i] (D.ok (n + 1))) = true; rw [List.all_cons, List.all_cons, List.all_cons, w (.inr (.inr (.inl rfl))), str_lt (h a (by simp [nmD]))]; rfl
  | read a => show (List.all [D.str wRead, .str a] (D.ok (n + 1))) = true; rw [List.all_cons, List.all_cons, w (.inr (.inr (.inr (.inl rfl)))), str_lt (h a (by simp [nmD]))]; rfl
  | tell a => show (List.all [D.str wTell, .str a] (D.ok (n + 1))) = true; rw [List.all_cons, List.all_cons, w (.inr (.inr (.inr (.inr rfl)))), str_lt (h a (by simp [nmD]))]; rfl
theorem okE_ {e : Ed} (h : ∀ a ∈ nmE e, strlt a) {n : Nat} : D.ok (n + 2) (encEd e) = true := by
  cases e with
  | stop => show (List.all [D.str wStop] (D.ok (n + 1))) = true; rw [List.all_cons, str_lt (by unfold strlt; decide)]; rfl
  | go p => show (List.all [D.str wGo, encN p] (D.ok (n + 1))) = true; rw [List.all_cons, str_lt (by unfold strlt; decide)]; rfl
  | test l a i y z =>
    show (List.all [D.str (wTest l), .str a, .int i, encN y, encN z] (D.ok (n + 1))) = true
    rw [List.all_cons, List.all_cons, str_lt (a := wTest l) (by cases l <;> (unfold strlt; decide)), str_lt (h a (by simp [nmE]))]; rfl
def PcT (p : Pc) : Prop := (∀ d ∈ p.1, ∀ a ∈ nmD d, strlt a) ∧ ∀ a ∈ nmE p.2, strlt a
theorem okDs_ {ds : List Deed} (h : ∀ d ∈ ds, ∀ a ∈ nmD d, strlt a) {n : Nat} : D.ok (n + 3) (encDs ds) = true := by
  show (ds.map encD).all (D.ok (n + 2)) = true
  rw [List.all_eq_true]; intro x hx; obtain ⟨d, hd, rfl⟩ := List.mem_map.mp hx; exact okD_ (h d hd)
theorem okPc_ {p : Pc} (h : PcT p) {n : Nat} : D.ok (n + 4) (encPc p) = true := by
  show (D.ok (n + 3) (encDs p.1) && (D.ok (n + 3) (encEd p.2) && true)) = true
  rw [okDs_ h.1, okE_ h.2]; rfl
theorem okPl_ {pl : Plan} (h : ∀ p ∈ pl, PcT p) {n : Nat} : D.ok (n + 5) (encPl pl) = true := by
  show (pl.map encPc).all (D.ok (n + 4)) = true
  rw [List.all_eq_true]; intro x hx; obtain ⟨d, hd, rfl⟩ := List.mem_map.mp hx; exact okPc_ (h d hd)
structure PlT (pl : Plan) : Prop where
  ways : okWays pl
  pos : 0 < pl.length
  len : pl.length ≤ 1000
  tx : ∀ p ∈ pl, PcT p
theorem OkPl.tx {ns : List Nm} {m : Nat} {pl : Plan} (h : OkPl ns m pl) : ∀ p ∈ pl, PcT p := fun p hp =>
  ⟨fun d hd a ha => okNm_lt (h.names _ (okNmD ((h.deeds p hp).2 d hd) a ha)), fun a ha => okNm_lt (h.names _ (okNmE (h.ends p hp) a ha))⟩
/-! ### pieces that but go on -/
def isGo : Ed → Bool
  | .go _ => true
  | _ => false
def nxtE : Ed → Nat
  | .go p => p
  | _ => 0
def idleP (p : Pc) : Bool := p.1.isEmpty && isGo p.2
def minN (l : List Nat) : Nat := l.min?.getD 0
def folF (pl : Plan) : Nat → List Nat → Nat → Nat
  | 0, _, n => n
  | k + 1, path, n => if idleP (pcAt pl n) = true then (if n ∈ path then minN (path.drop (path.idxOf n)) else folF pl k (path ++ [n]) (nxtE (pcAt pl n).2)) else n
def folOf (pl : Plan) (n : Nat) : Nat := folF pl (pl.length + 1) [] n
theorem minN_eq {l : List Nat} {m : Nat} (h : m ∈ l) (hl : ∀ x ∈ l, m ≤ x) : minN l = m := by
  unfold minN; rw [List.min?_eq_some_iff.mpr ⟨h, hl⟩]; rfl
theorem nxt_lt {pl : Plan} (h : okWays pl) (h0 : 0 < pl.length) {n : Nat} (hn : n < pl.length) : nxtE (pcAt pl n).2 < pl.length := by
  have := h _ (pcAt_mem hn)
  cases e : (pcAt pl n).2 with
  | go p => rw [e] at this; exact this p (by simp [waysE])
  | _ => exact h0
theorem fol_lt {pl : Plan} (h : okWays pl) (h0 : 0 < pl.length) : ∀ {k : Nat} {path : List Nat} {n : Nat}, n < pl.length → (∀ x ∈ path, x < pl.length) → folF pl k path n < pl.length
  | 0, _, _, hn, _ => hn
  | k + 1, path, n, hn, hp => by
    unfold folF
    split
    · split
      · rename_i hm
        have hne : path.drop (path.idxOf n) ≠ [] := by
          have := List.idxOf_lt_length_iff.mpr hm
          intro e
          have := congrArg List.length e
          rw [List.length_drop] at this; simp at this; omega
        cases e : (path.drop (path.idxOf n)).min? with
        | none => exact absurd (List.min?_eq_none_iff.mp e) hne
        | some m =>
          unfold minN; rw [e]
          exact hp m (List.mem_of_mem_drop (List.min?_eq_some_iff.mp e).1)
      · refine fol_lt h h0 (nxt_lt h h0 hn) fun x hx => ?_
        rcases List.mem_append.mp hx with hx | hx
        · exact hp x hx
        · rw [List.mem_singleton.mp hx]; exact hn
    · exact hn
theorem first_nt : ∀ {ks : List Nat} {w : Nat}, w ∈ ks → firstAt (ks.map encN) (encN w) = some (ks.idxOf w)
  | k :: ks, w, h => by
    unfold firstAt
    rw [List.map_cons, List.findIdx?_cons, eqb_nt, List.idxOf_cons]
    by_cases e : k = w
    · subst e; simp
    · have e1 : (k == w) = false := by simpa using e
      rw [if_neg (by simpa using e), e1]
      have := first_nt (ks := ks) (w := w) ((List.mem_cons.mp h).resolve_left (Ne.symm e))
      unfold firstAt at this
      rw [this]; rfl
theorem ints_nt : ∀ {ks : List Nat}, intsD (ks.map encN) = some (ks.map fun (k : Nat) => (k : Int))
  | [] => rfl
  | k :: ks => by show (intsD (ks.map encN)).map _ = _; rw [ints_nt]; rfl
abbrev IdS (F : Fn) : Prop := ∀ {p : Pc} {μ : Sto} {Q : D → Sto → Prop} {X : EX}, PcT p → Q (.bl (idleP p)) μ → F [.tup [encDs p.1, encEd p.2]] μ Q X
theorem idle_ok {G : Ctx} (hG : Mono G) : IdS (runF G f_is_idle) := by
  intro p μ Q X h q
  refine ⟨rfl, ?_⟩
  show wpS G f_is_idle.body [some (.tup [encDs p.1, encEd p.2])] μ _
  unfold f_is_idle
  refine ret_v hG (v := .bl (p.1.isEmpty && isGo p.2)) (v_and hG (b1 := p.1.isEmpty) (b2 := isGo p.2) (vl ?_) fun _ => vl ?_) q
  · clean_wf
    refine .inl ⟨okDs_ h.1, rfl, ?_⟩
    refine ⟨congrArg D.bl ?_, by trivial⟩
    unfold encDs
    cases p.1 <;> rfl
  · clean_wf
    cases p.2 with
    | stop => exact ⟨rfl, by trivial⟩
    | go q => exact ⟨rfl, by trivial⟩
    | test l a n y z => cases l <;> exact ⟨rfl, by trivial⟩
theorem wpE_br {G : Ctx} {e : E} {μ : Sto} {b : Bool} {Q : D → Sto → Prop} {X : EX} (hG : Mono G) (h : Val G e ρ μ (.bl b)) (q : Q (.bl b) μ) : wpE G e ρ μ Q X := v_use hG h q
abbrev FolS (F : Fn) : Prop := ∀ {pl : Plan} {n : Nat} {μ : Sto} {Q : D → Sto → Prop} {X : EX}, PlT pl → n < pl.length → (∀ μ', Kn μ μ' → Q (encN (folOf pl n)) μ') → F [encPl pl, encN n] μ Q X
def folB (c : E) : FD := ⟨2, 3, (.seq (.set (.v 2) (.lst .nil)) (.seq (.while c (.seq (.ite (.cmp .isin (.var 1) (.var 2)) (.ret (.prim .min1 (.cons (.slc (.var 2) (.part (.bm .index (.var 2) (.cons (.var 1) .nil))) .cn) .nil))) .nop) (.seq (.expr (.bm .append (.var 2) (.cons (.var 1) .nil))) (.set (.v 1) (.idx (.idx (.idx (.var 0) (.var 1)) (.ci 1)) (.ci 1)))))) (.ret (.var 1))))⟩
theorem fol_loop {G : Ctx} (hG : Mono G) {c : E} (hc : ∀ {pl : Plan} {n : Nat} {o : Option D} {μ : Sto}, n < pl.length → PlT pl → Val G c [some (encPl pl), some (encN n), o] μ (.bl (idleP (pcAt pl n)))) : FolS (runF G (folB c)) := by
  intro pl n μ Q X hp hn q
  refine ⟨rfl, ?_⟩
  show wpS G (folB c).body [some (encPl pl), some (encN n), none] μ _
  unfold folB
  clean_wf
  intro a ha
  clean_wf
  have q' : ∀ k μ', folOf pl n = k → Kn μ μ' → Q (encN k) μ' := fun k μ' e h => by rw [← e]; exact q μ' h
  refine ⟨fun m ρ μ' => ∃ (path : List Nat) (k : Nat), path.length + m = pl.length + 1 ∧ path.Nodup ∧ (∀ x ∈ path, x < pl.length) ∧ k < pl.length ∧ folF pl m path k = folOf pl n ∧ μ' a = some (.lst (path.map encN)) ∧ Kn μ μ' ∧ ρ = [some (encPl pl), some (encN k), some (.ref a)], ⟨pl.length + 1, [], n, by simp, .nil, by simp, hn, rfl, up_same, .new ha, rfl⟩, ?_⟩
  rintro m ρ μ1 ⟨path, k, hm, nd, hpt, hk, ef, ea, kn, rfl⟩
  have pl_le : path.length ≤ pl.length := by
    have := nodup_le (m := List.range pl.length) nd fun x hx => List.mem_range.mpr (hpt x hx)
    rw [List.length_range] at this; exact this
  obtain ⟨m', rfl⟩ : ∃ m', m = m' + 1 := ⟨m - 1, by omega⟩
  refine v_use hG (hc hk hp) ⟨fun hi => ?_, fun hi => ?_⟩
  · unfold folF at ef
    rw [if_pos hi] at ef
    refine if_then hG (b := decide (k ∈ path)) (vl ?_) (fun e => ?_) fun e => ?_
    · clean_wf
      refine isin_lst ea rfl nts_ok ?_
      rw [any_nt]
      exact ⟨rfl, by trivial⟩
    · have e := of_decide_eq_true e
      rw [if_pos e] at ef
      have hlt := List.idxOf_lt_length_iff.mpr e
      clean_wf
      refine ⟨rcv_lst' ea (by simp), ?_⟩
      refine rdL_of ea ⟨rfl, nts_ok, opt_of (first_nt e) ?_⟩
      clean_wf
      show slc2P (.ref a) (some (path.idxOf k : Int)) none μ1 _
      refine rdL_of ea fun p hp => ?_
      refine rdL_of up_same ?_
      rw [sl_from (by omega), Int.toNat_natCast, ← List.map_drop]
      refine opt_of ints_nt ⟨by rw [List.length_map, List.length_drop]; omega, fun m hm hl => ?_⟩
      obtain ⟨j, hj, rfl⟩ := List.mem_map.mp hm
      refine q' j _ ?_ (Kept.nw hp kn)
      rw [← ef]
      refine minN_eq hj fun x hx => ?_
      have := hl x (List.mem_map.mpr ⟨x, hx, rfl⟩)
      omega
    · have e := of_decide_eq_false e
      rw [if_neg e] at ef
      have ep := pcAt_get hk
      clean_wf
      refine ⟨rdL_of ea trivial, app_lst ea (by rw [List.length_map]; have := hp.len; unfold sizeMax; omega) ?_⟩
      refine pl_idx ep ?_
      clean_wf
      have hg : isGo (pcAt pl k).2 = true := by unfold idleP at hi; exact (Bool.and_eq_true _ _ ▸ hi).2
      have hx := nxt_lt hp.ways hp.pos hk
      cases e2 : (pcAt pl k).2 with
      | stop => rw [e2] at hg; cases hg
      | test l b n y z => rw [e2] at hg; cases hg
      | go w =>
        rw [e2] at ef hx
        unfold encEd
        clean_wf
        refine ⟨m', by omega, path ++ [k], w, by rw [List.length_append]; simp; omega, ?_, ?_, hx, ef, ?_, Kept.loc ha kn, rfl⟩
        · exact List.nodup_append.mpr ⟨nd, by simp, fun x hx y hy => by rw [List.mem_singleton.mp hy]; exact fun w => by subst w; exact e hx⟩
        · intro x hx
          rcases List.mem_append.mp hx with hx | hx
          · exact hpt x hx
          · rw [List.mem_singleton.mp hx]; exact hk
        · rw [up_same, List.map_append]; rfl
  · unfold folF at ef
    rw [if_neg (by rw [hi]; simp)] at ef
    clean_wf
    exact q' k μ1 ef.symm kn
theorem followed_ok {G : Ctx} (hG : Mono G) (hI : IdS (G.fn 174)) : FolS (runF G f_followed) :=
  fol_loop hG (c := .call 174 (.cons (.idx (.var 0) (.var 1)) .nil)) fun {pl n o μ} hn hp => vl (by
    clean_wf
    exact pl_idx (pcAt_get hn) (hI (hp.tx _ (pcAt_mem hn)) ⟨rfl, by trivial⟩))
theorem followedL_ok {G : Ctx} (hG : Mono G) : FolS (runF G fl_followed) :=
  fol_loop hG (c := (.and (.cmp .eq (.idx (.idx (.var 0) (.var 1)) (.ci 0)) (.tup .nil)) (.cmp .eq (.idx (.idx (.idx (.var 0) (.var 1)) (.ci 1)) (.ci 0)) (.cs [103, 111])))) fun {pl n o μ} hn hp =>
    v_and hG (b1 := (pcAt pl n).1.isEmpty) (b2 := isGo (pcAt pl n).2) (vl (by
      clean_wf
      refine pl_idx (pcAt_get hn) ?_
      clean_wf
      refine .inl ⟨okDs_ (hp.tx _ (pcAt_mem hn)).1, rfl, ?_⟩
      refine ⟨congrArg D.bl ?_, by trivial⟩
      unfold encDs
      cases (pcAt pl n).1 <;> rfl)) fun _ => vl (by
      clean_wf
      refine pl_idx (pcAt_get hn) ?_
      clean_wf
      cases (pcAt pl n).2 with
      | stop => exact ⟨rfl, by trivial⟩
      | go q => exact ⟨rfl, by trivial⟩
      | test l a n y z => cases l <;> exact ⟨rfl, by trivial⟩)
/-! ### the short plan, typed -/
def byE (e : Ed) (ws : List Nat) : Ed := match e with
  | .stop => .stop
  | .go _ => .go (ws.getD 0 0)
  | .test l a n _ _ => .test l a n (ws.getD 0 0) (ws.getD 1 0)
abbrev SH := List Nat × List Pc
def keepS (pl : Plan) (k : Nat) (ks : List Nat) : List Nat := addKs ks ((waysAt pl k).map (folOf pl))
def stepSh (pl : Plan) (s : SH) : SH :=
  (keepS pl (s.1.getD s.2.length 0) s.1, s.2 ++ [((pcAt pl (s.1.getD s.2.length 0)).1, byE (pcAt pl (s.1.getD s.2.length 0)).2 ((waysAt pl (s.1.getD s.2.length 0)).map fun w => (keepS pl (s.1.getD s.2.length 0) s.1).idxOf (folOf pl w)))])
def finSh (pl : Plan) : Nat → SH → SH
  | 0, s => s
  | n + 1, s => if s.2.length < s.1.length then finSh pl n (stepSh pl s) else s
def shOf (pl : Plan) : SH := finSh pl pl.length ([folOf pl 0], [])
theorem keep_sub {α : Type} [DecidableEq α] {ks l : List α} : ∃ m, addKs ks l = ks ++ m := by
  induction l generalizing ks with
  | nil => exact ⟨[], by simp [addKs]⟩
  | cons x l ih =>
    obtain ⟨m, e⟩ := ih (ks := addK ks x)
    show ∃ m, addKs (addK ks x) l = ks ++ m
    rw [e]
    unfold addK
    split
    · exact ⟨m, rfl⟩
    · exact ⟨[x] ++ m, by rw [List.append_assoc]⟩
theorem idx_more {ks m : List Nat} {x : Nat} (h : x ∈ ks) : (ks ++ m).idxOf x = ks.idxOf x := by rw [List.idxOf_append, if_pos h]
/-- what holds of a step's beginning -/
structure WfSh (pl : Plan) (s : SH) : Prop where
  nd : s.1.Nodup
  lt : ∀ k ∈ s.1, k < pl.length
  le : s.2.length ≤ s.1.length
  tx : ∀ p ∈ s.2, PcT p
theorem by_tx {e : Ed} {ws : List Nat} (h : ∀ a ∈ nmE e, strlt a) : ∀ a ∈ nmE (byE e ws), strlt a := by cases e <;> exact h
theorem waysAt_pc {pl : Plan} {k : Nat} (h : k < pl.length) : waysAt pl k = waysE (pcAt pl k).2 := waysAt_eq (pcAt_get h)
theorem WfSh.step {pl : Plan} {s : SH} (hp : PlT pl) (h : WfSh pl s) (hl : s.2.length < s.1.length) : WfSh pl (stepSh pl s) := by
  have hm : s.1.getD s.2.length 0 ∈ s.1 := by rw [List.getD_eq_getElem?_getD, List.getElem?_eq_getElem hl]; exact List.getElem_mem hl
  have hk := h.lt _ hm
  refine ⟨nodup_addKs h.nd, fun k hkk => ?_, ?_, fun p hpp => ?_⟩
  · rcases mem_addKs.mp hkk with h1 | h1
    · exact h.lt k h1
    · obtain ⟨w, hw, rfl⟩ := List.mem_map.mp h1
      exact fol_lt hp.ways hp.pos (waysAt_lt hp.ways hw) (by simp)
  · obtain ⟨m, e⟩ := keep_sub (ks := s.1) (l := (waysAt pl (s.1.getD s.2.length 0)).map (folOf pl))
    show (s.2 ++ [_]).length ≤ (addKs s.1 _).length
    rw [e, List.length_append, List.length_append]; simp; omega
  · rcases List.mem_append.mp hpp with h1 | h1
    · exact h.tx p h1
    · rw [List.mem_singleton.mp h1]
      have := hp.tx _ (pcAt_mem hk)
      exact ⟨this.1, by_tx this.2⟩
theorem WfSh.len {pl : Plan} {s : SH} (h : WfSh pl s) : s.1.length ≤ pl.length := by
  have := nodup_le (m := List.range pl.length) h.nd fun x hx => List.mem_range.mpr (h.lt x hx)
  rw [List.length_range] at this; exact this
theorem WfSh.start {pl : Plan} (hp : PlT pl) : WfSh pl ([folOf pl 0], []) := ⟨by simp, fun k hk => by rw [List.mem_singleton.mp hk]; exact fol_lt hp.ways hp.pos hp.pos (by simp), Nat.zero_le _, fun p h => nomatch h⟩
abbrev EndByS (F : Fn) : Prop := ∀ {e : Ed} {ns : List Nat} {a : Nat} {μ : Sto} {Q : D → Sto → Prop} {X : EX}, μ a = some (.lst (ns.map encN)) → ns.length = (waysE e).length → Q (encEd (byE e ns)) μ → F [encEd e, .ref a] μ Q X
theorem end_by_ok (G : Ctx) : EndByS (runF G f_end_by) := by
  intro e ns a μ Q X ha hl q
  refine ⟨rfl, ?_⟩
  show wpS G f_end_by.body [some (encEd e), some (.ref a)] μ _
  unfold f_end_by
  cases e with
  | stop => exact yes q
  | go p =>
    obtain ⟨w, rfl⟩ : ∃ w, ns = [w] := List.length_eq_one_iff.mp hl
    refine nay (yes ?_)
    clean_wf
    refine idx_lst ha rfl ?_
    exact q
  | test l z n y w =>
    obtain ⟨u, v, rfl⟩ : ∃ u v, ns = [u, v] := match ns, hl with
      | [u, v], _ => ⟨u, v, rfl⟩
    have go : wpE G (.bin .add (.slc (.var 0) .cn (.part (.ci 3))) (.tup (.cons (.idx (.var 1) (.ci 0)) (.cons (.idx (.var 1) (.ci 1)) .nil)))) [some (encEd (.test l z n y w)), some (.ref a)] μ Q X := by
      clean_wf
      refine idx_lst ha rfl ?_
      refine idx_lst ha rfl ?_
      exact ⟨show (5 : Nat) ≤ 16777216 by decide, q⟩
    cases l
    · exact nay (nay go)
    · exact nay (nay go)
def shD (s : SH) : D := .tup [encPl s.2, .tup (s.1.map encN)]
abbrev ShortS (F : Fn) : Prop := ∀ {pl : Plan} {μ : Sto} {Q : D → Sto → Prop} {X : EX}, PlT pl → (∀ μ', Kn μ μ' → Q (shD (shOf pl)) μ') → F [encPl pl] μ Q X
theorem addKs_take {pl : Plan} {ks ws : List Nat} {i w : Nat} (h : ws[i]? = some w) : addKs ks ((ws.take (i + 1)).map (folOf pl)) = addK (addKs ks ((ws.take i).map (folOf pl))) (folOf pl w) := by
  rw [List.take_add_one, h, List.map_append, addKs_app]; rfl
theorem keep_from {pl : Plan} {ks ws : List Nat} (i : Nat) : ∃ m, addKs ks (ws.map (folOf pl)) = addKs ks ((ws.take i).map (folOf pl)) ++ m := by
  obtain ⟨m, e⟩ := keep_sub (ks := addKs ks ((ws.take i).map (folOf pl))) (l := (ws.drop i).map (folOf pl))
  exact ⟨m, by rw [← e, ← addKs_app, ← List.map_append, List.take_append_drop]⟩
theorem short_ok {G : Ctx} (hG : Mono G) (hF : FolS (G.fn 168)) (hW : WaysS (G.fn 229)) (hE : EndByS (G.fn 166)) : ShortS (runF G f_short) := by
  intro pl μ Q X hp q
  refine ⟨rfl, ?_⟩
  show wpS G f_short.body [some (encPl pl), none, none, none, none, none, none, none] μ _
  unfold f_short
  clean_wf
  refine hF (n := 0) hp hp.pos fun μ1 k1 => ?_
  intro kp hkp
  clean_wf
  intro pc hpc
  clean_wf
  have mkp : μ kp = none := k1.none id hkp
  have nkp : kp ≠ pc := ne_new up_same hpc
  have mpc : μ pc = none := (k1.trans (Kept.new (S := fun _ => False) hkp)).none id hpc
  refine ⟨fun m ρ μ' => ∃ (s : SH) (o3 o4 o5 o6 o7 : Option D), s.2.length + m = pl.length ∧ WfSh pl s ∧ finSh pl m s = shOf pl ∧ μ' kp = some (.lst (s.1.map encN)) ∧ μ' pc = some (.lst (s.2.map encPc)) ∧ Kn μ μ' ∧ ρ = [some (encPl pl), some (.ref kp), some (.ref pc), o3, o4, o5, o6, o7],
    ⟨pl.length, ([folOf pl 0], []), _, _, _, _, _, by simp, .start hp, rfl, by rw [up_ne nkp]; exact up_same, up_same, k1.trans ((Kept.new hkp).trans (.new hpc)), rfl⟩, ?_⟩
  rintro m ρ μ2 ⟨s, o3, o4, o5, o6, o7, hm, wf, ef, ek, ep, kn, rfl⟩
  clean_wf
  refine len_lst ep (len_lst ek ?_)
  rw [List.length_map, List.length_map]
  clean_wf
  refine ⟨fun hl => ?_, fun hl => ?_⟩
  · have hl : s.2.length < s.1.length := by have := of_decide_eq_true hl; omega
    obtain ⟨m', rfl⟩ : ∃ m', m = m' + 1 := ⟨m - 1, by have := wf.len; omega⟩
    have ef' : finSh pl m' (stepSh pl s) = shOf pl := by unfold finSh at ef; rw [if_pos hl] at ef; exact ef
    clear ef
    have ei : s.1[s.2.length]? = some (s.1.getD s.2.length 0) := by rw [List.getD_eq_getElem?_getD, List.getElem?_eq_getElem hl]; rfl
    have wf' := wf.step hp hl
    have hk := wf.lt _ (List.mem_of_getElem? ei)
    unfold stepSh at ef' wf'
    generalize s.1.getD s.2.length 0 = k at *
    clean_wf
    refine len_lst ep ?_
    rw [List.length_map]
    refine nt_at ek ei ?_
    refine pl_idx (pcAt_get hk) ?_
    clean_wf
    have hwk := waysAt_pc hk
    intro wv hwv
    clean_wf
    refine hW ?_
    clean_wf
    have mwv : μ wv = none := kn.none id hwv
    have nkw : wv ≠ kp := Ne.symm (ne_new ek hwv)
    have npw : wv ≠ pc := Ne.symm (ne_new ep hwv)
    refine for_ix (fun i ρ μ' => ∃ (o6 o7 : Option D), μ' kp = some (.lst ((addKs s.1 (((waysE (pcAt pl k).2).take i).map (folOf pl))).map encN)) ∧ μ' pc = some (.lst (s.2.map encPc)) ∧ μ' wv = some (.lst ((((waysE (pcAt pl k).2).take i).map fun w => (keepS pl k s.1).idxOf (folOf pl w)).map encN)) ∧ Kn μ μ' ∧ ρ = [some (encPl pl), some (.ref kp), some (.ref pc), some (encDs (pcAt pl k).1), some (encEd (pcAt pl k).2), some (.ref wv), o6, o7]) (fun _ _ _ _ => trivial) ?_ ?_ ⟨_, _, up_old ek hwv, up_old ep hwv, up_same, kn.trans (.new hwv), rfl⟩
    · rintro i d hd ρ μ3 K ⟨o6, o7, ek3, ep3, ew3, kn3, rfl⟩ hK
      obtain ⟨w, hw, rfl⟩ := map_get? hd
      have hwm : w ∈ waysAt pl k := by rw [hwk]; exact List.mem_of_getElem? hw
      have hf := fol_lt hp.ways hp.pos (k := pl.length + 1) (path := []) (waysAt_lt hp.ways hwm) (by simp)
      clean_wf
      refine hF hp (waysAt_lt hp.ways hwm) fun μ4 k4 => ?_
      have ek4 := k4 _ _ id ek3
      have ep4 := k4 _ _ id ep3
      have ew4 := k4 _ _ id ew3
      have kn4 := kn3.trans k4
      have et := addKs_take (pl := pl) (ks := s.1) hw
      refine seq_of (s := .ite _ _ _) hG (fun ρ1 μ' => μ' kp = some (.lst ((addKs s.1 (((waysE (pcAt pl k).2).take (i + 1)).map (folOf pl))).map encN)) ∧ μ' pc = some (.lst (s.2.map encPc)) ∧ μ' wv = some (.lst ((((waysE (pcAt pl k).2).take i).map fun w => (keepS pl k s.1).idxOf (folOf pl w)).map encN)) ∧ Kn μ μ' ∧ ρ1 = [some (encPl pl), some (.ref kp), some (.ref pc), some (encDs (pcAt pl k).1), some (encEd (pcAt pl k).2), some (.ref wv), some (encN w), some (encN (folOf pl w))]) ?_ ?_
      · refine ite_v hG (b := !decide (folOf pl w ∈ addKs s.1 (((waysE (pcAt pl k).2).take i).map (folOf pl)))) (vl ?_) (fun e => ?_) fun e => ?_
        · clean_wf
          refine notin_lst ek4 rfl nts_ok ?_
          rw [any_nt]
          exact ⟨rfl, by trivial⟩
        · have e : ¬ (folOf pl w ∈ addKs s.1 (((waysE (pcAt pl k).2).take i).map (folOf pl))) := by simpa using e
          clean_wf
          refine ⟨rdL_of ek4 trivial, app_lst ek4 ?_ ?_⟩
          · have := addKs_len (ks := s.1) (l := ((waysE (pcAt pl k).2).take i).map (folOf pl))
            have h1 := wf.len
            have h2 := hp.len
            have h3 := waysAt_len (pl := pl) (k := k)
            rw [hwk] at h3
            rw [List.length_map, List.length_take] at this
            rw [List.length_map]; unfold sizeMax; omega
          · refine ⟨?_, by rw [up_ne (Ne.symm nkp)]; exact ep4, by rw [up_ne nkw]; exact ew4, Kept.loc mkp kn4, by trivial⟩
            rw [up_same, et]
            unfold addK
            rw [if_neg e, List.map_append]; rfl
        · have e : folOf pl w ∈ addKs s.1 (((waysE (pcAt pl k).2).take i).map (folOf pl)) := by simpa using e
          refine ⟨?_, ep4, ew4, kn4, rfl⟩
          rw [et]
          unfold addK
          rw [if_pos e]; exact ek4
      · rintro ρ1 μ5 ⟨ek5, ep5, ew5, kn5, rfl⟩
        clean_wf
        have hmem : folOf pl w ∈ addKs s.1 (((waysE (pcAt pl k).2).take (i + 1)).map (folOf pl)) := by rw [et]; exact mem_addK.mpr (.inr rfl)
        refine ⟨rdL_of ew5 trivial, rcv_lst' ek5 (by simp), ?_⟩
        refine rdL_of ek5 ⟨rfl, nts_ok, opt_of (first_nt hmem) ?_⟩
        refine app_lst ew5 (by rw [List.length_map, List.length_map, List.length_take]; have h3 := waysAt_len (pl := pl) (k := k); rw [hwk] at h3; unfold sizeMax; omega) ?_
        refine hK _ _ ⟨_, _, by rw [up_ne (Ne.symm nkw)]; exact ek5, by rw [up_ne (Ne.symm npw)]; exact ep5, ?_, Kept.loc mwv kn5, rfl⟩
        obtain ⟨m, em⟩ := keep_from (pl := pl) (ks := s.1) (ws := waysE (pcAt pl k).2) (i + 1)
        have e1 : (keepS pl k s.1).idxOf (folOf pl w) = (addKs s.1 (((waysE (pcAt pl k).2).take (i + 1)).map (folOf pl))).idxOf (folOf pl w) := by
          unfold keepS
          rw [hwk, em]; exact idx_more hmem
        have e2 : (((waysE (pcAt pl k).2).take (i + 1)).map fun w => (keepS pl k s.1).idxOf (folOf pl w)) = (((waysE (pcAt pl k).2).take i).map fun w => (keepS pl k s.1).idxOf (folOf pl w)) ++ [(keepS pl k s.1).idxOf (folOf pl w)] := by rw [List.take_add_one, hw, List.map_append]; rfl
        rw [up_same, e2, e1, List.map_append]; rfl
    · rintro ρ μ3 ⟨o6, o7, ek3, ep3, ew3, kn3, rfl⟩
      rw [List.length_map, List.take_length] at ek3 ew3
      clean_wf
      refine ⟨rdL_of ep3 trivial, hE ew3 (by rw [List.length_map]) ?_⟩
      refine app_lst ep3 (by rw [List.length_map]; have := wf.len; have := hp.len; unfold sizeMax; omega) ?_
      refine ⟨m', by omega, _, _, _, _, _, _, ?_, wf', ef', ?_, ?_, Kept.loc mpc kn3, rfl⟩
      · rw [List.length_append]; simp; omega
      · rw [up_ne nkp]; unfold keepS; rw [hwk]; exact ek3
      · rw [up_same, List.map_append, hwk]; rfl
  · have hl : ¬ s.2.length < s.1.length := by have := of_decide_eq_false hl; omega
    have e : s = shOf pl := by
      rw [← ef]
      cases m with
      | zero => rfl
      | succ m => unfold finSh; rw [if_neg hl]
    clean_wf
    refine tup_lst ep (tup_lst ek ?_)
    rw [← e] at q
    exact q μ2 kn
abbrev IdleS (F : Fn) : Prop := ∀ {b k : Nat} {μ : Sto} {Q : D → Sto → Prop} {X : EX}, BagAt μ b → 0 < k → k ≤ 1000 → (∀ (pl : Plan) (μ' : Sto), PlT pl → pl.length = k → Few pl → Kp b μ μ' → Q (encPl pl) μ') → F [.ref b, .int k] μ Q X
theorem idle_plan_ok {G : Ctx} (hG : Mono G) (hT : TakeS (G.fn 136)) (hP : PlanS (G.fn 114)) : IdleS (runF G f_idle_plan) := by
  intro b k μ Q X hb h0 hk q
  refine ⟨rfl, ?_⟩
  show wpS G f_idle_plan.body [some (.ref b), some (.int k), none, none, none, none] μ _
  unfold f_idle_plan
  clean_wf
  refine hP (m := 2) hb h0 (by omega) (by decide) fun ns pl μ1 _ ns4 _ ok hl b1 k1 => ?_
  clean_wf
  intro a ha
  unfold encPl
  clean_wf
  have nab : a ≠ b := b1.ne ha
  have km : Kp b μ (upd μ1 a (.lst [])) := Kept.nw ha k1
  refine for_ix (fun i ρ μ' => ∃ (ps : List Pc) (o4 o5 : Option D), ps.length = i ∧ (∀ p ∈ ps, (PcT p ∧ ∀ w ∈ waysE p.2, w < k) ∧ p.1.length ≤ 40 ∧ ∀ z, z ∈ nmDs p.1 ++ nmE p.2 → z ∈ ns) ∧ μ' a = some (.lst (ps.map encPc)) ∧ BagAt μ' b ∧ Kp b μ μ' ∧ ρ = [some (.ref b), some (.int k), some (.tup (pl.map encPc)), some (.ref a), o4, o5]) (fun _ _ _ _ => trivial) ?_ ?_ ⟨[], _, _, rfl, fun p h => (nomatch h), up_same, b1.new ha, km, rfl⟩
  · rintro i d hd ρ μ2 K ⟨ps, o4, o5, hpl, hps, ea, b2, k2, rfl⟩ hK
    obtain ⟨p, hp, rfl⟩ := map_get? hd
    have hi := (List.getElem?_eq_some_iff.mp hp).1
    have hm := List.mem_of_getElem? hp
    unfold encPc
    clean_wf
    have hka : Kp b μ1 (upd μ1 a (.lst [])) := .new ha
    refine seq_of (s := .ite _ _ _) hG (fun ρ1 μ' => ∃ p' : Pc, ((PcT p' ∧ ∀ w ∈ waysE p'.2, w < k) ∧ p'.1.length ≤ 40 ∧ ∀ z, z ∈ nmDs p'.1 ++ nmE p'.2 → z ∈ ns) ∧ μ' a = some (.lst (ps.map encPc)) ∧ BagAt μ' b ∧ Kp b μ μ' ∧ ρ1 = [some (.ref b), some (.int k), some (.tup (pl.map encPc)), some (.ref a), some (encDs p'.1), some (encEd p'.2)]) ?_ ?_
    · refine ite_ofM hG (fun _ μ' => μ' a = some (.lst (ps.map encPc)) ∧ BagAt μ' b ∧ Kp b μ μ') ?_ (fun μ3 ⟨e3, b3, k3⟩ => ?_) fun μ3 ⟨e3, b3, k3⟩ => ?_
      · clean_wf
        refine hT b2 (by decide) (by decide) fun r μ3 _ _ b3 k3 => ?_
        clean_wf
        exact ⟨_, rfl, k3 _ _ nab ea, b3, k2.trans k3⟩
      · clean_wf
        refine hT b3 (by omega) (by omega) fun r μ4 r0 r1 b4 k4 => ?_
        clean_wf
        refine ⟨([], .go r.toNat), ⟨⟨⟨fun d h => (nomatch h), fun a h => (nomatch h)⟩, fun w hw => ?_⟩, Nat.zero_le _, fun z hz => (nomatch hz)⟩, k4 _ _ nab e3, b4, k3.trans k4, ?_⟩
        · have : w = r.toNat := by simpa [waysE] using hw
          omega
        · rw [show encEd (.go r.toNat) = .tup [.str wGo, .int r] by show D.tup [.str wGo, .int ((r.toNat : Nat) : Int)] = _; rw [Int.toNat_of_nonneg r0]]; rfl
      · exact ⟨p, ⟨⟨ok.tx p hm, by rw [← hl]; exact ok.ways p hm⟩, Nat.le_trans (ok.deeds p hm).1 (by decide), fun z hz => ok.sub z (List.mem_flatMap.mpr ⟨p, hm, hz⟩)⟩, e3, b3, k3, rfl⟩
    · rintro ρ1 μ3 ⟨p', hp', e3, b3, k3, rfl⟩
      clean_wf
      refine ⟨rdL_of e3 trivial, app_lst e3 (by rw [List.length_map]; unfold sizeMax; omega) ?_⟩
      refine hK _ _ ⟨ps ++ [p'], _, _, by rw [List.length_append, hpl]; rfl, fun z hz => ?_, ?_, b3.off nab, Kept.loc (k1.none nab ha) k3, rfl⟩
      · rcases List.mem_append.mp hz with h | h
        · exact hps z h
        · rw [List.mem_singleton.mp h]; exact hp'
      · rw [up_same, List.map_append]; rfl
  · rintro ρ μ2 ⟨ps, o4, o5, hpl, hps, ea, b2, k2, rfl⟩
    rw [List.length_map, hl] at hpl
    clean_wf
    refine tup_lst ea ?_
    exact q ps μ2 ⟨fun p hp w hw => by rw [hpl]; exact (hps p hp).1.2 w hw, by omega, by omega, fun p hp => (hps p hp).1.1⟩ hpl ⟨by omega, fun p hp => (hps p hp).2.1, Nat.lt_of_le_of_lt (namesK_le fun z hz => by
      obtain ⟨p, hp, hz⟩ := List.mem_flatMap.mp hz
      exact (hps p hp).2.2 z hz) (by omega)⟩ k2
theorem law18_ok {G : Ctx} (hG : Mono G) (hB : BagS (G.fn 42)) (hT : TakeS (G.fn 136)) (hC : CountS (G.fn 52)) (hI : IdleS (G.fn 69)) (hF : FolS (G.fn 64)) (hW : WaysLS (G.fn 150)) (hS : ShortS (G.fn 220))
    {ns : List Int} (hn : ns.length ≤ 63) {X : EX} : runF G f_law_k18 [.scr ns] (fun _ => none) (fun v _ => v = .bl true) X := by
  refine ⟨rfl, ?_⟩
  show wpS G f_law_k18.body [some (.scr ns), none, none, none, none, none, none, none, none, none] _ _
  unfold f_law_k18
  clean_wf
  refine hB (by decide) (by decide) fun b μ1 hb0 b1 k1 => ?_
  clean_wf
  refine hB (by decide) (by decide) fun b' μ2 hb' b2' k2 => ?_
  have nbb : b' ≠ b := b1.ne hb'
  have b2 := b1.keep k2 id
  refine hC (m := 40) b2 (by decide) (by decide) fun k0 μ3 c0 _ c1 b3 k3 => ?_
  intro a ha
  clean_wf
  have b3' := b2'.keep k3 nbb
  refine hT (b3.new ha) (by decide) (by decide) fun t μ4 t0 t1 b4 k4 => ?_
  clean_wf
  have e4 := k4 a _ (b3.ne ha) up_same
  have b4' := (b3'.new ha).keep k4 nbb
  have : ∃ m : Nat, 0 < m ∧ m ≤ 400 ∧ getI [D.int k0, .int 400] (b2i (decide (t = 0))) = some (.int m) := by
    cases decide (t = 0)
    · exact ⟨k0, c0, by omega, rfl⟩
    · exact ⟨400, by decide, by decide, rfl⟩
  obtain ⟨m, m0, m1, em⟩ := this
  refine idx_lst e4 em ?_
  refine hI b4' m0 (by omega) fun pl μ5 hp _ _ _ => ?_
  clear e4 em b4' b3' ha b4 k4 k3 k2 b2 b3 b2' k1 b1 nbb hb'
  clean_wf
  refine hF (n := 0) hp hp.pos fun μ6 k1 => ?_
  intro kp hkp
  clean_wf
  intro pc hpc
  clean_wf
  have mkp : μ5 kp = none := k1.none id hkp
  have nkp : kp ≠ pc := ne_new up_same hpc
  have mpc : μ5 pc = none := (k1.trans (Kept.new (S := fun _ => False) hkp)).none id hpc
  refine ⟨fun m ρ μ' => ∃ (s : SH) (o5 o6 o7 o8 o9 : Option D), s.2.length + m = pl.length ∧ WfSh pl s ∧ finSh pl m s = shOf pl ∧ μ' kp = some (.lst (s.1.map encN)) ∧ μ' pc = some (.lst (s.2.map encPc)) ∧ Kn μ5 μ' ∧ ρ = [some (.scr ns), some (.ref b), some (encPl pl), some (.ref kp), some (.ref pc), o5, o6, o7, o8, o9],
    ⟨pl.length, ([folOf pl 0], []), _, _, _, _, _, by simp, .start hp, rfl, by rw [up_ne nkp]; exact up_same, up_same, k1.trans ((Kept.new hkp).trans (.new hpc)), rfl⟩, ?_⟩
  rintro m ρ μ7 ⟨s, o5, o6, o7, o8, o9, hm, wf, ef, ek, ep, kn, rfl⟩
  clean_wf
  refine len_lst ep (len_lst ek ?_)
  rw [List.length_map, List.length_map]
  clean_wf
  refine ⟨fun hl => ?_, fun hl => ?_⟩
  · have hl : s.2.length < s.1.length := by have := of_decide_eq_true hl; omega
    obtain ⟨m', rfl⟩ : ∃ m', m = m' + 1 := ⟨m - 1, by have := wf.len; omega⟩
    have ef' : finSh pl m' (stepSh pl s) = shOf pl := by unfold finSh at ef; rw [if_pos hl] at ef; exact ef
    clear ef
    have ei : s.1[s.2.length]? = some (s.1.getD s.2.length 0) := by rw [List.getD_eq_getElem?_getD, List.getElem?_eq_getElem hl]; rfl
    have wf' := wf.step hp hl
    have hk := wf.lt _ (List.mem_of_getElem? ei)
    unfold stepSh at ef' wf'
    generalize s.1.getD s.2.length 0 = k at *
    clean_wf
    refine len_lst ep ?_
    rw [List.length_map]
    refine nt_at ek ei ?_
    refine pl_idx (pcAt_get hk) ?_
    clean_wf
    have hwk := waysAt_pc hk
    have ww : ∀ w ∈ waysE (pcAt pl k).2, w < pl.length := fun w hw => waysAt_lt hp.ways (k := k) (by rw [hwk]; exact hw)
    have w2 : (waysE (pcAt pl k).2).length ≤ 2 := by have := waysAt_len (pl := pl) (k := k); rw [hwk] at this; exact this
    have kle : (keepS pl k s.1).length ≤ 2000 := by
      have h1 := wf.len
      have h2 := hp.len
      have := addKs_len (ks := s.1) (l := (waysAt pl k).map (folOf pl))
      rw [List.length_map, hwk] at this
      unfold keepS; rw [hwk]; omega
    unfold keepS at *
    generalize hws : waysE (pcAt pl k).2 = ws at *
    rw [hwk] at wf' ef' kle
    refine hW fun wl hwl => ?_
    rw [hws]
    clean_wf
    refine rdL_of up_same ?_
    have mwl : μ5 wl = none := kn.none id hwl
    refine comp_ix (fun i acc μ' => acc = ((ws.take i).map (folOf pl)).map encN ∧ Kn (upd μ7 wl (.lst (ws.map encN))) μ') (fun i acc μ' h => h.2 _ _ id up_same) ?_ ?_ (by rw [List.length_map]; unfold sizeMax; simp; omega) ⟨rfl, .refl⟩
    · rintro i d hd acc μ8 K' ⟨rfl, k8⟩ h1 _
      obtain ⟨w, hw, rfl⟩ := map_get? hd
      clean_wf
      refine hF hp (ww w (List.mem_of_getElem? hw)) fun μ9 k9 => h1 _ _ ⟨?_, k8.trans k9⟩
      rw [List.take_add_one, hw, List.map_append, List.map_append]; rfl
    rintro acc μ8 ⟨rfl, k8⟩
    rw [List.length_map, List.take_length]
    intro wv hwv
    clean_wf
    have kn9 : Kn μ7 (upd μ8 wv (.lst ((ws.map (folOf pl)).map encN))) := (Kept.new hwl).trans (k8.trans (.new hwv))
    have ek9 := kn9 _ _ id ek
    have ep9 := kn9 _ _ id ep
    have k59 := kn.trans kn9
    have mwv : μ5 wv = none := (kn.trans ((Kept.new (S := fun _ => False) hwl).trans k8)).none id hwv
    have ew9 : (upd μ8 wv (.lst ((ws.map (folOf pl)).map encN))) wv = some (.lst ((ws.map (folOf pl)).map encN)) := up_same
    have nwk : wv ≠ kp := Ne.symm (ne_new (k8 _ _ id (up_old ek hwl)) hwv)
    have nwp : wv ≠ pc := Ne.symm (ne_new (k8 _ _ id (up_old ep hwl)) hwv)
    generalize upd μ8 wv (.lst ((ws.map (folOf pl)).map encN)) = μ9 at *
    refine rdL_of ew9 ?_
    refine for_ix (fun i ρ μ' => ∃ (o8 : Option D), μ' kp = some (.lst ((addKs s.1 ((ws.take i).map (folOf pl))).map encN)) ∧ μ' pc = some (.lst (s.2.map encPc)) ∧ μ' wv = some (.lst ((ws.map (folOf pl)).map encN)) ∧ Kn μ5 μ' ∧ ρ = [some (.scr ns), some (.ref b), some (encPl pl), some (.ref kp), some (.ref pc), some (encDs (pcAt pl k).1), some (encEd (pcAt pl k).2), some (.ref wv), o8, o9]) (fun _ _ _ h => by obtain ⟨_, _, _, h, _⟩ := h; exact h) ?_ ?_ ⟨_, ek9, ep9, ew9, k59, rfl⟩
    · rintro i d hd ρ μ3 K ⟨o8, ek3, ep3, ew3, kn3, rfl⟩ hK
      obtain ⟨y, hy, rfl⟩ := map_get? hd
      rw [List.getElem?_map] at hy
      obtain ⟨w, hw, rfl⟩ := Option.map_eq_some_iff.mp hy
      have et := addKs_take (pl := pl) (ks := s.1) hw
      refine ite_v hG (b := !decide (folOf pl w ∈ addKs s.1 ((ws.take i).map (folOf pl)))) (vl ?_) (fun e => ?_) fun e => ?_
      · clean_wf
        refine notin_lst ek3 rfl nts_ok ?_
        rw [any_nt]
        exact ⟨rfl, by trivial⟩
      · have e : ¬ (folOf pl w ∈ addKs s.1 ((ws.take i).map (folOf pl))) := by simpa using e
        clean_wf
        refine ⟨rdL_of ek3 trivial, app_lst ek3 ?_ ?_⟩
        · have := addKs_len (ks := s.1) (l := (ws.take i).map (folOf pl))
          have h1 := wf.len
          have h2 := hp.len
          rw [List.length_map, List.length_take] at this
          rw [List.length_map]; unfold sizeMax; omega
        · refine hK _ _ ⟨_, ?_, by rw [up_ne (Ne.symm nkp)]; exact ep3, by rw [up_ne nwk]; exact ew3, Kept.loc mkp kn3, rfl⟩
          rw [up_same, et]
          unfold addK
          rw [if_neg e, List.map_append]; rfl
      · have e : folOf pl w ∈ addKs s.1 ((ws.take i).map (folOf pl)) := by simpa using e
        refine hK _ _ ⟨_, ?_, ep3, ew3, kn3, rfl⟩
        rw [et]
        unfold addK
        rw [if_pos e]; exact ek3
    · rintro ρ μ3 ⟨o8, ek3, ep3, ew3, kn3, rfl⟩
      rw [List.length_map, List.length_map, List.take_length] at ek3
      clean_wf
      refine rdL_of ew3 ?_
      refine comp_ix (fun i acc μ' => μ' = μ3 ∧ acc = ((ws.take i).map fun w => (addKs s.1 (ws.map (folOf pl))).idxOf (folOf pl w)).map encN) (fun i acc μ' h => by rw [h.1]; exact ew3) ?_ ?_ (by rw [List.length_map, List.length_map]; unfold sizeMax; simp; omega) ⟨rfl, rfl⟩
      · rintro i d hd acc μ8 K' ⟨rfl, rfl⟩ h1 _
        obtain ⟨y, hy, rfl⟩ := map_get? hd
        rw [List.getElem?_map] at hy
        obtain ⟨w, hw, rfl⟩ := Option.map_eq_some_iff.mp hy
        clean_wf
        have hmem : folOf pl w ∈ addKs s.1 (ws.map (folOf pl)) := mem_addKs.mpr (.inr (List.mem_map_of_mem (List.mem_of_getElem? hw)))
        refine ⟨rcv_lst' ek3 (by simp), ?_⟩
        refine rdL_of ek3 ⟨rfl, nts_ok, opt_of (first_nt hmem) ?_⟩
        refine h1 _ _ ⟨rfl, ?_⟩
        rw [List.take_add_one, hw, List.map_append, List.map_append]; rfl
      rintro acc μ8 ⟨rfl, rfl⟩
      rw [List.length_map, List.length_map, List.take_length]
      intro nv hnv
      clean_wf
      have kn4 : Kn μ8 (upd μ8 nv (.lst ((ws.map fun w => (addKs s.1 (ws.map (folOf pl))).idxOf (folOf pl w)).map encN))) := .new hnv
      have ek4 := kn4 _ _ id ek3
      have ep4 := kn4 _ _ id ep3
      have ew4 := kn4 _ _ id ew3
      have kn5 := kn3.trans kn4
      have en4 : (upd μ8 nv (.lst ((ws.map fun w => (addKs s.1 (ws.map (folOf pl))).idxOf (folOf pl w)).map encN))) nv = some (.lst ((ws.map fun w => (addKs s.1 (ws.map (folOf pl))).idxOf (folOf pl w)).map encN)) := up_same
      generalize upd μ8 nv (.lst ((ws.map fun w => (addKs s.1 (ws.map (folOf pl))).idxOf (folOf pl w)).map encN)) = μ10 at *
      generalize hns : (ws.map fun w => (addKs s.1 (ws.map (folOf pl))).idxOf (folOf pl w)) = nums at *
      have hnl : nums.length = (waysE (pcAt pl k).2).length := by rw [← hns, List.length_map, hws]
      refine ⟨rdL_of ep4 trivial, ?_⟩
      have ewl : (((ws.map (folOf pl)).map encN).length) = nums.length := by rw [← hns]; simp
      cases he : (pcAt pl k).2 with
      | stop =>
        rw [he] at hnl hws wf' ef'
        obtain rfl : nums = [] := List.length_eq_zero_iff.mp hnl
        unfold encEd
        clean_wf
        refine len_lst ew4 ?_
        rw [ewl]
        clean_wf
        rw [c_slT]
        refine tup_lst en4 ?_
        refine ⟨show (1 : Nat) ≤ 16777216 by decide, ?_⟩
        refine app_lst ep4 (by rw [List.length_map]; have := wf.len; have := hp.len; unfold sizeMax; omega) ?_
        refine ⟨m', by omega, _, _, _, _, _, _, ?_, wf', ef', ?_, ?_, Kept.loc mpc kn5, rfl⟩
        · rw [List.length_append]; simp; omega
        · rw [up_ne nkp]; exact ek4
        · rw [up_same, List.map_append]; rfl
      | go w =>
        rw [he] at hnl hws wf' ef'
        obtain ⟨y, rfl⟩ : ∃ w, nums = [w] := List.length_eq_one_iff.mp hnl
        unfold encEd
        clean_wf
        refine len_lst ew4 ?_
        rw [ewl]
        clean_wf
        rw [c_slT]
        refine tup_lst en4 ?_
        refine ⟨show (2 : Nat) ≤ 16777216 by decide, ?_⟩
        refine app_lst ep4 (by rw [List.length_map]; have := wf.len; have := hp.len; unfold sizeMax; omega) ?_
        refine ⟨m', by omega, _, _, _, _, _, _, ?_, wf', ef', ?_, ?_, Kept.loc mpc kn5, rfl⟩
        · rw [List.length_append]; simp; omega
        · rw [up_ne nkp]; exact ek4
        · rw [up_same, List.map_append]; rfl
      | test l z n y w =>
        rw [he] at hnl hws wf' ef'
        obtain ⟨u, v, rfl⟩ : ∃ u v, nums = [u, v] := match nums, hnl with
          | [u, v], _ => ⟨u, v, rfl⟩
        unfold encEd
        clean_wf
        refine len_lst ew4 ?_
        rw [ewl]
        clean_wf
        rw [c_slT]
        refine tup_lst en4 ?_
        refine ⟨show (5 : Nat) ≤ 16777216 by decide, ?_⟩
        refine app_lst ep4 (by rw [List.length_map]; have := wf.len; have := hp.len; unfold sizeMax; omega) ?_
        refine ⟨m', by omega, _, _, _, _, _, _, ?_, wf', ef', ?_, ?_, Kept.loc mpc kn5, rfl⟩
        · rw [List.length_append]; simp; omega
        · rw [up_ne nkp]; exact ek4
        · rw [up_same, List.map_append]; rfl
  · have hl : ¬ s.2.length < s.1.length := by have := of_decide_eq_false hl; omega
    have e : s = shOf pl := by
      rw [← ef]
      cases m with
      | zero => rfl
      | succ m => unfold finSh; rw [if_neg hl]
    clean_wf
    refine hS hp fun μ8 k8 => ?_
    refine tup_lst (k8 _ _ id ep) (tup_lst (k8 _ _ id ek) ?_)
    rw [← e]
    refine ceq_self ?_ rfl
    show (List.all [encPl s.2, .tup (s.1.map encN)] (D.ok 59)) = true
    rw [List.all_cons, okPl_ wf.tx, List.all_cons]
    show ((s.1.map encN).all (D.ok 58) && true) = true
    rw [Bool.and_true, List.all_eq_true]; intro x hx; obtain ⟨n, _, rfl⟩ := List.mem_map.mp hx; rfl
end MP

set_option linter.all false
set_option maxRecDepth 100000
set_option maxHeartbeats 1000000
set_option Elab.async false
/-! C02: k02's own defs. -/
namespace MP
local macro_rules
  | `(tactic| simp_wf) => `(tactic| simp only [wpE, wpA, optP, getV, matP, List.set, List.getElem?_cons_succ, List.getElem?_cons_zero, primP, arg1, arg2, arg3, binP, intP, absP, min2P, max2P])
def f_is_within : FD := ⟨2, 2, (.seq (.ite (.and (.cmp .isnot (.idx (.var 1) (.ci 0)) .cn) (.or (.cmp .is (.idx (.var 0) (.ci 0)) .cn) (.cmp .lt (.idx (.var 0) (.ci 0)) (.idx (.var 1) (.ci 0))))) (.ret (.cb false)) .nop) (.ret (.or (.cmp .is (.idx (.var 1) (.ci 1)) .cn) (.and (.cmp .isnot (.idx (.var 0) (.ci 1)) .cn) (.cmp .le (.idx (.var 0) (.ci 1)) (.idx (.var 1) (.ci 1)))))))⟩
def f_end_k02 : FD := ⟨1, 2, (.seq (.set (.v 1) (.call 136 (.cons (.var 0) (.cons (.ci 5) .nil)))) (.seq (.ite (.cmp .eq (.var 1) (.ci 0)) (.ret .cn) .nop) (.seq (.ite (.cmp .eq (.var 1) (.ci 1)) (.ret (.bin .mul (.bin .sub (.bin .sub (.idx (.lst (.cons (.bin .pow (.ci 10) (.ci 40)) (.cons (.bin .pow (.ci 10) (.ci 59)) .nil))) (.call 136 (.cons (.var 0) (.cons (.ci 2) .nil)))) (.ci 9)) (.call 136 (.cons (.var 0) (.cons (.ci 3) .nil)))) (.bin .sub (.ci 1) (.bin .mul (.ci 2) (.call 136 (.cons (.var 0) (.cons (.ci 2) .nil))))))) .nop) (.ret (.bin .sub (.call 136 (.cons (.var 0) (.cons (.ci 9) .nil))) (.ci 4))))))⟩
def f_stretch : FD := ⟨1, 3, (.seq (.set (.v 1) (.call 59 (.cons (.var 0) .nil))) (.seq (.set (.v 2) (.call 59 (.cons (.var 0) .nil))) (.seq (.ite (.and (.cmp .isnot (.var 1) .cn) (.and (.cmp .isnot (.var 2) .cn) (.cmp .gt (.var 1) (.var 2)))) (.ret (.tup (.cons (.var 2) (.cons (.var 1) .nil)))) .nop) (.ret (.tup (.cons (.var 1) (.cons (.var 2) .nil)))))))⟩
def f_beside : FD := ⟨2, 5, (.seq (.set (.cons (.v 2) (.cons (.v 3) .nil)) (.var 1)) (.seq (.set (.v 4) (.call 136 (.cons (.var 0) (.cons (.ci 2) .nil)))) (.seq (.ite (.cmp .isnot (.var 2) .cn) (.set (.v 2) (.idx (.lst (.cons (.bin .sub (.var 2) (.ci 1)) (.cons .cn .nil))) (.var 4))) (.ite (.cmp .isnot (.var 3) .cn) (.set (.v 3) (.bin .add (.var 3) (.var 4))) .nop)) (.ret (.tup (.cons (.var 2) (.cons (.var 3) .nil)))))))⟩
def f_lies : FD := ⟨2, 2, (.ret (.and (.or (.cmp .is (.idx (.var 1) (.ci 0)) .cn) (.cmp .ge (.var 0) (.idx (.var 1) (.ci 0)))) (.or (.cmp .is (.idx (.var 1) (.ci 1)) .cn) (.cmp .le (.var 0) (.idx (.var 1) (.ci 1))))))⟩
def f_due : FD := ⟨2, 4, (.seq (.set (.cons (.v 2) (.cons (.v 3) .nil)) (.var 0)) (.seq (.ite (.cmp .is (.var 2) .cn) (.set (.v 2) (.bin .sub (.ci 0) (.bin .pow (.ci 10) (.ci 62)))) .nop) (.seq (.ite (.cmp .is (.var 3) .cn) (.set (.v 3) (.bin .pow (.ci 10) (.ci 62))) .nop) (.ret (.and (.call 84 (.cons (.var 2) (.cons (.var 1) .nil))) (.call 84 (.cons (.var 3) (.cons (.var 1) .nil))))))))⟩
def f_right : FD := ⟨2, 3, (.seq (.set (.v 2) (.call 182 (.cons (.var 0) (.cons (.var 1) .nil)))) (.ret (.and (.isi (.var 2) .bool) (.cmp .eq (.var 2) (.call 58 (.cons (.var 0) (.cons (.var 1) .nil)))))))⟩
def f_law_k02 : FD := ⟨1, 6, (.seq (.for (.v 1) .range (.cons (.bin .add (.ci 1) (.prim .min2 (.cons (.prim .len (.cons (.var 0) .nil)) (.cons (.ci 62) .nil)))) .nil) (.seq (.set (.v 2) (.call 42 (.cons (.var 0) (.cons (.var 1) .nil)))) (.seq (.set (.v 3) (.cmp .eq (.call 136 (.cons (.var 2) (.cons (.ci 3) .nil))) (.ci 0))) (.seq (.set (.v 4) (.call 132 (.cons (.var 2) .nil))) (.seq (.set (.v 5) (.idx (.lst (.cons (.call 132 (.cons (.var 2) .nil)) (.cons (.call 46 (.cons (.var 2) (.cons (.var 4) .nil))) .nil))) (.prim .int (.cons (.var 3) .nil)))) (.ite (.or (.not (.call 118 (.cons (.var 4) (.cons (.var 5) .nil)))) (.or (.not (.call 118 (.cons (.var 5) (.cons (.var 4) .nil)))) (.not (.call 118 (.cons (.var 4) (.cons (.var 4) .nil)))))) (.ret (.cb false)) .nop)))))) (.ret (.cb true)))⟩
def EndB (B : Int) (d : D) : Prop := d = .non ∨ ∃ i : Int, d = .int i ∧ -B ≤ i ∧ i ≤ B
theorem EndB.isEnd {B : Int} {d : D} (h : EndB B d) : isEnd d = true := by rcases h with rfl | ⟨i, rfl, _⟩ <;> rfl
theorem EndB.mono {B C : Int} {d : D} (h : EndB B d) (hb : B ≤ C) : EndB C d := by
  rcases h with rfl | ⟨i, rfl, h1, h2⟩
  · exact .inl rfl
  · exact .inr ⟨i, rfl, by omega, by omega⟩
abbrev End2S (F : Fn) : Prop := ∀ {b : Nat} {μ : Sto} {Q : D → Sto → Prop} {X : EX}, BagAt μ b → (∀ d μ', EndB (10 ^ 60) d → BagAt μ' b → Kp b μ μ' → Q d μ') → F [.ref b] μ Q X
theorem end2_ok {G : Ctx} (hG : Mono G) (hT : TakeS (G.fn 136)) : End2S (runF G f_end_k02) := by
  intro b μ Q X hb q
  refine ⟨rfl, hT hb (by decide) (by decide) fun w μ1 w0 w6 b1 k1 => ?_⟩
  refine if_then hG (b := decide (w = 0)) ⟨congrArg D.bl eqb_int, rfl⟩ (fun _ => q _ _ (.inl rfl) b1 k1) fun _ => ?_
  refine if_then hG (b := decide (w = 1)) ⟨congrArg D.bl eqb_int, rfl⟩ (fun _ => ?_) fun _ => ?_
  · refine ⟨by decide, by decide, fun a ha => ?_⟩
    refine hT (b1.new ha) (by decide) (by decide) fun r μ2 r0 r3 b2 k2 => ?_
    have e := k2 a _ (b1.ne ha) up_same
    have : ∃ g : Int, getI [D.int (10 ^ 40), .int (10 ^ 59)] r = some (.int g) ∧ 10 ^ 40 ≤ g ∧ g ≤ 10 ^ 59 := by
      have : r = 0 ∨ r = 1 := by omega
      rcases this with rfl | rfl
      · exact ⟨10 ^ 40, rfl, by decide, by decide⟩
      · exact ⟨10 ^ 59, rfl, by decide, by decide⟩
    obtain ⟨g, eg, g1, g2⟩ := this
    refine idx_lst e eg ?_
    refine hT b2 (by decide) (by decide) fun t μ3 t0 t3 b3 k3 => ?_
    refine hT b3 (by decide) (by decide) fun u μ4 u0 u2 b4 k4 => ?_
    have hu : u = 0 ∨ u = 1 := by omega
    refine ⟨small_of (by omega) (by omega), small_of (by omega) (by omega), small_of (by omega) (by omega), small_of (by omega) (by omega), ?_⟩
    refine q _ _ (.inr ⟨_, rfl, ?_, ?_⟩) b4 (((k1.trans (.new ha)).trans k2).trans (k3.trans k4))
    · rcases hu with rfl | rfl <;> omega
    · rcases hu with rfl | rfl <;> omega
  · refine hT b1 (by decide) (by decide) fun r μ2 r0 r3 b2 k2 => ?_
    exact q _ _ (.inr ⟨_, rfl, by omega, by omega⟩) b2 (k1.trans k2)
def StB (B : Int) (d : D) : Prop := ∃ x y, d = .tup [x, y] ∧ EndB B x ∧ EndB B y ∧ leE x y = true
abbrev Str2S (F : Fn) : Prop := ∀ {b : Nat} {μ : Sto} {Q : D → Sto → Prop} {X : EX}, BagAt μ b → (∀ d μ', StB (10 ^ 60) d → BagAt μ' b → Kp b μ μ' → Q d μ') → F [.ref b] μ Q X
theorem str2_ok {G : Ctx} (hG : Mono G) (hE : End2S (G.fn 59)) : Str2S (runF G f_stretch) := by
  intro b μ Q X hb q
  refine ⟨rfl, hE hb fun x μ1 ex b1 k1 => hE b1 fun y μ2 ey b2 k2 => ?_⟩
  have k := k1.trans k2
  have le : (!isNon x && (!isNon y && !leE x y)) = !leE x y := by
    rcases ex with rfl | ⟨i, rfl, _⟩ <;> rcases ey with rfl | ⟨j, rfl, _⟩ <;> simp [isNon, leE]
  refine if_then hG (v_and hG (b1 := !isNon x) (b2 := !isNon y && !leE x y) ⟨rfl, rfl⟩ fun e1 => v_and hG (b1 := !isNon y) (b2 := !leE x y) ⟨rfl, rfl⟩ fun e2 => ?_) (fun z => ?_) fun z => ?_
  · rcases ex with rfl | ⟨i, rfl, _⟩
    · cases e1
    · rcases ey with rfl | ⟨j, rfl, _⟩
      · cases e2
      · refine ⟨congrArg D.bl ?_, rfl⟩
        show decide (j < i) = !decide (i ≤ j)
        rw [Bool.eq_iff_iff]; simp
  · rw [le] at z
    refine q _ _ ⟨y, x, rfl, ey, ex, ?_⟩ b2 k
    rcases ex with rfl | ⟨i, rfl, _⟩ <;> rcases ey with rfl | ⟨j, rfl, _⟩ <;> simp_all [leE]
    omega
  · rw [le] at z
    exact q _ _ ⟨x, y, rfl, ex, ey, by simpa using z⟩ b2 k
abbrev BesideS (F : Fn) : Prop := ∀ {b : Nat} {d : D} {μ : Sto} {Q : D → Sto → Prop} {X : EX}, BagAt μ b → StB (10 ^ 60) d → (∀ d μ', StB (10 ^ 61) d → BagAt μ' b → Kp b μ μ' → Q d μ') → F [.ref b, d] μ Q X
theorem beside_ok {G : Ctx} (hG : Mono G) (hT : TakeS (G.fn 136)) : BesideS (runF G f_beside) := by
  intro b d μ Q X hb hd q
  obtain ⟨x, y, rfl, ex, ey, le⟩ := hd
  refine ⟨rfl, hT hb (by decide) (by decide) fun w μ1 w0 w2 b1 k1 => ?_⟩
  have hw : w = 0 ∨ w = 1 := by omega
  rcases ex with rfl | ⟨i, rfl, i1, i2⟩
  · refine ⟨fun z => (nomatch z), fun _ => ?_⟩
    rcases ey with rfl | ⟨j, rfl, j1, j2⟩
    · exact ⟨fun z => (nomatch z), fun _ => q _ _ ⟨_, _, rfl, .inl rfl, .inl rfl, rfl⟩ b1 k1⟩
    · exact ⟨fun _ => q _ _ ⟨_, _, rfl, .inl rfl, .inr ⟨_, rfl, by omega, by omega⟩, rfl⟩ b1 k1, fun z => nomatch z⟩
  · refine ⟨fun _ => fun a ha => ?_, fun z => (nomatch z)⟩
    have k2 : Kp b μ _ := k1.trans (.new (o := .lst [.int (i - 1), .non]) ha)
    rcases hw with rfl | rfl
    · refine idx_lst up_same rfl (q _ _ ⟨_, _, rfl, .inr ⟨_, rfl, by omega, by omega⟩, ey.mono (by decide), ?_⟩ (b1.new ha) k2)
      rcases ey with rfl | ⟨j, rfl, j1, j2⟩
      · rfl
      · have : i ≤ j := of_decide_eq_true le
        exact decide_eq_true (by omega)
    · refine idx_lst up_same rfl (q _ _ ⟨_, _, rfl, .inl rfl, ey.mono (by decide), ?_⟩ (b1.new ha) k2)
      rfl
/-- is_within -/
def wiB (x y x' y' : D) : Bool := (isNon x' || (!isNon x && leE x' x)) && (isNon y' || (!isNon y && leE y y'))
abbrev WithinS (F : Fn) : Prop := ∀ {x y x' y' : D} {μ : Sto} {Q : D → Sto → Prop} {X : EX}, isEnd x = true → isEnd y = true → isEnd x' = true → isEnd y' = true → Q (.bl (wiB x y x' y')) μ → F [.tup [x, y], .tup [x', y']] μ Q X
theorem within_ok {G : Ctx} (hG : Mono G) : WithinS (runF G f_is_within) := by
  intro x y x' y' μ Q X hx hy hx' hy' q
  refine ⟨rfl, if_then hG (b := !(isNon x' || (!isNon x && leE x' x))) ?_ (fun z => ?_) fun z => ?_⟩
  · rcases end_cases hx' with rfl | ⟨i', rfl⟩
    · exact nay ⟨rfl, rfl⟩
    · rcases end_cases hx with rfl | ⟨i, rfl⟩
      · exact yes (yes ⟨rfl, rfl⟩)
      · refine yes (nay ⟨congrArg D.bl ?_, rfl⟩)
        show decide (i < i') = !(false || (true && decide (i' ≤ i)))
        rw [Bool.eq_iff_iff]; simp
  · have : wiB x y x' y' = false := by
      unfold wiB; rw [show (isNon x' || (!isNon x && leE x' x)) = false by rw [Bool.not_eq_true'] at z; exact z]; rfl
    rw [this] at q; exact q
  · have : wiB x y x' y' = (isNon y' || (!isNon y && leE y y')) := by
      unfold wiB; rw [show (isNon x' || (!isNon x && leE x' x)) = true by rw [Bool.not_eq_false'] at z; exact z]; rfl
    rw [this] at q
    rcases end_cases hy' with rfl | ⟨i', rfl⟩
    · exact yes q
    · rcases end_cases hy with rfl | ⟨i, rfl⟩
      · exact nay (nay q)
      · exact nay (yes q)
theorem leHi_le {n : Int} {d : D} : leHi n d = leE (.int n) d := by cases d <;> rfl
theorem geLo_le {n : Int} {d : D} : geLo n d = leE d (.int n) := by cases d <;> rfl
abbrev Lies2S (F : Fn) : Prop := ∀ {n : Int} {x y : D} {μ : Sto} {Q : D → Sto → Prop} {X : EX}, isEnd x = true → isEnd y = true → Q (.bl (geLo n x && leHi n y)) μ → F [.int n, .tup [x, y]] μ Q X
theorem lies2_ok {G : Ctx} (hG : Mono G) : Lies2S (runF G f_lies) := by
  intro n x y μ Q X hx hy q
  refine ⟨rfl, ret_v hG (v_and hG (b1 := geLo n x) (b2 := leHi n y) ?_ fun _ => ?_) q⟩
  · rcases end_cases hx with rfl | ⟨i, rfl⟩
    · exact yes ⟨rfl, rfl⟩
    · exact nay ⟨rfl, rfl⟩
  · rcases end_cases hy with rfl | ⟨i, rfl⟩
    · exact yes ⟨rfl, rfl⟩
    · exact nay ⟨rfl, rfl⟩
abbrev Due2S (F : Fn) : Prop := ∀ {d e : D} {μ : Sto} {Q : D → Sto → Prop} {X : EX}, StB (10 ^ 61) d → StB (10 ^ 61) e → (∀ x y x' y', d = .tup [x, y] → e = .tup [x', y'] → Q (.bl (wiB x y x' y')) μ) → F [d, e] μ Q X
theorem due2_ok {G : Ctx} (hG : Mono G) (hL : Lies2S (G.fn 84)) : Due2S (runF G f_due) := by
  intro d e μ Q X hd he q
  obtain ⟨x, y, rfl, ex, ey, le⟩ := hd
  obtain ⟨x', y', rfl, ex', ey', le'⟩ := he
  have q := q x y x' y' rfl rfl
  have fin : ∀ l h : Int, ((geLo l x' && leHi l y') && (geLo h x' && leHi h y')) = wiB x y x' y' → Val G (.and (.call 84 (.cons (.var 2) (.cons (.var 1) .nil))) (.call 84 (.cons (.var 3) (.cons (.var 1) .nil)))) [some (.tup [x, y]), some (.tup [x', y']), some (.int l), some (.int h)] μ (.bl (wiB x y x' y')) := fun l h e => by
    rw [← e]
    exact v_and hG (hL ex'.isEnd ey'.isEnd ⟨rfl, rfl⟩) fun _ => hL ex'.isEnd ey'.isEnd ⟨rfl, rfl⟩
  refine ⟨rfl, ?_⟩
  have p62 : powOk 10 62 = true := by decide
  have tac : ∀ l h : Int, (x = .non → l = 0 - 10 ^ 62) → (∀ i, x = .int i → l = i) → (y = .non → h = 10 ^ 62) → (∀ j, y = .int j → h = j) → ((geLo l x' && leHi l y') && (geLo h x' && leHi h y')) = wiB x y x' y' := fun l h h1 h2 h3 h4 => by
    rcases ex with rfl | ⟨i, rfl, i1, i2⟩ <;> rcases ey with rfl | ⟨j, rfl, j1, j2⟩ <;> rcases ex' with rfl | ⟨i', rfl, i3, i4⟩ <;> rcases ey' with rfl | ⟨j', rfl, j3, j4⟩
    all_goals first
      | have e1 := h1 rfl
      | have e1 := h2 _ rfl
    all_goals first
      | have e2 := h3 rfl
      | have e2 := h4 _ rfl
    all_goals subst e1 e2
    all_goals rw [Bool.eq_iff_iff]
    all_goals simp [geLo, leHi, wiB, isNon, leE] at le ⊢
    all_goals try omega
  rcases ex with rfl | ⟨i, rfl, i1, i2⟩ <;> rcases ey with rfl | ⟨j, rfl, j1, j2⟩
  · exact yes ⟨p62, yes ⟨p62, v_use hG (fin _ _ (tac _ _ (fun _ => rfl) (fun _ z => by cases z) (fun _ => rfl) fun _ z => by cases z)) q⟩⟩
  · exact yes ⟨p62, nay (v_use hG (fin _ _ (tac _ _ (fun _ => rfl) (fun _ z => by cases z) (fun z => by cases z) fun _ z => by cases z; rfl)) q)⟩
  · exact nay (yes ⟨p62, v_use hG (fin _ _ (tac _ _ (fun z => by cases z) (fun _ z => by cases z; rfl) (fun _ => rfl) fun _ z => by cases z)) q⟩)
  · exact nay (nay (v_use hG (fin _ _ (tac _ _ (fun z => by cases z) (fun _ z => by cases z; rfl) (fun z => by cases z) fun _ z => by cases z; rfl)) q))
abbrev Right2S (F : Fn) : Prop := ∀ {d e : D} {μ : Sto} {Q : D → Sto → Prop} {X : EX}, StB (10 ^ 61) d → StB (10 ^ 61) e → Q (.bl true) μ → F [d, e] μ Q X
theorem right2_ok {G : Ctx} (hG : Mono G) (hW : WithinS (G.fn 182)) (hD : Due2S (G.fn 58)) : Right2S (runF G f_right) := by
  intro d e μ Q X hd he q
  have hd' := hd
  have he' := he
  obtain ⟨x, y, rfl, ex, ey, le⟩ := hd
  obtain ⟨x', y', rfl, ex', ey', le'⟩ := he
  refine ⟨rfl, hW ex.isEnd ey.isEnd ex'.isEnd ey'.isEnd ?_⟩
  refine ret_v hG (v := .bl (true && true)) (v_and hG (b1 := true) (b2 := true) ⟨trivial, rfl, rfl⟩ fun _ => ?_) q
  refine hD hd' he' fun a b c d e1 e2 => ?_
  cases e1; cases e2
  exact ⟨congrArg D.bl (beq_self_eq_true _), rfl⟩
theorem StB.mono {B C : Int} {d : D} (h : StB B d) (hb : B ≤ C) : StB C d := by
  obtain ⟨x, y, e, ex, ey, le⟩ := h
  exact ⟨x, y, e, ex.mono hb, ey.mono hb, le⟩
theorem law2_ok {G : Ctx} (hG : Mono G) (hB : BagS (G.fn 42)) (hT : TakeS (G.fn 136)) (hS : Str2S (G.fn 132)) (hBe : BesideS (G.fn 46)) (hR : Right2S (G.fn 118)) {ns : List Int} (hn : ns.length ≤ 63) {X : EX} : runF G f_law_k02 [.scr ns] (fun _ => none) (fun v _ => v = .bl true) X := by
  refine ⟨rfl, ?_⟩
  refine ⟨⟨by omega, by omega⟩, ?_⟩
  refine for_all (fun ρ μ => ∃ o1 o2 o3 o4 o5 : Option D, ρ = [some (.scr ns), o1, o2, o3, o4, o5]) (fun _ _ _ => trivial) ?_ (fun ρ μ _ => rfl) ⟨_, _, _, _, _, rfl⟩
  rintro d hd ρ μ K ⟨o1, o2, o3, o4, o5, rfl⟩ hK
  obtain ⟨i, hi, rfl⟩ := range_mem hd
  refine hB (by omega) (by omega) fun b μ1 hb0 b1 k1 => ?_
  refine hT b1 (by decide) (by decide) fun r μ2 r0 r3 b2 k2 => ?_
  simp_wf
  refine seq_set (hS b2 fun one μ3 h1 b3 k3 => ?_)
  simp_wf
  refine seq_set (hS b3 fun st μ4 h4 b4 k4 => ?_)
  simp_wf
  refine hBe b4 h1 fun be μ5 h5 b5 k5 => ?_
  intro a ha
  have h1 := h1.mono (C := 10 ^ 61) (by decide)
  have h4 := h4.mono (C := 10 ^ 61) (by decide)
  have hx : ∃ x, getI [st, be] (b2i (D.eqb (.int r) (.int 0))) = some x ∧ StB (10 ^ 61) x := by
    cases D.eqb (.int r) (.int 0)
    · exact ⟨st, rfl, h4⟩
    · exact ⟨be, rfl, h5⟩
  obtain ⟨x, ex, hx⟩ := hx
  refine idx_lst up_same ex ?_
  simp_wf
  refine ite_v hG (b := false) (v_or hG (b1 := false) (b2 := false) (v_not hG (b1 := true) (hR h1 hx ⟨rfl, rfl⟩)) fun _ => v_or hG (b1 := false) (b2 := false) (v_not hG (b1 := true) (hR hx h1 ⟨rfl, rfl⟩)) fun _ => v_not hG (b1 := true) (hR h1 h1 ⟨rfl, rfl⟩)) (fun z => nomatch z) fun _ => ?_
  exact hK _ _ ⟨_, _, _, _, _, rfl⟩
end MP

set_option linter.all false
set_option maxRecDepth 100000
set_option maxHeartbeats 1000000
set_option Elab.async false
/-! F15: facts -/
namespace MP
local macro_rules
  | `(tactic| clean_wf) => `(tactic| simp only [ws_set, ws_set1, ws_ret, ws_nop, ws_exp, ws_exp1, ws_sidx, ws_sidx1, ws_satt, ws_satt1, ws_aat, ws_aat1, ws_avar, ws_avar1, augK_int, ws_for, ws_forS, wpE, wpA, opt_some, gv_0, gv_s, matP, List.set, b_add, b_addS, b_addT, b_sub, b_mul, b_div, b_mod, b_pow, c_len, c_lenT, c_int, c_intB, c_abs, c_min, c_max, c_tupT, c_eqI, c_neI, c_eqS, c_neS, c_lt, c_le, c_gt, c_ge, c_is, c_isnot, c_isB, c_isnotB, c_idxT, g_0, g_1, g_2, g_3, g_4, g_5, g_6, o_non, o_int, Bool.not_true, Bool.not_false, br_t, br_f, c_itA, c_itT, c_itS, wipe])
local macro_rules
  | `(tactic| sizeOf_list_dec) => `(tactic| first
    | assumption
    | exact Ne.symm (by assumption)
    | exact ne_new (by assumption) (by assumption)
    | exact Ne.symm (ne_new (by assumption) (by assumption))
    | exact BagAt.ne (by assumption) (by assumption)
    | exact Ne.symm (BagAt.ne (by assumption) (by assumption))
    | exact id)
local macro_rules
  | `(tactic| array_mem_dec) => `(tactic| first
    | assumption
    | exact up_same
    | (refine (up_ne (by sizeOf_list_dec)).trans ?_; array_mem_dec)
    | (refine (by assumption : Kept _ _ _) _ _ (by sizeOf_list_dec) ?_; array_mem_dec)
    | (refine BagAt.new ?_ (by assumption); array_mem_dec)
    | (refine BagAt.off ?_ (by sizeOf_list_dec); array_mem_dec)
    | (refine BagAt.keep ?_ (by assumption) (by sizeOf_list_dec); array_mem_dec)
    | exact Kept.refl
    | exact Kept.new (by assumption)
    | (refine Kept.trans ?_ (by assumption); array_mem_dec)
    | (refine Kept.loc (by assumption) ?_; array_mem_dec)
    | (refine Kept.nw (by assumption) ?_; array_mem_dec))
variable {μ μ' μ1 μ2 : Sto} {a b p q : Nat} {l : List D} {i : Int} {x y d : D} {o : Ob} {ρ : Env}
def f_known : FD := ⟨2, 4, (.seq (.for (.cons (.v 2) (.cons (.v 3) .nil)) .any (.cons (.var 0) .nil) (.ite (.cmp .eq (.var 2) (.var 1)) (.ret (.var 3)) .nop)) (.ret (.cst 0)))⟩
def f_with_known : FD := ⟨3, 5, (.seq (.set (.v 3) (.comp (.var 4) (.v 4) .any (.cons (.var 0) .nil) (.cmp .ne (.idx (.var 4) (.ci 0)) (.var 1)) [4])) (.seq (.ite (.cmp .ne (.var 2) (.cst 0)) (.expr (.bm .append (.var 3) (.cons (.tup (.cons (.var 1) (.cons (.var 2) .nil))) .nil))) .nop) (.ret (.prim .tuple (.cons (.skey (.var 3)) .nil)))))⟩
def f_holds : FD := ⟨2, 4, (.ret (.prim .all (.cons (.comp (.call 191 (.cons (.bm .get (.var 1) (.cons (.var 2) (.cons (.ci 0) .nil))) (.cons (.var 3) .nil))) (.cons (.v 2) (.cons (.v 3) .nil)) .any (.cons (.var 0) .nil) (.cb true) [2, 3]) .nil)))⟩
def f_covers : FD := ⟨2, 4, (.ret (.prim .all (.cons (.comp (.call 182 (.cons (.call 186 (.cons (.var 1) (.cons (.var 2) .nil))) (.cons (.var 3) .nil))) (.cons (.v 2) (.cons (.v 3) .nil)) .any (.cons (.var 0) .nil) (.cb true) [2, 3]) .nil)))⟩
def f_moved : FD := ⟨2, 2, (.seq (.ite (.cmp .is (.var 0) .cn) (.ret .cn) .nop) (.ret (.bin .add (.var 0) (.var 1))))⟩
def f_behind_one : FD := ⟨2, 5, (.seq (.set (.v 2) (.idx (.var 1) (.ci 1))) (.seq (.ite (.cmp .eq (.idx (.var 1) (.ci 0)) (.cs [112, 117, 116])) (.ret (.call 231 (.cons (.var 0) (.cons (.var 2) (.cons (.tup (.cons (.idx (.var 1) (.ci 2)) (.cons (.idx (.var 1) (.ci 2)) .nil))) .nil))))) .nop) (.seq (.ite (.cmp .eq (.idx (.var 1) (.ci 0)) (.cs [99, 111, 112, 121])) (.ret (.call 231 (.cons (.var 0) (.cons (.var 2) (.cons (.call 186 (.cons (.var 0) (.cons (.idx (.var 1) (.ci 2)) .nil))) .nil))))) .nop) (.seq (.ite (.cmp .eq (.idx (.var 1) (.ci 0)) (.cs [97, 100, 100])) (.seq (.set (.cons (.v 3) (.cons (.v 4) .nil)) (.call 186 (.cons (.var 0) (.cons (.var 2) .nil)))) (.ret (.call 231 (.cons (.var 0) (.cons (.var 2) (.cons (.tup (.cons (.call 194 (.cons (.var 3) (.cons (.idx (.var 1) (.ci 2)) .nil))) (.cons (.call 194 (.cons (.var 4) (.cons (.idx (.var 1) (.ci 2)) .nil))) .nil))) .nil)))))) .nop) (.seq (.ite (.cmp .eq (.idx (.var 1) (.ci 0)) (.cs [114, 101, 97, 100])) (.ret (.call 231 (.cons (.var 0) (.cons (.var 2) (.cons (.cst 0) .nil))))) .nop) (.ret (.var 0)))))))⟩
def f_behind : FD := ⟨2, 3, (.seq (.for (.v 2) .any (.cons (.var 1) .nil) (.set (.v 0) (.call 163 (.cons (.var 0) (.cons (.var 2) .nil))))) (.ret (.var 0)))⟩
def f_sided : FD := ⟨2, 10, (.seq (.ite (.cmp .eq (.idx (.var 1) (.ci 0)) (.cs [115, 116, 111, 112])) (.ret (.lst .nil)) .nop) (.seq (.ite (.cmp .eq (.idx (.var 1) (.ci 0)) (.cs [103, 111])) (.ret (.lst (.cons (.tup (.cons .cn (.cons (.idx (.var 1) (.ci 1)) (.cons (.var 0) .nil)))) .nil))) .nop) (.seq (.set (.cons (.v 2) (.cons (.v 3) (.cons (.v 4) (.cons (.v 5) (.cons (.v 6) .nil))))) (.var 1)) (.seq (.set (.v 7) (.call 186 (.cons (.var 0) (.cons (.var 3) .nil)))) (.seq (.set (.v 8) (.call 160 (.cons (.var 7) (.cons (.var 2) (.cons (.var 4) .nil))))) (.seq (.set (.v 9) (.lst .nil)) (.seq (.ite (.cmp .ne (.var 8) (.cs [110, 111])) (.expr (.bm .append (.var 9) (.cons (.tup (.cons (.cb true) (.cons (.var 5) (.cons (.call 231 (.cons (.var 0) (.cons (.var 3) (.cons (.call 202 (.cons (.var 7) (.cons (.var 2) (.cons (.var 4) (.cons (.cb true) .nil))))) .nil)))) .nil)))) .nil))) .nop) (.seq (.ite (.cmp .ne (.var 8) (.cs [121, 101, 115])) (.expr (.bm .append (.var 9) (.cons (.tup (.cons (.cb false) (.cons (.var 6) (.cons (.call 231 (.cons (.var 0) (.cons (.var 3) (.cons (.call 202 (.cons (.var 7) (.cons (.var 2) (.cons (.var 4) (.cons (.cb false) .nil))))) .nil)))) .nil)))) .nil))) .nop) (.ret (.var 9))))))))))⟩
def f_leads : FD := ⟨2, 5, (.ret (.prim .tuple (.cons (.comp (.tup (.cons (.var 3) (.cons (.var 4) .nil))) (.cons (.v 2) (.cons (.v 3) (.cons (.v 4) .nil))) .any (.cons (.call 221 (.cons (.var 0) (.cons (.var 1) .nil))) .nil) (.cb true) [2, 3, 4]) .nil)))⟩
def f_start : FD := ⟨1, 2, (.ret (.prim .tuple (.cons (.comp (.tup (.cons (.var 1) (.cons (.tup (.cons (.ci 0) (.cons (.ci 0) .nil))) .nil))) (.v 1) .any (.cons (.call 195 (.cons (.var 0) .nil)) .nil) (.cb true) [1]) .nil)))⟩
/-! ### facts, typed -/
abbrev Fs := List (Nm × Sh)
abbrev ALL : Sh := (none, none)
def encP (p : Nm × Sh) : D := .tup [.str p.1, encS p.2]
def encF (f : Fs) : D := .tup (f.map encP)
/-- names strictly rising -/
def Rise (f : Fs) : Prop := f.Pairwise fun a b => strLt a.1 b.1 = true
def knownF (f : Fs) (z : Nm) : Sh := (alook f z).getD ALL
def insF (p : Nm × Sh) : Fs → Fs
  | [] => [p]
  | q :: r => if strLt p.1 q.1 = true then p :: q :: r else q :: insF p r
def dropF (f : Fs) (z : Nm) : Fs := f.filter fun p => !decide (p.1 = z)
def withF (f : Fs) (z : Nm) (s : Sh) : Fs := if s = ALL then dropF f z else insF (z, s) (dropF f z)
theorem lt_irr (a : Nm) : strLt a a = false := by rw [strLt_dec]; exact decide_eq_false (List.lt_irrefl a)
theorem lt_tr {a b c : Nm} (h1 : strLt a b = true) (h2 : strLt b c = true) : strLt a c = true := by
  rw [strLt_dec, decide_eq_true_eq] at *; exact List.lt_trans h1 h2
theorem lt_tot {a b : Nm} (h1 : strLt a b = false) (h2 : strLt b a = false) : a = b := by
  rw [strLe_dec] at h1 h2; exact List.le_antisymm h2 h1
theorem lt_asym {a b : Nm} (h : strLt a b = true) : strLt b a = false := by
  cases e : strLt b a with
  | false => rfl
  | true => have := lt_tr h e; rw [lt_irr] at this; cases this
theorem Rise.drop {f : Fs} (h : Rise f) (z : Nm) : Rise (dropF f z) := List.Pairwise.filter _ h
theorem mem_dropF {f : Fs} {z : Nm} {p : Nm × Sh} : p ∈ dropF f z ↔ p ∈ f ∧ p.1 ≠ z := by
  unfold dropF
  rw [List.mem_filter]; simp
theorem mem_insF {p q : Nm × Sh} : ∀ {f : Fs}, q ∈ insF p f ↔ q = p ∨ q ∈ f
  | [] => by simp [insF]
  | x :: r => by
    unfold insF
    split
    · rw [List.mem_cons]
    · rw [List.mem_cons, mem_insF, List.mem_cons]
      constructor
      · rintro (h | h | h)
        · exact .inr (.inl h)
        · exact .inl h
        · exact .inr (.inr h)
      · rintro (h | h | h)
        · exact .inr (.inl h)
        · exact .inl h
        · exact .inr (.inr h)
theorem insF_perm {p : Nm × Sh} : ∀ {f : Fs}, (insF p f).Perm (p :: f)
  | [] => .refl _
  | x :: r => by
    unfold insF
    split
    · exact .refl _
    · exact (List.Perm.cons x insF_perm).trans (.swap p x r)
theorem Rise.ins {p : Nm × Sh} : ∀ {f : Fs}, Rise f → (∀ q ∈ f, q.1 ≠ p.1) → Rise (insF p f)
  | [], _, _ => List.pairwise_singleton _ _
  | x :: r, h, hn => by
    have h' := List.pairwise_cons.mp h
    unfold insF
    split
    · rename_i e
      refine List.pairwise_cons.mpr ⟨fun q hq => ?_, h⟩
      rcases List.mem_cons.mp hq with rfl | hq
      · exact e
      · exact lt_tr e (h'.1 q hq)
    · rename_i e
      refine List.pairwise_cons.mpr ⟨fun q hq => ?_, Rise.ins h'.2 fun q hq => hn q (List.mem_cons_of_mem _ hq)⟩
      rcases mem_insF.mp hq with rfl | hq
      · cases e2 : strLt x.1 q.1 with
        | true => rfl
        | false => exact absurd (lt_tot e2 (by simpa using e)) (hn x (List.mem_cons_self ..))
      · exact h'.1 q hq
theorem Rise.with {f : Fs} (h : Rise f) (z : Nm) (s : Sh) : Rise (withF f z s) := by
  unfold withF
  split
  · exact h.drop z
  · exact (h.drop z).ins fun q hq => (mem_dropF.mp hq).2
theorem Rise.nodup {f : Fs} (h : Rise f) : (akeys f).Nodup := by
  unfold akeys
  rw [List.Nodup, List.pairwise_map]
  exact h.imp fun {a b} e z => by rw [z, lt_irr] at e; cases e
/-- rising lists are what they tell -/
theorem uniqM {α : Type} {le : α → α → Prop} : ∀ {l m : List α}, (∀ a ∈ l, ∀ b ∈ l, le a b → le b a → a = b) → l.Perm m → l.Pairwise le → m.Pairwise le → l = m
  | [], m, _, p, _, _ => (List.nil_perm.mp p).symm
  | a :: l, [], _, p, _, _ => by have := p.length_eq; simp at this
  | a :: l, b :: m, an, p, h1, h2 => by
    rw [List.pairwise_cons] at h1 h2
    have e : a = b := by
      have ha : a ∈ b :: m := p.mem_iff.mp (List.mem_cons_self ..)
      have hb : b ∈ a :: l := p.mem_iff.mpr (List.mem_cons_self ..)
      rcases List.mem_cons.mp ha with e | ha
      · exact e
      rcases List.mem_cons.mp hb with e | hb
      · exact e.symm
      exact an a (List.mem_cons_self ..) b (List.mem_cons_of_mem _ hb) (h1.1 b hb) (h2.1 a ha)
    subst e
    rw [uniqM (fun x hx y hy => an x (List.mem_cons_of_mem _ hx) y (List.mem_cons_of_mem _ hy)) (List.Perm.cons_inv p) h1.2 h2.2]
theorem nodup_key {f : Fs} (nd : (akeys f).Nodup) {p q : Nm × Sh} (hp : p ∈ f) (hq : q ∈ f) (e : p.1 = q.1) : p = q := by
  obtain ⟨i, hi, rfl⟩ := List.mem_iff_getElem.mp hp
  obtain ⟨j, hj, rfl⟩ := List.mem_iff_getElem.mp hq
  have : (akeys f)[i]'(by simpa [akeys] using hi) = (akeys f)[j]'(by simpa [akeys] using hj) := by simpa [akeys] using e
  have := (List.getElem_inj nd).mp this
  subst this; rfl
theorem rise_uniq {f g : Fs} (p : f.Perm g) (hf : Rise f) (hg : Rise g) : f = g :=
  uniqM (fun a _ b _ h1 h2 => by have := lt_asym h1; rw [h2] at this; cases this) p hf hg
/-- sorted by names: the one order -/
theorem sorted_enc {f g : Fs} {ys : List D} (p : ys.Perm (f.map encP)) (nd : (akeys f).Nodup) (pw : ys.Pairwise keyLe) (hg : Rise g) (pg : g.Perm f) : ys = g.map encP := by
  have p2 : ys.Perm (g.map encP) := p.trans (pg.symm.map encP)
  have ndg : (akeys g).Nodup := hg.nodup
  refine uniqM (le := keyLe) (fun a ha b hb h1 h2 => ?_) p2 pw ?_
  · obtain ⟨x, hx, rfl⟩ := List.mem_map.mp (p2.mem_iff.mp ha)
    obtain ⟨y, hy, rfl⟩ := List.mem_map.mp (p2.mem_iff.mp hb)
    have h1 : strLt y.1 x.1 = false := h1
    have h2 : strLt x.1 y.1 = false := h2
    rw [nodup_key ndg hx hy (lt_tot h2 h1)]
  · rw [List.pairwise_map]
    exact hg.imp fun {a b} e => show strLt b.1 a.1 = false from lt_asym e
/-! ### what is told by names -/
theorem alook_mem {α : Type} : ∀ {f : List (Nm × α)} {z : Nm} {s : α}, alook f z = some s → (z, s) ∈ f
  | (k, v) :: r, z, s, h => by
    unfold alook at h
    split at h
    · rename_i e; subst e; cases h; exact List.mem_cons_self ..
    · exact List.mem_cons_of_mem _ (alook_mem h)
theorem alook_of {α : Type} : ∀ {f : List (Nm × α)} {z : Nm} {s : α}, (akeys f).Nodup → (z, s) ∈ f → alook f z = some s
  | (k, v) :: r, z, s, nd, h => by
    have nd' : k ∉ akeys r ∧ (akeys r).Nodup := List.nodup_cons.mp nd
    unfold alook
    rcases List.mem_cons.mp h with e | h
    · cases e; rw [if_pos rfl]
    · rw [if_neg fun e => nd'.1 (by rw [e]; exact List.mem_map_of_mem h)]
      exact alook_of nd'.2 h
theorem alook_iff {α : Type} {f : List (Nm × α)} (nd : (akeys f).Nodup) {z : Nm} {s : α} : alook f z = some s ↔ (z, s) ∈ f := ⟨alook_mem, alook_of nd⟩
theorem alook_ext {α : Type} {f g : List (Nm × α)} (nf : (akeys f).Nodup) (ng : (akeys g).Nodup) (h : ∀ p, p ∈ f ↔ p ∈ g) (z : Nm) : alook f z = alook g z := by
  cases e : alook f z with
  | some s => exact ((alook_iff ng).mpr ((h _).mp ((alook_iff nf).mp e))).symm
  | none =>
    cases e2 : alook g z with
    | none => rfl
    | some s => rw [(alook_iff nf).mpr ((h _).mpr ((alook_iff ng).mp e2))] at e; cases e
theorem nodup_mem {f : Fs} (nd : (akeys f).Nodup) : f.Nodup := by
  have : (f.map (·.1)).Nodup := nd
  rw [List.Nodup, List.pairwise_map] at this
  exact this.imp fun h e => h (by rw [e])
theorem rise_ext {f g : Fs} (hf : Rise f) (hg : Rise g) (h : ∀ z, alook f z = alook g z) : f = g := by
  refine rise_uniq ?_ hf hg
  refine (List.perm_ext_iff_of_nodup (nodup_mem hf.nodup) (nodup_mem hg.nodup)).mpr fun p => ?_
  rw [← alook_iff hf.nodup (z := p.1) (s := p.2), h, alook_iff hg.nodup]
theorem alook_with {f : Fs} (h : Rise f) {z w : Nm} {s : Sh} : alook (withF f z s) w = if w = z then (if s = ALL then none else some s) else alook f w := by
  have hw := h.with z s
  by_cases e : w = z
  · subst e
    rw [if_pos rfl]
    unfold withF
    by_cases hs : s = ALL
    · rw [if_pos hs, if_pos hs, alook_none]
      intro hm
      obtain ⟨p, hp, e⟩ := List.mem_map.mp hm
      exact (mem_dropF.mp hp).2 e
    · rw [if_neg hs, if_neg hs]
      have : Rise (insF (w, s) (dropF f w)) := (h.drop w).ins fun q hq => (mem_dropF.mp hq).2
      exact (alook_iff this.nodup).mpr (mem_insF.mpr (.inl rfl))
  · rw [if_neg e]
    have : ∀ t, (w, t) ∈ withF f z s ↔ (w, t) ∈ f := fun t => by
      unfold withF
      split
      · rw [mem_dropF]; simp [e]
      · rw [mem_insF, mem_dropF]; simp [e]
    cases e2 : alook f w with
    | some t => exact (alook_iff hw.nodup).mpr ((this t).mpr (alook_mem e2))
    | none =>
      cases e3 : alook (withF f z s) w with
      | none => rfl
      | some t => rw [(alook_iff h.nodup).mpr ((this t).mp (alook_mem e3))] at e2; cases e2
theorem known_with {f : Fs} (h : Rise f) {z w : Nm} {s : Sh} : knownF (withF f z s) w = if w = z then s else knownF f w := by
  unfold knownF
  rw [alook_with h]
  split
  · split
    · rename_i e; rw [e]; rfl
    · rfl
  · rfl
/-- no stretch of all numbers -/
def NoAll (f : Fs) : Prop := ∀ p ∈ f, p.2 ≠ ALL
theorem NoAll.with {f : Fs} (h : NoAll f) (z : Nm) (s : Sh) : NoAll (withF f z s) := by
  intro p hp
  unfold withF at hp
  split at hp
  · exact h p (mem_dropF.mp hp).1
  · rename_i hs
    rcases mem_insF.mp hp with rfl | hp
    · exact hs
    · exact h p (mem_dropF.mp hp).1
theorem known_look {f : Fs} (h : NoAll f) {z : Nm} : alook f z = if knownF f z = ALL then none else some (knownF f z) := by
  unfold knownF
  cases e : alook f z with
  | none => exact (if_pos rfl).symm
  | some s => exact (if_neg (show ¬ (some s).getD ALL = ALL from h _ (alook_mem e))).symm
theorem known_ext {f g : Fs} (hf : Rise f) (hg : Rise g) (nf : NoAll f) (ng : NoAll g) (h : ∀ z, knownF f z = knownF g z) : f = g :=
  rise_ext hf hg fun z => by rw [known_look nf, known_look ng, h]
theorem insF_len {p : Nm × Sh} {f : Fs} : (insF p f).length = f.length + 1 := by rw [insF_perm.length_eq, List.length_cons]
theorem dropF_len {z : Nm} {f : Fs} : (dropF f z).length ≤ f.length := List.length_filter_le _ _
theorem withF_len {f : Fs} {z : Nm} {s : Sh} : (withF f z s).length ≤ f.length + 1 := by
  have := dropF_len (z := z) (f := f)
  unfold withF
  split
  · omega
  · rw [insF_len]; omega
/-! ### comprehensions over typed lists -/
theorem comp_fm {α : Type} {chk : Sto → Prop} {turn : D → Sto → (Option D → Sto → Prop) → Prop} {K : List D → Sto → Prop} (enc : α → D) (h : α → Option D) (I : Sto → Prop) (hc : ∀ μ, I μ → chk μ) : ∀ {xs : List α} {acc : List D} {μ : Sto},
    (∀ x ∈ xs, ∀ μ (K' : Option D → Sto → Prop), I μ → (∀ μ', I μ' → K' (h x) μ') → turn (enc x) μ K') → acc.length + xs.length ≤ sizeMax → I μ → (∀ μ', I μ' → K (acc ++ xs.filterMap h) μ') → compP chk turn K (xs.map enc) acc μ
  | [], acc, μ, _, _, hi, hk => ⟨hc _ hi, by simpa using hk μ hi⟩
  | x :: xs, acc, μ, ht, hz, hi, hk => by
    rw [List.length_cons] at hz
    refine ⟨hc _ hi, ht x (List.mem_cons_self ..) μ _ hi fun μ' h' => ?_⟩
    have ht' := fun y hy => ht y (List.mem_cons_of_mem _ hy)
    cases e : h x with
    | none =>
      refine comp_fm enc h I hc ht' (by omega) h' fun μ2 h2 => ?_
      have := hk μ2 h2
      rw [List.filterMap_cons, e] at this
      exact this
    | some y =>
      refine ⟨by omega, comp_fm enc h I hc ht' (by rw [List.length_append, List.length_singleton]; omega) h' fun μ2 h2 => ?_⟩
      have := hk μ2 h2
      rw [List.filterMap_cons, e] at this
      rw [List.append_assoc]; exact this
theorem comp_mp {α : Type} {chk : Sto → Prop} {turn : D → Sto → (Option D → Sto → Prop) → Prop} {K : List D → Sto → Prop} (enc : α → D) (g : α → D) (I : Sto → Prop) (hc : ∀ μ, I μ → chk μ) {xs : List α} {μ : Sto}
    (ht : ∀ x ∈ xs, ∀ μ (K' : Option D → Sto → Prop), I μ → (∀ μ', I μ' → K' (some (g x)) μ') → turn (enc x) μ K') (hz : xs.length ≤ sizeMax) (hi : I μ) (hk : ∀ μ', I μ' → K (xs.map g) μ') : compP chk turn K (xs.map enc) [] μ :=
  comp_fm enc (fun x => some (g x)) I hc ht (by simpa using hz) hi fun μ' h' => by
    have e : xs.filterMap (fun x => some (g x)) = xs.map g := by rw [← List.filterMap_eq_map]; rfl
    rw [List.nil_append, e]; exact hk μ' h'
/-- all([..]) -/
theorem all_lst {Q : D → Sto → Prop} {bs : List Bool} (h : μ a = some (.lst (bs.map D.bl))) (q : Q (.bl (bs.all id)) μ) : primP .all [.ref a] μ Q := by
  refine rdL_of h (opt_of (x := bs.all id) ?_ q)
  clear q h
  induction bs with
  | nil => rfl
  | cons b r ih => show (allB (r.map D.bl)).map (b && ·) = _; rw [ih]; rfl
/-! ### the text's facts -/
structure FactG (G : Ctx) : Prop where
  all : G.cst 0 = some (.tup [.non, .non])
theorem encS_ALL : encS ALL = .tup [.non, .non] := rfl
theorem eqb_E {a b : En} : D.eqb (encE a) (encE b) = decide (a = b) := by
  cases a <;> cases b <;> first | rfl | (show (_ == _) = _; rw [Bool.eq_iff_iff]; simp)
theorem eqb_S {s t : Sh} : D.eqb (encS s) (encS t) = decide (s = t) := by
  obtain ⟨a, b⟩ := s
  obtain ⟨c, d⟩ := t
  show (D.eqb (encE a) (encE c) && (D.eqb (encE b) (encE d) && true)) = _
  rw [eqb_E, eqb_E, Bool.eq_iff_iff]; simp
theorem neS {s t : Sh} {k : Bool → Prop} (q : k (!decide (s = t))) : cmpP .ne (encS s) (encS t) μ k := .inl ⟨encS_ok, encS_ok, by rw [eqb_S]; exact q⟩
theorem eqS {s t : Sh} {k : Bool → Prop} (q : k (decide (s = t))) : cmpP .eq (encS s) (encS t) μ k := .inl ⟨encS_ok, encS_ok, by rw [eqb_S]; exact q⟩
abbrev KnownS (F : Fn) : Prop := ∀ {f : Fs} {z : Nm} {μ : Sto} {Q : D → Sto → Prop} {X : EX}, Q (encS (knownF f z)) μ → F [encF f, .str z] μ Q X
theorem known_ok {G : Ctx} (hG : Mono G) (hF : FactG G) : KnownS (runF G f_known) := by
  intro f z μ Q X q
  refine ⟨rfl, ?_⟩
  show wpS G f_known.body [some (encF f), some (.str z), none, none] μ _
  unfold f_known
  clean_wf
  show forP _ _ _ (f.map encP) _ μ
  unfold knownF at q
  have gen : ∀ (f : Fs) (o1 o2 : Option D) (c : D), Q (encS ((alook f z).getD ALL)) μ → forP (fun _ => True) (fun d ρ1 μ2 K => optP (matP (.cons (.v 2) (.cons (.v 3) .nil)) d ρ1) fun ρ2 => wpS G (.ite (.cmp .eq (.var 2) (.var 1)) (.ret (.var 3)) .nop) ρ2 μ2 ⟨K, Q, X⟩) (fun ρ1 μ1 => wpE G (.cst 0) ρ1 μ1 Q X) (f.map encP) [some c, some (.str z), o1, o2] μ := by
    intro f
    induction f with
    | nil => exact fun o1 o2 c q => ⟨trivial, opt_of hF.all q⟩
    | cons p r ih =>
      obtain ⟨k, s⟩ := p
      intro o1 o2 c q
      refine ⟨trivial, ?_⟩
      show wpS G _ [some c, some (.str z), some (.str k), some (encS s)] μ _
      refine ite_of hG (decide (k = z)) (vl (by clean_wf; trivial)) (fun e => ?_) fun e => ?_
      · have e := of_decide_eq_true e
        have q : Q (encS ((if k = z then some s else alook r z).getD ALL)) μ := q
        rw [if_pos e] at q
        clean_wf
        exact q
      · have e := of_decide_eq_false e
        have q : Q (encS ((if k = z then some s else alook r z).getD ALL)) μ := q
        rw [if_neg e] at q
        clean_wf
        exact ih _ _ _ q
  exact gen f none none _ q
abbrev WithS (F : Fn) : Prop := ∀ {f : Fs} {z : Nm} {s : Sh} {μ : Sto} {Q : D → Sto → Prop} {X : EX}, Rise f → f.length ≤ 1000000 → (∀ μ', Kn μ μ' → Q (encF (withF f z s)) μ') → F [encF f, .str z, encS s] μ Q X
theorem sortK_enc {Q : D → Sto → Prop} {f g : Fs} (h : μ a = some (.lst (f.map encP))) (nd : (akeys f).Nodup) (hg : Rise g) (pg : g.Perm f) (q : ∀ p, μ p = none → Q (.ref p) (upd μ p (.lst (g.map encP)))) :
    rdR (.ref a) μ fun _ l => l.all hasStrKey = true ∧ ∀ ys, ys.Perm l → ys.Pairwise keyLe → new μ (.lst ys) Q := by
  refine rdR_lst h ⟨?_, fun ys h1 h2 p hp => ?_⟩
  · rw [List.all_eq_true]
    intro x hx
    obtain ⟨p, _, rfl⟩ := List.mem_map.mp hx
    rfl
  · rw [sorted_enc h1 nd h2 hg pg]
    exact q p hp
theorem fm_map {α : Type} {f : α → D} {p : α → Bool} {l : List α} : (l.filterMap fun x => if p x = true then some (f x) else none) = (l.filter p).map f := by
  induction l with
  | nil => rfl
  | cons x r ih =>
    cases e : p x with
    | true => rw [List.filterMap_cons_some (b := f x) (by rw [e]; rfl), List.filter_cons_of_pos e, List.map_cons, ih]
    | false => rw [List.filterMap_cons_none (by rw [e]; rfl), List.filter_cons_of_neg (by rw [e]; decide), ih]
theorem with_ok {G : Ctx} (hG : Mono G) (hF : FactG G) : WithS (runF G f_with_known) := by
  intro f z s μ Q X hf hl q
  refine ⟨rfl, ?_⟩
  show wpS G f_with_known.body [some (encF f), some (.str z), some (encS s), none, none] μ _
  unfold f_with_known
  clean_wf
  refine comp_fm encP (fun p => if (!decide (p.1 = z)) = true then some (encP p) else none) (fun μ' => μ' = μ) (fun _ _ => trivial) (fun p hp μ2 K' e hK => ?_) (by simp [sizeMax]; omega) rfl fun μ2 e => ?_
  · subst e
    clean_wf
    show idxP (.tup [.str p.1, encS p.2]) (.int 0) _ _
    clean_wf
    refine ⟨fun e => ?_, fun e => ?_⟩
    · have := hK _ rfl; rw [if_pos e] at this; exact this
    · have := hK _ rfl; rw [if_neg (by rw [e]; decide)] at this; exact this
  subst e
  rw [List.nil_append, fm_map]
  show new μ2 (.lst ((dropF f z).map encP)) _
  intro p hp
  clean_wf
  have l1 := dropF_len (z := z) (f := f)
  have fin : ∀ (g g' : Fs) μ3, Kn μ2 μ3 → μ3 p = some (.lst (g.map encP)) → (akeys g).Nodup → Rise g' → g'.Perm g → withF f z s = g' → wpE G (.prim .tuple (.cons (.skey (.var 3)) .nil)) [some (encF f), some (.str z), some (encS s), some (.ref p), none] μ3 Q X := fun g g' μ3 kn e nd hg pg ew => by
    clean_wf
    refine sortK_enc e nd hg pg fun r hr => ?_
    refine tup_lst up_same ?_
    have := q (upd μ3 r (.lst (g'.map encP))) (Kept.nw hr kn)
    rw [ew] at this
    exact this
  refine if_then hG (b := !decide (s = ALL)) (vl ?_) (fun e => ?_) fun e => ?_
  · clean_wf
    exact opt_of hF.all (neS (t := ALL) ⟨rfl, trivial⟩)
  · have hs : ¬ s = ALL := by simpa using e
    clean_wf
    refine ⟨rdL_of up_same trivial, app_lst up_same (by rw [List.length_map]; simp [sizeMax]; omega) ?_⟩
    have hr : Rise (insF (z, s) (dropF f z)) := (hf.drop z).ins fun q hq => (mem_dropF.mp hq).2
    have pg : (insF (z, s) (dropF f z)).Perm (dropF f z ++ [(z, s)]) := insF_perm.trans (List.perm_append_singleton _ _).symm
    refine fin (dropF f z ++ [(z, s)]) _ _ (Kept.none_set hp (.set rfl)) (by rw [List.map_append]; exact up_same) ?_ hr pg (by unfold withF; rw [if_neg hs])
    exact (pg.map fun q : Nm × Sh => q.1).nodup_iff.mp hr.nodup
  · have hs : s = ALL := by simpa using e
    exact fin (dropF f z) _ _ (Kept.new hp) up_same (hf.drop z).nodup (hf.drop z) (.refl _) (by unfold withF; rw [if_pos hs])
/-! ### holds, covers -/
def liesB (n : Int) (s : Sh) : Bool := geLo n (encE s.1) && leHi n (encE s.2)
def holdsF (f : Fs) (w : List (Nm × Int)) : Bool := f.all fun p => liesB ((alook w p.1).getD 0) p.2
def withinB (s t : Sh) : Bool := wiB (encE s.1) (encE s.2) (encE t.1) (encE t.2)
def coversF (f g : Fs) : Bool := f.all fun p => withinB (knownF g p.1) p.2
abbrev LiesTS (F : Fn) : Prop := ∀ {n : Int} {s : Sh} {μ : Sto} {Q : D → Sto → Prop} {X : EX}, Q (.bl (liesB n s)) μ → F [.int n, encS s] μ Q X
theorem liesT {F : Fn} (h : LiesS F) : LiesTS F := fun q => h (encE_end _) (encE_end _) q
theorem withinT {F : Fn} (h : WithinS F) : ∀ {s t : Sh} {μ : Sto} {Q : D → Sto → Prop} {X : EX}, Q (.bl (withinB s t)) μ → F [encS s, encS t] μ Q X := fun q => h (encE_end _) (encE_end _) (encE_end _) (encE_end _) q
abbrev HoldsS (F : Fn) : Prop := ∀ {f : Fs} {w : List (Nm × Int)} {a : Nat} {μ : Sto} {Q : D → Sto → Prop} {X : EX}, μ a = some (.dF (encA D.int w)) → f.length ≤ 1000000 → (∀ μ', Kn μ μ' → Q (.bl (holdsF f w)) μ') → F [encF f, .ref a] μ Q X
theorem all_map {α : Type} {p : α → Bool} {l : List α} : (l.map p).all id = l.all p := by
  rw [List.all_map]; rfl
theorem map_bl {α : Type} {p : α → Bool} {l : List α} : (l.map fun x => D.bl (p x)) = (l.map p).map D.bl := by rw [List.map_map]; rfl
theorem get_AI {Q : D → Sto → Prop} {w : List (Nm × Int)} {z : Nm} (h : μ a = some (.dF (encA D.int w))) (q : Q (.int ((alook w z).getD 0)) μ) : primP .get [.ref a, .str z, .int 0] μ Q := by
  refine get_A h ?_
  cases e : alook w z with
  | none => rw [e] at q; exact q
  | some v => rw [e] at q; exact q
theorem holds_ok {G : Ctx} (hG : Mono G) (hL : LiesS (G.fn 191)) : HoldsS (runF G f_holds) := by
  intro f w a μ Q X ha hl q
  refine ⟨rfl, ?_⟩
  show wpS G f_holds.body [some (encF f), some (.ref a), none, none] μ _
  unfold f_holds
  clean_wf
  refine comp_mp encP (fun p => D.bl (liesB ((alook w p.1).getD 0) p.2)) (fun μ' => μ' = μ) (fun _ _ => trivial) (fun p hp μ2 K' e hK => ?_) (by simp [sizeMax]; omega) rfl fun μ2 e => ?_
  · subst e
    clean_wf
    refine ⟨?_, ?_⟩
    rotate_left
    · clean_wf
      exact get_AI ha (liesT hL (hK _ rfl))
    exact rcv_get ha
  · subst e
    intro p hp
    rw [map_bl]
    refine all_lst up_same ?_
    rw [all_map]
    exact q _ (Kept.new hp)
abbrev CoversS (F : Fn) : Prop := ∀ {f g : Fs} {μ : Sto} {Q : D → Sto → Prop} {X : EX}, f.length ≤ 1000000 → (∀ μ', Kn μ μ' → Q (.bl (coversF f g)) μ') → F [encF f, encF g] μ Q X
theorem covers_ok {G : Ctx} (hG : Mono G) (hK : KnownS (G.fn 186)) (hW : WithinS (G.fn 182)) : CoversS (runF G f_covers) := by
  intro f g μ Q X hl q
  refine ⟨rfl, ?_⟩
  show wpS G f_covers.body [some (encF f), some (encF g), none, none] μ _
  unfold f_covers
  clean_wf
  refine comp_mp encP (fun p => D.bl (withinB (knownF g p.1) p.2)) (fun μ' => μ' = μ) (fun _ _ => trivial) (fun p hp μ2 K' e hK' => ?_) (by simp [sizeMax]; omega) rfl fun μ2 e => ?_
  · subst e
    clean_wf
    exact hK (withinT hW (hK' _ rfl))
  · subst e
    intro p hp
    rw [map_bl]
    refine all_lst up_same ?_
    rw [all_map]
    exact q _ (Kept.new hp)
/-! ### behind -/
def movedE (e : En) (n : Int) : En := e.map (· + n)
abbrev MovedS (F : Fn) : Prop := ∀ {e : En} {n : Int} {μ : Sto} {Q : D → Sto → Prop} {X : EX}, Q (encE (movedE e n)) μ → F [encE e, .int n] μ Q X
theorem moved_ok (G : Ctx) : MovedS (runF G f_moved) := by
  intro e n μ Q X q
  refine ⟨rfl, ?_⟩
  cases e with
  | none => exact yes q
  | some i => exact nay q
def bh1 (f : Fs) : Deed → Fs
  | .put a n => withF f a (some n, some n)
  | .copy a b => withF f a (knownF f b)
  | .add a n => withF f a (movedE (knownF f a).1 n, movedE (knownF f a).2 n)
  | .read a => withF f a ALL
  | .tell _ => f
def bhF (f : Fs) (ds : List Deed) : Fs := ds.foldl bh1 f
/-- facts that are in order -/
structure OkF (f : Fs) : Prop where
  rise : Rise f
  noall : NoAll f
  ok : ∀ p ∈ f, okSh p.2 = true
theorem OkF.nil : OkF [] := ⟨.nil, fun _ h => (nomatch h), fun _ h => (nomatch h)⟩
theorem OkF.with {f : Fs} (h : OkF f) (z : Nm) {s : Sh} (hs : okSh s = true) : OkF (withF f z s) := by
  refine ⟨h.rise.with z s, h.noall.with z s, fun p hp => ?_⟩
  unfold withF at hp
  split at hp
  · exact h.ok p (mem_dropF.mp hp).1
  · rcases mem_insF.mp hp with rfl | hp
    · exact hs
    · exact h.ok p (mem_dropF.mp hp).1
theorem okSh_ALL : okSh ALL = true := rfl
theorem OkF.known {f : Fs} (h : OkF f) (z : Nm) : okSh (knownF f z) = true := by
  unfold knownF
  cases e : alook f z with
  | none => rfl
  | some s => exact h.ok _ (alook_mem e)
theorem okSh_moved {s : Sh} {n : Int} (h : okSh s = true) : okSh (movedE s.1 n, movedE s.2 n) = true := by
  obtain ⟨a, b⟩ := s
  cases a with
  | none => cases b <;> rfl
  | some i =>
    cases b with
    | none => rfl
    | some j =>
      have h : decide (i ≤ j) = true := h
      show decide (i + n ≤ j + n) = true
      simpa using h
theorem OkF.bh1 {f : Fs} (h : OkF f) (d : Deed) : OkF (bh1 f d) := by
  cases d with
  | put a n => exact h.with a (by show decide (n ≤ n) = true; simp)
  | copy a b => exact h.with a (h.known b)
  | add a n => exact h.with a (okSh_moved (h.known a))
  | read a => exact h.with a rfl
  | tell a => exact h
theorem OkF.bh {f : Fs} (h : OkF f) (ds : List Deed) : OkF (bhF f ds) := by
  induction ds generalizing f with
  | nil => exact h
  | cons d r ih => exact ih (h.bh1 d)
theorem bh1_len {f : Fs} {d : Deed} : (bh1 f d).length ≤ f.length + 1 := by
  cases d <;> first | exact withF_len | exact Nat.le_succ _
theorem bh_len {f : Fs} {ds : List Deed} : (bhF f ds).length ≤ f.length + ds.length := by
  induction ds generalizing f with
  | nil => exact Nat.le_refl _
  | cons d r ih =>
    have h1 := ih (f := bh1 f d)
    have h2 := bh1_len (f := f) (d := d)
    show (bhF (bh1 f d) r).length ≤ _
    rw [List.length_cons]; omega
abbrev Beh1S (F : Fn) : Prop := ∀ {f : Fs} {d : Deed} {μ : Sto} {Q : D → Sto → Prop} {X : EX}, Rise f → f.length ≤ 1000000 → (∀ μ', Kn μ μ' → Q (encF (bh1 f d)) μ') → F [encF f, encD d] μ Q X
theorem enc_pair {a b : En} : D.tup [encE a, encE b] = encS (a, b) := rfl
theorem beh1_ok {G : Ctx} (hG : Mono G) (hF : FactG G) (hK : KnownS (G.fn 186)) (hM : MovedS (G.fn 194)) (hW : WithS (G.fn 231)) : Beh1S (runF G f_behind_one) := by
  intro f d μ Q X hf hl q
  refine ⟨rfl, ?_⟩
  show wpS G f_behind_one.body [some (encF f), some (encD d), none, none, none] μ _
  unfold f_behind_one
  cases d with
  | put a n =>
    show wpE _ _ _ _ _ _
    exact yes (hW (s := (some n, some n)) hf hl q)
  | copy a b => exact nay (yes (hK (hW hf hl q)))
  | add a n =>
    refine nay (nay (yes (hK ?_)))
    exact hM (hM (hW (s := (movedE (knownF f a).1 n, movedE (knownF f a).2 n)) hf hl q))
  | read a => exact nay (nay (nay (yes (opt_of hF.all (hW (s := ALL) hf hl q)))))
  | tell a => exact nay (nay (nay (nay (q _ .refl))))
abbrev BehS15 (F : Fn) : Prop := ∀ {f : Fs} {ds : List Deed} {μ : Sto} {Q : D → Sto → Prop} {X : EX}, OkF f → f.length + ds.length ≤ 900000 → (∀ μ', Kn μ μ' → Q (encF (bhF f ds)) μ') → F [encF f, encDs ds] μ Q X
theorem bhds_ok {G : Ctx} (hG : Mono G) (hB : Beh1S (G.fn 163)) : BehS15 (runF G f_behind) := by
  intro f ds μ Q X hf hl q
  refine ⟨rfl, ?_⟩
  show wpS G f_behind.body [some (encF f), some (encDs ds), none] μ _
  unfold f_behind
  clean_wf
  refine for_ix (fun i ρ μ' => Kn μ μ' ∧ ∃ o, ρ = [some (encF (bhF f (ds.take i))), some (encDs ds), o]) (fun _ _ _ _ => trivial) ?_ ?_ ⟨.refl, _, rfl⟩
  · rintro i d hd ρ μ2 K' ⟨k2, o, rfl⟩ hK
    obtain ⟨x, hx, rfl⟩ := map_get? hd
    clean_wf
    have l1 := bh_len (f := f) (ds := ds.take i)
    have l2 : (ds.take i).length ≤ ds.length := by rw [List.length_take]; omega
    refine hB (f := bhF f (ds.take i)) (hf.bh _).rise (by omega) fun μ3 k3 => ?_
    refine hK _ _ ⟨k2.trans k3, some (encD x), ?_⟩
    rw [List.take_add_one, hx]
    show _ = [some (encF ((ds.take i ++ [x]).foldl bh1 f)), _, _]
    rw [List.foldl_append]; rfl
  · rintro ρ μ2 ⟨k2, o, rfl⟩
    rw [List.length_map, List.take_length]
    clean_wf
    exact q _ k2
/-! ### leads -/
theorem parts_one {s : Sh} {l : Bool} {n : Int} (h : okSh s = true) (h1 : part s l n false = none) : part s l n true ≠ none := by
  obtain ⟨a, b⟩ := s
  cases l with
  | true =>
    have h1 : betw (a, b) (some n) none = none := h1
    show betw (a, b) none (some (n - 1)) ≠ none
    unfold betw at h1 ⊢
    have h1 : ¬ okSh (gE a (some n), lE b none) = true := fun z => by rw [if_pos z] at h1; cases h1
    rw [if_pos ?_]
    · exact fun z => nomatch z
    · cases b with
      | none =>
        cases a with
        | none => exact absurd rfl h1
        | some i => exact absurd (by show okSh ((if i < n then some n else some i), none) = true; split <;> rfl) h1
      | some j =>
        cases a with
        | none =>
          have h1 : ¬ decide (n ≤ j) = true := h1
          show okSh (none, lE (some j) (some (n - 1))) = true
          rfl
        | some i =>
          have h : i ≤ j := of_decide_eq_true h
          have h1 : ¬ okSh ((if i < n then some n else some i), some j) = true := h1
          show okSh (some i, (if n - 1 < j then some (n - 1) else some j)) = true
          by_cases c : i < n
          · rw [if_pos c] at h1
            have h1 : ¬ n ≤ j := fun z => h1 (decide_eq_true z)
            by_cases c2 : n - 1 < j
            · omega
            · rw [if_neg c2]; exact decide_eq_true h
          · rw [if_neg c] at h1
            exact absurd (decide_eq_true h) h1
  | false =>
    have h1 : (if (a, b) = ((some n, some n) : Sh) then none else if a = some n then some (some (n + 1), b) else if b = some n then some (a, some (n - 1)) else some (a, b)) = (none : Option Sh) := h1
    split at h1
    · rename_i e
      cases e
      show betw (some n, some n) (some n) (some n) ≠ none
      unfold betw
      rw [if_pos ?_]
      · exact fun z => nomatch z
      · simp [gE, lE, okSh]
    · split at h1
      · cases h1
      · split at h1 <;> cases h1
theorem part_okSh {s t : Sh} {l side : Bool} {n : Int} (h : okSh s = true) (e : part s l n side = some t) : okSh t = true := by
  have bt : ∀ {lo hi : En}, betw s lo hi = some t → okSh t = true := fun {lo hi} e => by
    unfold betw at e
    split at e
    · cases e; assumption
    · cases e
  obtain ⟨a, b⟩ := s
  cases l with
  | true => cases side <;> exact bt e
  | false =>
    cases side with
    | true => exact bt e
    | false =>
      have e : (if (a, b) = ((some n, some n) : Sh) then none else if a = some n then some (some (n + 1), b) else if b = some n then some (a, some (n - 1)) else some (a, b)) = some t := e
      split at e
      · cases e
      rename_i h0
      split at e
      · rename_i h1
        cases e
        subst h1
        cases b with
        | none => rfl
        | some j =>
          have h : decide (n ≤ j) = true := h
          have : n ≠ j := fun z => h0 (by rw [z])
          show decide (n + 1 ≤ j) = true
          simp at h ⊢; omega
      · rename_i h1
        split at e
        · rename_i h2
          cases e
          subst h2
          cases a with
          | none => rfl
          | some i =>
            have h : decide (i ≤ n) = true := h
            have : i ≠ n := fun z => h1 (by rw [z])
            show decide (i ≤ n - 1) = true
            simp at h ⊢; omega
        · cases e; exact h
abbrev Lead := Option Bool × Nat × Fs
def sideL (o : Option Sh) (b : Bool) (k : Nat) (f : Fs) (a : Nm) : List Lead := match o with
  | some t => [(some b, k, withF f a t)]
  | none => []
def sidedF (f : Fs) : Ed → List Lead
  | .stop => []
  | .go p => [(none, p, f)]
  | .test l a n y z => sideL (part (knownF f a) l n true) true y f a ++ sideL (part (knownF f a) l n false) false z f a
def encOB : Option Bool → D
  | none => .non
  | some b => .bl b
def encLd (x : Lead) : D := .tup [encOB x.1, encN x.2.1, encF x.2.2]
def leadsF (f : Fs) (e : Ed) : List (Nat × Fs) := (sidedF f e).map fun x => (x.2.1, x.2.2)
def encC (c : Nat × Fs) : D := .tup [encN c.1, encF c.2]
theorem OkF.sided {f : Fs} (h : OkF f) {e : Ed} : ∀ x ∈ sidedF f e, OkF x.2.2 ∧ x.2.2.length ≤ f.length + 1 := by
  have sl : ∀ {o : Option Sh} {b : Bool} {k : Nat} {a : Nm}, (∀ t, o = some t → okSh t = true) → ∀ x ∈ sideL o b k f a, OkF x.2.2 ∧ x.2.2.length ≤ f.length + 1 := fun {o b k a} ho x hx => by
    cases o with
    | none => cases hx
    | some t =>
      rw [show x = (some b, k, withF f a t) from List.mem_singleton.mp hx]
      exact ⟨h.with a (ho t rfl), withF_len⟩
  intro x hx
  cases e with
  | stop => cases hx
  | go p => rw [show x = (none, p, f) from List.mem_singleton.mp hx]; exact ⟨h, Nat.le_succ _⟩
  | test l a n y z =>
    rcases List.mem_append.mp hx with hx | hx
    · exact sl (fun t => part_okSh (h.known a)) x hx
    · exact sl (fun t => part_okSh (h.known a)) x hx
abbrev SidedS (F : Fn) : Prop := ∀ {f : Fs} {e : Ed} {μ : Sto} {Q : D → Sto → Prop} {X : EX}, OkF f → f.length ≤ 900000 → (∀ p μ', μ p = none → Kn μ μ' → μ' p = some (.lst ((sidedF f e).map encLd)) → Q (.ref p) μ') → F [encF f, encEd e] μ Q X
theorem ansC_no {s : Sh} {l : Bool} {n : Int} (h : okSh s = true) : (!D.eqb (.str (ansC s l n)) (.str [110, 111])) = (part s l n true).isSome := by
  rw [eqb_str]
  unfold ansC
  by_cases e1 : part s l n false = none
  · rw [if_pos e1]
    cases e2 : part s l n true with
    | none => exact absurd e2 (parts_one h e1)
    | some t => rfl
  · rw [if_neg e1]
    cases e2 : part s l n true with
    | none => rw [if_pos rfl]; rfl
    | some t => rw [if_neg (by simp)]; rfl
theorem ansC_yes {s : Sh} {l : Bool} {n : Int} : (!D.eqb (.str (ansC s l n)) (.str [121, 101, 115])) = (part s l n false).isSome := by
  rw [eqb_str]
  unfold ansC
  cases e1 : part s l n false with
  | none => rw [if_pos rfl]; rfl
  | some t =>
    rw [if_neg (by simp)]
    by_cases e2 : part s l n true = none
    · rw [if_pos e2]; rfl
    · rw [if_neg e2]; rfl
theorem sided_ok {G : Ctx} (hG : Mono G) (hK : KnownS (G.fn 186)) (hA : AnsS (G.fn 160)) (hP : PartS (G.fn 202)) (hW : WithS (G.fn 231)) : SidedS (runF G f_sided) := by
  intro f e μ Q X hf hl q
  refine ⟨rfl, ?_⟩
  show wpS G f_sided.body [some (encF f), some (encEd e), none, none, none, none, none, none, none, none] μ _
  unfold f_sided
  cases e with
  | stop => exact yes fun p hp => q p _ hp (Kept.new hp) up_same
  | go p => exact nay (yes fun r hr => q r _ hr (Kept.new hr) up_same)
  | test l a n y z =>
    have w0 : D.eqb (.str (wTest l)) (.str [115, 116, 111, 112]) = false := by cases l <;> rfl
    have w1 : D.eqb (.str (wTest l)) (.str [103, 111]) = false := by cases l <;> rfl
    have wc : wTest l = wordC l := by cases l <;> rfl
    refine if_then hG (b := false) (vl ⟨congrArg D.bl w0, rfl⟩) (fun z => nomatch z) fun _ => ?_
    refine if_then hG (b := false) (vl ⟨congrArg D.bl w1, rfl⟩) (fun z => nomatch z) fun _ => ?_
    show wpS G _ [some (encF f), some (encEd (.test l a n y z)), some (.str (wTest l)), some (.str a), some (.int n), some (encN y), some (encN z), none, none, none] μ _
    clean_wf
    refine hK ?_
    clean_wf
    rw [wc]
    refine hA ?_
    clean_wf
    intro p hp
    clean_wf
    have ok := hf.known a
    have one : ∀ (b : Bool) (k : Nat) (bs : List Nat) (μ1 : Sto) (acc : List Lead) (s : St) (R : Post) (i : Nat), (b = true ∧ i = 5 ∧ bs = [110, 111] ∧ k = y ∨ b = false ∧ i = 6 ∧ bs = [121, 101, 115] ∧ k = z) → acc.length < 10 → Kn μ μ1 → μ1 p = some (.lst (acc.map encLd)) →
        (∀ μ2, Kn μ μ2 → μ2 p = some (.lst ((acc ++ sideL (part (knownF f a) l n b) b k f a).map encLd)) → wpS G s [some (encF f), some (encEd (.test l a n y z)), some (.str (wordC l)), some (.str a), some (.int n), some (encN y), some (encN z), some (encS (knownF f a)), some (.str (ansC (knownF f a) l n)), some (.ref p)] μ2 R) →
        wpS G (.seq (.ite (.cmp .ne (.var 8) (.cs bs)) (.expr (.bm .append (.var 9) (.cons (.tup (.cons (.cb b) (.cons (.var i) (.cons (.call 231 (.cons (.var 0) (.cons (.var 3) (.cons (.call 202 (.cons (.var 7) (.cons (.var 2) (.cons (.var 4) (.cons (.cb b) .nil))))) .nil)))) .nil)))) .nil))) .nop) s)
          [some (encF f), some (encEd (.test l a n y z)), some (.str (wordC l)), some (.str a), some (.int n), some (encN y), some (encN z), some (encS (knownF f a)), some (.str (ansC (knownF f a) l n)), some (.ref p)] μ1 R := by
      intro b k bs μ1 acc s R i hb hz k1 e1 hs
      refine if_then hG (b := (part (knownF f a) l n b).isSome) (vl ?_) (fun h => ?_) fun h => ?_
      · rcases hb with ⟨rfl, rfl, rfl, rfl⟩ | ⟨rfl, rfl, rfl, rfl⟩
        · exact ⟨congrArg D.bl (ansC_no ok), rfl⟩
        · exact ⟨congrArg D.bl ansC_yes, rfl⟩
      · obtain ⟨t, ht⟩ := Option.isSome_iff_exists.mp h
        have fin : recvP .append (.ref p) μ1 ∧ G.fn 202 [encS (knownF f a), .str (wordC l), .int n, .bl b] μ1 (fun d μ2 => G.fn 231 [encF f, .str a, d] μ2 (fun d μ3 => primP .append [.ref p, .tup [.bl b, encN k, d]] μ3 fun _ μ4 => wpS G s [some (encF f), some (encEd (.test l a n y z)), some (.str (wordC l)), some (.str a), some (.int n), some (encN y), some (encN z), some (encS (knownF f a)), some (.str (ansC (knownF f a) l n)), some (.ref p)] μ4 R) R.ex) R.ex := by
          refine ⟨rdL_of e1 trivial, hP ?_⟩
          rw [ht]
          refine hW hf.rise (by omega) fun μ2 k2 => ?_
          have e2 := k2 _ _ id e1
          refine app_lst e2 (by rw [List.length_map]; simp [sizeMax]; omega) ?_
          refine hs _ ((k1.trans k2).loc hp) ?_
          rw [up_same, ht, List.map_append]; rfl
        rcases hb with ⟨rfl, rfl, rfl, rfl⟩ | ⟨rfl, rfl, rfl, rfl⟩ <;> exact fin
      · have ht : part (knownF f a) l n b = none := by
          cases q : part (knownF f a) l n b with
          | none => rfl
          | some t => rw [q] at h; cases h
        refine hs _ k1 ?_
        rw [ht, show sideL none b k f a = [] from rfl, List.append_nil]; exact e1
    refine one true y [110, 111] (upd μ p (.lst [])) [] _ _ 5 (.inl ⟨rfl, rfl, rfl, rfl⟩) (by decide) (Kept.new hp) up_same fun μ2 k2 e2 => ?_
    refine one false z [121, 101, 115] μ2 _ _ _ 6 (.inr ⟨rfl, rfl, rfl, rfl⟩) ?_ k2 e2 fun μ3 k3 e3 => ?_
    · rw [List.nil_append]
      cases part (knownF f a) l n true <;> simp [sideL]
    · clean_wf
      exact q p _ hp k3 e3
abbrev LeadsS (F : Fn) : Prop := ∀ {f : Fs} {e : Ed} {μ : Sto} {Q : D → Sto → Prop} {X : EX}, OkF f → f.length ≤ 900000 → (∀ μ', Kn μ μ' → Q (.tup ((leadsF f e).map encC)) μ') → F [encF f, encEd e] μ Q X
theorem sided_len {f : Fs} {e : Ed} : (sidedF f e).length ≤ 2 := by
  cases e with
  | stop => simp [sidedF]
  | go p => simp [sidedF]
  | test l a n y z =>
    show (sideL _ _ _ _ _ ++ sideL _ _ _ _ _).length ≤ 2
    rw [List.length_append]
    cases part (knownF f a) l n true <;> cases part (knownF f a) l n false <;> simp [sideL]
theorem leads_ok {G : Ctx} (hG : Mono G) (hS : SidedS (G.fn 221)) : LeadsS (runF G f_leads) := by
  intro f e μ Q X hf hl q
  refine ⟨rfl, ?_⟩
  show wpS G f_leads.body [some (encF f), some (encEd e), none, none, none] μ _
  unfold f_leads
  clean_wf
  refine hS hf hl fun p μ1 hp k1 e1 => ?_
  clean_wf
  refine rdL_of e1 ?_
  have hsl := sided_len (f := f) (e := e)
  refine comp_mp encLd (fun x => encC (x.2.1, x.2.2)) (fun μ' => μ' = μ1) (fun _ h => by rw [h]; exact e1) (fun x hx μ2 K' e hK => ?_) (by unfold sizeMax; omega) rfl fun μ2 e2 => ?_
  · subst e
    show optP (matP _ (.tup [encOB x.1, encN x.2.1, encF x.2.2]) _) _
    clean_wf
    exact hK _ rfl
  · subst e2
    intro r hr
    refine tup_lst up_same ?_
    have e : (sidedF f e).map (fun x => encC (x.2.1, x.2.2)) = (leadsF f e).map encC := by unfold leadsF; rw [List.map_map]; rfl
    rw [e]
    exact q _ (Kept.nw hr k1)
/-! ### start -/
def startF (pl : Plan) : Fs := (namesOf pl).map fun z => (z, (some 0, some 0))
abbrev StartS (F : Fn) : Prop := ∀ {pl : Plan} {μ : Sto} {Q : D → Sto → Prop} {X : EX}, Few pl → (∀ μ', Kn μ μ' → Q (encF (startF pl)) μ') → F [encPl pl] μ Q X
theorem isort_len {l : List Nm} : (sortNm l).length = l.length := isort_perm.length_eq
theorem start_ok {G : Ctx} (hG : Mono G) (hN : NamesOfS (G.fn 195)) : StartS (runF G f_start) := by
  intro pl μ Q X hf q
  refine ⟨rfl, ?_⟩
  show wpS G f_start.body [some (encPl pl), none] μ _
  unfold f_start
  clean_wf
  refine hN hf fun μ1 k1 => ?_
  clean_wf
  have h64 := hf.names
  refine comp_mp D.str (fun z => encP (z, (some 0, some 0))) (fun μ' => μ' = μ1) (fun _ _ => trivial) (fun x hx μ2 K' e hK => ?_) (by unfold namesOf sizeMax; rw [isort_len]; omega) rfl fun μ2 e2 => ?_
  · subst e
    clean_wf
    exact hK _ rfl
  · subst e2
    intro r hr
    refine tup_lst up_same ?_
    have e : (namesOf pl).map (fun z => encP (z, (some 0, some 0))) = (startF pl).map encP := by unfold startF; rw [List.map_map]; rfl
    rw [e]
    exact q _ (Kept.nw hr k1)
theorem sortNm_rise {l : List Nm} (nd : l.Nodup) : (sortNm l).Pairwise fun a b => strLt a b = true := by
  have key : ∀ (l : List Nm), l.Nodup → (isort leNm l).Pairwise fun a b => strLt a b = true := by
    have hins : ∀ (x : Nm) (l : List Nm), x ∉ l → l.Pairwise (fun a b => strLt a b = true) → (ins leNm x l).Pairwise fun a b => strLt a b = true := by
      intro x l
      induction l with
      | nil => exact fun _ _ => List.pairwise_singleton _ _
      | cons y r ih =>
        intro hn h
        have h' := List.pairwise_cons.mp h
        have nxy : ¬ x = y := fun e => hn (by rw [e]; exact List.mem_cons_self ..)
        unfold ins
        split
        · rename_i e
          have e : strLt y x = false := by unfold leNm at e; simpa using e
          have e2 : strLt x y = true := by
            cases q : strLt x y with
            | true => rfl
            | false => exact absurd (lt_tot q e) nxy
          refine List.pairwise_cons.mpr ⟨fun w hw => ?_, h⟩
          rcases List.mem_cons.mp hw with rfl | hw
          · exact e2
          · exact lt_tr e2 (h'.1 w hw)
        · rename_i e
          have e : strLt y x = true := by unfold leNm at e; simpa using e
          refine List.pairwise_cons.mpr ⟨fun w hw => ?_, ih (fun z => hn (List.mem_cons_of_mem _ z)) h'.2⟩
          rcases List.mem_cons.mp (ins_perm.mem_iff.mp hw) with rfl | hw
          · exact e
          · exact h'.1 w hw
    intro l
    induction l with
    | nil => exact fun _ => .nil
    | cons x r ih =>
      intro nd
      have nd' := List.nodup_cons.mp nd
      exact hins x _ (fun z => nd'.1 (isort_perm.mem_iff.mp z)) (ih nd'.2)
  exact key l nd
theorem namesOf_nodup (pl : Plan) : (namesOf pl).Nodup := isort_perm.nodup_iff.mpr (nodup_addKs .nil)
theorem startF_ok (pl : Plan) : OkF (startF pl) := by
  refine ⟨?_, fun p hp => ?_, fun p hp => ?_⟩
  · unfold Rise startF
    rw [List.pairwise_map]
    exact sortNm_rise (nodup_addKs .nil)
  · obtain ⟨z, _, rfl⟩ := List.mem_map.mp hp
    exact fun e => nomatch e
  · obtain ⟨z, _, rfl⟩ := List.mem_map.mp hp
    rfl
end MP

set_option linter.all false
set_option maxRecDepth 100000
set_option maxHeartbeats 1000000
set_option Elab.async false
/-! C04: law k04 -/
namespace MP
local macro_rules
  | `(tactic| clean_wf) => `(tactic| simp only [ws_set, ws_set1, ws_ret, ws_nop, ws_exp, ws_exp1, ws_sidx, ws_sidx1, ws_satt, ws_satt1, ws_aat, ws_aat1, ws_avar, ws_avar1, augK_int, ws_for, ws_forS, wpE, wpA, opt_some, gv_0, gv_s, matP, List.set, b_add, b_addS, b_addT, b_sub, b_mul, b_div, b_mod, b_pow, c_len, c_lenT, c_int, c_intB, c_abs, c_min, c_max, c_tupT, c_eqI, c_neI, c_eqS, c_neS, c_lt, c_le, c_gt, c_ge, c_is, c_isnot, c_isB, c_isnotB, c_idxT, g_0, g_1, g_2, g_3, g_4, g_5, g_6, o_non, o_int, Bool.not_true, Bool.not_false, br_t, br_f, c_itA, c_itT, c_itS, wipe])
local macro_rules
  | `(tactic| sizeOf_list_dec) => `(tactic| first
    | assumption
    | exact Ne.symm (by assumption)
    | exact ne_new (by assumption) (by assumption)
    | exact Ne.symm (ne_new (by assumption) (by assumption))
    | exact BagAt.ne (by assumption) (by assumption)
    | exact Ne.symm (BagAt.ne (by assumption) (by assumption))
    | exact id)
local macro_rules
  | `(tactic| array_mem_dec) => `(tactic| first
    | assumption
    | exact up_same
    | (refine (up_ne (by sizeOf_list_dec)).trans ?_; array_mem_dec)
    | (refine (by assumption : Kept _ _ _) _ _ (by sizeOf_list_dec) ?_; array_mem_dec)
    | (refine BagAt.new ?_ (by assumption); array_mem_dec)
    | (refine BagAt.off ?_ (by sizeOf_list_dec); array_mem_dec)
    | (refine BagAt.keep ?_ (by assumption) (by sizeOf_list_dec); array_mem_dec)
    | exact Kept.refl
    | exact Kept.new (by assumption)
    | (refine Kept.trans ?_ (by assumption); array_mem_dec)
    | (refine Kept.loc (by assumption) ?_; array_mem_dec)
    | (refine Kept.nw (by assumption) ?_; array_mem_dec))
variable {μ μ' μ1 μ2 : Sto} {a b p q : Nat} {l : List D} {i : Int} {x y d : D} {o : Ob} {ρ : Env}
def f_is_name : FD := ⟨1, 2, (.seq (.ite (.or (.not (.isi (.var 0) .str)) (.or (.cmp .lt (.prim .len (.cons (.var 0) .nil)) (.ci 1)) (.cmp .gt (.prim .len (.cons (.var 0) .nil)) (.ci 8)))) (.ret (.cb false)) .nop) (.seq (.for (.v 1) .any (.cons (.var 0) .nil) (.ite (.cmp .notin (.var 1) (.cst 10)) (.ret (.cb false)) .nop)) (.ret (.cb true))))⟩
def f_is_deed : FD := ⟨1, 1, (.seq (.ite (.or (.not (.isi (.var 0) .tuple)) (.or (.cmp .lt (.prim .len (.cons (.var 0) .nil)) (.ci 2)) (.not (.call 175 (.cons (.idx (.var 0) (.ci 1)) .nil))))) (.ret (.cb false)) .nop) (.seq (.ite (.or (.cmp .eq (.idx (.var 0) (.ci 0)) (.cs [112, 117, 116])) (.cmp .eq (.idx (.var 0) (.ci 0)) (.cs [97, 100, 100]))) (.ret (.and (.cmp .eq (.prim .len (.cons (.var 0) .nil)) (.ci 3)) (.call 181 (.cons (.idx (.var 0) (.ci 2)) .nil)))) .nop) (.seq (.ite (.cmp .eq (.idx (.var 0) (.ci 0)) (.cs [99, 111, 112, 121])) (.ret (.and (.cmp .eq (.prim .len (.cons (.var 0) .nil)) (.ci 3)) (.call 175 (.cons (.idx (.var 0) (.ci 2)) .nil)))) .nop) (.ret (.and (.or (.cmp .eq (.idx (.var 0) (.ci 0)) (.cs [114, 101, 97, 100])) (.cmp .eq (.idx (.var 0) (.ci 0)) (.cs [116, 101, 108, 108]))) (.cmp .eq (.prim .len (.cons (.var 0) .nil)) (.ci 2)))))))⟩
def f_is_number_of : FD := ⟨2, 2, (.ret (.and (.call 181 (.cons (.var 0) .nil)) (.cmp2 .le .lt (.ci 0) (.var 0) (.var 1))))⟩
def f_is_end : FD := ⟨2, 2, (.seq (.ite (.or (.not (.isi (.var 0) .tuple)) (.cmp .eq (.prim .len (.cons (.var 0) .nil)) (.ci 0))) (.ret (.cb false)) .nop) (.seq (.ite (.cmp .eq (.idx (.var 0) (.ci 0)) (.cs [115, 116, 111, 112])) (.ret (.cmp .eq (.prim .len (.cons (.var 0) .nil)) (.ci 1))) .nop) (.seq (.ite (.cmp .eq (.idx (.var 0) (.ci 0)) (.cs [103, 111])) (.ret (.and (.cmp .eq (.prim .len (.cons (.var 0) .nil)) (.ci 2)) (.call 176 (.cons (.idx (.var 0) (.ci 1)) (.cons (.var 1) .nil))))) .nop) (.seq (.ite (.or (.and (.cmp .ne (.idx (.var 0) (.ci 0)) (.cs [108, 101, 115, 115])) (.cmp .ne (.idx (.var 0) (.ci 0)) (.cs [105, 115]))) (.cmp .ne (.prim .len (.cons (.var 0) .nil)) (.ci 5))) (.ret (.cb false)) .nop) (.seq (.ite (.or (.not (.call 175 (.cons (.idx (.var 0) (.ci 1)) .nil))) (.not (.call 181 (.cons (.idx (.var 0) (.ci 2)) .nil)))) (.ret (.cb false)) .nop) (.ret (.and (.call 176 (.cons (.idx (.var 0) (.ci 3)) (.cons (.var 1) .nil))) (.call 176 (.cons (.idx (.var 0) (.ci 4)) (.cons (.var 1) .nil))))))))))⟩
def f_is_piece : FD := ⟨2, 3, (.seq (.ite (.or (.not (.isi (.var 0) .tuple)) (.or (.cmp .ne (.prim .len (.cons (.var 0) .nil)) (.ci 2)) (.not (.isi (.idx (.var 0) (.ci 0)) .tuple)))) (.ret (.cb false)) .nop) (.seq (.ite (.or (.cmp .gt (.prim .len (.cons (.idx (.var 0) (.ci 0)) .nil)) (.cst 4)) (.not (.call 173 (.cons (.idx (.var 0) (.ci 1)) (.cons (.var 1) .nil))))) (.ret (.cb false)) .nop) (.ret (.prim .all (.cons (.comp (.call 172 (.cons (.var 2) .nil)) (.v 2) .any (.cons (.idx (.var 0) (.ci 0)) .nil) (.cb true) [2]) .nil)))))⟩
def f_is_plan : FD := ⟨1, 2, (.seq (.ite (.or (.not (.isi (.var 0) .tuple)) (.or (.cmp .lt (.prim .len (.cons (.var 0) .nil)) (.ci 1)) (.cmp .gt (.prim .len (.cons (.var 0) .nil)) (.cst 8)))) (.ret (.cb false)) .nop) (.ret (.prim .all (.cons (.comp (.call 177 (.cons (.var 1) (.cons (.prim .len (.cons (.var 0) .nil)) .nil))) (.v 1) .any (.cons (.var 0) .nil) (.cb true) [1]) .nil))))⟩
def fl_is_name_k04 : FD := ⟨1, 2, (.seq (.ite (.or (.not (.isi (.var 0) .str)) (.or (.cmp .lt (.prim .len (.cons (.var 0) .nil)) (.ci 1)) (.cmp .gt (.prim .len (.cons (.var 0) .nil)) (.ci 8)))) (.ret (.cb false)) .nop) (.ret (.cmp .eq (.comp (.var 1) (.v 1) .any (.cons (.var 0) .nil) (.cmp .notin (.var 1) (.cs [97, 98, 99, 100, 101, 102, 103, 104, 105, 106, 107, 108, 109, 110, 111, 112, 113, 114, 115, 116, 117, 118, 119, 120, 121, 122])) [1]) (.lst .nil))))⟩
def f_whole : FD := ⟨1, 1, (.ret (.and (.isi (.var 0) .int) (.not (.isi (.var 0) .bool))))⟩
def fl_is_deed : FD := ⟨1, 1, (.seq (.ite (.or (.not (.isi (.var 0) .tuple)) (.or (.cmp .lt (.prim .len (.cons (.var 0) .nil)) (.ci 2)) (.or (.not (.isi (.idx (.var 0) (.ci 0)) .str)) (.not (.call 74 (.cons (.idx (.var 0) (.ci 1)) .nil)))))) (.ret (.cb false)) .nop) (.seq (.ite (.cmp .isin (.idx (.var 0) (.ci 0)) (.lst (.cons (.cs [114, 101, 97, 100]) (.cons (.cs [116, 101, 108, 108]) .nil)))) (.ret (.cmp .eq (.prim .len (.cons (.var 0) .nil)) (.ci 2))) .nop) (.seq (.ite (.cmp .ne (.prim .len (.cons (.var 0) .nil)) (.ci 3)) (.ret (.cb false)) .nop) (.seq (.ite (.cmp .eq (.idx (.var 0) (.ci 0)) (.cs [99, 111, 112, 121])) (.ret (.call 74 (.cons (.idx (.var 0) (.ci 2)) .nil))) .nop) (.ret (.and (.cmp .isin (.idx (.var 0) (.ci 0)) (.lst (.cons (.cs [112, 117, 116]) (.cons (.cs [97, 100, 100]) .nil)))) (.call 151 (.cons (.idx (.var 0) (.ci 2)) .nil))))))))⟩
def fl_is_end : FD := ⟨2, 4, (.seq (.ite (.or (.not (.isi (.var 0) .tuple)) (.or (.cmp .eq (.var 0) (.tup .nil)) (.not (.isi (.idx (.var 0) (.ci 0)) .str)))) (.ret (.cb false)) .nop) (.seq (.set (.v 2) (.dict (.cons (.cs [115, 116, 111, 112]) (.cons (.ci 1) (.cons (.cs [103, 111]) (.cons (.ci 2) (.cons (.cs [108, 101, 115, 115]) (.cons (.ci 5) (.cons (.cs [105, 115]) (.cons (.ci 5) .nil)))))))))) (.seq (.ite (.cmp .ne (.bm .get (.var 2) (.cons (.idx (.var 0) (.ci 0)) (.cons (.ci 0) .nil))) (.prim .len (.cons (.var 0) .nil))) (.ret (.cb false)) .nop) (.seq (.ite (.and (.cmp .eq (.prim .len (.cons (.var 0) .nil)) (.ci 5)) (.or (.not (.call 74 (.cons (.idx (.var 0) (.ci 1)) .nil))) (.not (.call 151 (.cons (.idx (.var 0) (.ci 2)) .nil))))) (.ret (.cb false)) .nop) (.seq (.for (.v 3) .any (.cons (.idx (.lst (.cons (.slc (.var 0) (.part (.ci 1)) .cn) (.cons (.slc (.var 0) (.part (.ci 3)) .cn) .nil))) (.prim .int (.cons (.cmp .eq (.prim .len (.cons (.var 0) .nil)) (.ci 5)) .nil))) .nil) (.ite (.or (.not (.call 151 (.cons (.var 3) .nil))) (.or (.cmp .lt (.var 3) (.ci 0)) (.cmp .ge (.var 3) (.var 1)))) (.ret (.cb false)) .nop)) (.ret (.cb true)))))))⟩
def fl_is_plan : FD := ⟨1, 3, (.seq (.ite (.or (.not (.isi (.var 0) .tuple)) (.or (.cmp .lt (.prim .len (.cons (.var 0) .nil)) (.ci 1)) (.cmp .gt (.prim .len (.cons (.var 0) .nil)) (.ci 400)))) (.ret (.cb false)) .nop) (.seq (.for (.v 1) .any (.cons (.var 0) .nil) (.seq (.ite (.or (.not (.isi (.var 1) .tuple)) (.or (.cmp .ne (.prim .len (.cons (.var 1) .nil)) (.ci 2)) (.not (.isi (.idx (.var 1) (.ci 0)) .tuple)))) (.ret (.cb false)) .nop) (.seq (.ite (.or (.cmp .gt (.prim .len (.cons (.idx (.var 1) (.ci 0)) .nil)) (.ci 12)) (.cmp .isin (.cb false) (.comp (.call 72 (.cons (.var 2) .nil)) (.v 2) .any (.cons (.idx (.var 1) (.ci 0)) .nil) (.cb true) [2]))) (.ret (.cb false)) .nop) (.ite (.not (.call 73 (.cons (.idx (.var 1) (.ci 1)) (.cons (.prim .len (.cons (.var 0) .nil)) .nil)))) (.ret (.cb false)) .nop)))) (.ret (.cb true))))⟩
def f_leaf : FD := ⟨2, 3, (.seq (.set (.v 2) (.lst (.cons (.cs [112, 117, 116]) (.cons (.cs [99, 111, 112, 121]) (.cons (.cs [97, 100, 100]) (.cons (.cs [114, 101, 97, 100]) (.cons (.cs [116, 101, 108, 108]) (.cons (.cs [115, 116, 111, 112]) (.cons (.cs [103, 111]) (.cons (.cs [108, 101, 115, 115]) (.cons (.cs [105, 115]) (.cons (.cs []) (.cons (.cs [110, 105, 110, 101, 115, 105, 103, 110, 115]) (.cons (.cs [97]) (.cons (.cs [65]) (.cons (.cs [97, 32, 98]) (.cons (.cs [115, 116, 111, 112, 115]) .nil))))))))))))))))) (.seq (.set (.v 2) (.bin .add (.var 2) (.lst (.cons (.ci 0) (.cons (.var 1) (.cons (.neg (.ci 1)) (.cons (.bin .sub (.var 1) (.ci 1)) (.cons (.cb true) (.cons (.cb false) (.cons .cn (.cons (.tup .nil) (.cons (.lst .nil) (.cons (.tup (.cons (.cs [115, 116, 111, 112]) .nil)) (.cons (.tup (.cons (.cs [103, 111]) (.cons (.ci 0) .nil))) (.cons (.tup (.cons (.cs [114, 101, 97, 100]) (.cons (.cs [97]) .nil))) .nil))))))))))))))) (.seq (.expr (.bm .append (.var 2) (.cons (.bin .mul (.bin .mul (.bin .pow (.ci 10) (.ci 60)) (.bin .pow (.ci 10) (.ci 60))) (.bin .pow (.ci 10) (.ci 60))) .nil))) (.ret (.idx (.var 2) (.call 136 (.cons (.var 0) (.cons (.ci 28) .nil))))))))⟩
def f_spoilt : FD := ⟨3, 5, (.seq (.ite (.or (.not (.isi (.var 1) .tuple)) (.or (.cmp .eq (.var 1) (.tup .nil)) (.cmp .eq (.call 136 (.cons (.var 0) (.cons (.ci 6) .nil))) (.ci 0)))) (.seq (.ite (.and (.isi (.var 1) .tuple) (.cmp .eq (.call 136 (.cons (.var 0) (.cons (.ci 3) .nil))) (.ci 0))) (.ret (.prim .list (.cons (.var 1) .nil))) .nop) (.ret (.call 82 (.cons (.var 0) (.cons (.var 2) .nil))))) .nop) (.seq (.set (.v 3) (.call 136 (.cons (.var 0) (.cons (.prim .len (.cons (.var 1) .nil)) .nil)))) (.seq (.set (.v 4) (.call 136 (.cons (.var 0) (.cons (.ci 8) .nil)))) (.seq (.ite (.cmp .eq (.var 4) (.ci 0)) (.ret (.bin .add (.slc (.var 1) .cn (.part (.var 3))) (.slc (.var 1) (.part (.bin .add (.var 3) (.ci 1))) .cn))) .nop) (.seq (.ite (.cmp .eq (.var 4) (.ci 1)) (.ret (.bin .add (.bin .add (.slc (.var 1) .cn (.part (.var 3))) (.slc (.var 1) (.part (.var 3)) (.part (.bin .add (.var 3) (.ci 1))))) (.slc (.var 1) (.part (.var 3)) .cn))) .nop) (.seq (.ite (.cmp .eq (.var 4) (.ci 2)) (.ret (.bin .add (.bin .add (.slc (.var 1) .cn (.part (.var 3))) (.tup (.cons (.call 82 (.cons (.var 0) (.cons (.var 2) .nil))) .nil))) (.slc (.var 1) (.part (.var 3)) .cn))) .nop) (.ret (.bin .add (.bin .add (.slc (.var 1) .cn (.part (.var 3))) (.tup (.cons (.call 127 (.cons (.var 0) (.cons (.idx (.var 1) (.var 3)) (.cons (.var 2) .nil)))) .nil))) (.slc (.var 1) (.part (.bin .add (.var 3) (.ci 1))) .cn)))))))))⟩
def f_law_k04 : FD := ⟨1, 7, (.seq (.set (.v 1) (.call 42 (.cons (.var 0) (.cons (.ci 0) .nil)))) (.seq (.set (.v 2) (.idx (.lst (.cons (.call 52 (.cons (.var 1) (.cons (.ci 40) .nil))) (.cons (.ci 400) .nil))) (.prim .int (.cons (.cmp .eq (.call 136 (.cons (.var 1) (.cons (.ci 8) .nil))) (.ci 0)) .nil)))) (.seq (.set (.v 3) (.call 114 (.cons (.var 1) (.cons (.var 2) (.cons (.idx (.lst (.cons (.ci 12) (.cons (.ci 2) .nil))) (.prim .int (.cons (.cmp .gt (.var 2) (.ci 40)) .nil))) .nil))))) (.seq (.ite (.or (.cmp .isnot (.call 178 (.cons (.var 3) .nil)) (.cb true)) (.cmp .isnot (.call 178 (.cons (.tup .nil) .nil)) (.cb false))) (.ret (.cb false)) .nop) (.seq (.ite (.cmp .isnot (.call 178 (.cons (.bin .mul (.slc (.var 3) .cn (.part (.ci 1))) (.ci 401)) .nil)) (.cb false)) (.ret (.cb false)) .nop) (.seq (.for (.v 4) .range (.cons (.bin .add (.ci 1) (.prim .min2 (.cons (.prim .len (.cons (.var 0) .nil)) (.cons (.ci 20) .nil)))) .nil) (.seq (.set (.v 1) (.call 42 (.cons (.var 0) (.cons (.var 4) .nil)))) (.seq (.set (.v 5) (.call 127 (.cons (.var 1) (.cons (.var 3) (.cons (.var 2) .nil))))) (.seq (.set (.v 6) (.call 178 (.cons (.var 5) .nil))) (.ite (.or (.not (.isi (.var 6) .bool)) (.cmp .ne (.var 6) (.call 76 (.cons (.var 5) .nil)))) (.ret (.cb false)) .nop))))) (.ret (.cb true))))))))⟩
mutual
def toW4 : D → W
  | .bl b => .bl b
  | .int i => .int i
  | .str x => .str x
  | .tup xs => .tup (toWs4 xs)
  | _ => .non
def toWs4 : List D → List W
  | [] => []
  | x :: r => toW4 x :: toWs4 r
end
mutual
theorem toW_is4 : ∀ {n : Nat} {d : D}, D.ok n d = true → isW μ (toW4 d) d ∧ W.ok n (toW4 d) = true ∧ True
  | 0, d, h => by cases d <;> cases h
  | n + 1, .non, h => ⟨rfl, rfl, trivial⟩
  | n + 1, .bl b, h => ⟨rfl, rfl, trivial⟩
  | n + 1, .int i, h => ⟨rfl, rfl, trivial⟩
  | n + 1, .str x, h => ⟨rfl, h, trivial⟩
  | n + 1, .tup xs, h => by
    obtain ⟨h1, h2, h3⟩ := toWs_is4 (n := n) (l := xs) h
    exact ⟨⟨xs, rfl, h1⟩, h2, trivial⟩
  | n + 1, .ref a, h => by cases h
  | n + 1, .scr l, h => by cases h
theorem toWs_is4 : ∀ {n : Nat} {l : List D}, l.all (D.ok n) = true → isWs μ (toWs4 l) l ∧ (toWs4 l).all (W.ok n) = true ∧ True
  | n, [], _ => ⟨rfl, rfl, trivial⟩
  | n, x :: r, h => by
    rw [List.all_cons, Bool.and_eq_true] at h
    obtain ⟨a1, a2, a3⟩ := toW_is4 h.1
    obtain ⟨b1, b2, b3⟩ := toWs_is4 h.2
    refine ⟨⟨x, r, rfl, a1, b1⟩, ?_, trivial⟩
    show (W.ok n (toW4 x) && (toWs4 r).all (W.ok n)) = true
    rw [a2, b2]; rfl
end
/-! ### things: data with lists within -/
def Th (μ : Sto) : Nat → D → Prop
  | 0, _ => False
  | n + 1, .tup xs => ∀ x ∈ xs, Th μ n x
  | _ + 1, .ref a => ∃ l, μ a = some (.lst l) ∧ l.all (D.ok 20) = true
  | _ + 1, .scr _ => False
  | _ + 1, .str x => strlt x ∧ x.length ≤ 1000
  | _ + 1, _ => True
theorem Th.keep (k : Kn μ μ') : ∀ {n : Nat} {d : D}, Th μ n d → Th μ' n d
  | 0, _, h => h.elim
  | n + 1, .tup xs, h => fun x hx => Th.keep k (n := n) (h x hx)
  | n + 1, .ref a, h => by
    obtain ⟨l, e, hl⟩ := h
    exact ⟨l, k _ _ id e, hl⟩
  | n + 1, .scr _, h => h.elim
  | n + 1, .str x, h => h
  | n + 1, .non, _ => trivial
  | n + 1, .bl _, _ => trivial
  | n + 1, .int _, _ => trivial
theorem Th.keepB {b : Nat} (k : Kp b μ μ') (hb : BagAt μ' b) : ∀ {n : Nat} {d : D}, Th μ n d → Th μ' n d
  | 0, _, h => h.elim
  | n + 1, .tup xs, h => fun x hx => Th.keepB k hb (n := n) (h x hx)
  | n + 1, .ref a, h => by
    obtain ⟨l, e, hl⟩ := h
    by_cases c : a = b
    · subst c
      obtain ⟨x, y, e2, _⟩ := hb
      exact ⟨_, e2, rfl⟩
    · exact ⟨l, k _ _ c e, hl⟩
  | n + 1, .scr _, h => h.elim
  | n + 1, .str x, h => h
  | n + 1, .non, _ => trivial
  | n + 1, .bl _, _ => trivial
  | n + 1, .int _, _ => trivial
/-- plain data -/
def PlD : Nat → D → Prop
  | 0, _ => False
  | n + 1, .tup xs => ∀ x ∈ xs, PlD n x
  | _ + 1, .ref _ => False
  | _ + 1, .scr _ => False
  | _ + 1, .str x => strlt x ∧ x.length ≤ 1000
  | _ + 1, _ => True
theorem pl_th : ∀ {n : Nat} {d : D}, PlD n d → Th μ n d
  | 0, _, h => h.elim
  | n + 1, .tup xs, h => fun x hx => pl_th (h x hx)
  | n + 1, .ref a, h => h.elim
  | n + 1, .scr _, h => h.elim
  | n + 1, .str x, h => h
  | n + 1, .non, _ => trivial
  | n + 1, .bl _, _ => trivial
  | n + 1, .int _, _ => trivial
theorem pl_ok : ∀ {n : Nat} {d : D}, PlD n d → D.ok n d = true
  | 0, _, h => h.elim
  | n + 1, .tup xs, h => List.all_eq_true.mpr fun x hx => pl_ok (h x hx)
  | n + 1, .ref a, h => h.elim
  | n + 1, .scr _, h => h.elim
  | n + 1, .str x, h => List.all_eq_true.mpr fun c hc => decide_eq_true (h.1 c hc)
  | n + 1, .non, _ => rfl
  | n + 1, .bl _, _ => rfl
  | n + 1, .int _, _ => rfl
theorem th_isi : ∀ {n : Nat} {d : D}, Th μ n d → isiOk d μ
  | 0, _, h => h.elim
  | n + 1, .ref a, ⟨l, e, _⟩ => by show (μ a).map lstOrD = some true; rw [e]; rfl
  | n + 1, .scr _, h => h.elim
  | n + 1, .tup _, _ => trivial
  | n + 1, .str x, h => trivial
  | n + 1, .non, _ => trivial
  | n + 1, .bl _, _ => trivial
  | n + 1, .int _, _ => trivial
theorem wok_mono : ∀ {n : Nat} {w : W}, W.ok n w = true → ∀ {m : Nat}, n ≤ m → W.ok m w = true
  | 0, _, h, _, _ => by simp [W.ok] at h
  | n + 1, w, h, 0, hm => by omega
  | n + 1, .tup xs, h, m + 1, hm => by
    have h : xs.all (W.ok n) = true := by simpa [W.ok] using h
    show xs.all (W.ok m) = true
    rw [List.all_eq_true] at h ⊢
    exact fun x hx => wok_mono (h x hx) (by omega)
  | n + 1, .lst xs, h, m + 1, hm => by
    have h : xs.all (W.ok n) = true := by simpa [W.ok] using h
    show xs.all (W.ok m) = true
    rw [List.all_eq_true] at h ⊢
    exact fun x hx => wok_mono (h x hx) (by omega)
  | n + 1, .non, _, m + 1, _ => rfl
  | n + 1, .bl _, _, m + 1, _ => rfl
  | n + 1, .int _, _, m + 1, _ => rfl
  | n + 1, .str x, h, m + 1, _ => h
/-- is it this text -/
def seq (d : D) (u : List Nat) : Bool := match d with
  | .str s => decide (s = u)
  | _ => false
theorem th_W : ∀ {n : Nat} {d : D}, Th μ n d → ∃ w, isW μ w d ∧ W.ok (n + 21) w = true ∧ ∀ u, W.eqb w (.str u) = seq d u
  | 0, _, h => h.elim
  | n + 1, .tup xs, h => by
    have all : ∀ xs : List D, (∀ x ∈ xs, Th μ n x) → ∃ ws, isWs μ ws xs ∧ ws.all (W.ok (n + 21)) = true := by
      intro xs
      induction xs with
      | nil => exact fun _ => ⟨[], rfl, rfl⟩
      | cons x xs ih =>
        intro h
        obtain ⟨w, a, b, _⟩ := th_W (h x (List.mem_cons_self ..))
        obtain ⟨ws, c, d⟩ := ih fun y hy => h y (List.mem_cons_of_mem _ hy)
        exact ⟨w :: ws, ⟨x, xs, rfl, a, c⟩, by rw [List.all_cons, b, d]; rfl⟩
    obtain ⟨ws, a, b⟩ := all xs h
    exact ⟨.tup ws, ⟨xs, rfl, a⟩, by show ws.all (W.ok (n + 21)) = true; exact b, fun u => rfl⟩
  | n + 1, .ref a, ⟨l, e, hl⟩ => by
    obtain ⟨h1, h2, _⟩ := toWs_is4 (μ := μ) hl
    refine ⟨.lst (toWs4 l), ⟨a, l, rfl, e, h1⟩, ?_, fun u => rfl⟩
    show (toWs4 l).all (W.ok (n + 21)) = true
    rw [List.all_eq_true] at h2 ⊢
    exact fun x hx => wok_mono (h2 x hx) (by omega)
  | n + 1, .scr _, h => h.elim
  | n + 1, .str x, h => ⟨.str x, rfl, List.all_eq_true.mpr fun c hc => decide_eq_true (h.1 c hc), fun u => by show (x == u) = decide (x = u); rw [Bool.eq_iff_iff]; simp⟩
  | n + 1, .non, _ => ⟨.non, rfl, rfl, fun _ => rfl⟩
  | n + 1, .bl b, _ => ⟨.bl b, rfl, rfl, fun _ => rfl⟩
  | n + 1, .int i, _ => ⟨.int i, rfl, rfl, fun _ => rfl⟩
theorem th_eqP {n : Nat} {u : List Nat} {k : Bool → Prop} (h : Th μ n d) (hn : n ≤ 39) (hu : strlt u) (q : k (seq d u)) : eqP d (.str u) μ k := by
  obtain ⟨w, a, b, c⟩ := th_W h
  unfold eqP
  cases e : isFl d && isFl (.str u) with
  | true =>
    have e : isFl d = true := by rw [Bool.and_eq_true] at e; exact e.1
    cases d with
    | str s => show k (D.eqb (.str s) (.str u)); rw [eqb_str]; exact q
    | tup _ => cases e
    | ref _ => cases e
    | scr _ => cases e
    | non => exact q
    | bl _ => exact q
    | int _ => exact q
  | false =>
    refine .inr (.inl ⟨w, .str u, a, rfl, wok_mono b (by omega), List.all_eq_true.mpr fun c hc => decide_eq_true (hu c hc), ?_⟩)
    rw [c]; exact q
theorem th_eq {n : Nat} {u : List Nat} {k : Bool → Prop} (h : Th μ n d) (hn : n ≤ 39) (hu : strlt u) (q : k (seq d u)) : cmpP .eq d (.str u) μ k := th_eqP h hn hu q
theorem th_ne {n : Nat} {u : List Nat} {k : Bool → Prop} (h : Th μ n d) (hn : n ≤ 39) (hu : strlt u) (q : k (!seq d u)) : cmpP .ne d (.str u) μ k := th_eqP (k := fun b => k (!b)) h hn hu q
theorem th_nil {n : Nat} {xs : List D} {k : Bool → Prop} (h : Th μ n (.tup xs)) (hn : n ≤ 39) (q : k xs.isEmpty) : cmpP .eq (.tup xs) (.tup []) μ k := by
  cases n with
  | zero => exact h.elim
  | succ n =>
    obtain ⟨w, a, b, c⟩ := th_W h
    refine .inr (.inl ⟨w, .tup [], a, ⟨[], rfl, rfl⟩, wok_mono b (by omega), rfl, ?_⟩)
    cases w with
    | tup ws =>
      obtain ⟨ds, e, hws⟩ := a
      cases e
      cases ws with
      | nil => rw [show xs = [] from hws] at q; exact q
      | cons w ws =>
        obtain ⟨x, r, e, _⟩ := hws
        rw [e] at q; exact q
    | lst ws => obtain ⟨_, _, e, _⟩ := a; cases e
    | non => cases a
    | bl _ => cases a
    | int _ => cases a
    | str _ => cases a
/-! ### what a plan is -/
def nameB : D → Bool
  | .str s => decide (1 ≤ s.length) && (decide (s.length ≤ 8) && s.all fun c => lettersC.contains c)
  | _ => false
theorem nameB_s {s : List Nat} : nameB (.str s) = (decide (1 ≤ s.length) && (decide (s.length ≤ 8) && s.all fun c => lettersC.contains c)) := rfl
def deedB : D → Bool
  | .tup xs => decide (2 ≤ xs.length) && (nameB (xs.getD 1 .non) && (if seq (xs.getD 0 .non) wPut || seq (xs.getD 0 .non) wAdd then decide (xs.length = 3) && isW1 (xs.getD 2 .non)
    else if seq (xs.getD 0 .non) wCopy then decide (xs.length = 3) && nameB (xs.getD 2 .non) else (seq (xs.getD 0 .non) wRead || seq (xs.getD 0 .non) wTell) && decide (xs.length = 2)))
  | _ => false
def numB (d : D) (k : Nat) : Bool := match d with
  | .int i => decide (0 ≤ i) && decide (i < k)
  | _ => false
def endB (d : D) (k : Nat) : Bool := match d with
  | .tup xs => !xs.isEmpty && (if seq (xs.getD 0 .non) wStop then decide (xs.length = 1) else if seq (xs.getD 0 .non) wGo then decide (xs.length = 2) && numB (xs.getD 1 .non) k
    else (seq (xs.getD 0 .non) wLess || seq (xs.getD 0 .non) wIs) && (decide (xs.length = 5) && (nameB (xs.getD 1 .non) && (isW1 (xs.getD 2 .non) && (numB (xs.getD 3 .non) k && numB (xs.getD 4 .non) k)))))
  | _ => false
def isTu : D → Bool
  | .tup _ => true
  | _ => false
def tuL : D → List D
  | .tup xs => xs
  | _ => []
def pieB (d : D) (k : Nat) : Bool := match d with
  | .tup xs => decide (xs.length = 2) && (isTu (xs.getD 0 .non) && (decide ((tuL (xs.getD 0 .non)).length ≤ 12) && (endB (xs.getD 1 .non) k && (tuL (xs.getD 0 .non)).all deedB)))
  | _ => false
def planB : D → Bool
  | .tup xs => decide (1 ≤ xs.length) && (decide (xs.length ≤ 400) && xs.all fun p => pieB p xs.length)
  | _ => false
/-! ### the walks of the program -/
structure PlG (G : Ctx) : Prop where
  deeds : G.cst 4 = some (.int 12)
  pieces : G.cst 8 = some (.int 400)
  small : G.cst 10 = some (.str lettersC)
def isSt : D → Bool
  | .str _ => true
  | _ => false
theorem g_get {xs : List D} {k : Nat} {Q : D → Prop} (h : k < xs.length) (q : Q (xs.getD k .non)) : optP (getI xs (k : Int)) Q := by
  refine opt_of (x := xs.getD k .non) ?_ q
  unfold getI
  rw [ixN_of (by omega) (by omega)]
  show xs[((k : Nat) : Int).toNat]? = _
  rw [Int.toNat_natCast, List.getD_eq_getElem?_getD, List.getElem?_eq_getElem h]; rfl
theorem th_get {xs : List D} {n k : Nat} (h : Th μ (n + 1) (.tup xs)) (hk : k < xs.length) : Th μ n (xs.getD k .non) := by
  rw [List.getD_eq_getElem?_getD, List.getElem?_eq_getElem hk]
  exact h _ (List.getElem_mem _)
theorem v_tu {G : Ctx} {n i : Nat} (h : Th μ n d) (hv : getV ρ i = some d) : Val G (.isi (.var i) .tuple) ρ μ (.bl (isTu d)) := by
  show wpE G _ _ _ _ _
  simp only [wpE]
  rw [hv]
  refine ⟨th_isi h, ?_⟩
  cases d <;> exact ⟨rfl, trivial⟩
theorem v_st {G : Ctx} {n i : Nat} (h : Th μ n d) (hv : getV ρ i = some d) : Val G (.isi (.var i) .str) ρ μ (.bl (isSt d)) := by
  show wpE G _ _ _ _ _
  simp only [wpE]
  rw [hv]
  refine ⟨th_isi h, ?_⟩
  cases d <;> exact ⟨rfl, trivial⟩
abbrev NamePS (F : Fn) : Prop := ∀ {n : Nat} {d : D} {μ : Sto} {Q : D → Sto → Prop} {X : EX}, Th μ n d → Q (.bl (nameB d)) μ → F [d] μ Q X
theorem letter_one {c : Nat} {k : Bool → Prop} (q : k (!lettersC.contains c)) : cmpP .notin (.str [c]) (.str lettersC) μ k := ⟨c, rfl, q⟩
theorem is_name4_ok {G : Ctx} (hG : Mono G) (g : PlG G) : NamePS (runF G f_is_name) := by
  intro n d μ Q X h q
  refine ⟨rfl, ?_⟩
  show wpS G f_is_name.body [some d, none] μ _
  unfold f_is_name
  cases hd : isSt d with
  | false =>
    have : nameB d = false := by cases d <;> first | rfl | cases hd
    rw [this] at q
    refine if_then hG (b := true) ?_ (fun _ => ?_) fun z => nomatch z
    · have := v_or (e' := .or (.cmp .lt (.prim .len (.cons (.var 0) .nil)) (.ci 1)) (.cmp .gt (.prim .len (.cons (.var 0) .nil)) (.ci 8))) (b2 := false) hG (v_not hG (v_st (G := G) (ρ := [some d, none]) (i := 0) h rfl)) (fun z => by rw [hd] at z; cases z)
      rw [hd] at this; exact this
    · clean_wf
      exact q
  | true =>
    obtain ⟨s, rfl⟩ : ∃ s, d = .str s := by cases d <;> first | exact ⟨_, rfl⟩ | cases hd
    have hsl : s.length ≤ 1000 := by cases n <;> first | exact h.elim | exact h.2
    have e1 : (decide ((s.length : Int) < 1)) = !decide (1 ≤ s.length) := by
      by_cases c : 1 ≤ s.length
      · rw [decide_eq_true c, decide_eq_false (by omega)]; rfl
      · rw [decide_eq_false c, decide_eq_true (by omega)]; rfl
    have e2 : (decide ((8 : Int) < (s.length : Int))) = !decide (s.length ≤ 8) := by
      by_cases c : s.length ≤ 8
      · rw [decide_eq_true c, decide_eq_false (by omega)]; rfl
      · rw [decide_eq_false c, decide_eq_true (by omega)]; rfl
    refine if_then hG (b := false || (!decide (1 ≤ s.length) || !decide (s.length ≤ 8))) (v_or hG (v_not hG (b1 := true) ⟨trivial, rfl, rfl⟩) fun _ => v_or hG (vl ?_) fun _ => vl ?_) (fun hb => ?_) fun hb => ?_
    · clean_wf
      refine ⟨by simp [sizeMax]; omega, ?_⟩
      clean_wf
      exact ⟨congrArg D.bl e1, by trivial⟩
    · clean_wf
      refine ⟨by simp [sizeMax]; omega, ?_⟩
      clean_wf
      exact ⟨congrArg D.bl e2, by trivial⟩
    · have : nameB (.str s) = false := by
        rw [nameB_s]
        rw [Bool.false_or, Bool.or_eq_true, Bool.not_eq_true', Bool.not_eq_true'] at hb
        rcases hb with hb | hb
        · rw [hb]; rfl
        · rw [hb]; simp
      rw [this] at q
      clean_wf
      exact q
    · rw [Bool.false_or, Bool.or_eq_false_iff, Bool.not_eq_false', Bool.not_eq_false'] at hb
      clean_wf
      refine for_ix (fun i ρ μ' => (s.take i).all (fun c => lettersC.contains c) = true ∧ μ' = μ ∧ ∃ o, ρ = [some (.str s), o]) (fun _ _ _ _ => trivial) ?_ ?_ ⟨rfl, rfl, _, rfl⟩
      · rintro i d hd ρ μ' K' ⟨h1, hμ, o, rfl⟩ hK
        subst hμ
        rw [List.getElem?_map] at hd
        cases e : s[i]? with
        | none => rw [e] at hd; cases hd
        | some c =>
          rw [e] at hd
          cases hd
          clean_wf
          refine ite_v hG (b := !lettersC.contains c) (vl ?_) (fun hb => ?_) fun hb => ?_
          · clean_wf
            rw [g.small]
            clean_wf
            exact letter_one ⟨rfl, by trivial⟩
          · clean_wf
            have : nameB (.str s) = false := by
              rw [nameB_s]
              have : (s.all fun c => lettersC.contains c) = false := List.all_eq_false.mpr ⟨c, List.mem_of_getElem? e, by simpa using hb⟩
              rw [this]; simp
            rw [this] at q
            exact q
          · refine hK _ _ ⟨?_, rfl, _, rfl⟩
            rw [List.take_add_one, e, List.all_append, h1]
            have hb : lettersC.contains c = true := by simpa using hb
            show (true && (lettersC.contains c && true)) = true
            rw [hb]; rfl
      · rintro ρ μ' ⟨h1, hμ, o, rfl⟩
        subst hμ
        rw [List.length_map, List.take_length] at h1
        clean_wf
        have : nameB (.str s) = true := by
          rw [nameB_s, h1, hb.1, hb.2]; rfl
        rw [this] at q
        exact q
theorem dec_lt {m k : Nat} : decide ((m : Int) < (k : Nat)) = decide (m < k) := decide_eq_decide.mpr (by omega)
abbrev DeedPS (F : Fn) : Prop := ∀ {n : Nat} {d : D} {μ : Sto} {Q : D → Sto → Prop} {X : EX}, Th μ n d → n ≤ 39 → Q (.bl (deedB d)) μ → F [d] μ Q X
theorem not_tu {G : Ctx} (hG : Mono G) {n i : Nat} {c : E} {r : St} {R : Post} (h : Th μ n d) (hv : getV ρ i = some d) (ht : isTu d = false) (q : R.rt (.bl false) μ) : wpS G (.seq (.ite (.or (.not (.isi (.var i) .tuple)) c) (.ret (.cb false)) .nop) r) ρ μ R := by
  refine if_then hG (b := true) ?_ (fun _ => ?_) fun z => nomatch z
  · have := v_or (e' := c) (b2 := false) hG (v_not hG (v_tu (G := G) h hv)) (fun z => by rw [ht] at z; cases z)
    rw [ht] at this; exact this
  · clean_wf
    exact q
theorem tu_get (ht : isTu d = true) : ∃ xs, d = .tup xs := by cases d <;> first | exact ⟨_, rfl⟩ | cases ht
theorem wput_lt : strlt wPut := by unfold strlt wPut; decide
theorem wadd_lt : strlt wAdd := by unfold strlt wAdd; decide
theorem wcopy_lt : strlt wCopy := by unfold strlt wCopy; decide
theorem wread_lt : strlt wRead := by unfold strlt wRead; decide
theorem wtell_lt : strlt wTell := by unfold strlt wTell; decide
theorem wstop_lt : strlt wStop := by unfold strlt wStop; decide
theorem wgo_lt : strlt wGo := by unfold strlt wGo; decide
theorem wless_lt : strlt wLess := by unfold strlt wLess; decide
theorem wis_lt : strlt wIs := by unfold strlt wIs; decide
section
variable {G : Ctx} {n : Nat} {xs : List D} {r : Env}
theorem v_len (k : Int) (o : COp) (b : Bool) (hb : ∀ kk : Bool → Prop, cmpP o (.int xs.length) (.int k) μ kk = kk b) : Val G (.cmp o (.prim .len (.cons (.var 0) .nil)) (.ci k)) (some (.tup xs) :: r) μ (.bl b) := by
  refine vl ?_
  clean_wf
  rw [hb]
  exact ⟨rfl, by trivial⟩
theorem v_seq (h : Th μ (n + 1) (.tup xs)) (hn : n ≤ 39) (hl : 0 < xs.length) {u : List Nat} (hu : strlt u) : Val G (.cmp .eq (.idx (.var 0) (.ci 0)) (.cs u)) (some (.tup xs) :: r) μ (.bl (seq (xs.getD 0 .non) u)) := by
  refine vl ?_
  show wpE G _ _ _ _ _
  simp only [wpE, opt_some, gv_0, gv_s]
  rw [c_idxT]
  refine g_get (k := 0) hl ?_
  exact th_eq (th_get h hl) hn hu ⟨rfl, by trivial⟩
theorem v_sne (h : Th μ (n + 1) (.tup xs)) (hn : n ≤ 39) (hl : 0 < xs.length) {u : List Nat} (hu : strlt u) : Val G (.cmp .ne (.idx (.var 0) (.ci 0)) (.cs u)) (some (.tup xs) :: r) μ (.bl (!seq (xs.getD 0 .non) u)) := by
  refine vl ?_
  show wpE G _ _ _ _ _
  simp only [wpE, opt_some, gv_0, gv_s]
  rw [c_idxT]
  refine g_get (k := 0) hl ?_
  exact th_ne (th_get h hl) hn hu ⟨rfl, by trivial⟩
theorem v_nm (hN : NamePS (G.fn 175)) {k : Nat} {i : Int} (hi : i = (k : Int)) (h : Th μ (n + 1) (.tup xs)) (hl : k < xs.length) : Val G (.call 175 (.cons (.idx (.var 0) (.ci i)) .nil)) (some (.tup xs) :: r) μ (.bl (nameB (xs.getD k .non))) := by
  subst hi
  refine vl ?_
  clean_wf
  refine g_get hl ?_
  exact hN (th_get h hl) ⟨rfl, by trivial⟩
theorem v_wh (hW : WholeS (G.fn 181)) {k : Nat} {i : Int} (hi : i = (k : Int)) (h : Th μ (n + 1) (.tup xs)) (hl : k < xs.length) : Val G (.call 181 (.cons (.idx (.var 0) (.ci i)) .nil)) (some (.tup xs) :: r) μ (.bl (isW1 (xs.getD k .non))) := by
  subst hi
  refine vl ?_
  clean_wf
  refine g_get hl ?_
  exact hW (th_isi (th_get h hl)) ⟨rfl, by trivial⟩
end
theorem is_deed4_ok {G : Ctx} (hG : Mono G) (hN : NamePS (G.fn 175)) (hW : WholeS (G.fn 181)) : DeedPS (runF G f_is_deed) := by
  intro n d μ Q X h hn q
  refine ⟨rfl, ?_⟩
  show wpS G f_is_deed.body [some d] μ _
  unfold f_is_deed
  cases hd : isTu d with
  | false =>
    have : deedB d = false := by cases d <;> first | rfl | cases hd
    rw [this] at q
    exact not_tu hG h rfl hd q
  | true =>
    obtain ⟨xs, rfl⟩ := tu_get hd
    obtain ⟨n, rfl⟩ : ∃ m, n = m + 1 := ⟨n - 1, by cases n; exact h.elim; rfl⟩
    by_cases hl : 2 ≤ xs.length
    · refine if_then hG (b := false || (false || !nameB (xs.getD 1 .non))) (v_or hG (v_not hG (b1 := true) ⟨trivial, rfl, rfl⟩) fun _ => v_or hG (v_len 2 .lt false fun kk => by rw [c_lt, decide_eq_false (by omega)]) fun _ => v_not hG (v_nm hN rfl h (by omega))) (fun hb => ?_) fun hb => ?_
      · have : deedB (.tup xs) = false := by
          show (decide (2 ≤ xs.length) && (nameB (xs.getD 1 .non) && _)) = false
          rw [Bool.false_or, Bool.false_or, Bool.not_eq_true'] at hb
          rw [hb]; simp
        rw [this] at q
        clean_wf
        exact q
      · have hb : nameB (xs.getD 1 .non) = true := by simpa using hb
        have e : deedB (.tup xs) = (if (seq (xs.getD 0 .non) wPut || seq (xs.getD 0 .non) wAdd) = true then decide (xs.length = 3) && isW1 (xs.getD 2 .non) else if seq (xs.getD 0 .non) wCopy = true then decide (xs.length = 3) && nameB (xs.getD 2 .non) else (seq (xs.getD 0 .non) wRead || seq (xs.getD 0 .non) wTell) && decide (xs.length = 2)) := by
          show (decide (2 ≤ xs.length) && (nameB (xs.getD 1 .non) && _)) = _
          rw [hb, decide_eq_true hl]; rfl
        have l3 : ∀ kk : Bool → Prop, cmpP .eq (.int (xs.length : Nat)) (.int 3) μ kk = kk (decide (xs.length = 3)) := fun kk => by rw [c_eqI]; congr 1; exact decide_eq_decide.mpr (by omega)
        have l2 : ∀ kk : Bool → Prop, cmpP .eq (.int (xs.length : Nat)) (.int 2) μ kk = kk (decide (xs.length = 2)) := fun kk => by rw [c_eqI]; congr 1; exact decide_eq_decide.mpr (by omega)
        refine if_then hG (b := seq (xs.getD 0 .non) wPut || seq (xs.getD 0 .non) wAdd) (v_or hG (v_seq (u := wPut) h (by omega) (by omega) wput_lt) fun _ => v_seq (u := wAdd) h (by omega) (by omega) wadd_lt) (fun h1 => ?_) fun h1 => ?_
        · rw [e, if_pos h1] at q
          exact ret_v hG (v_and hG (v_len 3 .eq _ l3) fun h3 => v_wh hW (k := 2) rfl h (by have := of_decide_eq_true h3; omega)) q
        · rw [e, if_neg (by rw [h1]; simp)] at q
          refine if_then hG (b := seq (xs.getD 0 .non) wCopy) (v_seq (u := wCopy) h (by omega) (by omega) wcopy_lt) (fun h2 => ?_) fun h2 => ?_
          · rw [if_pos h2] at q
            exact ret_v hG (v_and hG (v_len 3 .eq _ l3) fun h3 => v_nm hN (k := 2) rfl h (by have := of_decide_eq_true h3; omega)) q
          · rw [if_neg (by rw [h2]; simp)] at q
            exact ret_v hG (v_and hG (v_or hG (v_seq (u := wRead) h (by omega) (by omega) wread_lt) fun _ => v_seq (u := wTell) h (by omega) (by omega) wtell_lt) fun _ => v_len 2 .eq _ l2) q
    · have : deedB (.tup xs) = false := by
        show (decide (2 ≤ xs.length) && _) = false
        rw [decide_eq_false hl]; rfl
      rw [this] at q
      refine if_then hG (b := true) ?_ (fun _ => by clean_wf; exact q) fun z => nomatch z
      refine v_or (b1 := false) (b2 := true) hG (v_not hG (b1 := true) ⟨trivial, rfl, rfl⟩) fun _ => ?_
      exact v_or (b1 := true) (b2 := false) hG (v_len 2 .lt true fun kk => by rw [c_lt, decide_eq_true (by omega)]) fun z => nomatch z
abbrev NumOfS (F : Fn) : Prop := ∀ {n k : Nat} {d : D} {μ : Sto} {Q : D → Sto → Prop} {X : EX}, Th μ n d → Q (.bl (numB d k)) μ → F [d, encN k] μ Q X
theorem num_of_ok {G : Ctx} (hG : Mono G) (hW : WholeS (G.fn 181)) : NumOfS (runF G f_is_number_of) := by
  intro n k d μ Q X h q
  refine ⟨rfl, ?_⟩
  show wpS G f_is_number_of.body [some d, some (encN k)] μ _
  unfold f_is_number_of
  have e : numB d k = (isW1 d && numB d k) := by cases d <;> rfl
  rw [e] at q
  refine ret_v hG (v_and hG (vl ?_) fun hw => vl ?_) q
  · clean_wf
    exact hW (th_isi h) ⟨rfl, by trivial⟩
  · obtain ⟨i, rfl⟩ : ∃ i, d = .int i := by cases d <;> first | exact ⟨_, rfl⟩ | cases hw
    show wpE G (.cmp2 .le .lt (.ci 0) (.var 0) (.var 1)) _ _ _ _
    simp only [wpE, opt_some, gv_0, gv_s]
    rw [c_le]
    cases h0 : decide (0 ≤ i) with
    | true =>
      refine yes ?_
      rw [c_lt]
      exact ⟨by show D.bl _ = D.bl (decide (0 ≤ i) && decide (i < k)); rw [h0]; rfl, by trivial⟩
    | false => exact nay ⟨by show D.bl _ = D.bl (decide (0 ≤ i) && decide (i < k)); rw [h0]; rfl, by trivial⟩
abbrev EndPS (F : Fn) : Prop := ∀ {n k : Nat} {d : D} {μ : Sto} {Q : D → Sto → Prop} {X : EX}, Th μ n d → n ≤ 39 → Q (.bl (endB d k)) μ → F [d, encN k] μ Q X
theorem v_no {G : Ctx} {n k : Nat} {xs : List D} {r : Env} (hO : NumOfS (G.fn 176)) {m : Nat} {i : Int} (hi : i = (m : Int)) (h : Th μ (n + 1) (.tup xs)) (hl : m < xs.length) : Val G (.call 176 (.cons (.idx (.var 0) (.ci i)) (.cons (.var 1) .nil))) (some (.tup xs) :: some (encN k) :: r) μ (.bl (numB (xs.getD m .non) k)) := by
  subst hi
  refine vl ?_
  clean_wf
  refine g_get hl ?_
  clean_wf
  exact hO (th_get h hl) ⟨rfl, by trivial⟩
theorem is_end4_ok {G : Ctx} (hG : Mono G) (hN : NamePS (G.fn 175)) (hW : WholeS (G.fn 181)) (hO : NumOfS (G.fn 176)) : EndPS (runF G f_is_end) := by
  intro n k d μ Q X h hn q
  refine ⟨rfl, ?_⟩
  show wpS G f_is_end.body [some d, some (encN k)] μ _
  unfold f_is_end
  cases hd : isTu d with
  | false =>
    have : endB d k = false := by cases d <;> first | rfl | cases hd
    rw [this] at q
    exact not_tu hG h rfl hd q
  | true =>
    obtain ⟨xs, rfl⟩ := tu_get hd
    obtain ⟨n, rfl⟩ : ∃ m, n = m + 1 := ⟨n - 1, by cases n; exact h.elim; rfl⟩
    have le : ∀ (j : Nat) (kk : Bool → Prop), cmpP .eq (.int (xs.length : Nat)) (.int (j : Nat)) μ kk = kk (decide (xs.length = j)) := fun j kk => by rw [c_eqI]; congr 1; exact decide_eq_decide.mpr (by omega)
    have ln : ∀ (j : Nat) (kk : Bool → Prop), cmpP .ne (.int (xs.length : Nat)) (.int (j : Nat)) μ kk = kk (!decide (xs.length = j)) := fun j kk => by rw [c_neI]; congr 2; exact decide_eq_decide.mpr (by omega)
    have e : endB (.tup xs) k = (!xs.isEmpty && (if seq (xs.getD 0 .non) wStop = true then decide (xs.length = 1) else if seq (xs.getD 0 .non) wGo = true then decide (xs.length = 2) && numB (xs.getD 1 .non) k
      else (seq (xs.getD 0 .non) wLess || seq (xs.getD 0 .non) wIs) && (decide (xs.length = 5) && (nameB (xs.getD 1 .non) && (isW1 (xs.getD 2 .non) && (numB (xs.getD 3 .non) k && numB (xs.getD 4 .non) k)))))) := rfl
    by_cases hl : xs.length = 0
    · have hx : xs = [] := List.eq_nil_of_length_eq_zero hl
      subst hx
      refine if_then hG (b := true) ?_ (fun _ => by clean_wf; exact q) fun z => nomatch z
      exact v_or (b1 := false) (b2 := true) hG (v_not hG (b1 := true) ⟨trivial, rfl, rfl⟩) fun _ => v_len 0 .eq true fun kk => le 0 kk
    · have hx : xs.isEmpty = false := by cases xs <;> first | rfl | (simp at hl)
      rw [e, hx, Bool.not_false, Bool.true_and] at q
      refine if_then hG (b := false || false) (v_or hG (v_not hG (b1 := true) ⟨trivial, rfl, rfl⟩) fun _ => v_len 0 .eq false fun kk => by rw [show (.int 0 : D) = .int ((0 : Nat) : Int) from rfl, le 0 kk, decide_eq_false hl]) (fun z => nomatch z) fun _ => ?_
      refine if_then hG (b := seq (xs.getD 0 .non) wStop) (v_seq (u := wStop) h (by omega) (by omega) wstop_lt) (fun h1 => ?_) fun h1 => ?_
      · rw [if_pos h1] at q
        exact ret_v hG (v_len 1 .eq _ (le 1)) q
      rw [if_neg (by rw [h1]; simp)] at q
      refine if_then hG (b := seq (xs.getD 0 .non) wGo) (v_seq (u := wGo) h (by omega) (by omega) wgo_lt) (fun h2 => ?_) fun h2 => ?_
      · rw [if_pos h2] at q
        exact ret_v hG (v_and hG (v_len 2 .eq _ (le 2)) fun h3 => v_no hO (m := 1) rfl h (by have := of_decide_eq_true h3; omega)) q
      rw [if_neg (by rw [h2]; simp)] at q
      refine if_then hG (b := !seq (xs.getD 0 .non) wLess && !seq (xs.getD 0 .non) wIs || !decide (xs.length = 5)) (v_or hG (v_and hG (v_sne (u := wLess) h (by omega) (by omega) wless_lt) fun _ => v_sne (u := wIs) h (by omega) (by omega) wis_lt) fun _ => v_len 5 .ne _ (ln 5)) (fun h3 => ?_) fun h3 => ?_
      · clean_wf
        have : ((seq (xs.getD 0 .non) wLess || seq (xs.getD 0 .non) wIs) && (decide (xs.length = 5) && (nameB (xs.getD 1 .non) && (isW1 (xs.getD 2 .non) && (numB (xs.getD 3 .non) k && numB (xs.getD 4 .non) k))))) = false := by
          revert h3
          cases seq (xs.getD 0 .non) wLess <;> cases seq (xs.getD 0 .non) wIs <;> cases decide (xs.length = 5) <;> simp
        rw [this] at q
        exact q
      have h5 : (seq (xs.getD 0 .non) wLess || seq (xs.getD 0 .non) wIs) = true ∧ xs.length = 5 := by
        rw [Bool.or_eq_false_iff] at h3
        refine ⟨?_, by simpa using h3.2⟩
        have := h3.1
        revert this
        cases seq (xs.getD 0 .non) wLess <;> cases seq (xs.getD 0 .non) wIs <;> simp
      rw [h5.1, decide_eq_true h5.2, Bool.true_and, Bool.true_and] at q
      have l5 := h5.2
      refine if_then hG (v_or hG (v_not hG (v_nm hN (k := 1) rfl h (by omega))) fun _ => v_not hG (v_wh hW (k := 2) rfl h (by omega))) (fun h6 => ?_) fun h6 => ?_
      · clean_wf
        have : (nameB (xs.getD 1 .non) && (isW1 (xs.getD 2 .non) && (numB (xs.getD 3 .non) k && numB (xs.getD 4 .non) k))) = false := by
          revert h6
          cases nameB (xs.getD 1 .non) <;> cases isW1 (xs.getD 2 .non) <;> simp
        rw [this] at q
        exact q
      · rw [Bool.or_eq_false_iff, Bool.not_eq_false', Bool.not_eq_false'] at h6
        rw [h6.1, h6.2, Bool.true_and, Bool.true_and] at q
        exact ret_v hG (v_and hG (v_no hO (m := 3) rfl h (by omega)) fun _ => v_no hO (m := 4) rfl h (by omega)) q
theorem dec_map {P : D → Bool} {l : List D} : l.map (fun x => D.bl (P x)) = (l.map P).map D.bl := by rw [List.map_map]; rfl
theorem allb_map {P : D → Bool} {l : List D} : (l.map P).all id = l.all P := by rw [List.all_map]; rfl
theorem all_bl {Q : D → Sto → Prop} {bs : List Bool} (h : μ a = some (.lst (bs.map D.bl))) (q : Q (.bl (bs.all id)) μ) : primP .all [.ref a] μ Q := by
  refine rdL_of h (opt_of (x := bs.all id) ?_ q)
  clear q h
  induction bs with
  | nil => rfl
  | cons b r ih => show (allB (r.map D.bl)).map (b && ·) = _; rw [ih]; rfl
abbrev PiecePS (F : Fn) : Prop := ∀ {n k : Nat} {d : D} {μ : Sto} {Q : D → Sto → Prop} {X : EX}, Th μ n d → n ≤ 39 → (tuL d).length ≤ 1000 → (∀ z ∈ tuL d, (tuL z).length ≤ 1000) → (∀ μ', Kn μ μ' → Q (.bl (pieB d k)) μ') → F [d, encN k] μ Q X
theorem comp_id {chk : Sto → Prop} {turn : D → Sto → (Option D → Sto → Prop) → Prop} {K : List D → Sto → Prop} (P : D → D) (I : Sto → Prop) (hc : ∀ μ, I μ → chk μ) : ∀ {xs acc : List D} {μ : Sto},
    (∀ x ∈ xs, ∀ μ (K' : Option D → Sto → Prop), I μ → (∀ μ', I μ' → K' (some (P x)) μ') → turn x μ K') → acc.length + xs.length ≤ sizeMax → I μ → (∀ μ', I μ' → K (acc ++ xs.map P) μ') → compP chk turn K xs acc μ
  | [], acc, μ, _, _, hi, hk => ⟨hc _ hi, by simpa using hk μ hi⟩
  | x :: xs, acc, μ, ht, hz, hi, hk => by
    rw [List.length_cons] at hz
    refine ⟨hc _ hi, ht x (List.mem_cons_self ..) μ _ hi fun μ' h' => ⟨by omega, comp_id P I hc (fun y hy => ht y (List.mem_cons_of_mem _ hy)) (by rw [List.length_append, List.length_singleton]; omega) h' fun μ2 h2 => ?_⟩⟩
    have := hk μ2 h2
    rw [List.append_assoc]; exact this
theorem is_piece4_ok {G : Ctx} (hG : Mono G) (g : PlG G) (hD : DeedPS (G.fn 172)) (hE : EndPS (G.fn 173)) : PiecePS (runF G f_is_piece) := by
  intro n k d μ Q X h hn hz1 hz2 q
  refine ⟨rfl, ?_⟩
  show wpS G f_is_piece.body [some d, some (encN k), none] μ _
  unfold f_is_piece
  cases hd : isTu d with
  | false =>
    have : pieB d k = false := by cases d <;> first | rfl | cases hd
    rw [this] at q
    exact not_tu hG h rfl hd (q μ .refl)
  | true =>
    obtain ⟨xs, rfl⟩ := tu_get hd
    obtain ⟨n, rfl⟩ : ∃ m, n = m + 1 := ⟨n - 1, by cases n; exact h.elim; rfl⟩
    have ln : ∀ (j : Nat) (kk : Bool → Prop), cmpP .ne (.int (xs.length : Nat)) (.int (j : Nat)) μ kk = kk (!decide (xs.length = j)) := fun j kk => by rw [c_neI]; congr 2; exact decide_eq_decide.mpr (by omega)
    have e : pieB (.tup xs) k = (decide (xs.length = 2) && (isTu (xs.getD 0 .non) && (decide ((tuL (xs.getD 0 .non)).length ≤ 12) && (endB (xs.getD 1 .non) k && (tuL (xs.getD 0 .non)).all deedB)))) := rfl
    by_cases hl : xs.length = 2
    · have h0 := th_get h (k := 0) (by omega)
      refine if_then hG (b := false || (false || !isTu (xs.getD 0 .non))) (v_or hG (v_not hG (b1 := true) ⟨trivial, rfl, rfl⟩) fun _ => v_or hG (v_len 2 .ne false fun kk => by rw [show (.int 2 : D) = .int ((2 : Nat) : Int) from rfl, ln, decide_eq_true hl]; rfl) fun _ => v_not hG (vl ?_)) (fun hb => ?_) fun hb => ?_
      · clean_wf
        refine g_get (k := 0) (by omega) ?_
        refine ⟨th_isi h0, ?_⟩
        cases xs.getD 0 .non <;> exact ⟨rfl, by trivial⟩
      · have : isTu (xs.getD 0 .non) = false := by simpa using hb
        rw [e, this, Bool.false_and, Bool.and_false] at q
        clean_wf
        exact q μ .refl
      · have ht : isTu (xs.getD 0 .non) = true := by simpa using hb
        obtain ⟨ys, hy⟩ := tu_get ht
        have hyl : ys.length ≤ 1000 := by
          have := hz2 (xs.getD 0 .non) (by show xs.getD 0 .non ∈ xs; rw [List.getD_eq_getElem?_getD, List.getElem?_eq_getElem (by omega : 0 < xs.length)]; exact List.getElem_mem _)
          rw [hy] at this; exact this
        rw [e, decide_eq_true hl, ht, Bool.true_and, Bool.true_and] at q
        rw [hy] at h0 q
        refine if_then hG (b := decide (12 < ys.length) || !endB (xs.getD 1 .non) k) (v_or hG (vl ?_) fun _ => v_not hG (vl ?_)) (fun hb => ?_) fun hb => ?_
        · clean_wf
          refine g_get (k := 0) (by omega) ?_
          rw [hy, c_lenT, g.deeds]
          clean_wf
          exact ⟨congrArg D.bl (decide_eq_decide.mpr (by omega)), by trivial⟩
        · clean_wf
          refine g_get (k := 1) (by omega) ?_
          clean_wf
          exact hE (th_get h (by omega)) (by omega) ⟨rfl, by trivial⟩
        · have : (decide ((tuL (.tup ys)).length ≤ 12) && (endB (xs.getD 1 .non) k && (tuL (.tup ys)).all deedB)) = false := by
            show (decide (ys.length ≤ 12) && _) = false
            rw [Bool.or_eq_true, decide_eq_true_eq, Bool.not_eq_true'] at hb
            rcases hb with hb | hb
            · rw [decide_eq_false (by omega)]; rfl
            · rw [hb]; simp
          rw [this] at q
          clean_wf
          exact q μ .refl
        · rw [Bool.or_eq_false_iff, decide_eq_false_iff_not, Bool.not_eq_false'] at hb
          have e2 : (decide ((tuL (.tup ys)).length ≤ 12) && (endB (xs.getD 1 .non) k && (tuL (.tup ys)).all deedB)) = ys.all deedB := by
            show (decide (ys.length ≤ 12) && (endB (xs.getD 1 .non) k && ys.all deedB)) = _
            rw [decide_eq_true (by omega), hb.2]; rfl
          rw [e2] at q
          clean_wf
          refine g_get (k := 0) (by omega) ?_
          rw [hy, c_itT]
          refine comp_id (fun x => .bl (deedB x)) (fun μ' => Kn μ μ') (fun _ _ => trivial) (fun x hx μ1 K' k1 kk => ?_) (by simp [sizeMax]; omega) .refl fun μ1 k1 => ?_
          · clean_wf
            cases n with
            | zero => exact h0.elim
            | succ n => exact hD ((h0 x hx).keep k1) (by omega) (kk _ k1)
          · intro c hc
            rw [List.nil_append, dec_map]
            refine all_bl up_same ?_
            rw [allb_map]
            exact q _ (Kept.nw hc k1)
    · rw [e, decide_eq_false hl, Bool.false_and] at q
      refine if_then hG (b := true) ?_ (fun _ => by clean_wf; exact q μ .refl) fun z => nomatch z
      refine v_or (b1 := false) (b2 := true) hG (v_not hG (b1 := true) ⟨trivial, rfl, rfl⟩) fun _ => ?_
      exact v_or (b1 := true) (b2 := false) hG (v_len 2 .ne true fun kk => by rw [show (.int 2 : D) = .int ((2 : Nat) : Int) from rfl, ln, decide_eq_false hl]; rfl) fun z => nomatch z
/-- not too long anywhere -/
def FitM (m : Nat) : Nat → D → Prop
  | 0, _ => True
  | n + 1, .tup xs => xs.length ≤ m ∧ ∀ x ∈ xs, FitM m n x
  | _ + 1, _ => True
abbrev Fit := FitM 1000
theorem fit_tu : ∀ {n : Nat} {d : D}, Fit (n + 1) d → (tuL d).length ≤ 1000
  | n, .tup xs, h => h.1
  | n, .non, _ => Nat.zero_le _
  | n, .bl _, _ => Nat.zero_le _
  | n, .int _, _ => Nat.zero_le _
  | n, .str _, _ => Nat.zero_le _
  | n, .ref _, _ => Nat.zero_le _
  | n, .scr _, _ => Nat.zero_le _
theorem fit_in : ∀ {n : Nat} {d : D}, Fit (n + 1) d → ∀ z ∈ tuL d, Fit n z
  | n, .tup xs, h => h.2
  | n, .non, _ => fun z h => nomatch h
  | n, .bl _, _ => fun z h => nomatch h
  | n, .int _, _ => fun z h => nomatch h
  | n, .str _, _ => fun z h => nomatch h
  | n, .ref _, _ => fun z h => nomatch h
  | n, .scr _, _ => fun z h => nomatch h
abbrev PlanPS (F : Fn) : Prop := ∀ {n : Nat} {d : D} {μ : Sto} {Q : D → Sto → Prop} {X : EX}, Th μ n d → n ≤ 39 → Fit 3 d → (∀ μ', Kn μ μ' → Q (.bl (planB d)) μ') → F [d] μ Q X
theorem is_plan4_ok {G : Ctx} (hG : Mono G) (g : PlG G) (hP : PiecePS (G.fn 177)) : PlanPS (runF G f_is_plan) := by
  intro n d μ Q X h hn hz q
  refine ⟨rfl, ?_⟩
  show wpS G f_is_plan.body [some d, none] μ _
  unfold f_is_plan
  cases hd : isTu d with
  | false =>
    have : planB d = false := by cases d <;> first | rfl | cases hd
    rw [this] at q
    exact not_tu hG h rfl hd (q μ .refl)
  | true =>
    obtain ⟨xs, rfl⟩ := tu_get hd
    obtain ⟨n, rfl⟩ : ∃ m, n = m + 1 := ⟨n - 1, by cases n; exact h.elim; rfl⟩
    have e : planB (.tup xs) = (decide (1 ≤ xs.length) && (decide (xs.length ≤ 400) && xs.all fun p => pieB p xs.length)) := rfl
    have hzl := hz.1
    refine if_then hG (b := false || (decide (xs.length < 1) || decide (400 < xs.length))) (v_or hG (v_not hG (b1 := true) ⟨trivial, rfl, rfl⟩) fun _ => v_or hG (v_len 1 .lt _ fun kk => by rw [c_lt]; congr 1; exact decide_eq_decide.mpr (by omega)) fun _ => vl ?_) (fun hb => ?_) fun hb => ?_
    · clean_wf
      rw [g.pieces]
      clean_wf
      exact ⟨congrArg D.bl (decide_eq_decide.mpr (by omega)), by trivial⟩
    · have : planB (.tup xs) = false := by
        rw [e]
        rw [Bool.false_or, Bool.or_eq_true, decide_eq_true_eq, decide_eq_true_eq] at hb
        rcases hb with hb | hb
        · rw [decide_eq_false (by omega : ¬ 1 ≤ xs.length)]; rfl
        · rw [decide_eq_false (by omega : ¬ xs.length ≤ 400)]; simp
      rw [this] at q
      clean_wf
      exact q μ .refl
    · rw [Bool.false_or, Bool.or_eq_false_iff, decide_eq_false_iff_not, decide_eq_false_iff_not] at hb
      rw [e, decide_eq_true (by omega : 1 ≤ xs.length), decide_eq_true (by omega : xs.length ≤ 400), Bool.true_and, Bool.true_and] at q
      clean_wf
      refine comp_id (fun x => .bl (pieB x xs.length)) (fun μ' => Kn μ μ') (fun _ _ => trivial) (fun x hx μ1 K' k1 kk => ?_) (by simp [sizeMax]; omega) .refl fun μ1 k1 => ?_
      · clean_wf
        have hf := hz.2 x hx
        exact hP ((h x hx).keep k1) (by omega) (fit_tu hf) (fun z hz' => fit_tu (fit_in hf z hz')) fun μ2 k2 => kk _ (k1.trans k2)
      · intro c hc
        rw [List.nil_append, dec_map]
        refine all_bl up_same ?_
        rw [allb_map]
        exact q _ (Kept.nw hc k1)
/-! ### tests that change the store by new things alone -/
abbrev VK (G : Ctx) (e : E) (ρ : Env) (μ : Sto) (b : Bool) : Prop := wpE G e ρ μ (fun d μ1 => d = .bl b ∧ Kn μ μ1) NoX
section
variable {G : Ctx} {e e' c : E} {s r : St} {b1 b2 b : Bool} {R : Post} {Q : D → Sto → Prop} {X : EX}
theorem k_use (hG : Mono G) (h : VK G e ρ μ b) (k : ∀ μ1, Kn μ μ1 → Q (.bl b) μ1) : wpE G e ρ μ Q X := ev hG _ h fun d μ1 ⟨e1, e2⟩ => by subst e1; exact k μ1 e2
theorem k_of (hG : Mono G) (h : Val G e ρ μ (.bl b)) : VK G e ρ μ b := v_use hG h ⟨rfl, .refl⟩
theorem k_or (hG : Mono G) (h1 : VK G e ρ μ b1) (h2 : ∀ μ1, Kn μ μ1 → b1 = false → VK G e' ρ μ1 b2) : VK G (.or e e') ρ μ (b1 || b2) := k_use (e := e) hG h1 fun μ1 k1 => by
  cases b1 with
  | true => exact yes ⟨rfl, k1⟩
  | false => exact nay (k_use hG (h2 μ1 k1 rfl) fun μ2 k2 => ⟨rfl, k1.trans k2⟩)
theorem k_and (hG : Mono G) (h1 : VK G e ρ μ b1) (h2 : ∀ μ1, Kn μ μ1 → b1 = true → VK G e' ρ μ1 b2) : VK G (.and e e') ρ μ (b1 && b2) := k_use (e := e) hG h1 fun μ1 k1 => by
  cases b1 with
  | true => exact yes (k_use hG (h2 μ1 k1 rfl) fun μ2 k2 => ⟨rfl, k1.trans k2⟩)
  | false => exact nay ⟨rfl, k1⟩
theorem k_not (hG : Mono G) (h1 : VK G e ρ μ b) : VK G (.not e) ρ μ (!b) := k_use (e := e) hG h1 fun μ1 k1 => ⟨rfl, k1⟩
theorem if_thenK (hG : Mono G) (hc : VK G c ρ μ b) (h1 : ∀ μ1, Kn μ μ1 → b = true → wpS G s ρ μ1 ⟨fun ρ1 μ1 => wpS G r ρ1 μ1 R, R.rt, R.ex⟩) (h2 : ∀ μ1, Kn μ μ1 → b = false → wpS G r ρ μ1 R) : wpS G (.seq (.ite c s .nop) r) ρ μ R := k_use hG hc fun μ1 k => ⟨h1 μ1 k, h2 μ1 k⟩
theorem ret_k (hG : Mono G) (h : VK G e ρ μ b) (k : ∀ μ1, Kn μ μ1 → R.rt (.bl b) μ1) : wpS G (.ret e) ρ μ R := k_use hG h k
end
theorem eq_nilL {l : List D} {k : Bool → Prop} (ha : μ a = some (.lst l)) (hb : μ b = some (.lst [])) (q : k l.isEmpty) : cmpP .eq (.ref a) (.ref b) μ k := by
  cases l with
  | nil => exact .inr (.inl ⟨.lst [], .lst [], ⟨a, [], rfl, ha, rfl⟩, ⟨b, [], rfl, hb, rfl⟩, rfl, rfl, q⟩)
  | cons x l => exact .inr (.inr (.inr ⟨a, b, x :: l, [], rfl, rfl, ha, hb, by simp, q⟩))
abbrev NameLS (F : Fn) : Prop := ∀ {n : Nat} {d : D} {μ : Sto} {Q : D → Sto → Prop} {X : EX}, Th μ n d → (∀ μ', Kn μ μ' → Q (.bl (nameB d)) μ') → F [d] μ Q X
theorem nameL_ok {G : Ctx} (hG : Mono G) : NameLS (runF G fl_is_name_k04) := by
  intro n d μ Q X h q
  refine ⟨rfl, ?_⟩
  show wpS G fl_is_name_k04.body [some d, none] μ _
  unfold fl_is_name_k04
  cases hd : isSt d with
  | false =>
    have : nameB d = false := by cases d <;> first | rfl | cases hd
    rw [this] at q
    refine if_then hG (b := true) ?_ (fun _ => ?_) fun z => nomatch z
    · have := v_or (e' := .or (.cmp .lt (.prim .len (.cons (.var 0) .nil)) (.ci 1)) (.cmp .gt (.prim .len (.cons (.var 0) .nil)) (.ci 8))) (b2 := false) hG (v_not hG (v_st (G := G) (ρ := [some d, none]) (i := 0) h rfl)) (fun z => by rw [hd] at z; cases z)
      rw [hd] at this; exact this
    · clean_wf
      exact q μ .refl
  | true =>
    obtain ⟨s, rfl⟩ : ∃ s, d = .str s := by cases d <;> first | exact ⟨_, rfl⟩ | cases hd
    have hsl : s.length ≤ 1000 := by cases n <;> first | exact h.elim | exact h.2
    have e1 : (decide ((s.length : Int) < 1)) = !decide (1 ≤ s.length) := by
      by_cases c : 1 ≤ s.length
      · rw [decide_eq_true c, decide_eq_false (by omega)]; rfl
      · rw [decide_eq_false c, decide_eq_true (by omega)]; rfl
    have e2 : (decide ((8 : Int) < (s.length : Int))) = !decide (s.length ≤ 8) := by
      by_cases c : s.length ≤ 8
      · rw [decide_eq_true c, decide_eq_false (by omega)]; rfl
      · rw [decide_eq_false c, decide_eq_true (by omega)]; rfl
    refine if_then hG (b := false || (!decide (1 ≤ s.length) || !decide (s.length ≤ 8))) (v_or hG (v_not hG (b1 := true) ⟨trivial, rfl, rfl⟩) fun _ => v_or hG (vl ?_) fun _ => vl ?_) (fun hb => ?_) fun hb => ?_
    · clean_wf
      refine ⟨by simp [sizeMax]; omega, ?_⟩
      clean_wf
      exact ⟨congrArg D.bl e1, by trivial⟩
    · clean_wf
      refine ⟨by simp [sizeMax]; omega, ?_⟩
      clean_wf
      exact ⟨congrArg D.bl e2, by trivial⟩
    · have : nameB (.str s) = false := by
        rw [nameB_s]
        rw [Bool.false_or, Bool.or_eq_true, Bool.not_eq_true', Bool.not_eq_true'] at hb
        rcases hb with hb | hb
        · rw [hb]; rfl
        · rw [hb]; simp
      rw [this] at q
      clean_wf
      exact q μ .refl
    · rw [Bool.false_or, Bool.or_eq_false_iff, Bool.not_eq_false', Bool.not_eq_false'] at hb
      clean_wf
      show compP _ _ _ (s.map chr) [] μ
      refine comp_fm chr (fun c => if (!lettersC.contains c) = true then some (chr c) else none) (fun μ' => μ = μ') (fun _ _ => trivial) (fun c hc μ1 K e kk => ?_) (by simp [sizeMax]; omega) rfl ?_
      · subst e
        unfold chr
        clean_wf
        refine letter_one ?_
        have kk := kk _ rfl
        cases hc : !lettersC.contains c with
        | true => rw [hc, if_pos rfl] at kk; exact yes kk
        | false => rw [hc, if_neg (by simp)] at kk; exact nay kk
      rintro _ rfl
      intro c hc
      intro c2 hc2
      refine eq_nilL (up_old up_same hc2) up_same ?_
      have : nameB (.str s) = ([] ++ s.filterMap fun c => if (!lettersC.contains c) = true then some (chr c) else none).isEmpty := by
        rw [nameB_s, hb.1, hb.2, List.nil_append, Bool.true_and, Bool.true_and]
        clear e1 e2 hsl hb hd q h hc2 hc
        induction s with
        | nil => rfl
        | cons x s ih =>
          rw [List.all_cons, List.filterMap_cons]
          cases hx : lettersC.contains x with
          | true => rw [Bool.true_and, ih]; rfl
          | false => rfl
      rw [this] at q
      exact q _ (Kept.nw hc2 (Kept.new hc))
theorem whole4_ok (G : Ctx) : WholeS (runF G f_whole) := whole_ok G
section
variable {G : Ctx} {n : Nat} {xs : List D} {r : Env}
theorem k_nm (hN : NameLS (G.fn 74)) {k : Nat} {i : Int} (hi : i = (k : Int)) (h : Th μ (n + 1) (.tup xs)) (hl : k < xs.length) : VK G (.call 74 (.cons (.idx (.var 0) (.ci i)) .nil)) (some (.tup xs) :: r) μ (nameB (xs.getD k .non)) := by
  subst hi
  show wpE G _ _ _ _ _
  clean_wf
  refine g_get hl ?_
  exact hN (th_get h hl) fun μ' k => ⟨rfl, k⟩
theorem v_wh4 (hW : WholeS (G.fn 151)) {k : Nat} {i : Int} (hi : i = (k : Int)) (h : Th μ (n + 1) (.tup xs)) (hl : k < xs.length) : Val G (.call 151 (.cons (.idx (.var 0) (.ci i)) .nil)) (some (.tup xs) :: r) μ (.bl (isW1 (xs.getD k .non))) := by
  subst hi
  refine vl ?_
  clean_wf
  refine g_get hl ?_
  exact hW (th_isi (th_get h hl)) ⟨rfl, by trivial⟩
theorem v_st0 (h : Th μ (n + 1) (.tup xs)) (hl : 0 < xs.length) : Val G (.isi (.idx (.var 0) (.ci 0)) .str) (some (.tup xs) :: r) μ (.bl (isSt (xs.getD 0 .non))) := by
  refine vl ?_
  clean_wf
  refine g_get (k := 0) hl ?_
  have h0 := th_get h hl
  refine ⟨th_isi h0, ?_⟩
  cases xs.getD 0 .non <;> exact ⟨rfl, by trivial⟩
theorem k_in {u v : List Nat} (hs : strlt s) (hu : strlt u) (hv : strlt v) (hl : 0 < xs.length) (e : xs.getD 0 .non = .str s) : VK G (.cmp .isin (.idx (.var 0) (.ci 0)) (.lst (.cons (.cs u) (.cons (.cs v) .nil)))) (some (.tup xs) :: r) μ (decide (s = u) || decide (s = v)) := by
  show wpE G _ _ _ _ _
  clean_wf
  refine g_get (k := 0) hl ?_
  rw [e]
  intro c hc
  refine isin_lst up_same (str_lt hs) (by rw [List.all_cons, List.all_cons, str_lt hu, str_lt hv]; rfl) ?_
  refine ⟨?_, .new hc⟩
  show D.bl (D.eqb (.str u) (.str s) || (D.eqb (.str v) (.str s) || false)) = _
  rw [eqb_str, eqb_str, Bool.or_false]
  congr 2 <;> exact decide_eq_decide.mpr ⟨Eq.symm, Eq.symm⟩
end
abbrev DeedLS (F : Fn) : Prop := ∀ {n : Nat} {d : D} {μ : Sto} {Q : D → Sto → Prop} {X : EX}, Th μ n d → n ≤ 39 → (∀ μ', Kn μ μ' → Q (.bl (deedB d)) μ') → F [d] μ Q X
theorem deedB_eq {xs : List D} : deedB (.tup xs) = (decide (2 ≤ xs.length) && (nameB (xs.getD 1 .non) && (if (seq (xs.getD 0 .non) wPut || seq (xs.getD 0 .non) wAdd) = true then decide (xs.length = 3) && isW1 (xs.getD 2 .non) else if seq (xs.getD 0 .non) wCopy = true then decide (xs.length = 3) && nameB (xs.getD 2 .non) else (seq (xs.getD 0 .non) wRead || seq (xs.getD 0 .non) wTell) && decide (xs.length = 2)))) := rfl
theorem seq_s {s u : List Nat} : seq (.str s) u = decide (s = u) := rfl
theorem deedL4_ok {G : Ctx} (hG : Mono G) (hN : NameLS (G.fn 74)) (hW : WholeS (G.fn 151)) : DeedLS (runF G fl_is_deed) := by
  intro n d μ Q X h hn q
  refine ⟨rfl, ?_⟩
  show wpS G fl_is_deed.body [some d] μ _
  unfold fl_is_deed
  cases hd : isTu d with
  | false =>
    have : deedB d = false := by cases d <;> first | rfl | cases hd
    rw [this] at q
    exact not_tu hG h rfl hd (q μ .refl)
  | true =>
    obtain ⟨xs, rfl⟩ := tu_get hd
    obtain ⟨n, rfl⟩ : ∃ m, n = m + 1 := ⟨n - 1, by cases n; exact h.elim; rfl⟩
    have le : ∀ {μ : Sto} (j : Nat) (kk : Bool → Prop), cmpP .eq (.int (xs.length : Nat)) (.int (j : Nat)) μ kk = kk (decide (xs.length = j)) := fun j kk => by rw [c_eqI]; congr 1; exact decide_eq_decide.mpr (by omega)
    have ln : ∀ {μ : Sto} (j : Nat) (kk : Bool → Prop), cmpP .ne (.int (xs.length : Nat)) (.int (j : Nat)) μ kk = kk (!decide (xs.length = j)) := fun j kk => by rw [c_neI]; congr 2; exact decide_eq_decide.mpr (by omega)
    by_cases hl : 2 ≤ xs.length
    · refine if_thenK hG (b := false || (false || (!isSt (xs.getD 0 .non) || !nameB (xs.getD 1 .non)))) (k_or hG (k_of hG (v_not hG (b1 := true) ⟨trivial, rfl, rfl⟩)) fun μ1 k1 _ => k_or hG (k_of hG (v_len 2 .lt false fun kk => by rw [c_lt, decide_eq_false (by omega)])) fun μ2 k2 _ => k_or hG (k_of hG (v_not hG (v_st0 (h.keep (k1.trans k2)) (by omega)))) fun μ3 k3 _ => k_not hG (k_nm hN rfl (h.keep ((k1.trans k2).trans k3)) (by omega))) (fun μ1 k1 hb => ?_) fun μ1 k1 hb => ?_
      · have : deedB (.tup xs) = false := by
          rw [deedB_eq]
          rw [Bool.false_or, Bool.false_or, Bool.or_eq_true, Bool.not_eq_true', Bool.not_eq_true'] at hb
          rcases hb with hb | hb
          · have ns : ∀ u, seq (xs.getD 0 .non) u = false := fun u => by revert hb; cases xs.getD 0 .non <;> intro hb <;> first | rfl | cases hb
            rw [ns, ns, ns, ns, ns]; simp
          · rw [hb]; simp
        rw [this] at q
        clean_wf
        exact q _ k1
      · rw [Bool.false_or, Bool.false_or, Bool.or_eq_false_iff, Bool.not_eq_false', Bool.not_eq_false'] at hb
        obtain ⟨hs, hnm⟩ := hb
        obtain ⟨s, es⟩ : ∃ s, xs.getD 0 .non = .str s := by
          revert hs; cases xs.getD 0 .non <;> intro hs <;> first | exact ⟨_, rfl⟩ | cases hs
        have e : deedB (.tup xs) = (if (decide (s = wPut) || decide (s = wAdd)) = true then decide (xs.length = 3) && isW1 (xs.getD 2 .non) else if decide (s = wCopy) = true then decide (xs.length = 3) && nameB (xs.getD 2 .non) else (decide (s = wRead) || decide (s = wTell)) && decide (xs.length = 2)) := by
          rw [deedB_eq, hnm, decide_eq_true hl, es]; rfl
        have hsl : strlt s := by
          have := th_get h (k := 0) (by omega)
          rw [es] at this
          cases n with
          | zero => exact this.elim
          | succ n => exact this.1
        have h1 := h.keep k1
        refine if_thenK hG (b := decide (s = wRead) || decide (s = wTell)) (k_in (u := wRead) (v := wTell) hsl wread_lt wtell_lt (by omega) es) (fun μ2 k2 hb => ?_) fun μ2 k2 hb => ?_
        · have : deedB (.tup xs) = decide (xs.length = 2) := by
            rw [e, hb]
            rw [Bool.or_eq_true, decide_eq_true_eq, decide_eq_true_eq] at hb
            rcases hb with rfl | rfl <;> rfl
          rw [this] at q
          exact ret_v hG (v_len 2 .eq _ (le 2)) (q _ (k1.trans k2))
        · rw [hb, Bool.false_and] at e
          refine if_then hG (b := !decide (xs.length = 3)) (v_len 3 .ne _ (ln 3)) (fun h3 => ?_) fun h3 => ?_
          · rw [Bool.not_eq_true'] at h3
            have : deedB (.tup xs) = false := by
              rw [e, h3]; simp
            rw [this] at q
            clean_wf
            exact q _ (k1.trans k2)
          · rw [Bool.not_eq_false'] at h3
            rw [h3, Bool.true_and, Bool.true_and] at e
            have l3 := of_decide_eq_true h3
            have h2 := h1.keep k2
            have vc : Val G (.cmp .eq (.idx (.var 0) (.ci 0)) (.cs [99, 111, 112, 121])) [some (.tup xs)] μ2 (.bl (decide (s = wCopy))) := by
              have := v_seq (G := G) (r := []) (u := wCopy) h2 (by omega) (by omega) wcopy_lt
              rw [es] at this; exact this
            refine if_then hG (b := decide (s = wCopy)) vc (fun h4 => ?_) fun h4 => ?_
            · have e4 := of_decide_eq_true h4
              have : deedB (.tup xs) = nameB (xs.getD 2 .non) := by rw [e, e4]; rfl
              rw [this] at q
              exact ret_k hG (k_nm hN (k := 2) rfl h2 (by omega)) fun μ3 k3 => q _ ((k1.trans k2).trans k3)
            · have : deedB (.tup xs) = ((decide (s = wPut) || decide (s = wAdd)) && isW1 (xs.getD 2 .non)) := by
                rw [e, h4]
                cases (decide (s = wPut) || decide (s = wAdd)) <;> simp
              rw [this] at q
              exact ret_k hG (k_and hG (k_in (u := wPut) (v := wAdd) hsl wput_lt wadd_lt (by omega) es) fun μ3 k3 _ => k_of hG (v_wh4 hW (k := 2) rfl (h2.keep k3) (by omega))) fun μ3 k3 => q _ ((k1.trans k2).trans k3)
    · have : deedB (.tup xs) = false := by rw [deedB_eq, decide_eq_false hl]; rfl
      rw [this] at q
      refine if_then hG (b := true) ?_ (fun _ => by clean_wf; exact q μ .refl) fun z => nomatch z
      refine v_or (b1 := false) (b2 := true) hG (v_not hG (b1 := true) ⟨trivial, rfl, rfl⟩) fun _ => ?_
      exact v_or (b1 := true) (b2 := false) hG (v_len 2 .lt true fun kk => by rw [c_lt, decide_eq_true (by omega)]) fun z => nomatch z
theorem get_D {l : List (D × D)} {z w : D} {Q : D → Sto → Prop} (h : μ a = some (.dF l)) (hf : isFlat z = true) (q : Q ((dget l z).getD w) μ) : primP .get [.ref a, z, w] μ Q := by
  show rdG (.ref a) μ fun _ l => isFlat z = true ∧ Q ((dget l z).getD w) μ
  unfold rdG
  simp only [h]
  exact ⟨hf, q⟩
abbrev EndLS4 (F : Fn) : Prop := ∀ {n k : Nat} {d : D} {μ : Sto} {Q : D → Sto → Prop} {X : EX}, Th μ n d → n ≤ 39 → (tuL d).length ≤ 1000 → (∀ μ', Kn μ μ' → Q (.bl (endB d k)) μ') → F [d, encN k] μ Q X
theorem endB_eq {xs : List D} {k : Nat} : endB (.tup xs) k = (!xs.isEmpty && (if seq (xs.getD 0 .non) wStop = true then decide (xs.length = 1) else if seq (xs.getD 0 .non) wGo = true then decide (xs.length = 2) && numB (xs.getD 1 .non) k
      else (seq (xs.getD 0 .non) wLess || seq (xs.getD 0 .non) wIs) && (decide (xs.length = 5) && (nameB (xs.getD 1 .non) && (isW1 (xs.getD 2 .non) && (numB (xs.getD 3 .non) k && numB (xs.getD 4 .non) k)))))) := rfl
/-- how long an end of this word is -/
def szE (s : List Nat) : Nat := if s = wStop then 1 else if s = wGo then 2 else if s = wLess then 5 else if s = wIs then 5 else 0
def szD : List (D × D) := [(.str wStop, .int 1), (.str wGo, .int 2), (.str wLess, .int 5), (.str wIs, .int 5)]
theorem sz_get {s : List Nat} : (dget szD (.str s)).getD (.int 0) = encN (szE s) := by
  unfold szE szD dget dget dget dget dget
  simp only [eqb_str]
  by_cases h1 : s = wStop
  · subst h1; rfl
  · rw [if_neg h1, if_neg (by simpa using fun z => h1 z.symm)]
    by_cases h2 : s = wGo
    · subst h2; rfl
    · rw [if_neg h2, if_neg (by simpa using fun z => h2 z.symm)]
      by_cases h3 : s = wLess
      · subst h3; rfl
      · rw [if_neg h3, if_neg (by simpa using fun z => h3 z.symm)]
        by_cases h4 : s = wIs
        · subst h4; rfl
        · rw [if_neg h4, if_neg (by simpa using fun z => h4 z.symm)]; rfl
/-- an end by its word's length -/
theorem endB_sz {xs : List D} {k : Nat} {s : List Nat} (es : xs.getD 0 .non = .str s) (hx : xs.isEmpty = false) : endB (.tup xs) k = (decide (szE s = xs.length) && ((!decide (xs.length = 5) || (nameB (xs.getD 1 .non) && isW1 (xs.getD 2 .non))) && (if xs.length = 5 then xs.drop 3 else xs.drop 1).all fun d => numB d k)) := by
  rw [endB_eq, hx, es, seq_s, seq_s, seq_s, seq_s, Bool.not_false, Bool.true_and]
  unfold szE
  have cases5 : ∀ (l : List D), l.length = 5 → ∃ a b c d e, l = [a, b, c, d, e] := fun l hl => by
    match l, hl with
    | [a, b, c, d, e], _ => exact ⟨a, b, c, d, e, rfl⟩
  by_cases h1 : s = wStop
  · subst h1
    rw [if_pos (decide_eq_true rfl), if_pos rfl]
    by_cases hl : xs.length = 1
    · obtain ⟨x, rfl⟩ := List.length_eq_one_iff.mp hl; rfl
    · rw [decide_eq_false hl, decide_eq_false (fun z => hl z.symm)]; rfl
  · rw [if_neg (by simpa using h1), if_neg h1]
    by_cases h2 : s = wGo
    · subst h2
      rw [if_pos (decide_eq_true rfl), if_pos rfl]
      by_cases hl : xs.length = 2
      · obtain ⟨x, y, rfl⟩ : ∃ x y, xs = [x, y] := by
          match xs, hl with
          | [x, y], _ => exact ⟨x, y, rfl⟩
        show (true && numB y k) = (true && (true && (numB y k && true)))
        simp
      · rw [decide_eq_false hl, decide_eq_false (fun z => hl z.symm)]; rfl
    · rw [if_neg (by simpa using h2), if_neg h2]
      have fin : (decide (xs.length = 5) && (nameB (xs.getD 1 .non) && (isW1 (xs.getD 2 .non) && (numB (xs.getD 3 .non) k && numB (xs.getD 4 .non) k)))) = (decide (5 = xs.length) && ((!decide (xs.length = 5) || (nameB (xs.getD 1 .non) && isW1 (xs.getD 2 .non))) && (if xs.length = 5 then xs.drop 3 else xs.drop 1).all fun d => numB d k)) := by
        by_cases hl : xs.length = 5
        · obtain ⟨a, b, c, d, e, rfl⟩ := cases5 xs hl
          show (true && (nameB b && (isW1 c && (numB d k && numB e k)))) = (true && ((false || (nameB b && isW1 c)) && (numB d k && (numB e k && true))))
          cases nameB b <;> cases isW1 c <;> simp
        · rw [decide_eq_false hl, decide_eq_false (fun z => hl z.symm)]; rfl
      by_cases h3 : s = wLess
      · subst h3
        rw [if_pos rfl, decide_eq_true rfl, Bool.true_or, Bool.true_and]
        exact fin
      · rw [if_neg h3, decide_eq_false h3, Bool.false_or]
        by_cases h4 : s = wIs
        · subst h4
          rw [if_pos rfl, decide_eq_true rfl, Bool.true_and]
          exact fin
        · rw [if_neg h4, decide_eq_false h4, Bool.false_and]
          have : ¬ 0 = xs.length := fun z => by
            have : xs = [] := List.eq_nil_of_length_eq_zero z.symm
            rw [this] at hx; cases hx
          rw [decide_eq_false this]; rfl
theorem endL4_ok {G : Ctx} (hG : Mono G) (hN : NameLS (G.fn 74)) (hW : WholeS (G.fn 151)) : EndLS4 (runF G fl_is_end) := by
  intro n k d μ Q X h hn hz q
  refine ⟨rfl, ?_⟩
  show wpS G fl_is_end.body [some d, some (encN k), none, none] μ _
  unfold fl_is_end
  cases hd : isTu d with
  | false =>
    have : endB d k = false := by cases d <;> first | rfl | cases hd
    rw [this] at q
    exact not_tu hG h rfl hd (q μ .refl)
  | true =>
    obtain ⟨xs, rfl⟩ := tu_get hd
    obtain ⟨n, rfl⟩ : ∃ m, n = m + 1 := ⟨n - 1, by cases n; exact h.elim; rfl⟩
    have hz : xs.length ≤ 1000 := hz
    have nilV : Val G (.cmp .eq (.var 0) (.tup .nil)) [some (.tup xs), some (encN k), none, none] μ (.bl xs.isEmpty) := by
      refine vl ?_
      clean_wf
      exact th_nil h hn ⟨rfl, by trivial⟩
    cases hx : xs.isEmpty with
    | true =>
      have : endB (.tup xs) k = false := by rw [endB_eq, hx]; rfl
      rw [this] at q
      rw [hx] at nilV
      refine if_then hG (b := true) ?_ (fun _ => by clean_wf; exact q μ .refl) fun z => nomatch z
      exact v_or (b1 := false) (b2 := true) hG (v_not hG (b1 := true) ⟨trivial, rfl, rfl⟩) fun _ => v_or (b1 := true) (b2 := false) hG nilV fun z => nomatch z
    | false =>
      rw [hx] at nilV
      have hl : 0 < xs.length := by cases xs <;> first | (simp; done) | cases hx
      refine if_then hG (b := false || (false || !isSt (xs.getD 0 .non))) (v_or hG (v_not hG (b1 := true) ⟨trivial, rfl, rfl⟩) fun _ => v_or hG nilV fun _ => v_not hG (v_st0 h hl)) (fun hb => ?_) fun hb => ?_
      · have hb : isSt (xs.getD 0 .non) = false := by simpa using hb
        have ns : ∀ u, seq (xs.getD 0 .non) u = false := fun u => by revert hb; cases xs.getD 0 .non <;> intro hb <;> first | rfl | cases hb
        have : endB (.tup xs) k = false := by rw [endB_eq, hx, ns, ns, ns, ns]; rfl
        rw [this] at q
        clean_wf
        exact q μ .refl
      have hs : isSt (xs.getD 0 .non) = true := by simpa using hb
      obtain ⟨s, es⟩ : ∃ s, xs.getD 0 .non = .str s := by
        revert hs; cases xs.getD 0 .non <;> intro hs <;> first | exact ⟨_, rfl⟩ | cases hs
      rw [endB_sz es hx] at q
      clean_wf
      show optP (pairUp [.str wStop, .int 1, .str wGo, .int 2, .str wLess, .int 5, .str wIs, .int 5]) _
      refine ⟨by show 4 ≤ 15; decide, rfl, fun c hc => ?_⟩
      rw [show dputs [] [((.str wStop : D), (.int 1 : D)), (.str wGo, .int 2), (.str wLess, .int 5), (.str wIs, .int 5)] = szD from rfl]
      have k1 : Kn μ (upd μ c (.dF szD)) := .new hc
      have ec : upd μ c (.dF szD) c = some (.dF szD) := up_same
      have h1 := h.keep k1
      generalize upd μ c (.dF szD) = μ1 at *
      clean_wf
      have vg : Val G (.cmp .ne (.bm .get (.var 2) (.cons (.idx (.var 0) (.ci 0)) (.cons (.ci 0) .nil))) (.prim .len (.cons (.var 0) .nil))) [some (.tup xs), some (encN k), some (.ref c), none] μ1 (.bl (!decide (szE s = xs.length))) := by
        refine vl ?_
        clean_wf
        refine ⟨rcv_get ec, ?_⟩
        refine g_get (k := 0) hl ?_
        rw [es]
        refine get_D ec rfl ?_
        rw [sz_get]
        clean_wf
        exact ⟨congrArg (fun b => D.bl (!b)) (decide_eq_decide.mpr (by omega)), by trivial⟩
      refine if_then hG (b := !decide (szE s = xs.length)) vg (fun hb => ?_) fun hb => ?_
      · rw [Bool.not_eq_true'] at hb
        rw [hb, Bool.false_and] at q
        clean_wf
        exact q _ k1
      rw [Bool.not_eq_false'] at hb
      rw [hb, Bool.true_and] at q
      have le : ∀ {μ : Sto} (j : Nat) (kk : Bool → Prop), cmpP .eq (.int (xs.length : Nat)) (.int (j : Nat)) μ kk = kk (decide (xs.length = j)) := fun j kk => by rw [c_eqI]; congr 1; exact decide_eq_decide.mpr (by omega)
      refine if_thenK hG (b := decide (xs.length = 5) && (!nameB (xs.getD 1 .non) || !isW1 (xs.getD 2 .non))) (k_and hG (k_of hG (v_len 5 .eq _ (le 5))) fun μ2 k2 h5 => k_or hG (k_not hG (k_nm hN (k := 1) rfl (h1.keep k2) (by have := of_decide_eq_true h5; omega))) fun μ3 k3 _ => k_of hG (v_not hG (v_wh4 hW (k := 2) rfl ((h1.keep k2).keep k3) (by have := of_decide_eq_true h5; omega)))) (fun μ2 k2 hb2 => ?_) fun μ2 k2 hb2 => ?_
      · have : (!decide (xs.length = 5) || (nameB (xs.getD 1 .non) && isW1 (xs.getD 2 .non))) = false := by
          revert hb2
          cases decide (xs.length = 5) <;> cases nameB (xs.getD 1 .non) <;> cases isW1 (xs.getD 2 .non) <;> simp
        rw [this, Bool.false_and] at q
        clean_wf
        exact q _ (k1.trans k2)
      have : (!decide (xs.length = 5) || (nameB (xs.getD 1 .non) && isW1 (xs.getD 2 .non))) = true := by
        revert hb2
        cases decide (xs.length = 5) <;> cases nameB (xs.getD 1 .non) <;> cases isW1 (xs.getD 2 .non) <;> simp
      rw [this, Bool.true_and] at q
      have h2 := h1.keep k2
      generalize hys : (if xs.length = 5 then xs.drop 3 else xs.drop 1) = ys at q
      have hysub : ∀ y ∈ ys, y ∈ xs := fun y hy => by
        rw [← hys] at hy
        split at hy <;> exact List.mem_of_mem_drop hy
      clean_wf
      rw [c_slT, c_slT, sl_from (by decide), sl_from (by decide)]
      show new μ2 (.lst [.tup (xs.drop 1), .tup (xs.drop 3)]) _
      intro c2 hc2
      clean_wf
      have eg : getI [D.tup (xs.drop 1), .tup (xs.drop 3)] (b2i (decide ((xs.length : Int) = 5))) = some (.tup ys) := by
        rw [← hys]
        by_cases h5 : xs.length = 5
        · rw [decide_eq_true (by omega), if_pos h5]; rfl
        · rw [decide_eq_false (by omega), if_neg h5]; rfl
      refine idx_lst up_same eg ?_
      have k3 : Kn μ (upd μ2 c2 (.lst [.tup (xs.drop 1), .tup (xs.drop 3)])) := Kept.nw hc2 (k1.trans k2)
      have h3 := h2.keep (μ' := upd μ2 c2 (.lst [.tup (xs.drop 1), .tup (xs.drop 3)])) (Kept.new hc2)
      show itemsP (.tup ys) (upd μ2 c2 (.lst [.tup (xs.drop 1), .tup (xs.drop 3)])) _
      generalize upd μ2 c2 (.lst [.tup (xs.drop 1), .tup (xs.drop 3)]) = μ3 at *
      rw [c_itT]
      refine for_ix (fun i ρ μ' => (ys.take i).all (fun d => numB d k) = true ∧ μ' = μ3 ∧ ∃ o, ρ = [some (.tup xs), some (encN k), some (.ref c), o]) (fun _ _ _ _ => trivial) ?_ ?_ ⟨rfl, rfl, _, rfl⟩
      · rintro i d hdd ρ μ' K' ⟨g1, hμ, o, rfl⟩ hK
        subst hμ
        have hdm := List.mem_of_getElem? hdd
        have td : Th μ' n d := h3 d (hysub d hdm)
        clean_wf
        have e1 : numB d k = !(!isW1 d || !numB d k) := by cases d <;> simp [isW1, numB]
        refine ite_v hG (b := !numB d k) ?_ (fun hb => ?_) fun hb => ?_
        · have vw : Val G (.call 151 (.cons (.var 3) .nil)) [some (.tup xs), some (encN k), some (.ref c), some d] μ' (.bl (isW1 d)) := by
            refine vl ?_
            clean_wf
            exact hW (th_isi td) ⟨rfl, by trivial⟩
          cases hw : isW1 d with
          | false =>
            rw [hw] at vw
            have : numB d k = false := by rw [e1, hw]; rfl
            rw [this]
            exact v_or (b1 := true) (b2 := false) hG (v_not hG vw) fun z => nomatch z
          | true =>
            rw [hw] at vw
            obtain ⟨i, rfl⟩ : ∃ i, d = .int i := by cases d <;> first | exact ⟨_, rfl⟩ | cases hw
            have e2 : (!numB (.int i) k) = (false || (decide (i < 0) || decide ((k : Int) ≤ i))) := by
              show (!(decide (0 ≤ i) && decide (i < k))) = _
              by_cases c1 : 0 ≤ i <;> by_cases c2 : i < (k : Int) <;> simp [c1, c2] <;> omega
            rw [e2]
            refine v_or hG (v_not hG vw) fun _ => v_or hG (vl ?_) fun _ => vl ?_
            · clean_wf; exact ⟨by trivial, by trivial⟩
            · clean_wf; exact ⟨by trivial, by trivial⟩
        · have : (ys.all fun d => numB d k) = false := List.all_eq_false.mpr ⟨d, hdm, by simpa using hb⟩
          rw [this] at q
          clean_wf
          exact q _ k3
        · refine hK _ _ ⟨?_, rfl, _, rfl⟩
          rw [List.take_add_one, hdd, List.all_append, g1]
          have hb : numB d k = true := by simpa using hb
          show (true && (numB d k && true)) = true
          rw [hb]; rfl
      · rintro ρ μ' ⟨g1, hμ, o, rfl⟩
        subst hμ
        rw [List.take_length] at g1
        rw [g1] at q
        clean_wf
        exact q _ k3
abbrev PlanLS4 (F : Fn) : Prop := ∀ {n : Nat} {d : D} {μ : Sto} {Q : D → Sto → Prop} {X : EX}, Th μ n d → n ≤ 39 → Fit 3 d → (∀ μ', Kn μ μ' → Q (.bl (planB d)) μ') → F [d] μ Q X
theorem pieB_eq {xs : List D} {k : Nat} : pieB (.tup xs) k = (decide (xs.length = 2) && (isTu (xs.getD 0 .non) && (decide ((tuL (xs.getD 0 .non)).length ≤ 12) && (endB (xs.getD 1 .non) k && (tuL (xs.getD 0 .non)).all deedB)))) := rfl
theorem any_false {bs : List Bool} : ((bs.map D.bl).any fun y => D.eqb y (.bl false)) = !bs.all id := by
  induction bs with
  | nil => rfl
  | cons b r ih => rw [List.map_cons, List.any_cons, ih]; cases b <;> simp [D.eqb]
theorem bls_ok {n : Nat} {bs : List Bool} : (bs.map D.bl).all (D.ok (n + 1)) = true := by
  rw [List.all_eq_true]; intro x hx; obtain ⟨b, _, rfl⟩ := List.mem_map.mp hx; rfl
theorem planL4_ok {G : Ctx} (hG : Mono G) (hD : DeedLS (G.fn 72)) (hE : EndLS4 (G.fn 73)) : PlanLS4 (runF G fl_is_plan) := by
  intro n d μ Q X h hn hz q
  refine ⟨rfl, ?_⟩
  show wpS G fl_is_plan.body [some d, none, none] μ _
  unfold fl_is_plan
  cases hd : isTu d with
  | false =>
    have : planB d = false := by cases d <;> first | rfl | cases hd
    rw [this] at q
    exact not_tu hG h rfl hd (q μ .refl)
  | true =>
    obtain ⟨xs, rfl⟩ := tu_get hd
    obtain ⟨n, rfl⟩ : ∃ m, n = m + 1 := ⟨n - 1, by cases n; exact h.elim; rfl⟩
    have e : planB (.tup xs) = (decide (1 ≤ xs.length) && (decide (xs.length ≤ 400) && xs.all fun p => pieB p xs.length)) := rfl
    have hzl := hz.1
    refine if_then hG (b := false || (decide (xs.length < 1) || decide (400 < xs.length))) (v_or hG (v_not hG (b1 := true) ⟨trivial, rfl, rfl⟩) fun _ => v_or hG (v_len 1 .lt _ fun kk => by rw [c_lt]; congr 1; exact decide_eq_decide.mpr (by omega)) fun _ => v_len 400 .gt _ fun kk => by rw [c_gt]; congr 1; exact decide_eq_decide.mpr (by omega)) (fun hb => ?_) fun hb => ?_
    · have : planB (.tup xs) = false := by
        rw [e]
        rw [Bool.false_or, Bool.or_eq_true, decide_eq_true_eq, decide_eq_true_eq] at hb
        rcases hb with hb | hb
        · rw [decide_eq_false (by omega : ¬ 1 ≤ xs.length)]; rfl
        · rw [decide_eq_false (by omega : ¬ xs.length ≤ 400)]; simp
      rw [this] at q
      clean_wf
      exact q μ .refl
    rw [Bool.false_or, Bool.or_eq_false_iff, decide_eq_false_iff_not, decide_eq_false_iff_not] at hb
    rw [e, decide_eq_true (by omega : 1 ≤ xs.length), decide_eq_true (by omega : xs.length ≤ 400), Bool.true_and, Bool.true_and] at q
    clean_wf
    refine for_ix (fun i ρ μ' => (xs.take i).all (fun p => pieB p xs.length) = true ∧ Kn μ μ' ∧ ∃ o1 o2, ρ = [some (.tup xs), o1, o2]) (fun _ _ _ _ => trivial) ?_ ?_ ⟨rfl, .refl, _, _, rfl⟩
    · rintro i p hp ρ μ1 K' ⟨g1, k1, o1, o2, rfl⟩ hK
      have hpm := List.mem_of_getElem? hp
      have tp : Th μ1 n p := (h p hpm).keep k1
      have fp := hz.2 p hpm
      have bad : pieB p xs.length = false → ∀ μ', Kn μ μ' → Q (.bl false) μ' := fun hb μ' k' => by
        have : (xs.all fun p => pieB p xs.length) = false := List.all_eq_false.mpr ⟨p, hpm, by rw [hb]; simp⟩
        rw [this] at q
        exact q μ' k'
      have good : pieB p xs.length = true → ((xs.take (i + 1)).all fun p => pieB p xs.length) = true := fun hb => by
        rw [List.take_add_one, hp, List.all_append, g1]
        show (true && (pieB p xs.length && true)) = true
        rw [hb]; rfl
      clean_wf
      cases hd2 : isTu p with
      | false =>
        have : pieB p xs.length = false := by cases p <;> first | rfl | cases hd2
        exact not_tu hG tp rfl hd2 (bad this μ1 k1)
      | true =>
        obtain ⟨ys, rfl⟩ := tu_get hd2
        obtain ⟨n, rfl⟩ : ∃ m, n = m + 1 := ⟨n - 1, by cases n; exact tp.elim; rfl⟩
        have ln2 : ∀ {μ : Sto} (kk : Bool → Prop), cmpP .ne (.int (ys.length : Nat)) (.int 2) μ kk = kk (!decide (ys.length = 2)) := fun kk => by rw [c_neI]; congr 2; exact decide_eq_decide.mpr (by omega)
        have vlen : Val G (.cmp .ne (.prim .len (.cons (.var 1) .nil)) (.ci 2)) [some (.tup xs), some (.tup ys), o2] μ1 (.bl (!decide (ys.length = 2))) := by
          refine vl ?_
          clean_wf
          exact ⟨congrArg (fun b => D.bl (!b)) (decide_eq_decide.mpr (by omega)), by trivial⟩
        by_cases hl : ys.length = 2
        · have h0 := th_get tp (k := 0) (by omega)
          have h1' := th_get tp (k := 1) (by omega)
          rw [decide_eq_true hl] at vlen
          refine if_then hG (b := false || (false || !isTu (ys.getD 0 .non))) (v_or hG (v_not hG (b1 := true) ⟨trivial, rfl, rfl⟩) fun _ => v_or hG vlen fun _ => v_not hG (vl ?_)) (fun hb => ?_) fun hb => ?_
          · clean_wf
            refine g_get (k := 0) (by omega) ?_
            refine ⟨th_isi h0, ?_⟩
            cases ys.getD 0 .non <;> exact ⟨rfl, by trivial⟩
          · have : isTu (ys.getD 0 .non) = false := by simpa using hb
            clean_wf
            exact bad (by rw [pieB_eq, this]; simp) μ1 k1
          have ht : isTu (ys.getD 0 .non) = true := by simpa using hb
          obtain ⟨zs, hy⟩ := tu_get ht
          have fz : Fit 1 (ys.getD 0 .non) := fit_in fp _ (by show ys.getD 0 .non ∈ ys; rw [List.getD_eq_getElem?_getD, List.getElem?_eq_getElem (by omega : 0 < ys.length)]; exact List.getElem_mem _)
          have fw : Fit 1 (ys.getD 1 .non) := fit_in fp _ (by show ys.getD 1 .non ∈ ys; rw [List.getD_eq_getElem?_getD, List.getElem?_eq_getElem (by omega : 1 < ys.length)]; exact List.getElem_mem _)
          have hzl2 : zs.length ≤ 1000 := by have := fit_tu fz; rw [hy] at this; exact this
          rw [hy] at h0
          have ep : pieB (.tup ys) xs.length = (decide (zs.length ≤ 12) && (endB (ys.getD 1 .non) xs.length && zs.all deedB)) := by
            rw [pieB_eq, decide_eq_true hl, ht, hy]; rfl
          refine if_thenK hG (b := decide (12 < zs.length) || !zs.all deedB) (k_or hG (k_of hG (vl ?_)) fun μ2 k2 _ => ?_) (fun μ2 k2 hb => ?_) fun μ2 k2 hb => ?_
          · clean_wf
            refine g_get (k := 0) (by omega) ?_
            rw [hy, c_lenT]
            clean_wf
            exact ⟨congrArg D.bl (decide_eq_decide.mpr (by omega)), by trivial⟩
          · show wpE G _ _ _ _ _
            clean_wf
            refine g_get (k := 0) (by omega) ?_
            rw [hy, c_itT]
            refine comp_id (fun x => .bl (deedB x)) (fun μ' => Kn μ2 μ') (fun _ _ => trivial) (fun x hx μ3 K2 k3 kk => ?_) (by simp [sizeMax]; omega) .refl fun μ3 k3 => ?_
            · clean_wf
              cases n with
              | zero => exact h0.elim
              | succ n => exact hD (((h0 x hx).keep k2).keep k3) (by omega) fun μ4 k4 => kk _ (k3.trans k4)
            · intro c hc
              rw [List.nil_append, dec_map]
              refine isin_lst up_same rfl bls_ok ?_
              rw [any_false, allb_map]
              exact ⟨rfl, Kept.nw hc k3⟩
          · clean_wf
            refine bad ?_ _ (k1.trans k2)
            rw [ep]
            rw [Bool.or_eq_true, decide_eq_true_eq, Bool.not_eq_true'] at hb
            rcases hb with hb | hb
            · rw [decide_eq_false (by omega)]; rfl
            · rw [hb]; simp
          rw [Bool.or_eq_false_iff, decide_eq_false_iff_not, Bool.not_eq_false'] at hb
          have ep2 : pieB (.tup ys) xs.length = endB (ys.getD 1 .non) xs.length := by
            rw [ep, decide_eq_true (by omega), hb.2]; simp
          refine ite_ofM hG (fun b μ' => b = (!endB (ys.getD 1 .non) xs.length) ∧ Kn μ2 μ') ?_ (fun μ3 ⟨e3, k3⟩ => ?_) fun μ3 ⟨e3, k3⟩ => ?_
          · clean_wf
            refine g_get (k := 1) (by omega) ?_
            clean_wf
            exact hE (h1'.keep k2) (by omega) (fit_tu fw) fun μ3 k3 => ⟨_, rfl, rfl, k3⟩
          · clean_wf
            exact bad (by rw [ep2]; revert e3; cases endB (ys.getD 1 .non) xs.length <;> simp) _ ((k1.trans k2).trans k3)
          · exact hK _ _ ⟨good (by rw [ep2]; revert e3; cases endB (ys.getD 1 .non) xs.length <;> simp), (k1.trans k2).trans k3, _, _, rfl⟩
        · rw [decide_eq_false hl] at vlen
          refine if_then hG (b := true) ?_ (fun _ => ?_) fun z => nomatch z
          · refine v_or (b1 := false) (b2 := true) hG (v_not hG (b1 := true) ⟨trivial, rfl, rfl⟩) fun _ => ?_
            exact v_or (b1 := true) (b2 := false) hG vlen fun z => nomatch z
          · clean_wf
            exact bad (by rw [pieB_eq, decide_eq_false hl]; rfl) μ1 k1
    · rintro ρ μ1 ⟨g1, k1, o1, o2, rfl⟩
      rw [List.take_length] at g1
      rw [g1] at q
      clean_wf
      exact q μ1 k1
/-! ### what is spoilt -/
theorem fit_mono {m k : Nat} (hm : m ≤ k) : ∀ {n : Nat} {d : D}, FitM m n d → FitM k n d
  | 0, _, _ => trivial
  | n + 1, .tup xs, h => ⟨Nat.le_trans h.1 hm, fun x hx => fit_mono hm (h.2 x hx)⟩
  | n + 1, .non, _ => trivial
  | n + 1, .bl _, _ => trivial
  | n + 1, .int _, _ => trivial
  | n + 1, .str _, _ => trivial
  | n + 1, .ref _, _ => trivial
  | n + 1, .scr _, _ => trivial
theorem th_mono : ∀ {n : Nat} {d : D}, Th μ n d → Th μ (n + 1) d
  | 0, _, h => h.elim
  | n + 1, .tup xs, h => fun x hx => th_mono (n := n) (h x hx)
  | n + 1, .ref a, h => h
  | n + 1, .scr _, h => h.elim
  | n + 1, .str x, h => h
  | n + 1, .non, _ => trivial
  | n + 1, .bl _, _ => trivial
  | n + 1, .int _, _ => trivial
theorem th_up {n m : Nat} (h : Th μ n d) (hm : n ≤ m) : Th μ m d := by
  induction hm with
  | refl => exact h
  | step _ ih => exact th_mono ih
theorem dok_up : ∀ {n : Nat} {d : D}, D.ok n d = true → ∀ {m : Nat}, n ≤ m → D.ok m d = true
  | 0, _, h, _, _ => by simp [D.ok] at h
  | n + 1, d, h, 0, hm => by omega
  | n + 1, .tup xs, h, m + 1, hm => by
    have h : xs.all (D.ok n) = true := by simpa [D.ok] using h
    show xs.all (D.ok m) = true
    rw [List.all_eq_true] at h ⊢
    exact fun x hx => dok_up (h x hx) (by omega)
  | n + 1, .non, _, m + 1, _ => rfl
  | n + 1, .bl _, _, m + 1, _ => rfl
  | n + 1, .int _, _, m + 1, _ => rfl
  | n + 1, .str x, h, m + 1, _ => h
  | n + 1, .ref _, h, m + 1, _ => by simp [D.ok] at h
  | n + 1, .scr _, h, m + 1, _ => by simp [D.ok] at h
abbrev LeafS4 (F : Fn) : Prop := ∀ {b k : Nat} {μ : Sto} {Q : D → Sto → Prop} {X : EX}, BagAt μ b → k ≤ 1000 → (∀ d μ', Th μ' 3 d → (∀ j, Fit j d) → BagAt μ' b → Kp b μ μ' → Q d μ') → F [.ref b, encN k] μ Q X
def ThF (μ : Sto) (n : Nat) (d : D) : Prop := Th μ n d ∧ ∀ j, Fit j d
theorem tf_s {n : Nat} {u : List Nat} (h : strlt u) (hl : u.length ≤ 1000) : ThF μ (n + 1) (.str u) := ⟨⟨h, hl⟩, fun j => by cases j <;> trivial⟩
theorem tf_i {n : Nat} {i : Int} : ThF μ (n + 1) (.int i) := ⟨trivial, fun j => by cases j <;> trivial⟩
theorem tf_b {n : Nat} {i : Bool} : ThF μ (n + 1) (.bl i) := ⟨trivial, fun j => by cases j <;> trivial⟩
theorem tf_n {n : Nat} : ThF μ (n + 1) .non := ⟨trivial, fun j => by cases j <;> trivial⟩
theorem tf_r {n : Nat} (h : μ a = some (.lst l)) (hl : l.all (D.ok 20) = true) : ThF μ (n + 1) (.ref a) := ⟨⟨l, h, hl⟩, fun j => by cases j <;> trivial⟩
theorem tf_t {n : Nat} {xs : List D} (hl : xs.length ≤ 1000) (h : ∀ x ∈ xs, ThF μ n x) : ThF μ (n + 1) (.tup xs) := ⟨fun x hx => (h x hx).1, fun j => by
  cases j with
  | zero => trivial
  | succ j => exact ⟨hl, fun x hx => (h x hx).2 j⟩⟩
def leafA : List D := [.str [112, 117, 116], .str [99, 111, 112, 121], .str [97, 100, 100], .str [114, 101, 97, 100], .str [116, 101, 108, 108], .str [115, 116, 111, 112], .str [103, 111], .str [108, 101, 115, 115], .str [105, 115], .str [], .str [110, 105, 110, 101, 115, 105, 103, 110, 115], .str [97], .str [65], .str [97, 32, 98], .str [115, 116, 111, 112, 115]]
def leafB (k e : Nat) : List D := [.int 0, encN k, .int (-1), .int ((k : Int) - 1), .bl true, .bl false, .non, .tup [], .ref e, .tup [.str [115, 116, 111, 112]], .tup [.str [103, 111], .int 0], .tup [.str [114, 101, 97, 100], .str [97]]]
theorem all_c {P : D → Prop} {x : D} {l : List D} (h : P x) (t : ∀ y ∈ l, P y) : ∀ y ∈ x :: l, P y := fun y hy => by
  rcases List.mem_cons.mp hy with rfl | hy
  · exact h
  · exact t y hy
theorem all_n {P : D → Prop} : ∀ y ∈ ([] : List D), P y := fun y hy => nomatch hy
theorem leafA_ok : ∀ x ∈ leafA, ThF μ 3 x := by
  have s : ∀ {u : List Nat}, strlt u → u.length ≤ 1000 → ThF μ 3 (.str u) := fun h l => tf_s h l
  unfold leafA
  refine all_c (s (by unfold strlt; decide) (by decide)) (all_c (s (by unfold strlt; decide) (by decide)) (all_c (s (by unfold strlt; decide) (by decide)) (all_c (s (by unfold strlt; decide) (by decide)) (all_c (s (by unfold strlt; decide) (by decide)) ?_))))
  refine all_c (s (by unfold strlt; decide) (by decide)) (all_c (s (by unfold strlt; decide) (by decide)) (all_c (s (by unfold strlt; decide) (by decide)) (all_c (s (by unfold strlt; decide) (by decide)) (all_c (s (by unfold strlt; decide) (by decide)) ?_))))
  exact all_c (s (by unfold strlt; decide) (by decide)) (all_c (s (by unfold strlt; decide) (by decide)) (all_c (s (by unfold strlt; decide) (by decide)) (all_c (s (by unfold strlt; decide) (by decide)) (all_c (s (by unfold strlt; decide) (by decide)) all_n))))
theorem leafB_ok {k e : Nat} (he : μ e = some (.lst [])) : ∀ x ∈ leafB k e, ThF μ 3 x := by
  have s : ∀ {n : Nat} {u : List Nat}, strlt u → u.length ≤ 1000 → ThF μ (n + 1) (.str u) := fun h l => tf_s h l
  unfold leafB
  refine all_c tf_i (all_c tf_i (all_c tf_i (all_c tf_i (all_c tf_b (all_c tf_b (all_c tf_n (all_c (tf_t (by decide) all_n) (all_c (tf_r he rfl) ?_))))))))
  exact all_c (tf_t (by simp) (all_c (s (by unfold strlt; decide) (by decide)) all_n)) (all_c (tf_t (by simp) (all_c (s (by unfold strlt; decide) (by decide)) (all_c tf_i all_n))) (all_c (tf_t (by simp) (all_c (s (by unfold strlt; decide) (by decide)) (all_c (s (by unfold strlt; decide) (by decide)) all_n))) all_n))
theorem leaf4_ok {G : Ctx} (hG : Mono G) (hT : TakeS (G.fn 136)) : LeafS4 (runF G f_leaf) := by
  intro b k μ Q X hb hk q
  refine ⟨rfl, ?_⟩
  show wpS G f_leaf.body [some (.ref b), some (encN k), none] μ _
  unfold f_leaf
  clean_wf
  show new μ (.lst leafA) _
  intro p1 h1
  have b1 := hb.new (o := .lst leafA) h1
  have k1 : Kp b μ (upd μ p1 (.lst leafA)) := .new h1
  have e1 : upd μ p1 (.lst leafA) p1 = some (.lst leafA) := up_same
  generalize upd μ p1 (.lst leafA) = μ1 at *
  clean_wf
  intro e he
  have b2 := b1.new (o := .lst []) he
  have k2 : Kp b μ (upd μ1 e (.lst [])) := Kept.nw he k1
  have e2 := up_old (o' := .lst []) e1 he
  have ee2 : upd μ1 e (.lst []) e = some (.lst []) := up_same
  have heb := b1.ne he
  generalize upd μ1 e (.lst []) = μ2 at *
  clean_wf
  show new μ2 (.lst (leafB k e)) _
  intro p2 h2
  have b3 := b2.new (o := .lst (leafB k e)) h2
  have k3 : Kp b μ (upd μ2 p2 (.lst (leafB k e))) := Kept.nw h2 k2
  have e3 := up_old (o' := .lst (leafB k e)) e2 h2
  have ee3 := up_old (o' := .lst (leafB k e)) ee2 h2
  have f3 : upd μ2 p2 (.lst (leafB k e)) p2 = some (.lst (leafB k e)) := up_same
  generalize upd μ2 p2 (.lst (leafB k e)) = μ3 at *
  refine add_lst e3 f3 (show 15 + 12 ≤ 16777216 by decide) fun p3 h3 => ?_
  have b4 := b3.new (o := .lst (leafA ++ leafB k e)) h3
  have k4 : Kp b μ (upd μ3 p3 (.lst (leafA ++ leafB k e))) := Kept.nw h3 k3
  have ee4 := up_old (o' := .lst (leafA ++ leafB k e)) ee3 h3
  have f4 : upd μ3 p3 (.lst (leafA ++ leafB k e)) p3 = some (.lst (leafA ++ leafB k e)) := up_same
  have n34 : e ≠ p3 := ne_new ee3 h3
  have hp3b := b3.ne h3
  have hp30 := k3.none hp3b h3
  generalize upd μ3 p3 (.lst (leafA ++ leafB k e)) = μ4 at *
  clean_wf
  refine ⟨rdL_of f4 trivial, ?_⟩
  refine ⟨by decide, by decide, small_of (by decide) (by decide), small_of (by decide) (by decide), by decide, small_of (by decide) (by decide), small_of (by decide) (by decide), ?_⟩
  refine app_lst f4 (show 27 < sizeMax by decide) ?_
  generalize (10 : Int) ^ (Int.toNat 60) * 10 ^ (Int.toNat 60) * 10 ^ (Int.toNat 60) = big
  have b5 := b4.off (o := .lst (leafA ++ leafB k e ++ [.int big])) hp3b
  have k5 : Kp b μ (upd μ4 p3 (.lst (leafA ++ leafB k e ++ [.int big]))) := Kept.loc hp30 k4
  have ee5 : upd μ4 p3 (.lst (leafA ++ leafB k e ++ [.int big])) e = some (.lst []) := by rw [up_ne n34]; exact ee4
  have f5 : upd μ4 p3 (.lst (leafA ++ leafB k e ++ [.int big])) p3 = some (.lst (leafA ++ leafB k e ++ [.int big])) := up_same
  generalize upd μ4 p3 (.lst (leafA ++ leafB k e ++ [.int big])) = μ5 at *
  refine hT b5 (by decide) (by decide) fun r μ6 r0 r1 b6 k6 => ?_
  have f6 := k6 _ _ hp3b f5
  have ee6 := k6 _ _ heb ee5
  obtain ⟨x, hx, hm⟩ := getI_in (l := leafA ++ leafB k e ++ [.int big]) r0 (by show r < ((15 + 12 + 1 : Nat) : Int); omega)
  refine idx_lst f6 hx ?_
  have : ThF μ6 3 x := by
    rcases List.mem_append.mp hm with hm | hm
    · rcases List.mem_append.mp hm with hm | hm
      · exact leafA_ok x hm
      · exact leafB_ok ee6 x hm
    · rw [List.mem_singleton.mp hm]; exact tf_i
  exact q x μ6 this.1 this.2 b6 (k5.trans k6)
theorem sl_one {xs : List D} {i : Nat} : (∀ y ∈ sliceL xs (some (i : Int)) (some ((i : Int) + 1)), y ∈ xs) ∧ (sliceL xs (some (i : Int)) (some ((i : Int) + 1))).length ≤ 1 := by
  unfold sliceL
  refine ⟨fun y hy => List.mem_of_mem_drop (List.mem_of_mem_take hy), ?_⟩
  rw [List.length_take]
  unfold sIx
  simp only
  rw [if_neg (by omega), if_neg (by omega)]
  omega
/-- at most n deep -/
abbrev SpoilS4 (n : Nat) (F : Fn) : Prop := ∀ {b k : Nat} {d : D} {μ : Sto} {Q : D → Sto → Prop} {X : EX}, BagAt μ b → k ≤ 1000 → n ≤ 20 → PlD n d → (∀ j, FitM 500 j d) → (∀ d' μ', Th μ' (n + 3) d' → (∀ j, Fit j d') → BagAt μ' b → Kp b μ μ' → Q d' μ') → F [.ref b, d, encN k] μ Q X
theorem spoil4_0 {F : Fn} : SpoilS4 0 F := fun _ _ _ h => h.elim
theorem spoil4_ok {G : Ctx} (hG : Mono G) (hT : TakeS (G.fn 136)) (hL : LeafS4 (G.fn 82)) {n : Nat} (hS : SpoilS4 n (G.fn 127)) : SpoilS4 (n + 1) (runF G f_spoilt) := by
  intro b k d μ Q X hb hk hn hp hf q
  refine ⟨rfl, ?_⟩
  show wpS G f_spoilt.body [some (.ref b), some d, some (encN k), none, none] μ _
  unfold f_spoilt
  have th : ∀ {μ : Sto}, Th μ (n + 1) d := pl_th hp
  refine if_thenM hG (fun c μ' => BagAt μ' b ∧ Kp b μ μ' ∧ (c = false → ∃ xs, d = .tup xs ∧ 0 < xs.length)) ?_ (fun μ1 ⟨b1, k1, _⟩ => ?_) fun μ1 ⟨b1, k1, h1⟩ => ?_
  · cases hd : isTu d with
    | false =>
      have := v_or (G := G) (ρ := [some (.ref b), some d, some (encN k), none, none]) (μ := μ) (e' := .or (.cmp .eq (.var 1) (.tup .nil)) (.cmp .eq (.call 136 (.cons (.var 0) (.cons (.ci 6) .nil))) (.ci 0))) (b2 := false) hG (v_not hG (v_tu (G := G) (i := 1) th rfl)) (fun z => by rw [hd] at z; cases z)
      rw [hd] at this
      exact v_use hG this ⟨true, rfl, hb, .refl, fun z => nomatch z⟩
    | true =>
      obtain ⟨xs, rfl⟩ := tu_get hd
      clean_wf
      refine ⟨trivial, nay ?_⟩
      refine th_nil th (by omega) ?_
      cases hx : xs.isEmpty with
      | true => exact yes ⟨true, rfl, hb, .refl, fun z => nomatch z⟩
      | false =>
        refine nay ?_
        refine hT hb (by decide) (by decide) fun t μ1 t0 t1 b1 k1 => ?_
        clean_wf
        exact ⟨_, rfl, b1, k1, fun _ => ⟨xs, rfl, by cases xs <;> first | (simp; done) | cases hx⟩⟩
  · refine if_thenM hG (fun c μ' => BagAt μ' b ∧ Kp b μ μ' ∧ (c = true → isTu d = true)) ?_ (fun μ2 ⟨b2, k2, h2⟩ => ?_) fun μ2 ⟨b2, k2, _⟩ => ?_
    · cases hd : isTu d with
      | false =>
        have := v_and (G := G) (ρ := [some (.ref b), some d, some (encN k), none, none]) (μ := μ1) (e' := .cmp .eq (.call 136 (.cons (.var 0) (.cons (.ci 3) .nil))) (.ci 0)) (b2 := false) hG (v_tu (G := G) (i := 1) th rfl) (fun z => by rw [hd] at z; cases z)
        rw [hd] at this
        exact v_use hG this ⟨false, rfl, b1, k1, fun z => nomatch z⟩
      | true =>
        obtain ⟨xs, rfl⟩ := tu_get hd
        clean_wf
        refine ⟨trivial, yes ?_⟩
        refine hT b1 (by decide) (by decide) fun t μ2 t0 t1 b2 k2 => ?_
        clean_wf
        exact ⟨_, rfl, b2, k1.trans k2, fun _ => by trivial⟩
    · obtain ⟨xs, rfl⟩ := tu_get (h2 rfl)
      clean_wf
      show new μ2 (.lst xs) Q
      intro c hc
      have hcb := b2.ne hc
      have hall : xs.all (D.ok 20) = true := by
        rw [List.all_eq_true]
        exact fun x hx => dok_up (pl_ok (hp x hx)) (by omega)
      have := tf_r (μ := upd μ2 c (.lst xs)) (n := n + 3) up_same hall
      exact q _ _ this.1 this.2 (b2.new hc) (Kept.nw hc k2)
    · clean_wf
      exact hL b2 hk fun d' μ3 h3 f3 b3 k3 => q d' μ3 (th_up h3 (by omega)) f3 b3 (k2.trans k3)
  · obtain ⟨xs, rfl, hxl⟩ := h1 rfl
    have hx500 : xs.length ≤ 500 := (hf 1).1
    have old : ∀ {μ : Sto}, ∀ x ∈ xs, ThF μ (n + 3) x := fun x hx => ⟨th_up (pl_th (hp x hx)) (by omega), fun j => fit_mono (by decide) ((hf (j + 1)).2 x hx)⟩
    clean_wf
    refine hT b1 (by omega) (by omega) fun t μ2 t0 t1 b2 k2 => ?_
    clean_wf
    rw [nat_of t0]
    have htl : t.toNat < xs.length := by omega
    generalize t.toNat = at_ at *
    refine hT b2 (by decide) (by decide) fun w μ3 w0 w1 b3 k3 => ?_
    have k03 : Kp b μ μ3 := (k1.trans k2).trans k3
    clean_wf
    have st : sliceL xs none (some ((at_ : Nat) : Int)) = xs.take at_ := by rw [sl_to (by omega)]; simp
    have sf : sliceL xs (some ((at_ : Nat) : Int)) none = xs.drop at_ := by rw [sl_from (by omega)]; simp
    have sf1 : sliceL xs (some (((at_ : Nat) : Int) + 1)) none = xs.drop (at_ + 1) := by rw [sl_from (by omega)]; congr 1
    have hsum : (xs.take at_).length + (xs.drop at_).length = xs.length := by rw [List.length_take, List.length_drop]; omega
    have hsum1 : (xs.drop (at_ + 1)).length ≤ (xs.drop at_).length := by rw [List.length_drop, List.length_drop]; omega
    have lt' : (xs.take at_).length ≤ 500 := by rw [List.length_take]; omega
    have ld : (xs.drop at_).length ≤ 500 := by rw [List.length_drop]; omega
    have ld1 : (xs.drop (at_ + 1)).length ≤ 500 := by rw [List.length_drop]; omega
    have mt : ∀ {μ : Sto}, ∀ x ∈ xs.take at_, ThF μ (n + 3) x := fun x hx => old x (List.mem_of_mem_take hx)
    have md : ∀ {μ : Sto}, ∀ x ∈ xs.drop at_, ThF μ (n + 3) x := fun x hx => old x (List.mem_of_mem_drop hx)
    have md1 : ∀ {μ : Sto}, ∀ x ∈ xs.drop (at_ + 1), ThF μ (n + 3) x := fun x hx => old x (List.mem_of_mem_drop hx)
    have fin : ∀ (ys : List D) (μ' : Sto), ys.length ≤ 1000 → (∀ x ∈ ys, ThF μ' (n + 3) x) → BagAt μ' b → Kp b μ μ' → Q (.tup ys) μ' := fun ys μ' hl hy bb kk => by
      have := tf_t (n := n + 3) hl hy
      exact q _ _ (by rw [show n + 1 + 3 = n + 3 + 1 by omega]; exact this.1) this.2 bb kk
    have app2 : ∀ {μ : Sto} {as bs : List D}, (∀ x ∈ as, ThF μ (n + 3) x) → (∀ x ∈ bs, ThF μ (n + 3) x) → ∀ x ∈ as ++ bs, ThF μ (n + 3) x := fun h1 h2 x hx => by
      rcases List.mem_append.mp hx with hx | hx
      · exact h1 x hx
      · exact h2 x hx
    refine if_then hG (b := decide (w = 0)) (vl (by clean_wf; exact ⟨by trivial, by trivial⟩)) (fun _ => ?_) fun _ => ?_
    · clean_wf
      rw [c_slT, st, c_slT, sf1, b_addT]
      refine ⟨by simp only [sizeMax]; omega, ?_⟩
      exact fin _ _ (by rw [List.length_append]; omega) (app2 mt md1) b3 k03
    refine if_then hG (b := decide (w = 1)) (vl (by clean_wf; exact ⟨by trivial, by trivial⟩)) (fun _ => ?_) fun _ => ?_
    · have s1 := sl_one (xs := xs) (i := at_)
      clean_wf
      rw [c_slT, st, c_slT, b_addT]
      refine ⟨by simp only [sizeMax]; omega, ?_⟩
      rw [c_slT, sf, b_addT]
      refine ⟨by rw [List.length_append]; simp only [sizeMax]; omega, ?_⟩
      exact fin _ _ (by rw [List.length_append, List.length_append]; omega) (app2 (app2 mt fun x hx => old x (s1.1 x hx)) md) b3 k03
    refine if_then hG (b := decide (w = 2)) (vl (by clean_wf; exact ⟨by trivial, by trivial⟩)) (fun _ => ?_) fun _ => ?_
    · clean_wf
      rw [c_slT, st]
      refine hL b3 hk fun d' μ4 h4 f4 b4 k4 => ?_
      rw [b_addT]
      refine ⟨by simp [sizeMax]; omega, ?_⟩
      rw [c_slT, sf, b_addT]
      refine ⟨by rw [List.length_append]; simp only [sizeMax, List.length_singleton]; omega, ?_⟩
      exact fin _ _ (by simp only [List.length_append, List.length_singleton]; omega) (app2 (app2 mt fun x hx => by rw [List.mem_singleton.mp hx]; exact ⟨th_up h4 (by omega), f4⟩) md) b4 (k03.trans k4)
    · clean_wf
      rw [c_slT, st]
      refine g_get htl ?_
      have hx : xs.getD at_ .non ∈ xs := by rw [List.getD_eq_getElem?_getD, List.getElem?_eq_getElem htl]; exact List.getElem_mem _
      refine hS b3 hk (by omega) (hp _ hx) (fun j => (hf (j + 1)).2 _ hx) fun d' μ4 h4 f4 b4 k4 => ?_
      rw [b_addT]
      refine ⟨by simp [sizeMax]; omega, ?_⟩
      rw [c_slT, sf1, b_addT]
      refine ⟨by rw [List.length_append]; simp only [sizeMax, List.length_singleton]; omega, ?_⟩
      exact fin _ _ (by simp only [List.length_append, List.length_singleton]; omega) (app2 (app2 mt fun x hx => by rw [List.mem_singleton.mp hx]; exact ⟨h4, f4⟩) md1) b4 (k03.trans k4)
/-! ### a plan is one -/
theorem nameB_nm {a : Nm} (h : okNm a) : nameB (.str a) = true := by
  rw [nameB_s, decide_eq_true h.1, decide_eq_true h.2.1, Bool.true_and, Bool.true_and, List.all_eq_true]
  intro c hc
  have := h.2.2 c hc
  rw [List.contains_iff_mem]
  have : ∀ c : Nat, 97 ≤ c → c ≤ 122 → c ∈ lettersC := fun c h1 h2 => by
    have : ∀ i : Fin 26, (97 + i.1) ∈ lettersC := by decide
    have := this ⟨c - 97, by omega⟩
    rw [show 97 + (c - 97) = c by omega] at this; exact this
  exact this c (h.2.2 c hc).1 (h.2.2 c hc).2
theorem deedB_enc {ns : List Nm} (hn : ∀ a ∈ ns, okNm a) {d : Deed} (h : okDeed ns d) : deedB (encD d) = true := by
  have nm : ∀ a ∈ nmD d, nameB (.str a) = true := fun a ha => nameB_nm (hn _ (okNmD h a ha))
  cases d with
  | put a n => have := nm a (by simp [nmD]); show deedB (.tup [.str wPut, .str a, .int n]) = true; rw [deedB_eq]; simp [seq, wPut, wAdd, wCopy, wRead, wTell, isW1, this]
  | copy a b => have := nm a (by simp [nmD]); have h2 := nm b (by simp [nmD]); show deedB (.tup [.str wCopy, .str a, .str b]) = true; rw [deedB_eq]; simp [seq, wPut, wAdd, wCopy, wRead, wTell, isW1, this, h2]
  | add a n => have := nm a (by simp [nmD]); show deedB (.tup [.str wAdd, .str a, .int n]) = true; rw [deedB_eq]; simp [seq, wPut, wAdd, wCopy, wRead, wTell, isW1, this]
  | read a => have := nm a (by simp [nmD]); show deedB (.tup [.str wRead, .str a]) = true; rw [deedB_eq]; simp [seq, wPut, wAdd, wCopy, wRead, wTell, isW1, this]
  | tell a => have := nm a (by simp [nmD]); show deedB (.tup [.str wTell, .str a]) = true; rw [deedB_eq]; simp [seq, wPut, wAdd, wCopy, wRead, wTell, isW1, this]
theorem endB_enc {ns : List Nm} (hn : ∀ a ∈ ns, okNm a) {k : Nat} {e : Ed} (h : okEd ns k e) : endB (encEd e) k = true := by
  cases e with
  | stop => rfl
  | go p =>
    have h : p < k := h
    show endB (.tup [.str wGo, encN p]) k = true
    rw [endB_eq]
    have : numB (encN p) k = true := by show (decide ((0 : Int) ≤ (p : Nat)) && decide (((p : Nat) : Int) < k)) = true; rw [decide_eq_true (by omega), decide_eq_true (by omega)]; rfl
    simp [seq, wStop, wGo, this]
  | test l a n y z =>
    obtain ⟨h1, _, h3, h4⟩ := h
    have ny : ∀ p, p < k → numB (encN p) k = true := fun p hp => by show (decide ((0 : Int) ≤ (p : Nat)) && decide (((p : Nat) : Int) < k)) = true; rw [decide_eq_true (by omega), decide_eq_true (by omega)]; rfl
    have na := nameB_nm (hn _ h1)
    show endB (.tup [.str (wTest l), .str a, .int n, encN y, encN z]) k = true
    rw [endB_eq]
    cases l <;> simp [seq, wTest, wStop, wGo, wLess, wIs, isW1, na, ny y h3, ny z h4]
theorem planB_enc {ns : List Nm} {m : Nat} {pl : Plan} (ok : OkPl ns m pl) (hm : m ≤ 12) (h0 : 0 < pl.length) (hl : pl.length ≤ 400) : planB (encPl pl) = true := by
  show (decide (1 ≤ (pl.map encPc).length) && (decide ((pl.map encPc).length ≤ 400) && (pl.map encPc).all fun p => pieB p (pl.map encPc).length)) = true
  rw [List.length_map, decide_eq_true (by omega), decide_eq_true hl, Bool.true_and, Bool.true_and, List.all_eq_true]
  intro x hx
  obtain ⟨p, hp, rfl⟩ := List.mem_map.mp hx
  have hd := ok.deeds p hp
  show (decide (2 = 2) && (true && (decide ((p.1.map encD).length ≤ 12) && (endB (encEd p.2) pl.length && (p.1.map encD).all deedB)))) = true
  rw [List.length_map, decide_eq_true (by omega : p.1.length ≤ 12), endB_enc ok.names (ok.ends p hp)]
  have : (p.1.map encD).all deedB = true := by
    rw [List.all_eq_true]
    intro y hy
    obtain ⟨d, hd', rfl⟩ := List.mem_map.mp hy
    exact deedB_enc ok.names (hd.2 d hd')
  rw [this]; rfl
/-- plain, and nowhere long -/
def PlF4 (n : Nat) (d : D) : Prop := PlD n d ∧ ∀ j, FitM 500 j d
theorem pf_s {n : Nat} {u : List Nat} (h : strlt u) (hl : u.length ≤ 1000) : PlF4 (n + 1) (.str u) := ⟨⟨h, hl⟩, fun j => by cases j <;> trivial⟩
theorem pf_i {n : Nat} {i : Int} : PlF4 (n + 1) (.int i) := ⟨trivial, fun j => by cases j <;> trivial⟩
theorem pf_t {n : Nat} {xs : List D} (hl : xs.length ≤ 500) (h : ∀ x ∈ xs, PlF4 n x) : PlF4 (n + 1) (.tup xs) := ⟨fun x hx => (h x hx).1, fun j => by
  cases j with
  | zero => trivial
  | succ j => exact ⟨hl, fun x hx => (h x hx).2 j⟩⟩
theorem pf_nm {n : Nat} {a : Nm} (h : okNm a) : PlF4 (n + 1) (.str a) := pf_s (okNm_lt h) (by have := h.2.1; omega)
theorem pf_D {ns : List Nm} (hn : ∀ a ∈ ns, okNm a) {d : Deed} (h : okDeed ns d) {n : Nat} : PlF4 (n + 2) (encD d) := by
  have nm : ∀ a ∈ nmD d, PlF4 (n + 1) (.str a) := fun a ha => pf_nm (hn _ (okNmD h a ha))
  cases d with
  | put a i => exact pf_t (by simp) (all_c (pf_s wput_lt (by decide)) (all_c (nm a (by simp [nmD])) (all_c pf_i all_n)))
  | copy a b => exact pf_t (by simp) (all_c (pf_s wcopy_lt (by decide)) (all_c (nm a (by simp [nmD])) (all_c (nm b (by simp [nmD])) all_n)))
  | add a i => exact pf_t (by simp) (all_c (pf_s wadd_lt (by decide)) (all_c (nm a (by simp [nmD])) (all_c pf_i all_n)))
  | read a => exact pf_t (by simp) (all_c (pf_s wread_lt (by decide)) (all_c (nm a (by simp [nmD])) all_n))
  | tell a => exact pf_t (by simp) (all_c (pf_s wtell_lt (by decide)) (all_c (nm a (by simp [nmD])) all_n))
theorem pf_E {ns : List Nm} (hn : ∀ a ∈ ns, okNm a) {k : Nat} {e : Ed} (h : okEd ns k e) {n : Nat} : PlF4 (n + 2) (encEd e) := by
  cases e with
  | stop => exact pf_t (by simp) (all_c (pf_s wstop_lt (by decide)) all_n)
  | go p => exact pf_t (by simp) (all_c (pf_s wgo_lt (by decide)) (all_c pf_i all_n))
  | test l a i y z =>
    have wl : strlt (wTest l) ∧ (wTest l).length ≤ 1000 := by cases l <;> exact ⟨by unfold strlt; decide, by decide⟩
    exact pf_t (by simp) (all_c (pf_s wl.1 wl.2) (all_c (pf_nm (hn _ h.1)) (all_c pf_i (all_c pf_i (all_c pf_i all_n)))))
theorem pf_Pl {ns : List Nm} {m : Nat} {pl : Plan} (ok : OkPl ns m pl) (hm : m ≤ 12) (hl : pl.length ≤ 400) : PlF4 5 (encPl pl) := by
  refine pf_t (by rw [List.length_map]; omega) fun x hx => ?_
  obtain ⟨p, hp, rfl⟩ := List.mem_map.mp hx
  have hd := ok.deeds p hp
  refine pf_t (by simp) (all_c (pf_t (by rw [List.length_map]; omega) fun y hy => ?_) (all_c (pf_E ok.names (ok.ends p hp)) all_n))
  obtain ⟨d, hd', rfl⟩ := List.mem_map.mp hy
  exact pf_D ok.names (hd.2 d hd')
theorem law4_ok {G : Ctx} (hG : Mono G) (hB : BagS (G.fn 42)) (hT : TakeS (G.fn 136)) (hC : CountS (G.fn 52)) (hP : PlanS (G.fn 114)) (hI : PlanPS (G.fn 178)) (hS : SpoilS4 5 (G.fn 127)) (hL : PlanLS4 (G.fn 76))
    {ns : List Int} (hn : ns.length ≤ 63) {X : EX} : runF G f_law_k04 [.scr ns] (fun _ => none) (fun v _ => v = .bl true) X := by
  refine ⟨rfl, ?_⟩
  show wpS G f_law_k04.body [some (.scr ns), none, none, none, none, none, none] _ _
  unfold f_law_k04
  clean_wf
  refine hB (by decide) (by decide) fun b μ1 hb0 b1 k1 => ?_
  clean_wf
  refine hC (m := 40) b1 (by decide) (by decide) fun c μ2 c0 _ c40 b2 k2 => ?_
  intro a ha
  clean_wf
  refine hT (b2.new ha) (by decide) (by decide) fun t μ3 t0 t1 b3 k3 => ?_
  have e3 := k3 a _ (b2.ne ha) up_same
  clean_wf
  have : ∃ cn : Nat, 0 < cn ∧ cn ≤ 400 ∧ getI [D.int (c : Nat), .int 400] (b2i (decide (t = 0))) = some (encN cn) := by
    by_cases h : t = 0
    · rw [decide_eq_true h]; exact ⟨400, by decide, by decide, rfl⟩
    · rw [decide_eq_false h]; exact ⟨c, c0, by omega, rfl⟩
  obtain ⟨cn, cn0, cn4, ecn⟩ := this
  refine idx_lst e3 ecn ?_
  clean_wf
  intro a2 ha2
  clean_wf
  have b4 := b3.new (o := .lst [.int 12, .int 2]) ha2
  have : ∃ m : Nat, m ≤ 12 ∧ getI [D.int 12, .int 2] (b2i (decide ((40 : Int) < (cn : Nat)))) = some (.int m) := by
    by_cases h : 40 < cn
    · rw [decide_eq_true (by omega)]; exact ⟨2, by decide, rfl⟩
    · rw [decide_eq_false (by omega)]; exact ⟨12, by decide, rfl⟩
  obtain ⟨m, hm, em⟩ := this
  refine idx_lst up_same em ?_
  refine hP (m := m) b4 cn0 (by omega) (by omega) fun nms pl μ4 n0 n4 nd ok hl b5 k5 => ?_
  have pf := pf_Pl ok hm (by omega)
  have fit : ∀ j, Fit j (encPl pl) := fun j => fit_mono (by decide) (pf.2 j)
  have thp : ∀ {μ : Sto}, Th μ 5 (encPl pl) := pl_th pf.1
  have pb := planB_enc ok hm (by omega) (by omega)
  clean_wf
  refine if_thenM hG (fun c μ' => c = false) ?_ (fun _ h => nomatch h) fun μ5 _ => ?_
  · clean_wf
    refine hI thp (by decide) (fit 3) fun μ5 k5 => ?_
    rw [pb]
    clean_wf
    refine nay ?_
    refine hI (n := 1) (d := .tup []) (fun x hx => nomatch hx) (by decide) ⟨Nat.zero_le _, fun x hx => nomatch hx⟩ fun μ6 k6 => ?_
    exact ⟨_, rfl, rfl⟩
  refine if_thenM hG (fun c μ' => c = false) ?_ (fun _ h => nomatch h) fun μ6 _ => ?_
  · unfold encPl
    clean_wf
    rw [c_slT, sl_to (by decide)]
    have hsub : ∀ x ∈ ((List.replicate 401 ((pl.map encPc).take 1)).flatten), x ∈ pl.map encPc := fun x hx => by
      obtain ⟨l, hl, hx⟩ := List.mem_flatten.mp hx
      rw [(List.mem_replicate.mp hl).2] at hx
      exact List.mem_of_mem_take hx
    have hlen : ((List.replicate 401 ((pl.map encPc).take 1)).flatten).length = 401 := by
      rw [List.length_flatten, List.map_replicate, List.sum_replicate_nat, List.length_take, List.length_map, Nat.min_eq_left (by omega)]
    refine ⟨?_, by decide, by decide, ?_, ?_⟩
    · intro z
      have := congrArg List.length z
      rw [show ((1 : Int).toNat) = 1 from rfl, List.length_take, List.length_map] at this
      rw [Nat.min_eq_left (by omega)] at this; cases this
    · rw [show ((1 : Int).toNat) = 1 from rfl, List.length_take]; omega
    · rw [show ((401 : Int).toNat) = 401 from rfl, show ((1 : Int).toNat) = 1 from rfl]
      generalize hz : (List.replicate 401 ((pl.map encPc).take 1)).flatten = zs at hsub hlen
      refine hI (n := 5) (d := .tup zs) (fun x hx => thp x (hsub x hx)) (by decide) ⟨by omega, fun x hx => (fit 3).2 x (hsub x hx)⟩ fun μ7 k7 => ?_
      have : planB (.tup zs) = false := by
        show (decide (1 ≤ zs.length) && (decide (zs.length ≤ 400) && _)) = false
        rw [hlen]; rfl
      rw [this]
      exact ⟨_, rfl, rfl⟩
  clean_wf
  refine ⟨⟨by omega, by omega⟩, ?_⟩
  refine for_ix (fun i ρ μ' => ∃ o1 o4 o5 o6 : Option D, ρ = [some (.scr ns), o1, some (encN cn), some (encPl pl), o4, o5, o6]) (fun _ _ _ _ => trivial) ?_ ?_ ⟨_, _, _, _, rfl⟩
  · rintro i d hd ρ μ7 K ⟨o1, o4, o5, o6, rfl⟩ hK
    obtain ⟨hi, rfl⟩ := range_at hd
    clean_wf
    refine hB (by omega) (by omega) fun g μ8 hg b8 k8 => ?_
    clean_wf
    refine hS b8 (by omega) (by decide) pf.1 pf.2 fun other μ9 th9 fit9 b9 k9 => ?_
    clean_wf
    refine hI th9 (by decide) (fit9 3) fun μ10 k10 => ?_
    clean_wf
    refine ite_ofM hG (fun c μ' => c = false) ?_ (fun _ h => nomatch h) fun μ11 _ => hK _ _ ⟨_, _, _, _, rfl⟩
    clean_wf
    refine ⟨trivial, ?_⟩
    show br (.bl (!true)) _ _
    refine nay ?_
    refine hL (th9.keep k10) (by decide) (fit9 3) fun μ11 k11 => ?_
    show ∃ b, D.bl (!D.eqb (.bl (planB other)) (.bl (planB other))) = .bl b ∧ b = false
    refine ⟨_, rfl, ?_⟩
    cases planB other <;> rfl
  · rintro ρ μ7 ⟨o1, o4, o5, o6, rfl⟩
    clean_wf
end MP

set_option linter.all false
set_option maxRecDepth 100000
set_option maxHeartbeats 0
set_option Elab.async false
namespace MP
open PySem
def fldG : List Str := ((["__init__", "alone", "apart", "copies", "do", "exchange", "first_for", "found", "go", "hand", "heads", "is_yes", "keep", "kept", "lacks", "laid", "lead_on", "line", "made", "make", "makings", "many", "most", "numbers", "other", "other_kept", "paper", "piece", "piece_for", "piece_of"] : List Str) ++ (["pieces", "place", "places", "plan", "plans", "runner", "said", "say", "stand", "step", "steps", "taken", "to_copy", "told", "undone", "with_piece", "word", "worth", "worths"] : List Str))
def exsG : List (Str × Nat) := [("NoPiece", 0), ("NoPlan", 1), ("NoRow", 2), ("NothingLeft", 3), ("PlanError", 4), ("TooMany", 5)]
end MP
namespace MP.K04
open PySem PySem.Spec PyProof.Rows L2 MP
def top (i : Nat) : Stmt := (PySem.Challenge.pw_ledpast_k04_what_is_a_plan).main.body.getD i (.Pass ⟨0, 0, 0, 0⟩)
def clsBody : Stmt → List Stmt
  | .ClassDef _ _ _ b _ _ _ _ _ _ _ => b
  | _ => []
def sub (i j : Nat) : Stmt := (clsBody (top i)).getD j (.Pass ⟨0, 0, 0, 0⟩)

def d0 : DE := ⟨181, none, "is_whole", "is_whole", (top 1), ["thing"], f_is_whole, []⟩
def d1 : DE := ⟨175, none, "is_name", "is_name", (top 6), ["thing", "sign"], f_is_name, []⟩
def d2 : DE := ⟨172, none, "is_deed", "is_deed", (top 7), ["thing"], f_is_deed, []⟩
def d3 : DE := ⟨176, none, "is_number_of", "is_number_of", (top 8), ["thing", "count"], f_is_number_of, []⟩
def d4 : DE := ⟨173, none, "is_end", "is_end", (top 9), ["thing", "count"], f_is_end, []⟩
def d5 : DE := ⟨177, none, "is_piece", "is_piece", (top 10), ["thing", "count", "deed"], f_is_piece, []⟩
def d6 : DE := ⟨178, none, "is_plan", "is_plan", (top 11), ["thing", "piece"], f_is_plan, []⟩
def d7 : DE := ⟨42, none, "_law_bag", "_law_bag", (top 13), ["script", "k", "cell"], f_bag, []⟩
def d8 : DE := ⟨136, none, "_law_take", "_law_take", (top 14), ["bag", "many", "found"], f_take, []⟩
def d9 : DE := ⟨92, none, "_law_names", "_law_names", (top 15), ["bag", "letters", "many", "base", "k", "at", "names", "name"], f_names, []⟩
def d10 : DE := ⟨96, none, "_law_number", "_law_number", (top 16), ["bag"], f_number, []⟩
def d11 : DE := ⟨54, none, "_law_deed", "_law_deed", (top 17), ["bag", "names", "word", "name"], f_deed, []⟩
def d12 : DE := ⟨59, none, "_law_end", "_law_end", (top 18), ["bag", "names", "count", "way", "word", "name"], f_end, []⟩
def d13 : DE := ⟨114, none, "_law_plan", "_law_plan", (top 19), ["bag", "count", "most", "names", "pieces", "k", "many", "end", "j"], f_plan, []⟩
def d14 : DE := ⟨52, none, "_law_count", "_law_count", (top 20), ["bag", "most"], f_count, []⟩
def d15 : DE := ⟨74, none, "_law_is_name", "_law_is_name", (top 21), ["thing", "sign"], fl_is_name_k04, []⟩
def d16 : DE := ⟨151, none, "_law_whole", "_law_whole", (top 22), ["thing"], f_whole, []⟩
def d17 : DE := ⟨72, none, "_law_is_deed", "_law_is_deed", (top 23), ["thing"], fl_is_deed, []⟩
def d18 : DE := ⟨73, none, "_law_is_end", "_law_is_end", (top 24), ["thing", "count", "sizes", "piece"], fl_is_end, []⟩
def d19 : DE := ⟨76, none, "_law_is_plan", "_law_is_plan", (top 25), ["thing", "piece", "deed"], fl_is_plan, []⟩
def d20 : DE := ⟨82, none, "_law_leaf", "_law_leaf", (top 26), ["bag", "count", "some"], f_leaf, []⟩
def d21 : DE := ⟨127, none, "_law_spoilt", "_law_spoilt", (top 27), ["bag", "thing", "count", "at", "way"], f_spoilt, []⟩
def d22 : DE := ⟨187, none, "law", "law", (top 28), ["script", "bag", "count", "plan", "k", "other", "found"], f_law_k04, []⟩
def ds : List DE := ([d0, d1, d2, d3, d4, d5, d6, d7, d8, d9, d10, d11, d12, d13, d14, d15, d16, d17, d18, d19, d20, d21, d22] : List DE)
def txt : Txt where
  ds := ds
  cn := []
  ci := [("MOST_PIECES", 8, 400), ("MOST_DEEDS", 4, 12)]
  cs := [("SMALL", 10, "abcdefghijklmnopqrstuvwxyz")]
  fld := fldG
  mt := []
  fl := []
  exs := exsG
  ct := []
theorem okTab : txt.okTab = true := by decide +kernel
theorem okDs : txt.okDs = true := by decide +kernel
theorem m42 : ∀ k, 1 ≤ k → BagS ((txt.ctx k).fn 42) := txt.up (f := 42) (fd := f_bag) (fun F => BagS F) rfl 0 fun k hk => bag_ok _
theorem m136 : ∀ k, 1 ≤ k → TakeS ((txt.ctx k).fn 136) := txt.up (f := 136) (fd := f_take) (fun F => TakeS F) rfl 0 fun k hk => take_ok _
theorem m52 : ∀ k, 2 ≤ k → CountS ((txt.ctx k).fn 52) := txt.up (f := 52) (fd := f_count) (fun F => CountS F) rfl 1 fun k hk => count_ok (txt.mono_ctx k) (m136 k (by omega))
theorem m92 : ∀ k, 2 ≤ k → NamesS ((txt.ctx k).fn 92) := txt.up (f := 92) (fd := f_names) (fun F => NamesS F) rfl 1 fun k hk => names_ok (txt.mono_ctx k) (m136 k (by omega))
theorem m96 : ∀ k, 2 ≤ k → NumS ((txt.ctx k).fn 96) := txt.up (f := 96) (fd := f_number) (fun F => NumS F) rfl 1 fun k hk => number_ok (txt.mono_ctx k) (m136 k (by omega))
theorem m54 : ∀ k, 3 ≤ k → DeedS ((txt.ctx k).fn 54) := txt.up (f := 54) (fd := f_deed) (fun F => DeedS F) rfl 2 fun k hk => deed_ok (txt.mono_ctx k) (m136 k (by omega)) (m96 k (by omega))
theorem m59 : ∀ k, 3 ≤ k → EndS ((txt.ctx k).fn 59) := txt.up (f := 59) (fd := f_end) (fun F => EndS F) rfl 2 fun k hk => end_ok (txt.mono_ctx k) (m136 k (by omega)) (m96 k (by omega))
theorem m114 : ∀ k, 4 ≤ k → PlanS ((txt.ctx k).fn 114) := txt.up (f := 114) (fd := f_plan) (fun F => PlanS F) rfl 3 fun k hk => plan_ok (txt.mono_ctx k) (m136 k (by omega)) (m92 k (by omega)) (m54 k (by omega)) (m59 k (by omega))
theorem gPlG (k : Nat) : PlG (txt.ctx k) := ⟨by rw [txt.cst_ctx]; rfl, by rw [txt.cst_ctx]; rfl, by rw [txt.cst_ctx]; rfl⟩
theorem m175 : ∀ k, 1 ≤ k → NamePS ((txt.ctx k).fn 175) := txt.up (f := 175) (fd := f_is_name) (fun F => NamePS F) rfl 0 fun k hk => is_name4_ok (txt.mono_ctx k) (gPlG k)
theorem m181 : ∀ k, 1 ≤ k → WholeS ((txt.ctx k).fn 181) := txt.up (f := 181) (fd := f_is_whole) (fun F => WholeS F) rfl 0 fun k hk => whole_ok _
theorem m172 : ∀ k, 2 ≤ k → DeedPS ((txt.ctx k).fn 172) := txt.up (f := 172) (fd := f_is_deed) (fun F => DeedPS F) rfl 1 fun k hk => is_deed4_ok (txt.mono_ctx k) (m175 k (by omega)) (m181 k (by omega))
theorem m176 : ∀ k, 2 ≤ k → NumOfS ((txt.ctx k).fn 176) := txt.up (f := 176) (fd := f_is_number_of) (fun F => NumOfS F) rfl 1 fun k hk => num_of_ok (txt.mono_ctx k) (m181 k (by omega))
theorem m173 : ∀ k, 3 ≤ k → EndPS ((txt.ctx k).fn 173) := txt.up (f := 173) (fd := f_is_end) (fun F => EndPS F) rfl 2 fun k hk => is_end4_ok (txt.mono_ctx k) (m175 k (by omega)) (m181 k (by omega)) (m176 k (by omega))
theorem m177 : ∀ k, 4 ≤ k → PiecePS ((txt.ctx k).fn 177) := txt.up (f := 177) (fd := f_is_piece) (fun F => PiecePS F) rfl 3 fun k hk => is_piece4_ok (txt.mono_ctx k) (gPlG k) (m172 k (by omega)) (m173 k (by omega))
theorem m178 : ∀ k, 5 ≤ k → PlanPS ((txt.ctx k).fn 178) := txt.up (f := 178) (fd := f_is_plan) (fun F => PlanPS F) rfl 4 fun k hk => is_plan4_ok (txt.mono_ctx k) (gPlG k) (m177 k (by omega))
theorem m82 : ∀ k, 2 ≤ k → LeafS4 ((txt.ctx k).fn 82) := txt.up (f := 82) (fd := f_leaf) (fun F => LeafS4 F) rfl 1 fun k hk => leaf4_ok (txt.mono_ctx k) (m136 k (by omega))
theorem m127_0 : ∀ k, 2 ≤ k → SpoilS4 0 ((txt.ctx k).fn 127) := fun _ _ => spoil4_0
theorem m127_1 : ∀ k, 3 ≤ k → SpoilS4 1 ((txt.ctx k).fn 127) := txt.up (f := 127) (fd := f_spoilt) (fun F => SpoilS4 1 F) rfl 2 fun k hk => spoil4_ok (txt.mono_ctx k) (m136 k (by omega)) (m82 k (by omega)) (m127_0 k (by omega))
theorem m127_2 : ∀ k, 4 ≤ k → SpoilS4 2 ((txt.ctx k).fn 127) := txt.up (f := 127) (fd := f_spoilt) (fun F => SpoilS4 2 F) rfl 3 fun k hk => spoil4_ok (txt.mono_ctx k) (m136 k (by omega)) (m82 k (by omega)) (m127_1 k (by omega))
theorem m127_3 : ∀ k, 5 ≤ k → SpoilS4 3 ((txt.ctx k).fn 127) := txt.up (f := 127) (fd := f_spoilt) (fun F => SpoilS4 3 F) rfl 4 fun k hk => spoil4_ok (txt.mono_ctx k) (m136 k (by omega)) (m82 k (by omega)) (m127_2 k (by omega))
theorem m127_4 : ∀ k, 6 ≤ k → SpoilS4 4 ((txt.ctx k).fn 127) := txt.up (f := 127) (fd := f_spoilt) (fun F => SpoilS4 4 F) rfl 5 fun k hk => spoil4_ok (txt.mono_ctx k) (m136 k (by omega)) (m82 k (by omega)) (m127_3 k (by omega))
theorem m127_5 : ∀ k, 7 ≤ k → SpoilS4 5 ((txt.ctx k).fn 127) := txt.up (f := 127) (fd := f_spoilt) (fun F => SpoilS4 5 F) rfl 6 fun k hk => spoil4_ok (txt.mono_ctx k) (m136 k (by omega)) (m82 k (by omega)) (m127_4 k (by omega))
theorem m127 : ∀ k, 7 ≤ k → SpoilS4 5 ((txt.ctx k).fn 127) := m127_5
theorem m74 : ∀ k, 1 ≤ k → NameLS ((txt.ctx k).fn 74) := txt.up (f := 74) (fd := fl_is_name_k04) (fun F => NameLS F) rfl 0 fun k hk => nameL_ok (txt.mono_ctx k)
theorem m151 : ∀ k, 1 ≤ k → WholeS ((txt.ctx k).fn 151) := txt.up (f := 151) (fd := f_whole) (fun F => WholeS F) rfl 0 fun k hk => whole4_ok _
theorem m72 : ∀ k, 2 ≤ k → DeedLS ((txt.ctx k).fn 72) := txt.up (f := 72) (fd := fl_is_deed) (fun F => DeedLS F) rfl 1 fun k hk => deedL4_ok (txt.mono_ctx k) (m74 k (by omega)) (m151 k (by omega))
theorem m73 : ∀ k, 2 ≤ k → EndLS4 ((txt.ctx k).fn 73) := txt.up (f := 73) (fd := fl_is_end) (fun F => EndLS4 F) rfl 1 fun k hk => endL4_ok (txt.mono_ctx k) (m74 k (by omega)) (m151 k (by omega))
theorem m76 : ∀ k, 3 ≤ k → PlanLS4 ((txt.ctx k).fn 76) := txt.up (f := 76) (fd := fl_is_plan) (fun F => PlanLS4 F) rfl 2 fun k hk => planL4_ok (txt.mono_ctx k) (m72 k (by omega)) (m73 k (by omega))
theorem core : ∀ ns : List Int, ns.length ≤ 63 → (txt.ctx 8).fn 187 [.scr ns] (fun _ => none) (fun v _ => v = .bl true) XF := by
  intro ns hn
  have k : Nat := 0
  rw [txt.fn_lev 7 (f := 187) (fd := f_law_k04) rfl]
  exact law4_ok (txt.mono_ctx 7) (m42 7 (by decide)) (m136 7 (by decide)) (m52 7 (by decide)) (m114 7 (by decide)) (m178 7 (by decide)) (m127 7 (by decide)) (m76 7 (by decide)) hn
abbrev R : PySem.W.OpenRow := PySem.W.OpenLaw.row PySem.Challenge.rw_ledpast_k04_what_is_a_plan
abbrev hk : PySem.W.Hook := He.hookX 5 txt.fas txt.dds [] txt.tf txt.ex
def ob (s : PySem.W.SharedT) : He.AlX := He.obsX 5 txt.fas txt.dds [] txt.tf txt.ex (HandSHeadRun.getT s)
theorem ob_eq (s : PySem.W.SharedT) : ob s = hk.obs s.abs := He.obsX_eq (HandSHeadRun.getT_eq s)
def looseL : List PySem.Str := ["is_whole", "SMALL", "MOST_PIECES", "MOST_DEEDS", "is_name", "is_deed", "is_number_of", "is_end", "is_piece", "is_plan", "_law_bag", "_law_take", "_law_names", "_law_number", "_law_deed", "_law_end", "_law_plan", "_law_count", "_law_is_name", "_law_whole", "_law_is_deed", "_law_is_end", "_law_is_plan", "_law_leaf", "_law_spoilt"]
theorem run (w : World) : HandSHeadRun.RunEq R (PySem.W.view R.prog [28]) hk ob 4000 looseL w := by
  intro os
  kernel_rfl
end MP.K04
open PySem PySem.W PySem.Calls PyProof.Rows
set_option maxRecDepth 100000 in
set_option maxHeartbeats 0 in
theorem PySem.Challenge.cw_ledpast_k04_what_is_a_plan_holds : PySem.Challenge.rw_ledpast_k04_what_is_a_plan.Holds := by
  w_on; o_law
  refine HandSHeadRun.head_any (r := OpenLaw.row PySem.Challenge.rw_ledpast_k04_what_is_a_plan) (q := view (OpenLaw.row PySem.Challenge.rw_ledpast_k04_what_is_a_plan).prog [28]) (H := MP.K04.hk) (ob := MP.K04.ob) (M := 4000) (loose := MP.K04.looseL) (d := HandSHeadRun.topDef (OpenLaw.row PySem.Challenge.rw_ledpast_k04_what_is_a_plan).prog 28) (kwd := []) MP.K04.ob_eq
    (by kernel_rfl) (fun s => by kernel_rfl) MP.K04.run (by kernel_rfl) (by kernel_rfl) (by kernel_rfl) (by rfl) (by first | assumption | decide +kernel) (by decide +kernel) ⟨rfl, rfl, rfl, rfl, rfl, by decide +kernel⟩ ?hw ?hc
  case hw => w_witness2
  case hc =>
    refine LamX.walk_ofTsE (l := PySem.Challenge.rw_ledpast_k04_what_is_a_plan) (n := 63) (k := 16) (x := "script") (CX := fun _ => L2.CX0) rfl (by decide) (by kernel_rfl) ⟨rfl, by decide, by decide⟩ ?F (fun _ _ _ _ _ z => z)
    intro w mg fa h Y G hmg0
    obtain ⟨K, KX, c⟩ := Y
    have hmg : mg ("law" : PySem.Str) = some (.ref fa) := by
      have e : (HandSHeadRun.topDef (OpenLaw.row PySem.Challenge.rw_ledpast_k04_what_is_a_plan).prog 28).name = ("law" : PySem.Str) := by kernel_rfl
      rw [← e]
      exact hmg0
    exact ⟨K, KX, MP.law_facts (d := MP.K04.d22) (x := "script") (n := 63) (k := 8) (l := PySem.Challenge.rw_ledpast_k04_what_is_a_plan) (P := (PySem.Challenge.rw_ledpast_k04_what_is_a_plan).prog) (w := w) rfl KX G hmg c MP.K04.okTab MP.K04.okDs (List.getElem_mem (l := MP.K04.ds) (n := 22) (by decide +kernel)) rfl rfl (by decide +kernel) MP.K04.core⟩
