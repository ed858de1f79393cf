import PyProof.Rows.All
import Wide.All
import OpenK.AllK
import Wide.FinOn
import HandS.ForMost
import HandS.TupAny
import HandS.TupMul
import HandS.Exc
import HandS.WordsExc
import HandS.Lambda
import HandS.Nested
import HandS.CallSlots
import HandS.Wide
import HandS.IsInst
import HandS.Deep
import HandS.Style
import HandS.TupLe
import HandS.ReplaceList
import KE.DataMinMax
import KE.KRevSl
import HandS.SuiteRaise
import KE.GoesComp
import KE.GoesRaise
import KE.KAsSuite
import HandS.Zip
import HandS.Walk
import KE.GoesMore
import HandS.ExcInitHot
import HandS.ExcField
import HandS.TryOnly
import HandS.Replace
import HandS.ReplaceDef
import HandS.ReplaceLit
import KE.KExcSuper
import HandS.HeadEnd
import HandS.HeadHook1
import HandS.HeadHook2
import HandS.Head2
import HandS.EndTab
import HandS.HeadWalk
import PySem.Challenge.RW_oddsrooms_k83_whole_texts_of_pieces
set_option linter.all false
/-! Mi1: data, a small language and its evaluator, over plain lists. -/
namespace Mi
open PySem (Str)

/-- pure data: it never changes -/
inductive D where
  | non | bl (b : Bool) | int (i : Int) | str (s : List Nat) | tup (ds : List D) | lst (ds : List D) | dks (kvs : List (List Nat × List Nat))
  deriving Inhabited

/-- what a name holds: data, a list that is read alone (the script), a list that may change (by its place in the store), a lambda of this frame, one of a frame around with what it captured, some of these in a row -/
inductive Vl where
  | d (x : D) | ro (ds : List D) | loc (l : Nat) | lam (k : Nat) (sl : List Nat) | clo (k : Nat) (caps : List Vl) | seq (vs : List Vl)
  deriving Inhabited

/-- the store -/
inductive O where
  | lst (ds : List D)
  deriving Inhabited
abbrev Store := List O
abbrev Env := List (Option Vl)

inductive Res (α : Type) where
  | ok (x : α) (S : Store) | exc (c : Nat) (d : D) (S : Store) | bad
  deriving Inhabited

inductive Bop | add | sub | mul | fdiv | mod | pow
  deriving DecidableEq
inductive Cop | eq | ne | lt | le | gt | ge | is_ | isnot | in_ | notin
  deriving DecidableEq
inductive Ty | int | bool | str | tuple | list
  deriving DecidableEq
/-- built-ins -/
inductive Blt | len | abs | int | str | tuple | list | max | all | any | rep
  deriving DecidableEq
/-- methods -/
inductive Mth | append | pop | split | join | replace | upper
  deriving DecidableEq
/-- what is walked -/
inductive Sk | it | rng1 | rng2 | enum | zip
  deriving DecidableEq
/-- targets -/
inductive T where
  | nm (i : Nat) | tp (ts : List T)

/-- expressions; mu: the list that is made may change -/
inductive E where
  | var (i : Nat) | non | bl (b : Bool) | int (i : Int) | str (s : List Nat) | gl (x : Nat)
  | tup (es : List E) | lst (mu : Bool) (es : List E) | dic
  | bin (o : Bop) (mu : Bool) (a b : E) | neg (a : E)
  | cmp (o : Cop) (a b : E) | chn (o p : Cop) (a b c : E)
  | and (es : List E) | or (es : List E) | not (a : E) | ife (c a b : E)
  | idx (a i : E) | sl (mu : Bool) (a : E) (lo hi : List E) | rev (mu : Bool) (a : E)
  | isi (a : E) (t : Ty)
  | call (f : Nat) (as : List E) (ks : List E)
  | blt (b : Blt) (mu : Bool) (as : List E)
  | mth (m : Mth) (o : E) (as : List E)
  | comp (mu : Bool) (own : List Nat) (t : T) (k : Sk) (src : List E) (cond : List E) (elt : E)
  | lam (k : Nat) (sl : List Nat)
  | cv (i : Nat)
  | un

/-- an except clause's suite: return ("tag", e.field) | raise C(v) from None -/
inductive Su where
  | rt (tag : List Nat) | rs (c : Nat) (v : D)
structure Hd where
  cls : List Nat
  nm : Option Nat
  su : Su
/-- statements -/
inductive St where
  | asg (t : T) (e : E) | par (is : List Nat) (es : List E) | ex (e : E) | iff (c : E) (a b : List St) | for_ (t : T) (k : Sk) (src : List E) (b : List St) | whl (c : E) (b : List St)
  | ret (e : E) | retn | brk | cnt | pas | rse (c : Nat) (e : E) | try_ (b : List St) (hs : List Hd) | un

inductive Fl where
  | nx (env : Env) (S : Store) | rt (v : Vl) (S : Store) | bk (env : Env) (S : Store) | ct (env : Env) (S : Store) | ex (c : Nat) (d : D) (env : Env) (S : Store) | bad
  deriving Inhabited

/-- a def: how many parameters, how many names, its body; keep: the list that it hands back may change -/
inductive Fn where
  | usr (np ns : Nat) (keep : Bool) (b : List St)
  | lam (np pad : Nat) (e : E)

structure Pg where
  fns : List Fn
  gls : List D
  /-- c is caught by a clause that names h -/
  sub : Nat → Nat → Bool
  /-- more than the turns of any while -/
  wf : Nat

abbrev Call := Nat → List Vl → Store → Res Vl

/-! ### operations on data -/
abbrev cutL {α : Type} (xs : List α) (lo hi : Option Int) : List α := (xs.drop (HT.sIx xs.length 0 lo)).take (HT.sIx xs.length xs.length hi - HT.sIx xs.length 0 lo)
mutual
/-- == -/
def D.eqv : D → D → Bool
  | .non, .non => true
  | .bl a, .bl b => a == b
  | .bl a, .int j => (if a then 1 else 0) == j
  | .int i, .bl b => i == (if b then 1 else 0)
  | .int i, .int j => i == j
  | .str x, .str y => x == y
  | .lst xs, .lst ys => D.eqvs xs ys
  | .tup xs, .tup ys => D.eqvs xs ys
  | _, _ => false
def D.eqvs : List D → List D → Bool
  | [], [] => true
  | x :: xs, y :: ys => D.eqv x y && D.eqvs xs ys
  | _, _ => false
end
mutual
/-- what == takes: no dict within, no deeper than n -/
def D.shp : Nat → D → Bool
  | _, .dks _ => false
  | 0, .tup _ => false
  | 0, .lst _ => false
  | n + 1, .tup xs => D.shps n xs
  | n + 1, .lst xs => D.shps n xs
  | _, .str x => x.all (· < 0x110000)
  | _, _ => true
def D.shps : Nat → List D → Bool
  | _, [] => true
  | n, x :: xs => D.shp n x && D.shps n xs
end
def D.flat : D → Bool
  | .non => true | .bl _ => true | .int _ => true | .str _ => true | _ => false
/-- the scalars that are compared as they are -/
def D.scal : D → D → Bool
  | .non, .non => true | .non, .int _ => true | .int _, .non => true | .non, .bl _ => true | .bl _, .non => true | .non, .str _ => true | .str _, .non => true
  | .int _, .int _ => true | .bl _, .bl _ => true | .str _, .str _ => true
  | .int _, .str _ => true | .str _, .int _ => true | .bl _, .str _ => true | .str _, .bl _ => true
  | _, _ => false
def eqOk (x y : D) : Bool := D.scal x y || (D.shp 60 x && D.shp 60 y)

/-- a list as it stands -/
def lview (S : Store) : Vl → Option (List D)
  | .d (.lst ds) => some ds
  | .ro ds => some ds
  | .loc l => match S[l]? with
    | some (.lst ds) => some ds
    | _ => none
  | _ => none
/-- .. that is not the script -/
def tview (S : Store) : Vl → Option (List D)
  | .d (.lst ds) => some ds
  | .loc l => match S[l]? with
    | some (.lst ds) => some ds
    | _ => none
  | _ => none
/-- data as it stands -/
def dview (S : Store) : Vl → Option D
  | .d x => some x
  | v => (lview S v).map .lst
abbrev line : Nat := 16777216
/-- a new list -/
def newL (mu : Bool) (ds : List D) (S : Store) : Res Vl :=
  if ds.length ≤ line then (if mu then .ok (.loc S.length) (S ++ [.lst ds]) else .ok (.d (.lst ds)) S) else .bad
def ofD (S : Store) : Option D → Res Vl
  | some x => .ok (.d x) S
  | none => .bad
def b2i (b : Bool) : Int := if b then 1 else 0
def isDig (c : Nat) : Bool := decide (48 ≤ c) && decide (c ≤ 57)
def digVal (s : List Nat) : Nat := s.foldl (fun a c => a * 10 + (c - 48)) 0
def numI (i : Int) : List Nat := if i < 0 then 45 :: TL.numL i.natAbs else TL.numL i.natAbs
def uppC (c : Nat) : Nat := if 97 ≤ c ∧ c ≤ 122 then c - 32 else c
/-- + - * // % ** -/
def binD (o : Bop) (mu : Bool) (x y : Vl) (S : Store) : Res Vl :=
  match o with
  | .add => match x, y with
    | .d (.int i), .d (.int j) => .ok (.d (.int (i + j))) S
    | .d (.str a), .d (.str b) => if a.length + b.length ≤ line then .ok (.d (.str (a ++ b))) S else .bad
    | .d (.tup a), .d (.tup b) => if a.length + b.length ≤ line then .ok (.d (.tup (a ++ b))) S else .bad
    | _, _ => match tview S x, tview S y with
      | some a, some b => newL mu (a ++ b) S
      | _, _ => .bad
  | .sub => match x, y with
    | .d (.int i), .d (.int j) => .ok (.d (.int (i - j))) S
    | _, _ => .bad
  | .mul => match x, y with
    | .d (.int i), .d (.int j) => if i.natAbs.log2 + j.natAbs.log2 < 1000000 then .ok (.d (.int (i * j))) S else .bad
    | .d (.str a), .d (.int j) => if 0 ≤ j ∧ a.length * j.toNat ≤ line ∧ j < 2 ^ 62 then .ok (.d (.str (List.replicate j.toNat a).flatten)) S else .bad
    | .d (.tup a), .d (.int j) => if a ≠ [] ∧ 2 ≤ j ∧ j ≤ 1000 ∧ a.length ≤ 1000 then .ok (.d (.tup (List.replicate j.toNat a).flatten)) S else .bad
    | _, .d (.int j) => match tview S x with
      | some a => if 0 ≤ j ∧ a.length * j.toNat ≤ line ∧ j < 2 ^ 62 then newL mu (List.replicate j.toNat a).flatten S else .bad
      | none => .bad
    | _, _ => .bad
  | .fdiv => match x, y with
    | .d (.int i), .d (.int j) => if 0 < j ∧ j.natAbs.log2 < 9000 then .ok (.d (.int (i / j))) S else .bad
    | _, _ => .bad
  | .mod => match x, y with
    | .d (.int i), .d (.int j) => if 0 < j then .ok (.d (.int (i % j))) S else .bad
    | _, _ => .bad
  | .pow => match x, y with
    | .d (.int i), .d (.int j) => if 0 ≤ j ∧ j ≤ 1000000 ∧ i.natAbs < 2 ^ 64 then .ok (.d (.int (i ^ j.toNat))) S else .bad
    | _, _ => .bad
/-- is a value None? (None stands alone) -/
def isN : Vl → Bool
  | .d .non => true
  | _ => false
def inS (x : D) : List D → Bool
  | [] => false
  | y :: ys => D.eqv y x || inS x ys
/-- x in y -/
def inD (x y : Vl) (S : Store) : Option Bool :=
  match x with
  | .d a => match y with
    | .d (.str z) => match a with
      | .str [c] => some (decide (c ∈ z))
      | _ => none
    | .d (.tup b) => if D.shp 60 a && D.shps 60 b then some (inS a b) else none
    | .d (.dks _) => none
    | _ => match lview S y with
      | some b => if D.shp 60 a && D.shps 60 b then some (inS a b) else none
      | none => none
  | _ => none
/-- comparisons -/
def cmpD (o : Cop) (x y : Vl) (S : Store) : Option Bool :=
  match o with
  | .eq => match dview S x, dview S y with
    | some a, some b => if eqOk a b then some (D.eqv a b) else none
    | _, _ => none
  | .ne => match dview S x, dview S y with
    | some a, some b => if eqOk a b then some (!D.eqv a b) else none
    | _, _ => none
  | .lt => match x, y with
    | .d (.int i), .d (.int j) => some (decide (i < j))
    | _, _ => none
  | .le => match x, y with
    | .d (.int i), .d (.int j) => some (decide (i ≤ j))
    | _, _ => none
  | .gt => match x, y with
    | .d (.int i), .d (.int j) => some (decide (j < i))
    | _, _ => none
  | .ge => match x, y with
    | .d (.int i), .d (.int j) => some (decide (j ≤ i))
    | _, _ => none
  | .is_ => if isN y then some (isN x) else none
  | .isnot => if isN y then some (!isN x) else none
  | .in_ => inD x y S
  | .notin => (inD x y S).map (!·)
/-- x[i] -/
def idxD (x i : Vl) (S : Store) : Option D :=
  match x, i with
  | .d (.tup a), .d (.int j) => L2.atI a j
  | .d (.str a), .d (.int j) => if a.length ≤ line then (L2.atI a j).map fun c => .str [c] else none
  | _, .d (.int j) => match lview S x with
    | some a => L2.atI a j
    | none => none
  | _, _ => none
/-- a slice's part: [] where it is left out -/
def parts : List Vl → Option (Option Int)
  | [] => some none
  | [.d (.int i)] => some (some i)
  | _ => none
def slD (mu : Bool) (x : Vl) (lo hi : Option Int) (S : Store) : Res Vl :=
  match x with
  | .d (.tup a) => .ok (.d (.tup (cutL a lo hi))) S
  | .d (.str a) => if a.length ≤ line then .ok (.d (.str (cutL a lo hi))) S else .bad
  | _ => match lview S x with
    | some a => newL mu (cutL a lo hi) S
    | none => .bad
def revD (mu : Bool) (x : Vl) (S : Store) : Res Vl :=
  match x with
  | .d (.str a) => if a.length ≤ line then .ok (.d (.str a.reverse)) S else .bad
  | _ => match tview S x with
    | some a => newL mu a.reverse S
    | none => .bad
/-- isinstance -/
def isiD (x : Vl) (t : Ty) : Option Bool :=
  match x with
  | .d .non => some false
  | .d (.bl _) => some (t == .bool || t == .int)
  | .d (.int _) => some (t == .int)
  | .d (.str _) => some (t == .str)
  | .d (.tup _) => some (t == .tuple)
  | .d (.lst _) => some (t == .list)
  | .loc _ => some (t == .list)
  | .d (.dks _) => some false
  | _ => none
def allB : List D → Option Bool
  | [] => some true
  | .bl b :: r => (allB r).map fun c => b && c
  | _ => none
def maxI (m : Int) : List D → Option Int
  | [] => some m
  | .int i :: r => maxI (if m < i then i else m) r
  | _ => none
def strsOf : List D → Option (List (List Nat))
  | [] => some []
  | .str x :: r => (strsOf r).map (x :: ·)
  | _ => none
def lenD (S : Store) : List Vl → Res Vl
  | [.d (.str a)] => if a.length ≤ line then .ok (.d (.int a.length)) S else .bad
  | [.d (.tup a)] => .ok (.d (.int a.length)) S
  | [x] => match lview S x with
    | some a => .ok (.d (.int a.length)) S
    | none => .bad
  | _ => .bad
def absD (S : Store) : List Vl → Res Vl
  | [.d (.int i)] => .ok (.d (.int (if i < 0 then -i else i))) S
  | _ => .bad
def intD (S : Store) : List Vl → Res Vl
  | [.d (.int i)] => .ok (.d (.int i)) S
  | [.d (.bl k)] => .ok (.d (.int (b2i k))) S
  | [.d (.str a)] => if a ≠ [] ∧ a.all isDig ∧ a.length ≤ 640 then .ok (.d (.int (digVal a))) S else .bad
  | _ => .bad
def strD (S : Store) : List Vl → Res Vl
  | [.d (.int i)] => if i.natAbs.log2 < 1920 then .ok (.d (.str (numI i))) S else .bad
  | _ => .bad
def tupleD (S : Store) : List Vl → Res Vl
  | [.d (.tup a)] => .ok (.d (.tup a)) S
  | [x] => match lview S x with
    | some a => .ok (.d (.tup a)) S
    | none => .bad
  | _ => .bad
def listD (mu : Bool) (S : Store) : List Vl → Res Vl
  | [.d (.tup a)] => newL mu a S
  | [x] => match lview S x with
    | some a => newL mu a S
    | none => .bad
  | _ => .bad
def maxD (S : Store) : List Vl → Res Vl
  | [.d (.int i), .d (.int j)] => .ok (.d (.int (if j > i then j else i))) S
  | [.d (.tup (.int i :: r))] => match maxI i r with
    | some m => .ok (.d (.int m)) S
    | none => .bad
  | _ => .bad
def allD (S : Store) : List Vl → Res Vl
  | [x] => match lview S x with
    | some a => match allB a with
      | some c => .ok (.d (.bl c)) S
      | none => .bad
    | none => .bad
  | _ => .bad
def bltD (b : Blt) (mu : Bool) (as : List Vl) (S : Store) : Res Vl :=
  match b with
  | .len => lenD S as
  | .abs => absD S as
  | .int => intD S as
  | .str => strD S as
  | .tuple => tupleD S as
  | .list => listD mu S as
  | .max => maxD S as
  | .all => allD S as
  | _ => .bad
/-- x.replace(y, z) at most so often -/
def replL (y z x : List Nat) : List Nat := TL.joinL z (TL.spl y 0 [] x)
def repl1 (y z x : List Nat) : List Nat := match TL.par y [] x with
  | some (a, b) => a ++ (z ++ b)
  | none => x
def appD (S : Store) : Vl → List Vl → Res Vl
  | .loc l, [.d x] => match S[l]? with
    | some (.lst ds) => if ds.length < line then .ok (.d .non) (S.set l (.lst (ds ++ [x]))) else .bad
    | _ => .bad
  | _, _ => .bad
def popD (S : Store) : Vl → List Vl → Res Vl
  | .loc l, [] => match S[l]? with
    | some (.lst ds) => match ds.getLast? with
      | some x => .ok (.d x) (S.set l (.lst ds.dropLast))
      | none => .bad
    | _ => .bad
  | _, _ => .bad
def splitD (S : Store) : Vl → List Vl → Res Vl
  | .d (.str a), [.d (.str b)] => if b ≠ [] ∧ b.all (· < 256) ∧ a.length + 2 ≤ line then .ok (.d (.lst ((TL.spl b 0 [] a).map .str))) S else .bad
  | _, _ => .bad
def joinD (S : Store) : Vl → List Vl → Res Vl
  | .d (.str a), [x] => match lview S x with
    | some ds => match strsOf ds with
      | some ys => if (ys.map (·.length)).sum + ys.length * a.length ≤ line then .ok (.d (.str (TL.joinL a ys))) S else .bad
      | none => .bad
    | none => .bad
  | _, _ => .bad
def replD (S : Store) : Vl → List Vl → Res Vl
  | .d (.str a), [.d (.str y), .d (.str z)] => if y ≠ [] ∧ (y == z) = false ∧ a.length + (a.length + 1) * z.length ≤ line then .ok (.d (.str (replL y z a))) S else .bad
  | .d (.str a), [.d (.str y), .d (.str z), .d (.int 1)] => if y ≠ [] ∧ (y == z) = false ∧ a.length + (a.length + 1) * z.length ≤ line then .ok (.d (.str (repl1 y z a))) S else .bad
  | _, _ => .bad
def uppD (S : Store) : Vl → List Vl → Res Vl
  | .d (.str a), [] => if a.all (· < 128) ∧ a.length ≤ 5592405 then .ok (.d (.str (a.map uppC))) S else .bad
  | _, _ => .bad
/-- what has the method -/
def mthO (m : Mth) (x : Vl) : Bool :=
  match x with
  | .loc _ => m == .append || m == .pop
  | .d (.str _) => m != .append && m != .pop
  | _ => false
def mthD (m : Mth) (o : Vl) (as : List Vl) (S : Store) : Res Vl :=
  match m with
  | .append => appD S o as
  | .pop => popD S o as
  | .split => splitD S o as
  | .join => joinD S o as
  | .replace => replD S o as
  | .upper => uppD S o as
/-- what a for or a comprehension goes through -/
def itemsV (S : Store) : Vl → Option (List Vl)
  | .d (.tup a) => some (a.map .d)
  | .d (.lst a) => some (a.map .d)
  | .d (.str a) => some (a.map fun c => .d (.str [c]))
  | .ro a => some (a.map .d)
  | .seq vs => some vs
  | _ => none
def datas : List Vl → Option (List D)
  | [] => some []
  | .d x :: r => (datas r).map (x :: ·)
  | _ => none
def enumD (n : Nat) : List D → List D
  | [] => []
  | x :: r => .tup [.int n, x] :: enumD (n + 1) r
def zipD : List D → List D → List D
  | x :: r, y :: t => .tup [x, y] :: zipD r t
  | _, _ => []
def it1D (S : Store) : List Vl → Option (List Vl)
  | [x] => itemsV S x
  | _ => none
def r1D : List Vl → Option (List Vl)
  | [.d (.int n)] => if -(2 ^ 62) ≤ n ∧ n < 2 ^ 62 then some ((List.range n.toNat).map fun (i : Nat) => Vl.d (.int (i : Int))) else none
  | _ => none
def r2D : List Vl → Option (List Vl)
  | [.d (.int a), .d (.int b)] => if (-(2 ^ 62) ≤ a ∧ a < 2 ^ 62) ∧ (-(2 ^ 62) ≤ b ∧ b < 2 ^ 62) then some ((List.range (b - a).toNat).map fun (i : Nat) => Vl.d (.int (a + (i : Int)))) else none
  | _ => none
/-- a tuple, or a list that stands -/
def seqD : Vl → Option (Bool × List D)
  | .d (.tup a) => some (true, a)
  | .d (.lst a) => some (false, a)
  | .ro a => some (false, a)
  | _ => none
def enD : List Vl → Option (List Vl)
  | [x] => (seqD x).map fun p => (enumD 0 p.2).map .d
  | _ => none
def zpD : List Vl → Option (List Vl)
  | [x, y] => match seqD x, seqD y with
    | some (a, xs), some (b, ys) => if a == b then some ((zipD xs ys).map .d) else none
    | _, _ => none
  | _ => none
def items (k : Sk) (as : List Vl) (S : Store) : Option (List Vl) :=
  match k with
  | .it => it1D S as
  | .rng1 => r1D as
  | .rng2 => r2D as
  | .enum => enD as
  | .zip => zpD as
mutual
/-- a target takes a value -/
def T.put : T → Vl → Env → Option Env
  | .nm i, v, env => if i < env.length then some (env.set i (some v)) else none
  | .tp ts, .d (.tup ds), env => T.puts ts ds env
  | .tp ts, .d (.lst ds), env => T.puts ts ds env
  | _, _, _ => none
def T.puts : List T → List D → Env → Option Env
  | [], [], env => some env
  | t :: ts, x :: ds, env => match T.put t (.d x) env with
    | some env' => T.puts ts ds env'
    | none => none
  | _, _, _ => none
end
def wipeE (env : Env) : List Nat → Env
  | [] => env
  | i :: r => wipeE (env.set i none) r
/-- a block's view of a slot: no lambda of the frame -/
def blkV : Option Vl → Option Vl
  | some (.lam _ _) => none
  | some (.seq _) => none
  | o => o
def blkE (env : Env) (own : List Nat) : Env := (wipeE env own).map blkV
/-- a comprehension's turns: t the target, c the test, e the element -/
def compL (t : T) (c : Env → Store → Option (Res Bool)) (e : Env → Store → Res Vl) (env : Env) : List D → List D → Store → Res (List D)
  | [], acc, S => .ok acc S
  | x :: r, acc, S => match T.put t (.d x) env with
    | none => .bad
    | some env1 => match c env1 S with
      | some (.ok false S1) => compL t c e env r acc S1
      | some (.exc k d S1) => .exc k d S1
      | some .bad => .bad
      | some (.ok true S1) => match e env1 S1 with
        | .ok (.d y) S2 => if acc.length < line then compL t c e env r (acc ++ [y]) S2 else .bad
        | .ok _ _ => .bad
        | .exc k d S2 => .exc k d S2
        | .bad => .bad
      | none => match e env1 S with
        | .ok (.d y) S2 => if acc.length < line then compL t c e env r (acc ++ [y]) S2 else .bad
        | .ok _ _ => .bad
        | .exc k d S2 => .exc k d S2
        | .bad => .bad
/-- a truth value -/
def asB : Res Vl → Res Bool
  | .ok (.d (.bl b)) S => .ok b S
  | .ok _ _ => .bad
  | .exc c d S => .exc c d S
  | .bad => .bad
/-- lambdas that are handed to a def: with what they captured -/
def getAll (env : Env) : List Nat → Option (List Vl)
  | [] => some []
  | i :: r => match env[i]? with
    | some (some (.d x)) => (getAll env r).map (.d x :: ·)
    | some (some (.loc l)) => (getAll env r).map (.loc l :: ·)
    | _ => none
mutual
def bindV (env : Env) : Vl → Option Vl
  | .lam k sl => (getAll env sl).map (.clo k)
  | .seq vs => (bindVs env vs).map .seq
  | v => some v
def bindVs (env : Env) : List Vl → Option (List Vl)
  | [] => some []
  | v :: r => match bindV env v with
    | some u => (bindVs env r).map (u :: ·)
    | none => none
end
def isDL : Vl → Bool
  | .d _ => true | .loc _ => true | _ => false
def isLam : Vl → Bool
  | .lam _ _ => true | .clo _ _ => true | _ => false

section
variable (P : Pg) (F : Call)
mutual
def evE : E → Env → Store → Res Vl
  | .var i, env, S => match env[i]? with
    | some (some v) => .ok v S
    | _ => .bad
  | .non, _, S => .ok (.d .non) S
  | .bl b, _, S => .ok (.d (.bl b)) S
  | .int i, _, S => .ok (.d (.int i)) S
  | .str s, _, S => .ok (.d (.str s)) S
  | .gl x, _, S => ofD S P.gls[x]?
  | .tup es, env, S => match evEs es env S with
    | .ok vs S1 => if vs.all isLam && !vs.isEmpty && decide (vs.length ≤ line) then .ok (.seq vs) S1 else (match datas vs with
      | some ds => if ds.length ≤ line then .ok (.d (.tup ds)) S1 else .bad
      | none => .bad)
    | .exc c d S1 => .exc c d S1
    | .bad => .bad
  | .lst mu es, env, S => match evEs es env S with
    | .ok vs S1 => if vs.all isLam && !vs.isEmpty && decide (vs.length ≤ line) then .ok (.seq vs) S1 else (match datas vs with
      | some ds => newL mu ds S1
      | none => .bad)
    | .exc c d S1 => .exc c d S1
    | .bad => .bad
  | .dic, _, S => .ok (.d (.dks [])) S
  | .bin o mu a b, env, S => match evE a env S with
    | .ok x S1 => match evE b env S1 with
      | .ok y S2 => binD o mu x y S2
      | .exc c d S2 => .exc c d S2
      | .bad => .bad
    | .exc c d S1 => .exc c d S1
    | .bad => .bad
  | .neg a, env, S => match evE a env S with
    | .ok (.d (.int i)) S1 => .ok (.d (.int (-i))) S1
    | .ok _ _ => .bad
    | .exc c d S1 => .exc c d S1
    | .bad => .bad
  | .cmp o a b, env, S => match evE a env S with
    | .ok x S1 => match evE b env S1 with
      | .ok y S2 => ofD S2 ((cmpD o x y S2).map .bl)
      | .exc c d S2 => .exc c d S2
      | .bad => .bad
    | .exc c d S1 => .exc c d S1
    | .bad => .bad
  | .chn o p a b c, env, S => match evE a env S with
    | .ok x S1 => match evE b env S1 with
      | .ok y S2 => match cmpD o x y S2 with
        | some true => match evE c env S2 with
          | .ok z S3 => ofD S3 ((cmpD p y z S3).map .bl)
          | .exc c d S3 => .exc c d S3
          | .bad => .bad
        | some false => .ok (.d (.bl false)) S2
        | none => .bad
      | .exc c d S2 => .exc c d S2
      | .bad => .bad
    | .exc c d S1 => .exc c d S1
    | .bad => .bad
  | .and es, env, S => evAnd es env S
  | .or es, env, S => evOr es env S
  | .not a, env, S => match asB (evE a env S) with
    | .ok b S1 => .ok (.d (.bl (!b))) S1
    | .exc c d S1 => .exc c d S1
    | .bad => .bad
  | .ife c a b, env, S => match asB (evE c env S) with
    | .ok true S1 => evE a env S1
    | .ok false S1 => evE b env S1
    | .exc c d S1 => .exc c d S1
    | .bad => .bad
  | .idx a i, env, S => match evE a env S with
    | .ok x S1 => match evE i env S1 with
      | .ok y S2 => ofD S2 (idxD x y S2)
      | .exc c d S2 => .exc c d S2
      | .bad => .bad
    | .exc c d S1 => .exc c d S1
    | .bad => .bad
  | .sl mu a lo hi, env, S => match evE a env S with
    | .ok x S1 => match evEs lo env S1 with
      | .ok l S2 => match parts l with
        | some i => match evEs hi env S2 with
          | .ok h S3 => match parts h with
            | some j => slD mu x i j S3
            | none => .bad
          | .exc c d S3 => .exc c d S3
          | .bad => .bad
        | none => .bad
      | .exc c d S2 => .exc c d S2
      | .bad => .bad
    | .exc c d S1 => .exc c d S1
    | .bad => .bad
  | .rev mu a, env, S => match evE a env S with
    | .ok x S1 => revD mu x S1
    | .exc c d S1 => .exc c d S1
    | .bad => .bad
  | .isi a t, env, S => match evE a env S with
    | .ok x S1 => ofD S1 ((isiD x t).map .bl)
    | .exc c d S1 => .exc c d S1
    | .bad => .bad
  | .call f as ks, env, S => match evEs as env S with
    | .ok vs S1 => match evEs ks env S1 with
      | .ok us S2 => match bindVs env (vs ++ us) with
        | some ws => F f ws S2
        | none => .bad
      | .exc c d S2 => .exc c d S2
      | .bad => .bad
    | .exc c d S1 => .exc c d S1
    | .bad => .bad
  | .blt b mu as, env, S => match evEs as env S with
    | .ok vs S1 => bltD b mu vs S1
    | .exc c d S1 => .exc c d S1
    | .bad => .bad
  | .mth m o as, env, S => match evE o env S with
    | .ok x S1 => if mthO m x then (match evEs as env S1 with
      | .ok vs S2 => mthD m x vs S2
      | .exc c d S2 => .exc c d S2
      | .bad => .bad) else .bad
    | .exc c d S1 => .exc c d S1
    | .bad => .bad
  | .comp mu own t k src cond elt, env, S => match evEs src env S with
    | .ok vs S1 => match items k vs S1 with
      | some xs => match datas xs with
        | some its => match compL t (fun env' S' => evC cond env' S') (fun env' S' => evE elt env' S') (blkE env own) its [] S1 with
          | .ok ds S2 => newL mu ds S2
          | .exc c d S2 => .exc c d S2
          | .bad => .bad
        | none => .bad
      | none => .bad
    | .exc c d S1 => .exc c d S1
    | .bad => .bad
  | .lam k sl, _, S => .ok (.lam k sl) S
  | .cv i, env, S => match env[i]? with
    | some (some (.clo k caps)) => F k caps S
    | _ => .bad
  | .un, _, _ => .bad
def evEs : List E → Env → Store → Res (List Vl)
  | [], _, S => .ok [] S
  | e :: es, env, S => match evE e env S with
    | .ok v S1 => match evEs es env S1 with
      | .ok vs S2 => .ok (v :: vs) S2
      | .exc c d S2 => .exc c d S2
      | .bad => .bad
    | .exc c d S1 => .exc c d S1
    | .bad => .bad
def evAnd : List E → Env → Store → Res Vl
  | [], _, _ => .bad
  | e :: es, env, S => match asB (evE e env S) with
    | .ok true S1 => if es.isEmpty then .ok (.d (.bl true)) S1 else evAnd es env S1
    | .ok false S1 => .ok (.d (.bl false)) S1
    | .exc c d S1 => .exc c d S1
    | .bad => .bad
def evOr : List E → Env → Store → Res Vl
  | [], _, _ => .bad
  | e :: es, env, S => match asB (evE e env S) with
    | .ok false S1 => if es.isEmpty then .ok (.d (.bl false)) S1 else evOr es env S1
    | .ok true S1 => .ok (.d (.bl true)) S1
    | .exc c d S1 => .exc c d S1
    | .bad => .bad
/-- a comprehension's test: none, or one -/
def evC : List E → Env → Store → Option (Res Bool)
  | [], _, _ => none
  | e :: _, env, S => some (asB (evE e env S))
end
/-- slots take values -/
def setAll (env : Env) : List Nat → List Vl → Option Env
  | [], [] => some env
  | i :: is, v :: vs => if i < env.length then setAll (env.set i (some v)) is vs else none
  | _, _ => none
/-- a for's turns -/
def forL (t : T) (body : Env → Store → Fl) : List Vl → Env → Store → Fl
  | [], env, S => .nx env S
  | x :: r, env, S => match T.put t x env with
    | none => .bad
    | some env1 => match body env1 S with
      | .nx env2 S2 => forL t body r env2 S2
      | .ct env2 S2 => forL t body r env2 S2
      | .bk env2 S2 => .nx env2 S2
      | f => f
/-- a while's turns -/
def whlL (c : Env → Store → Res Bool) (body : Env → Store → Fl) : Nat → Env → Store → Fl
  | 0, _, _ => .bad
  | n + 1, env, S => match c env S with
    | .ok true S1 => match body env S1 with
      | .nx env2 S2 => whlL c body n env2 S2
      | .ct env2 S2 => whlL c body n env2 S2
      | .bk env2 S2 => .nx env2 S2
      | f => f
    | .ok false S1 => .nx env S1
    | .exc k d S1 => .ex k d env S1
    | .bad => .bad
/-- the first clause that takes it -/
def pickH (c : Nat) : List Hd → Option Hd
  | [] => none
  | h :: r => if h.cls.any (P.sub c) then some h else pickH c r
mutual
def exS : St → Env → Store → Fl
  | .par is es, env, S => match evEs P F es env S with
    | .ok vs S1 => match setAll env is vs with
      | some env1 => .nx env1 S1
      | none => .bad
    | .exc c d S1 => .ex c d env S1
    | .bad => .bad
  | .asg t e, env, S => match evE P F e env S with
    | .ok v S1 => match T.put t v env with
      | some env1 => .nx env1 S1
      | none => .bad
    | .exc c d S1 => .ex c d env S1
    | .bad => .bad
  | .ex e, env, S => match evE P F e env S with
    | .ok _ S1 => .nx env S1
    | .exc c d S1 => .ex c d env S1
    | .bad => .bad
  | .iff c a b, env, S => match asB (evE P F c env S) with
    | .ok true S1 => exSs a env S1
    | .ok false S1 => exSs b env S1
    | .exc c d S1 => .ex c d env S1
    | .bad => .bad
  | .for_ t k src b, env, S => match evEs P F src env S with
    | .ok vs S1 => match items k vs S1 with
      | some xs => forL t (fun env' S' => exSs b env' S') xs env S1
      | none => .bad
    | .exc c d S1 => .ex c d env S1
    | .bad => .bad
  | .whl c b, env, S => whlL (fun env' S' => asB (evE P F c env' S')) (fun env' S' => exSs b env' S') P.wf env S
  | .ret e, env, S => match evE P F e env S with
    | .ok v S1 => .rt v S1
    | .exc c d S1 => .ex c d env S1
    | .bad => .bad
  | .retn, _, S => .rt (.d .non) S
  | .brk, env, S => .bk env S
  | .cnt, env, S => .ct env S
  | .pas, env, S => .nx env S
  | .rse c e, env, S => match evE P F e env S with
    | .ok (.d x) S1 => .ex c x env S1
    | .ok _ _ => .bad
    | .exc c d S1 => .ex c d env S1
    | .bad => .bad
  | .try_ b hs, env, S => match exSs b env S with
    | .ex c d env1 S1 => match pickH P c hs with
      | some h => match h.su with
        | .rt tag => .rt (.d (.tup [.str tag, d])) S1
        | .rs k v => .ex k v env1 S1
      | none => .ex c d env1 S1
    | f => f
  | .un, _, _ => .bad
def exSs : List St → Env → Store → Fl
  | [], env, S => .nx env S
  | s :: r, env, S => match exS s env S with
    | .nx env1 S1 => exSs r env1 S1
    | f => f
end
end
/-- a call's end: what was made within is gone, but for a list that is handed back -/
def finish (keep : Bool) (n : Nat) : Fl → Res Vl
  | .nx _ S => .ok (.d .non) (S.take n)
  | .rt (.d x) S => .ok (.d x) (S.take n)
  | .rt (.loc l) S => if l < n then .ok (.loc l) (S.take n) else (match S[l]? with
    | some (.lst ds) => if keep then .ok (.loc n) (S.take n ++ [.lst ds]) else .ok (.d (.lst ds)) (S.take n)
    | _ => .bad)
  | .ex c d _ S => .exc c d (S.take n)
  | _ => .bad
def finishE (n : Nat) : Res Vl → Res Vl
  | .ok (.d x) S => .ok (.d x) (S.take n)
  | .exc c d S => .exc c d (S.take n)
  | _ => .bad
/-- a call at level n -/
def callF (P : Pg) : Nat → Call
  | 0, _, _, _ => .bad
  | n + 1, f, as, S => match P.fns[f]? with
    | some (.usr np ns keep b) => if as.length = np then finish keep S.length (exSs P (callF P n) b (as.map some ++ List.replicate (ns - np) none) S) else .bad
    | some (.lam np pad e) => if as.length = np then finishE S.length (evE P (callF P n) e (List.replicate pad none ++ as.map some) S) else .bad
    | none => .bad
end Mi
set_option linter.all false
set_option maxRecDepth 100000
/-! Mi2: how data stands in the heap. -/
namespace Mi
open PySem PySem.Spec PyProof.Rows L2

abbrev toS (s : List Nat) : Str := ⟨s.toArray⟩
/-- a dict of texts to texts -/
def kvsV (kvs : List (List Nat × List Nat)) : List (Key × V) := kvs.map fun p => (Sum.inr (toS p.1), V.str (toS p.2))
/-- a written dict -/
def DksK (K : PySem.W.Frag) (a : Addr) (kvs : List (List Nat × List Nat)) : Prop := False
def KTup (K : PySem.W.Frag) (a : Addr) (xs : List V) : Prop := ∃ (o : Obj) (its : Array Value) (n : Nat), K.lookup a = some o ∧ o.cls = .type "tuple" ∧ o.data = .seq its n ∧ its.size ≤ sizeLine ∧ Vals xs its.toList
def TupAt (K : PySem.W.Frag) (ρ : List Addr) (H : Hp) (a : Addr) (xs : List V) : Prop := (H a = some (.tup xs) ∧ a ∉ ρ) ∨ KTup K a xs
theorem TupAt.sq {K : PySem.W.Frag} {ρ : List Addr} {H : Hp} {a : Addr} {xs : List V} (h : TupAt K ρ H a xs) : SqT K H a xs := by
  rcases h with h | h
  · exact .inl (.inl h.1)
  · exact .inr h
/-- a list that is read alone -/
def RoAt (K : PySem.W.Frag) (ρ : List Addr) (H : Hp) (a : Addr) (xs : List V) : Prop := (∃ o, H a = some (.frz o (.lst xs))) ∧ a ∉ ρ
mutual
/-- v is the data, in H, none of its lists at an address of ρ -/
def RD (K : PySem.W.Frag) (ρ : List Addr) (H : Hp) : D → V → Prop
  | .non, v => v = .non
  | .bl b, v => v = .bl b
  | .int i, v => v = .int i
  | .str s, v => v = .str (toS s)
  | .tup ds, v => ∃ a xs, v = .ref a ∧ TupAt K ρ H a xs ∧ RDs K ρ H ds xs
  | .lst ds, v => ∃ a xs, v = .ref a ∧ (H a = some (.lst xs) ∧ a ∉ ρ) ∧ RDs K ρ H ds xs
  | .dks kvs, v => ∃ a, v = .ref a ∧ ((H a = some (.dK (kvsV kvs)) ∧ a ∉ ρ) ∨ DksK K a kvs)
def RDs (K : PySem.W.Frag) (ρ : List Addr) (H : Hp) : List D → List V → Prop
  | [], [] => True
  | d :: ds, v :: vs => RD K ρ H d v ∧ RDs K ρ H ds vs
  | _, _ => False
end

/-- an object of the store -/
def RO (K : PySem.W.Frag) (ρ : List Addr) (H : Hp) : O → Addr → Prop
  | .lst ds, a => ∃ xs, H a = some (.lst xs) ∧ RDs K ρ H ds xs

/-- the store: ρ tells where it stands -/
structure RS (K : PySem.W.Frag) (T : List (Addr × Str)) (ρ : List Addr) (H : Hp) (S : Store) : Prop where
  len : ρ.length = S.length
  nd : ρ.Nodup
  obj : ∀ (l : Nat) (a : Addr) (o : O), ρ[l]? = some a → S[l]? = some o → RO K ρ H o a
  tab : LamX.Tabs T H

/-- from (ρ, H) to (ρ', H'): what stands stays, but the lists of ρ; new places were free -/
structure Ext (ρ : List Addr) (H : Hp) (ρ' : List Addr) (H' : Hp) : Prop where
  pre : ∃ more, ρ' = ρ ++ more ∧ ∀ a ∈ more, H a = none
  keep : ∀ a o, a ∉ ρ → H a = some o → (∀ ps, o ≠ .tbl ps) → H' a = some o
  dom : ∀ a, H' a = none → H a = none

section
variable {K : PySem.W.Frag} {T : List (Addr × Str)} {ρ ρ' ρ1 ρ2 : List Addr} {H H' H1 H2 : Hp} {S S' : Store}
theorem Ext.refl (ρ : List Addr) (H : Hp) : Ext ρ H ρ H := ⟨⟨[], by simp, by simp⟩, fun _ _ _ h _ => h, fun _ h => h⟩
theorem Ext.nmem (e : Ext ρ H ρ' H') {a : Addr} {o : HO} (hn : a ∉ ρ) (h : H a = some o) : a ∉ ρ' := by
  obtain ⟨more, rfl, hm⟩ := e.pre
  intro z
  rcases List.mem_append.mp z with z | z
  · exact hn z
  · rw [hm a z] at h; cases h
theorem Ext.get (e : Ext ρ H ρ' H') {l : Nat} {a : Addr} (h : ρ[l]? = some a) : ρ'[l]? = some a := by
  obtain ⟨more, rfl, _⟩ := e.pre
  have hl := (List.getElem?_eq_some_iff.mp h).1
  rw [List.getElem?_append_left hl]; exact h
theorem Ext.trans (e : Ext ρ H ρ1 H1) (f : Ext ρ1 H1 ρ2 H2) : Ext ρ H ρ2 H2 where
  pre := by
    obtain ⟨m1, rfl, h1⟩ := e.pre
    obtain ⟨m2, rfl, h2⟩ := f.pre
    refine ⟨m1 ++ m2, by simp, fun a ha => ?_⟩
    rcases List.mem_append.mp ha with z | z
    · exact h1 a z
    · exact e.dom a (h2 a z)
  keep := fun a o hn h ht => f.keep a o (e.nmem hn h) (e.keep a o hn h ht) ht
  dom := fun a h => e.dom a (f.dom a h)
mutual
theorem RD.ext (e : Ext ρ H ρ' H') : ∀ (d : D) (v : V), RD K ρ H d v → RD K ρ' H' d v
  | .non, v, h => h
  | .bl b, v, h => h
  | .int i, v, h => h
  | .str s, v, h => h
  | .tup ds, v, ⟨a, xs, h1, h2, h3⟩ => ⟨a, xs, h1, h2.elim (fun z => .inl ⟨e.keep _ _ z.2 z.1 (fun _ q => nomatch q), e.nmem z.2 z.1⟩) .inr, RDs.ext e ds xs h3⟩
  | .lst ds, v, ⟨a, xs, h1, z, h3⟩ => ⟨a, xs, h1, ⟨e.keep _ _ z.2 z.1 (fun _ q => nomatch q), e.nmem z.2 z.1⟩, RDs.ext e ds xs h3⟩
  | .dks kvs, v, ⟨a, h1, h2⟩ => ⟨a, h1, h2.elim (fun z => .inl ⟨e.keep _ _ z.2 z.1 (fun _ q => nomatch q), e.nmem z.2 z.1⟩) .inr⟩
theorem RDs.ext (e : Ext ρ H ρ' H') : ∀ (ds : List D) (vs : List V), RDs K ρ H ds vs → RDs K ρ' H' ds vs
  | [], [], _ => trivial
  | d :: ds, v :: vs, h => ⟨RD.ext e d v h.1, RDs.ext e ds vs h.2⟩
  | [], _ :: _, h => h.elim
  | _ :: _, [], h => h.elim
end
theorem RS.tracked (r : RS K T ρ H S) {l : Nat} {a : Addr} (h : ρ[l]? = some a) : ∃ xs, H a = some (.lst xs) := by
  have hl : l < S.length := by rw [← r.len]; exact (List.getElem?_eq_some_iff.mp h).1
  obtain ⟨o, ho⟩ : ∃ o, S[l]? = some o := ⟨S[l], List.getElem?_eq_getElem hl⟩
  cases o with
  | lst ds =>
    obtain ⟨xs, h1, _⟩ := r.obj l a _ h ho
    exact ⟨xs, h1⟩
theorem RS.free (r : RS K T ρ H S) {a : Addr} (h : H a = none) : a ∉ ρ := fun z => by
  obtain ⟨l, hl⟩ := List.mem_iff_getElem?.mp z
  obtain ⟨xs, e⟩ := r.tracked hl
  rw [h] at e; cases e
theorem RO.ext (e : Ext ρ H ρ' H') (o : O) (a : Addr) (h : ∃ xs, H' a = some (.lst xs) ∧ ∀ ds, o = .lst ds → RDs K ρ H ds xs) : RO K ρ' H' o a := by
  obtain ⟨xs, h1, h2⟩ := h
  cases o with
  | lst ds => exact ⟨xs, h1, RDs.ext e ds xs (h2 ds rfl)⟩
/-- a new object, tracked, of no place in the store -/
theorem Ext.new {p : Addr} {o : HO} (hp : H p = none) : Ext ρ H ρ (upd H p o) where
  pre := ⟨[], by simp, by simp⟩
  keep := fun a u _ h _ => by rw [upd_ne (ne_of_none h hp)]; exact h
  dom := fun a h => by
    by_cases e : a = p
    · rw [e]; exact hp
    · rw [upd_ne e] at h; exact h
theorem RS.new {p : Addr} {o : HO} (r : RS K T ρ H S) (hp : H p = none) : RS K T ρ (upd H p o) S where
  len := r.len
  nd := r.nd
  obj := fun l a u h1 h2 => by
    cases u with
    | lst ds =>
      obtain ⟨xs, e1, e2⟩ := r.obj l a _ h1 h2
      exact ⟨xs, by rw [upd_ne (ne_of_none e1 hp)]; exact e1, RDs.ext (Ext.new hp) ds xs e2⟩
  tab := r.tab.ext fun b u e => by rw [upd_ne (ne_of_none e hp)]; exact e
/-- a new list of the store -/
theorem Ext.loc {p : Addr} {o : HO} (hp : H p = none) : Ext ρ H (ρ ++ [p]) (upd H p o) where
  pre := ⟨[p], rfl, fun a ha => by rw [List.mem_singleton.mp ha]; exact hp⟩
  keep := fun a u _ h _ => by rw [upd_ne (ne_of_none h hp)]; exact h
  dom := fun a h => by
    by_cases e : a = p
    · rw [e]; exact hp
    · rw [upd_ne e] at h; exact h
theorem RS.loc {p : Addr} {ds : List D} {xs : List V} (r : RS K T ρ H S) (hp : H p = none) (hd : RDs K ρ H ds xs) : RS K T (ρ ++ [p]) (upd H p (.lst xs)) (S ++ [.lst ds]) where
  len := by simp [r.len]
  nd := by
    rw [List.nodup_append]
    refine ⟨r.nd, by simp, fun a ha b hb e => ?_⟩
    rw [List.mem_singleton.mp hb] at e
    exact r.free hp (e ▸ ha)
  obj := fun l a u h1 h2 => by
    by_cases hl : l < ρ.length
    · rw [List.getElem?_append_left hl] at h1
      rw [List.getElem?_append_left (by rw [← r.len]; exact hl)] at h2
      cases u with
      | lst es =>
        obtain ⟨ys, e1, e2⟩ := r.obj l a _ h1 h2
        exact ⟨ys, by rw [upd_ne (ne_of_none e1 hp)]; exact e1, RDs.ext (Ext.loc hp) es ys e2⟩
    · have e : l = ρ.length := by
        have := (List.getElem?_eq_some_iff.mp h1).1
        simp at this
        omega
      subst e
      rw [List.getElem?_append_right (Nat.le_refl _)] at h1
      rw [r.len, List.getElem?_append_right (Nat.le_refl _)] at h2
      simp at h1 h2
      subst h1 h2
      exact ⟨xs, upd_same, RDs.ext (Ext.loc hp) ds xs hd⟩
  tab := r.tab.ext fun b u e => by rw [upd_ne (ne_of_none e hp)]; exact e
/-- a list of the store is written -/
theorem Ext.set {l : Nat} {a : Addr} {xs : List V} (r : RS K T ρ H S) (h : ρ[l]? = some a) : Ext ρ H ρ (upd H a (.lst xs)) where
  pre := ⟨[], by simp, by simp⟩
  keep := fun b u hn e _ => by
    rw [upd_ne (fun z => hn (by rw [z]; exact List.mem_of_getElem? h))]; exact e
  dom := fun b e => by
    by_cases z : b = a
    · rw [z, upd_same] at e; cases e
    · rw [upd_ne z] at e; exact e
theorem TabN.write {P a : Addr} {nm : Str} {xs ys : List V} (t : LamX.TabS H P nm) (ha : H a = some (.lst xs)) : LamX.TabS (upd H a (.lst ys)) P nm := by
  obtain ⟨ps, h1, h2, h3⟩ := t
  refine ⟨ps, by rw [upd_ne (ne_of h1 ha (by intro z; cases z))]; exact h1, h2, fun pos cv hc => ?_⟩
  obtain ⟨c, e1, e2⟩ := h3 pos cv hc
  refine ⟨c, e1, ?_⟩
  rw [upd_ne (ne_of e2 ha (by unfold LamX.CodeO; intro z; cases z))]; exact e2
theorem RS.set {l : Nat} {a : Addr} {ds : List D} {xs : List V} (r : RS K T ρ H S) (h : ρ[l]? = some a) (hd : RDs K ρ H ds xs) : RS K T ρ (upd H a (.lst xs)) (S.set l (.lst ds)) where
  len := by simp [r.len]
  nd := r.nd
  obj := fun m b u h1 h2 => by
    by_cases hm : m = l
    · subst hm
      rw [h] at h1; cases h1
      have hl : m < S.length := by rw [← r.len]; exact (List.getElem?_eq_some_iff.mp h).1
      rw [List.getElem?_set_self hl] at h2; cases h2
      exact ⟨xs, upd_same, RDs.ext (Ext.set r h) ds xs hd⟩
    · rw [List.getElem?_set_ne (Ne.symm hm)] at h2
      have nb : b ≠ a := fun z => by
        subst z
        have h3 := (List.getElem?_eq_some_iff.mp h1)
        have h4 := (List.getElem?_eq_some_iff.mp h)
        exact hm ((List.getElem_inj r.nd).mp (h3.2.trans h4.2.symm))
      cases u with
      | lst es =>
        obtain ⟨ys, e1, e2⟩ := r.obj m b _ h1 h2
        exact ⟨ys, by rw [upd_ne nb]; exact e1, RDs.ext (Ext.set r h) es ys e2⟩
  tab := fun p hp => by
    obtain ⟨ys, e⟩ := r.tracked h
    exact TabN.write (r.tab p hp) e
theorem RDs.length : ∀ {ds : List D} {vs : List V}, RDs K ρ H ds vs → ds.length = vs.length
  | [], [], _ => rfl
  | _ :: ds, _ :: vs, h => by simp [RDs.length h.2]
  | [], _ :: _, h => h.elim
  | _ :: _, [], h => h.elim
theorem RDs.app : ∀ {ds es : List D} {vs us : List V}, RDs K ρ H ds vs → RDs K ρ H es us → RDs K ρ H (ds ++ es) (vs ++ us)
  | [], _, [], _, _, h => h
  | _ :: _, _, _ :: _, _, h, g => ⟨h.1, RDs.app h.2 g⟩
  | [], _, _ :: _, _, h, _ => h.elim
  | _ :: _, _, [], _, h, _ => h.elim
theorem RDs.get : ∀ {ds : List D} {vs : List V} {i : Nat} {d : D}, RDs K ρ H ds vs → ds[i]? = some d → ∃ v, vs[i]? = some v ∧ RD K ρ H d v
  | [], [], i, d, _, e => by simp at e
  | d :: ds, v :: vs, 0, d', h, e => by simp at e; subst e; exact ⟨v, rfl, h.1⟩
  | d :: ds, v :: vs, i + 1, d', h, e => by
    obtain ⟨u, h1, h2⟩ := RDs.get (i := i) h.2 (by simpa using e)
    exact ⟨u, by simpa using h1, h2⟩
  | [], _ :: _, _, _, h, _ => h.elim
  | _ :: _, [], _, _, h, _ => h.elim
theorem RDs.take : ∀ {ds : List D} {vs : List V} (n : Nat), RDs K ρ H ds vs → RDs K ρ H (ds.take n) (vs.take n)
  | _, _, 0, _ => by simp [RDs]
  | [], [], n + 1, _ => by simp [RDs]
  | _ :: _, _ :: _, n + 1, h => ⟨h.1, RDs.take n h.2⟩
  | [], _ :: _, _ + 1, h => h.elim
  | _ :: _, [], _ + 1, h => h.elim
theorem RDs.drop : ∀ {ds : List D} {vs : List V} (n : Nat), RDs K ρ H ds vs → RDs K ρ H (ds.drop n) (vs.drop n)
  | _, _, 0, h => h
  | [], [], n + 1, _ => by simp [RDs]
  | _ :: _, _ :: _, n + 1, h => RDs.drop n h.2
  | [], _ :: _, _ + 1, h => h.elim
  | _ :: _, [], _ + 1, h => h.elim
theorem RDs.rev : ∀ {ds : List D} {vs : List V}, RDs K ρ H ds vs → RDs K ρ H ds.reverse vs.reverse
  | [], [], _ => trivial
  | _ :: _, _ :: _, h => by
    rw [List.reverse_cons, List.reverse_cons]
    exact RDs.app (RDs.rev h.2) ⟨h.1, trivial⟩
  | [], _ :: _, h => h.elim
  | _ :: _, [], h => h.elim
theorem RDs.cut {ds : List D} {vs : List V} (lo hi : Option Int) (h : RDs K ρ H ds vs) : RDs K ρ H (cutL ds lo hi) (cutV vs lo hi) := by
  unfold cutV cutL
  rw [RDs.length h]
  exact (h.drop _).take _
theorem RDs.rep {ds : List D} {vs : List V} (h : RDs K ρ H ds vs) : ∀ n : Nat, RDs K ρ H (List.replicate n ds).flatten (List.replicate n vs).flatten
  | 0 => by simp [RDs]
  | n + 1 => by
    rw [List.replicate_succ, List.replicate_succ, List.flatten_cons, List.flatten_cons]
    exact RDs.app h (RDs.rep h n)
theorem RDs.atI {ds : List D} {vs : List V} {i : Int} {d : D} (h : RDs K ρ H ds vs) (e : L2.atI ds i = some d) : ∃ v, L2.atI vs i = some v ∧ RD K ρ H d v := by
  unfold L2.atI at e ⊢
  rw [RDs.length h] at e
  cases q : ixN vs.length i with
  | none => rw [q] at e; cases e
  | some j =>
    rw [q] at e
    exact h.get e
end
end Mi
set_option linter.all false
set_option maxRecDepth 100000
/-! Mi3: values, readings. -/
namespace Mi
open PySem PySem.Spec PyProof.Rows L2

/-- what a lambda is in the text: its words, the names that it captures (in the order of what it is called on) -/
structure LamI where
  params : Arguments
  body : Expr
  scope : Scope
  caps : List Str
  dflt : Option Int
  ps : List Str
abbrev LamT := Nat → Option LamI
/-- a frame: its cells, its qualified name -/
structure Fr0 where
  cells : List (Str × Addr)
  qual : Str
  N : List Str
  sc : Scope
/-- the slots sl are the names that the lambda captures -/
structure LamFits (fr : Fr0) (li : LamI) (sl : List Nat) : Prop where
  ix : sl.map (fun j => fr.N[j]?) = li.caps.map some
  free : ∀ y ∈ li.caps, (y, NameKind.free) ∈ li.scope.names
  caps : ∀ y ∈ li.scope.names, y.2 = .free → y.1 ∈ li.caps
  all : ∀ y ∈ li.scope.names, y.2 = .free → fr.sc.names.lookup y.1 = some .cell ∨ fr.sc.names.lookup y.1 = some .free
/-- the function of a lambda -/
def fnL (q : Str) (li : LamI) (cl : List (Str × Addr)) (dV pm cdv ctv : Value) : FuncData := { PySem.W.kla_fn "<lambda>" q li.params li.body li.scope cl pm cdv ctv with defaults := dV }
/-- its default -/
def DfAt (ρ : List Addr) (H : Hp) (d : Option Int) (dV : Value) : Prop := match d with
  | none => dV = .none
  | some i => ∃ T, dV = .ref T ∧ H T = some (.tup [.int i]) ∧ T ∉ ρ
/-- at f stands the lambda k with these cells -/
def CloAt (LI : LamT) (ρ : List Addr) (H : Hp) (k : Nat) (f : Addr) (q : Str) (cl : List (Str × NameKind) → List (Str × Addr)) (li : LamI) : Prop :=
  LI k = some li ∧ f ∉ ρ ∧ ∃ (c' : Addr) (dV pm ctv : Value), H f = some (.frz { cls := .type "function", data := .func (fnL q li (cl li.scope.names) dV pm (.ref c') ctv) } (.own 0)) ∧ H c' = some (LamX.CodeO c' q) ∧ c' ∉ ρ ∧ DfAt ρ H li.dflt dV
/-- the cells are those of the captured names, each its own -/
structure CloCl (cl : List (Str × Addr)) (caps : List Str) : Prop where
  only : ∀ y c, cl.lookup y = some c → y ∈ caps
  inj : ∀ x y c, cl.lookup x = some c → cl.lookup y = some c → x = y
mutual
def RVl (K : PySem.W.Frag) (LI : LamT) (fr : Option Fr0) (ρ : List Addr) (H : Hp) : Vl → V → Prop
  | .d x, v => RD K ρ H x v
  | .ro ds, v => ∃ a xs, v = .ref a ∧ RoAt K ρ H a xs ∧ RDs K ρ H ds xs
  | .loc l, v => ∃ a, v = .ref a ∧ ρ[l]? = some a
  | .lam k sl, v => ∃ f li fr', v = .ref f ∧ fr = some fr' ∧ LamFits fr' li sl ∧ CloAt LI ρ H k f (fr'.qual ++ "<lambda>") (fun ns => cloFrom fr'.cells ns []) li
  | .clo k caps, v => ∃ f q cl li, v = .ref f ∧ CloAt LI ρ H k f q (fun _ => cl) li ∧ CloCl cl li.caps ∧ RCap K LI ρ H cl li.caps caps
  | .seq vs, v => ∃ a xs, v = .ref a ∧ a ∉ ρ ∧ (H a = some (.tup xs) ∨ H a = some (.lst xs)) ∧ RVls K LI fr ρ H vs xs
def RVls (K : PySem.W.Frag) (LI : LamT) (fr : Option Fr0) (ρ : List Addr) (H : Hp) : List Vl → List V → Prop
  | [], [] => True
  | x :: xs, v :: vs => RVl K LI fr ρ H x v ∧ RVls K LI fr ρ H xs vs
  | _, _ => False
/-- what was captured, in locked cells -/
def RCap (K : PySem.W.Frag) (LI : LamT) (ρ : List Addr) (H : Hp) (cl : List (Str × Addr)) : List Str → List Vl → Prop
  | [], [] => True
  | y :: ys, x :: xs => (isDL x = true ∧ ∃ c oc u w, cl.lookup y = some c ∧ c ∉ ρ ∧ H c = some (.frz oc (.own 0)) ∧ oc.data = .cell (some u) ∧ RelV w u ∧ RVl K LI none ρ H x w) ∧ RCap K LI ρ H cl ys xs
  | _, _ => False
end
section
variable {K : PySem.W.Frag} {LI : LamT} {fr : Option Fr0} {T : List (Addr × Str)} {ρ ρ' : List Addr} {H H' : Hp} {S S' : Store}
theorem CloAt.ext (e : Ext ρ H ρ' H') {k : Nat} {f : Addr} {q : Str} {cl : List (Str × NameKind) → List (Str × Addr)} {li : LamI} (h : CloAt LI ρ H k f q cl li) : CloAt LI ρ' H' k f q cl li := by
  obtain ⟨h1, h2, c', dV, pm, ctv, h3, h4, h5, h6⟩ := h
  refine ⟨h1, e.nmem h2 h3, c', dV, pm, ctv, e.keep _ _ h2 h3 (fun _ z => nomatch z), e.keep _ _ h5 h4 (fun ps => LamX.codeO_ne ps), e.nmem h5 h4, ?_⟩
  unfold DfAt at h6 ⊢
  cases q : li.dflt with
  | none => rw [q] at h6; exact h6
  | some i =>
    rw [q] at h6
    obtain ⟨T, a, b, c⟩ := h6
    exact ⟨T, a, e.keep _ _ c b (fun _ z => nomatch z), e.nmem c b⟩
mutual
theorem RVl.ext (e : Ext ρ H ρ' H') : ∀ (fr : Option Fr0) (x : Vl) (v : V), RVl K LI fr ρ H x v → RVl K LI fr ρ' H' x v
  | _, .d x, v, h => RD.ext e x v h
  | _, .ro ds, v, ⟨a, xs, h1, ⟨⟨o, h2⟩, h3⟩, h4⟩ => ⟨a, xs, h1, ⟨⟨o, e.keep _ _ h3 h2 (fun _ z => nomatch z)⟩, e.nmem h3 h2⟩, RDs.ext e ds xs h4⟩
  | _, .loc l, v, ⟨a, h1, h2⟩ => ⟨a, h1, e.get h2⟩
  | _, .lam k _, v, ⟨f, li, fr', h1, h2, h0, h3⟩ => ⟨f, li, fr', h1, h2, h0, h3.ext e⟩
  | _, .clo k caps, v, ⟨f, q, cl, li, h1, h2, h0, h3⟩ => ⟨f, q, cl, li, h1, h2.ext e, h0, RCap.ext e cl li.caps caps h3⟩
  | fr, .seq vs, v, ⟨a, xs, h1, h2, h3, h4⟩ => ⟨a, xs, h1, h3.elim (fun z => e.nmem h2 z) (fun z => e.nmem h2 z), h3.elim (fun z => .inl (e.keep _ _ h2 z (fun _ z => nomatch z))) (fun z => .inr (e.keep _ _ h2 z (fun _ z => nomatch z))), RVls.ext e fr vs xs h4⟩
theorem RVls.ext (e : Ext ρ H ρ' H') : ∀ (fr : Option Fr0) (xs : List Vl) (vs : List V), RVls K LI fr ρ H xs vs → RVls K LI fr ρ' H' xs vs
  | _, [], [], _ => trivial
  | fr, x :: xs, v :: vs, h => ⟨RVl.ext e fr x v h.1, RVls.ext e fr xs vs h.2⟩
  | _, [], _ :: _, h => h.elim
  | _, _ :: _, [], h => h.elim
theorem RCap.ext (e : Ext ρ H ρ' H') (cl : List (Str × Addr)) : ∀ (ys : List Str) (xs : List Vl), RCap K LI ρ H cl ys xs → RCap K LI ρ' H' cl ys xs
  | [], [], _ => trivial
  | y :: ys, x :: xs, ⟨⟨h0, c, oc, u, w, h1, h2, h3, h4, h5, h6⟩, h7⟩ => ⟨⟨h0, c, oc, u, w, h1, e.nmem h2 h3, e.keep _ _ h2 h3 (fun _ z => nomatch z), h4, h5, RVl.ext e none x w h6⟩, RCap.ext e cl ys xs h7⟩
  | [], _ :: _, h => h.elim
  | _ :: _, [], h => h.elim
end
theorem RVls.length : ∀ {xs : List Vl} {vs : List V}, RVls K LI fr ρ H xs vs → xs.length = vs.length
  | [], [], _ => rfl
  | _ :: xs, _ :: vs, h => by simp [RVls.length h.2]
  | [], _ :: _, h => h.elim
  | _ :: _, [], h => h.elim
theorem RVls.app : ∀ {xs ys : List Vl} {vs us : List V}, RVls K LI fr ρ H xs vs → RVls K LI fr ρ H ys us → RVls K LI fr ρ H (xs ++ ys) (vs ++ us)
  | [], _, [], _, _, h => h
  | _ :: _, _, _ :: _, _, h, g => ⟨h.1, RVls.app h.2 g⟩
  | [], _, _ :: _, _, h, _ => h.elim
  | _ :: _, _, [], _, h, _ => h.elim
/-- data among values -/
theorem RVls.datas : ∀ {xs : List Vl} {vs : List V} {ds : List D}, RVls K LI fr ρ H xs vs → datas xs = some ds → RDs K ρ H ds vs
  | [], [], ds, _, e => by simp [Mi.datas] at e; subst e; trivial
  | .d x :: xs, v :: vs, ds, h, e => by
    simp only [Mi.datas, Option.map_eq_some_iff] at e
    obtain ⟨es, e1, rfl⟩ := e
    exact ⟨h.1, RVls.datas h.2 e1⟩
  | [], _ :: _, _, h, _ => h.elim
  | _ :: _, [], _, h, _ => h.elim
  | .ro _ :: _, _ :: _, _, _, e => by simp [Mi.datas] at e
  | .loc _ :: _, _ :: _, _, _, e => by simp [Mi.datas] at e
  | .lam _ _ :: _, _ :: _, _, _, e => by simp [Mi.datas] at e
  | .clo _ _ :: _, _ :: _, _, _, e => by simp [Mi.datas] at e
  | .seq _ :: _, _ :: _, _, _, e => by simp [Mi.datas] at e
theorem datas_length : ∀ {xs : List Vl} {ds : List D}, datas xs = some ds → xs.length = ds.length
  | [], ds, e => by simp [Mi.datas] at e; subst e; rfl
  | .d x :: xs, ds, e => by
    simp only [Mi.datas, Option.map_eq_some_iff] at e
    obtain ⟨es, e1, rfl⟩ := e
    simp [datas_length e1]
  | .ro _ :: _, _, e => by simp [Mi.datas] at e
  | .loc _ :: _, _, e => by simp [Mi.datas] at e
  | .lam _ _ :: _, _, e => by simp [Mi.datas] at e
  | .clo _ _ :: _, _, e => by simp [Mi.datas] at e
  | .seq _ :: _, _, e => by simp [Mi.datas] at e
/-- a list as it stands -/
theorem lview_ok (r : RS K T ρ H S) : ∀ {x : Vl} {v : V} {ds : List D}, RVl K LI fr ρ H x v → lview S x = some ds → ∃ a xs, v = .ref a ∧ SqL K H a xs ∧ RDs K ρ H ds xs
  | .d (.lst es), v, ds, h, e => by
    simp [lview] at e; subst e
    obtain ⟨a, xs, h1, h2, h3⟩ := h
    exact ⟨a, xs, h1, SqL.of h2.1, h3⟩
  | .ro es, v, ds, h, e => by
    simp [lview] at e; subst e
    obtain ⟨a, xs, h1, ⟨⟨o, h2⟩, _⟩, h3⟩ := h
    exact ⟨a, xs, h1, .inl (.inr ⟨o, h2⟩), h3⟩
  | .loc l, v, ds, h, e => by
    obtain ⟨a, h1, h2⟩ := h
    simp only [lview] at e
    split at e
    · rename_i es he
      simp at e; subst e
      obtain ⟨xs, h3, h4⟩ := r.obj l a _ h2 he
      exact ⟨a, xs, h1, SqL.of h3, h4⟩
    · cases e
  | .d .non, _, _, _, e => by simp [lview] at e
  | .d (.bl _), _, _, _, e => by simp [lview] at e
  | .d (.int _), _, _, _, e => by simp [lview] at e
  | .d (.str _), _, _, _, e => by simp [lview] at e
  | .d (.tup _), _, _, _, e => by simp [lview] at e
  | .d (.dks _), _, _, _, e => by simp [lview] at e
  | .lam _ _, _, _, _, e => by simp [lview] at e
  | .clo _ _, _, _, _, e => by simp [lview] at e
  | .seq _, _, _, _, e => by simp [lview] at e
theorem tview_ok (r : RS K T ρ H S) : ∀ {x : Vl} {v : V} {ds : List D}, RVl K LI fr ρ H x v → tview S x = some ds → ∃ a xs, v = .ref a ∧ H a = some (.lst xs) ∧ RDs K ρ H ds xs
  | .d (.lst es), v, ds, h, e => by
    simp [tview] at e; subst e
    obtain ⟨a, xs, h1, h2, h3⟩ := h
    exact ⟨a, xs, h1, h2.1, h3⟩
  | .loc l, v, ds, h, e => by
    obtain ⟨a, h1, h2⟩ := h
    simp only [tview] at e
    split at e
    · rename_i es he
      simp at e; subst e
      obtain ⟨xs, h3, h4⟩ := r.obj l a _ h2 he
      exact ⟨a, xs, h1, h3, h4⟩
    · cases e
  | .ro es, _, _, _, e => by simp [tview] at e
  | .d .non, _, _, _, e => by simp [tview] at e
  | .d (.bl _), _, _, _, e => by simp [tview] at e
  | .d (.int _), _, _, _, e => by simp [tview] at e
  | .d (.str _), _, _, _, e => by simp [tview] at e
  | .d (.tup _), _, _, _, e => by simp [tview] at e
  | .d (.dks _), _, _, _, e => by simp [tview] at e
  | .lam _ _, _, _, _, e => by simp [tview] at e
  | .clo _ _, _, _, _, e => by simp [tview] at e
  | .seq _, _, _, _, e => by simp [tview] at e
/-- data, for == -/
def D.py : D → PyData
  | .non => .none | .bl b => .bool b | .int i => .int i | .str s => .str (toS s) | .tup ds => .tuple (pys ds) | .lst ds => .list (pys ds) | .dks _ => .none
where pys : List D → List PyData
  | [] => []
  | d :: ds => D.py d :: pys ds
end
end Mi
set_option linter.all false
set_option maxRecDepth 100000
set_option maxHeartbeats 1000000
/-! Mi4: what is wanted behind a step; operators. -/
namespace Mi
open PySem PySem.Spec PyProof.Rows L2

/-- what stays through a law: the written part, the tables, the lambdas' words, the classes of errors (address, field) -/
structure Gi where
  K : PySem.W.Frag
  T : List (Addr × Str)
  LI : LamT
  CI : Nat → Option (Addr × Str)
/-- an error's value -/
def RX (g : Gi) (ρ : List Addr) (H : Hp) (c : Nat) (d : D) (cls : Value) (dx : Option Addr) : Prop :=
  ∃ C fl dd v, g.CI c = some (C, fl) ∧ cls = .ref C ∧ dx = some dd ∧ H dd = some (.xd [(fl, v)]) ∧ dd ∉ ρ ∧ RD g.K ρ H d v
/-- behind a step that raises nothing -/
def PoR (g : Gi) (fr : Option Fr0) (Q : VK) (ρ : List Addr) (H : Hp) : Res Vl → Prop
  | .ok x S' => ∀ v H' ρ', Ext ρ H ρ' H' → RS g.K g.T ρ' H' S' → RVl g.K g.LI fr ρ' H' x v → Q v H'
  | _ => False
/-- behind a step -/
def PoE (g : Gi) (fr : Option Fr0) (E : XK) (Q : VK) (ρ : List Addr) (H : Hp) : Res Vl → Prop
  | .ok x S' => ∀ v H' ρ', Ext ρ H ρ' H' → RS g.K g.T ρ' H' S' → RVl g.K g.LI fr ρ' H' x v → Q v H'
  | .exc c d S' => ∀ cls dx H' ρ', Ext ρ H ρ' H' → RS g.K g.T ρ' H' S' → RX g ρ' H' c d cls dx → E cls dx H'
  | .bad => False
def PoEs (g : Gi) (fr : Option Fr0) (E : XK) (Q : List V → Hp → Prop) (ρ : List Addr) (H : Hp) : Res (List Vl) → Prop
  | .ok xs S' => ∀ vs H' ρ', Ext ρ H ρ' H' → RS g.K g.T ρ' H' S' → RVls g.K g.LI fr ρ' H' xs vs → Q vs H'
  | .exc c d S' => ∀ cls dx H' ρ', Ext ρ H ρ' H' → RS g.K g.T ρ' H' S' → RX g ρ' H' c d cls dx → E cls dx H'
  | .bad => False
def PoB (g : Gi) (E : XK) (Q : Bool → Hp → Prop) (ρ : List Addr) (H : Hp) : Res Bool → Prop
  | .ok b S' => ∀ H' ρ', Ext ρ H ρ' H' → RS g.K g.T ρ' H' S' → Q b H'
  | .exc c d S' => ∀ cls dx H' ρ', Ext ρ H ρ' H' → RS g.K g.T ρ' H' S' → RX g ρ' H' c d cls dx → E cls dx H'
  | .bad => False
section
variable {g : Gi} {fr : Option Fr0} {E : XK} {Q : VK} {ρ ρ' : List Addr} {H H' : Hp} {r : Res Vl} {S : Store}
theorem PoE.mono (e : Ext ρ H ρ' H') (h : PoE g fr E Q ρ H r) : PoE g fr E Q ρ' H' r := by
  cases r with
  | ok x S' => exact fun v H2 ρ2 e2 s2 r2 => h v H2 ρ2 (e.trans e2) s2 r2
  | exc c d S' => exact fun cls dx H2 ρ2 e2 s2 r2 => h cls dx H2 ρ2 (e.trans e2) s2 r2
  | bad => exact h
theorem PoEs.mono {Q : List V → Hp → Prop} {r : Res (List Vl)} (e : Ext ρ H ρ' H') (h : PoEs g fr E Q ρ H r) : PoEs g fr E Q ρ' H' r := by
  cases r with
  | ok x S' => exact fun v H2 ρ2 e2 s2 r2 => h v H2 ρ2 (e.trans e2) s2 r2
  | exc c d S' => exact fun cls dx H2 ρ2 e2 s2 r2 => h cls dx H2 ρ2 (e.trans e2) s2 r2
  | bad => exact h
theorem PoB.mono {Q : Bool → Hp → Prop} {r : Res Bool} (e : Ext ρ H ρ' H') (h : PoB g E Q ρ H r) : PoB g E Q ρ' H' r := by
  cases r with
  | ok x S' => exact fun H2 ρ2 e2 s2 => h H2 ρ2 (e.trans e2) s2
  | exc c d S' => exact fun cls dx H2 ρ2 e2 s2 r2 => h cls dx H2 ρ2 (e.trans e2) s2 r2
  | bad => exact h
theorem PoR.mono (e : Ext ρ H ρ' H') (h : PoR g fr Q ρ H r) : PoR g fr Q ρ' H' r := by
  cases r with
  | ok x S' => exact fun v H2 ρ2 e2 s2 r2 => h v H2 ρ2 (e.trans e2) s2 r2
  | exc c d S' => exact h
  | bad => exact h
/-- the value is there, nothing is made -/
theorem PoR.val {x : Vl} {v : V} (h : PoR g fr Q ρ H (.ok x S)) (s : RS g.K g.T ρ H S) (r : RVl g.K g.LI fr ρ H x v) : Q v H := h v H ρ (Ext.refl ρ H) s r
/-- a new tuple -/
theorem PoR.tup {ds : List D} {xs : List V} {p : Addr} (h : PoR g fr Q ρ H (.ok (.d (.tup ds)) S)) (s : RS g.K g.T ρ H S) (hd : RDs g.K ρ H ds xs) (hp : H p = none) : Q (.ref p) (upd H p (.tup xs)) :=
  h _ _ ρ (Ext.new hp) (s.new hp) ⟨p, xs, rfl, .inl ⟨upd_same, s.free hp⟩, RDs.ext (Ext.new hp) ds xs hd⟩
/-- a new list -/
theorem PoR.lst {mu : Bool} {ds : List D} {xs : List V} {p : Addr} (h : PoR g fr Q ρ H (newL mu ds S)) (s : RS g.K g.T ρ H S) (hd : RDs g.K ρ H ds xs) (hp : H p = none) : Q (.ref p) (upd H p (.lst xs)) := by
  unfold newL at h
  split at h
  · cases mu with
    | true =>
      rw [if_pos rfl] at h
      exact h _ _ (ρ ++ [p]) (Ext.loc hp) (s.loc hp hd) ⟨p, rfl, by rw [← s.len, List.getElem?_append_right (Nat.le_refl _)]; simp⟩
    | false =>
      rw [if_neg Bool.false_ne_true] at h
      exact h _ _ ρ (Ext.new hp) (s.new hp) ⟨p, xs, rfl, ⟨upd_same, s.free hp⟩, RDs.ext (Ext.new hp) ds xs hd⟩
  · exact h.elim
theorem PoR.lst_len {mu : Bool} {ds : List D} (h : PoR g fr Q ρ H (newL mu ds S)) : ds.length ≤ sizeLine := by
  unfold newL at h
  split at h
  · rename_i q
    rw [sizeLine_eq]; exact q
  · exact h.elim
end
/-- a rule by values, weakened -/
theorem OpR.imp {X : Cx} {f : Value → Value → Sem Value} {r r' : R2} (h : OpR X f r) (i : ∀ x y H Q, r' x y H Q → r x y H Q) : OpR X f r' :=
  fun pins s σ H x y v u Q I rx ry q => h pins s σ H x y v u Q I rx ry (i _ _ _ _ q)
theorem OpR.at {X : Cx} {f : Value → Value → Sem Value} {r' : R2} (h : ∀ (x y : V) (H : Hp) (Q : VK), r' x y H Q → ∃ r : R2, OpR X f r ∧ r x y H Q) : OpR X f r' :=
  fun pins s σ H x y v u Q I rx ry q => by
    obtain ⟨r, h1, h2⟩ := h x y H Q q
    exact h1 pins s σ H x y v u Q I rx ry h2
/-- what a step on two values asks -/
def r2 (g : Gi) (fr : Option Fr0) (f : Vl → Vl → Store → Res Vl) : R2 := fun x y H Q => ∃ a b S ρ, RS g.K g.T ρ H S ∧ RVl g.K g.LI fr ρ H a x ∧ RVl g.K g.LI fr ρ H b y ∧ PoR g fr Q ρ H (f a b S)
def opO : Bop → Operator
  | .add => .Add | .sub => .Sub | .mul => .Mult | .fdiv => .FloorDiv | .mod => .Mod | .pow => .Pow
theorem len_toS (s : List Nat) : (toS s).length = s.length := by
  show s.toArray.size = _
  simp
theorem toS_app (a b : List Nat) : toS a ++ toS b = toS (a ++ b) := by
  show (⟨a.toArray ++ b.toArray⟩ : Str) = ⟨(a ++ b).toArray⟩
  simp
theorem line_eq : line = sizeLine := by rw [sizeLine_eq]
section
variable {X : Cx} {g : Gi} {fr : Option Fr0}
theorem r2_int {f : Vl → Vl → Store → Res Vl} : True := trivial
theorem opr_add (hK : g.K = X.K) (mu : Bool) : OpR X (binaryOp .Add) (r2 g fr (binD .add mu)) := OpR.at fun x y H Q h => by
  obtain ⟨a, b, S, ρ, s, ra, rb, h⟩ := h
  unfold binD at h; dsimp only at h
  split at h
  · -- ints
    rename_i i j
    cases ra; cases rb
    exact ⟨_, op_add, i, j, rfl, rfl, h.val s rfl⟩
  · rename_i i j
    cases ra; cases rb
    split at h
    · rename_i hl
      refine ⟨_, op_add_str, toS i, toS j, rfl, rfl, ?_, ?_⟩
      · rw [len_toS, len_toS, ← line_eq]; exact hl
      · rw [toS_app]; exact h.val s rfl
    · exact h.elim
  · rename_i i j
    obtain ⟨p, xs, rfl, hp, hx⟩ := ra
    obtain ⟨q, ys, rfl, hq, hy⟩ := rb
    split at h
    · rename_i hl
      refine ⟨_, op_catA, p, q, xs, ys, rfl, rfl, hK ▸ hp.sq, hK ▸ hq.sq, ?_, fun e => ?_, fun n e => ?_, fun n n2 r hr => ?_⟩
      · rw [← hx.length, ← hy.length, ← line_eq]; exact hl
      · have z := hx.length
        subst e
        have e0 : i = [] := List.eq_nil_of_length_eq_zero z
        subst e0
        exact h.val s ⟨q, ys, rfl, hq, hy⟩
      · have z := hy.length
        subst e
        have e0 : j = [] := List.eq_nil_of_length_eq_zero z
        subst e0
        rw [List.append_nil] at h
        exact h.val s ⟨p, xs, rfl, hp, hx⟩
      · exact h.tup s (hx.app hy) hr
    · exact h.elim
  · split at h
    · rename_i a1 b1 _ _ _ ds es h1 h2
      obtain ⟨p, xs, rfl, hp, hx⟩ := tview_ok s ra h1
      obtain ⟨q, ys, rfl, hq, hy⟩ := tview_ok s rb h2
      refine ⟨_, op_cat, p, q, xs, ys, rfl, rfl, hp, hq, ?_, fun r hr => h.lst s (hx.app hy) hr⟩
      have z := h.lst_len
      rw [List.length_append, hx.length, hy.length] at z
      exact z
    · exact h.elim
theorem opr_sub : OpR X (binaryOp .Sub) (r2 g fr (binD .sub mu)) := OpR.at fun x y H Q h => by
  obtain ⟨a, b, S, ρ, s, ra, rb, h⟩ := h
  unfold binD at h; dsimp only at h
  split at h
  · rename_i i j
    cases ra; cases rb
    exact ⟨_, op_sub, i, j, rfl, rfl, h.val s rfl⟩
  · exact h.elim
theorem opr_fdiv : OpR X (binaryOp .FloorDiv) (r2 g fr (binD .fdiv mu)) := OpR.at fun x y H Q h => by
  obtain ⟨a, b, S, ρ, s, ra, rb, h⟩ := h
  unfold binD at h; dsimp only at h
  split at h
  · rename_i i j
    cases ra; cases rb
    split at h
    · rename_i hc
      exact ⟨_, op_fdivW, i, j, rfl, rfl, hc, h.val s rfl⟩
    · exact h.elim
  · exact h.elim
theorem opr_mod : OpR X (binaryOp .Mod) (r2 g fr (binD .mod mu)) := OpR.at fun x y H Q h => by
  obtain ⟨a, b, S, ρ, s, ra, rb, h⟩ := h
  unfold binD at h; dsimp only at h
  split at h
  · rename_i i j
    cases ra; cases rb
    split at h
    · rename_i hc
      exact ⟨_, op_mod, i, j, rfl, rfl, hc, h.val s rfl⟩
    · exact h.elim
  · exact h.elim
theorem opr_pow : OpR X (binaryOp .Pow) (r2 g fr (binD .pow mu)) := OpR.at fun x y H Q h => by
  obtain ⟨a, b, S, ρ, s, ra, rb, h⟩ := h
  unfold binD at h; dsimp only at h
  split at h
  · rename_i i j
    cases ra; cases rb
    split at h
    · rename_i hc
      exact ⟨_, op_pow, i, j, rfl, rfl, hc, h.val s rfl⟩
    · exact h.elim
  · exact h.elim
end
end Mi
set_option linter.all false
set_option maxRecDepth 100000
set_option maxHeartbeats 1000000
/-! Mi5: * and comparisons. -/
namespace Mi
open PySem PySem.Spec PyProof.Rows L2

/-! ### data for == -/
theorem foldl_app (a : Array Nat) : ∀ (n : Nat) (acc : Array Nat), ((List.replicate n a).foldl (· ++ ·) acc).toList = acc.toList ++ (List.replicate n a.toList).flatten
  | 0, acc => by simp
  | n + 1, acc => by
    rw [List.replicate_succ, List.foldl_cons, foldl_app a n, List.replicate_succ, List.flatten_cons]
    simp
theorem eqv_all_py : ∀ xs ys : List D, True := fun _ _ => trivial
mutual
theorem shp_lay : ∀ (n : Nat) (d : D), D.shp n d = true → (D.py d).canLay0 = true ∧ (D.py d).depth ≤ n
  | _, .non, _ => by simp [D.py, PyData.canLay0, PyData.depth]
  | _, .bl _, _ => by simp [D.py, PyData.canLay0, PyData.depth]
  | _, .int _, _ => by simp [D.py, PyData.canLay0, PyData.depth]
  | n, .str s, h => by
    have h' : s.all (· < 0x110000) = true := by cases n <;> exact h
    refine ⟨?_, by simp [D.py, PyData.depth]⟩
    simp only [D.py, PyData.canLay0]
    unfold PyData.strOk
    show (s.toArray.all (· < 0x110000)) = true
    simpa using h'
  | 0, .tup _, h => by simp [D.shp] at h
  | 0, .lst _, h => by simp [D.shp] at h
  | n + 1, .tup ds, h => by
    obtain ⟨h1, h2⟩ := shps_lay n ds (by simpa [D.shp] using h)
    simp only [D.py, PyData.canLay0, PyData.depth]
    exact ⟨h1, by omega⟩
  | n + 1, .lst ds, h => by
    obtain ⟨h1, h2⟩ := shps_lay n ds (by simpa [D.shp] using h)
    simp only [D.py, PyData.canLay0, PyData.depth]
    exact ⟨h1, by omega⟩
  | n, .dks _, h => by cases n <;> simp [D.shp] at h
theorem shps_lay : ∀ (n : Nat) (ds : List D), D.shps n ds = true → PyData.canLayAll0 (D.py.pys ds) = true ∧ PyData.depthAll (D.py.pys ds) ≤ n
  | _, [], _ => by simp [D.py.pys, PyData.canLayAll0, PyData.depthAll]
  | n, d :: ds, h => by
    simp only [D.shps, Bool.and_eq_true] at h
    obtain ⟨h1, h2⟩ := shp_lay n d h.1
    obtain ⟨h3, h4⟩ := shps_lay n ds h.2
    simp only [D.py.pys, PyData.canLayAll0, PyData.depthAll, h1, h3, Bool.and_self]
    exact ⟨trivial, by omega⟩
end
theorem shp_shaped {d : D} (h : D.shp 60 d = true) : SeqAt.shaped (D.py d) = true := by
  obtain ⟨h1, h2⟩ := shp_lay 60 d h
  unfold SeqAt.shaped
  rw [h1, decide_eq_true (by omega : (D.py d).depth ≤ 64)]; rfl
theorem shps_shaped {ds : List D} (h : D.shps 60 ds = true) : SeqAt.shaped (.list (D.py.pys ds)) = true ∧ SeqAt.shaped (.tuple (D.py.pys ds)) = true := by
  obtain ⟨h1, h2⟩ := shps_lay 60 ds h
  have e1 : PyData.depth (.list (D.py.pys ds)) ≤ 64 := by simp only [PyData.depth]; omega
  have e2 : PyData.depth (.tuple (D.py.pys ds)) ≤ 64 := by simp only [PyData.depth]; omega
  unfold SeqAt.shaped
  refine ⟨?_, ?_⟩
  · rw [decide_eq_true e1]; simpa [PyData.canLay0] using h1
  · rw [decide_eq_true e2]; simpa [PyData.canLay0] using h1
theorem toS_eq (a b : List Nat) : (toS a == toS b) = (a == b) := by
  rw [Bool.eq_iff_iff, beq_iff_eq, beq_iff_eq]
  constructor
  · intro h
    have := congrArg (fun s : Str => s.cps.toList) h
    simpa using this
  · rintro rfl; rfl
mutual
theorem eqv_py : ∀ (n : Nat) (a b : D), D.shp n a = true → D.shp n b = true → PyData.eqv (D.py a) (D.py b) = D.eqv a b
  | n + 1, .tup xs, .tup ys, h1, h2 => by
    simp only [D.py, PyData.eqv, D.eqv]
    exact eqvs_py n xs ys (by simpa [D.shp] using h1) (by simpa [D.shp] using h2)
  | n + 1, .lst xs, .lst ys, h1, h2 => by
    simp only [D.py, PyData.eqv, D.eqv]
    exact eqvs_py n xs ys (by simpa [D.shp] using h1) (by simpa [D.shp] using h2)
  | 0, .tup _, _, h, _ => by simp [D.shp] at h
  | 0, .lst _, _, h, _ => by simp [D.shp] at h
  | n, .dks _, _, h, _ => by cases n <;> simp [D.shp] at h
  | n, .non, b, _, h => by cases b <;> first | (simp [D.py, PyData.eqv, D.eqv]; done) | (cases n <;> simp [D.shp] at h)
  | n, .bl _, b, _, h => by cases b <;> first | (simp [D.py, PyData.eqv, D.eqv]; done) | (cases n <;> simp [D.shp] at h)
  | n, .int _, b, _, h => by cases b <;> first | (simp [D.py, PyData.eqv, D.eqv]; done) | (cases n <;> simp [D.shp] at h)
  | n, .str x, b, _, h => by
    cases b with
    | str y => simp only [D.py, PyData.eqv, D.eqv]; exact toS_eq x y
    | dks _ => cases n <;> simp [D.shp] at h
    | _ => simp [D.py, PyData.eqv, D.eqv]
  | n + 1, .tup xs, b, _, h => by
    cases b with
    | tup ys => rename_i h1; simp only [D.py, PyData.eqv, D.eqv]; exact eqvs_py n xs ys (by simpa [D.shp] using h1) (by simpa [D.shp] using h)
    | dks _ => simp [D.shp] at h
    | _ => simp [D.py, PyData.eqv, D.eqv]
  | n + 1, .lst xs, b, _, h => by
    cases b with
    | lst ys => rename_i h1; simp only [D.py, PyData.eqv, D.eqv]; exact eqvs_py n xs ys (by simpa [D.shp] using h1) (by simpa [D.shp] using h)
    | dks _ => simp [D.shp] at h
    | _ => simp [D.py, PyData.eqv, D.eqv]
theorem eqvs_py : ∀ (n : Nat) (xs ys : List D), D.shps n xs = true → D.shps n ys = true → PyData.eqvAll (D.py.pys xs) (D.py.pys ys) = D.eqvs xs ys
  | _, [], [], _, _ => by simp [D.py.pys, PyData.eqvAll, D.eqvs]
  | n, x :: xs, y :: ys, h1, h2 => by
    simp only [D.shps, Bool.and_eq_true] at h1 h2
    simp only [D.py.pys, PyData.eqvAll, D.eqvs]
    rw [eqv_py n x y h1.1 h2.1, eqvs_py n xs ys h1.2 h2.2]
  | _, [], _ :: _, _, _ => by simp [D.py.pys, PyData.eqvAll, D.eqvs]
  | _, _ :: _, [], _, _ => by simp [D.py.pys, PyData.eqvAll, D.eqvs]
end
theorem inS_py (x : D) (hx : D.shp 60 x = true) : ∀ ys : List D, D.shps 60 ys = true → ((D.py.pys ys).any fun z => PyData.eqv z (D.py x)) = inS x ys
  | [], _ => by simp [D.py.pys, inS]
  | y :: ys, h => by
    simp only [D.shps, Bool.and_eq_true] at h
    simp only [D.py.pys, List.any_cons, inS]
    rw [eqv_py 60 y x h.1 hx, inS_py x hx ys h.2]
section
variable {K : PySem.W.Frag} {LI : LamT} {fr : Option Fr0} {T : List (Addr × Str)} {ρ ρ' : List Addr} {H H' : Hp} {S S' : Store}
mutual
theorem RD.dp : ∀ (n : Nat) (d : D) (v : V), D.shp n d = true → RD K ρ H d v → Dp K H v (D.py d)
  | _, .non, _, _, h => by cases h; exact .non
  | _, .bl _, _, _, h => by cases h; exact .bl _
  | _, .int _, _, _, h => by cases h; exact .int _
  | _, .str _, _, _, h => by cases h; exact .str _
  | 0, .tup _, _, h, _ => by simp [D.shp] at h
  | 0, .lst _, _, h, _ => by simp [D.shp] at h
  | n + 1, .tup ds, _, hs, ⟨a, xs, h1, h2, h3⟩ => by
    subst h1
    exact .tup h2.sq (RDs.dp n ds xs (by simpa [D.shp] using hs) h3)
  | n + 1, .lst ds, _, hs, ⟨a, xs, h1, h2, h3⟩ => by
    subst h1
    exact .lst (SqL.of h2.1) (RDs.dp n ds xs (by simpa [D.shp] using hs) h3)
  | n, .dks _, _, h, _ => by cases n <;> simp [D.shp] at h
theorem RDs.dp : ∀ (n : Nat) (ds : List D) (vs : List V), D.shps n ds = true → RDs K ρ H ds vs → DpAll K H vs (D.py.pys ds)
  | _, [], [], _, _ => .nil
  | n, d :: ds, v :: vs, hs, h => by
    simp only [D.shps, Bool.and_eq_true] at hs
    exact .cons (RD.dp n d v hs.1 h.1) (RDs.dp n ds vs hs.2 h.2)
  | _, [], _ :: _, _, h => h.elim
  | _, _ :: _, [], _, h => h.elim
end
theorem dview_dp (r : RS K T ρ H S) {x : Vl} {v : V} {d : D} (h : RVl K LI fr ρ H x v) (e : dview S x = some d) (hs : D.shp 60 d = true) : Dp K H v (D.py d) := by
  have lst : ∀ ds, lview S x = some ds → d = .lst ds → Dp K H v (D.py d) := fun ds e1 e2 => by
    obtain ⟨a, xs, rfl, h2, h3⟩ := lview_ok r h e1
    subst e2
    exact .lst h2 (RDs.dp 59 ds xs (by simpa [D.shp] using hs) h3)
  cases x with
  | d y =>
    simp [dview] at e; subst e
    exact RD.dp 60 _ v hs h
  | _ =>
    simp only [dview, Option.map_eq_some_iff] at e
    obtain ⟨ds, e1, rfl⟩ := e
    exact lst ds e1 rfl
end
theorem scal_ok {K : PySem.W.Frag} {ρ : List Addr} {H : Hp} {a b : D} {v w : V} (h : D.scal a b = true) (ha : RD K ρ H a v) (hb : RD K ρ H b w) : scal v w = true ∧ decide (v = w) = D.eqv a b := by
  cases a <;> cases b <;> first
    | (simp [D.scal] at h; done)
    | (cases ha; cases hb; refine ⟨rfl, ?_⟩; first
        | (simp [D.eqv]; done)
        | (rename_i x y; rw [dec_str, toS_eq]; rfl)
        | (rename_i x y; rw [dec_int]; rfl)
        | (rename_i x y; rw [dec_bl]; rfl))
def cop : Cop → CmpOp
  | .eq => .Eq | .ne => .NotEq | .lt => .Lt | .le => .LtE | .gt => .Gt | .ge => .GtE | .is_ => .Is | .isnot => .IsNot | .in_ => .In | .notin => .NotIn
/-- what a comparison asks -/
def rc (g : Gi) (fr : Option Fr0) (o : Cop) : R2 := fun x y H Q => ∃ a b S ρ k, RS g.K g.T ρ H S ∧ RVl g.K g.LI fr ρ H a x ∧ RVl g.K g.LI fr ρ H b y ∧ cmpD o a b S = some k ∧ Q (.bl k) H
section
variable {X : Cx} {g : Gi} {fr : Option Fr0}
/-- str * int -/
theorem op_mulS : OpR X (binaryOp .Mult) (fun x y H Q => ∃ (a : List Nat) (j : Int), x = .str (toS a) ∧ y = .int j ∧ 0 ≤ j ∧ a.length * j.toNat ≤ sizeLine ∧ j < 2 ^ 62 ∧ Q (.str (toS (List.replicate j.toNat a).flatten)) H) := by
  intro pins s σ H x y v u Q I rx ry h
  obtain ⟨a, j, rfl, rfl, h0, hl, hj, q⟩ := h
  obtain ⟨t, rfl⟩ := rx
  obtain ⟨t', rfl⟩ := ry
  have hlen : (toS a).length = a.length := len_toS a
  have hs := sizeLine_eq
  refine PySem.P.mul_str ?_ ?_ ?_ ?_
  · rw [decide_eq_false (by omega), decide_eq_false (by omega)]; rfl
  · intro h1 h2
    rw [hlen]
    have h3 : a.length * j.toNat ≤ 16777216 := by omega
    have h4 : (a.length : Int) * j ≤ 16777216 := by
      have : ((a.length * j.toNat : Nat) : Int) = (a.length : Int) * j := by
        rw [Int.natCast_mul, Int.toNat_of_nonneg h0]
      omega
    have h5 : (0 : Int) < j := by omega
    have h6 : (a.length : Int) ≤ (2 ^ 63 - 1) / j := by
      rw [Int.le_ediv_iff_mul_le h5]
      omega
    omega
  · intro h1 h2
    rw [hlen]
    unfold Builtin.Str.tooLong
    exact decide_eq_false (by omega)
  · have e3 : (⟨(List.replicate j.toNat (toS a).cps).foldl (· ++ ·) #[]⟩ : Str) = toS (List.replicate j.toNat a).flatten := by
      have z := foldl_app (toS a).cps j.toNat #[]
      show (⟨_⟩ : Str) = ⟨(List.replicate j.toNat a).flatten.toArray⟩
      congr 1
      apply Array.ext'
      rw [z]
      simp
    have flen : ((List.replicate j.toNat a).flatten).length = a.length * j.toNat := by
      rw [List.length_flatten]; simp [Nat.mul_comm]
    by_cases h1 : j < 1
    · rw [if_pos h1]
      have e0 : j.toNat = 0 := by omega
      refine ⟨by decide, .str _, H, I.tok _, ⟨_, rfl⟩, ?_⟩
      rw [e0] at q
      exact q
    · rw [if_neg h1]
      by_cases h2 : (j == 1 || (toS a).length == 0) = true
      · rw [if_pos h2]
        have e4 : (List.replicate j.toNat a).flatten = a := by
          rw [Bool.or_eq_true] at h2
          rcases h2 with z | z
          · have : j.toNat = 1 := by have := beq_iff_eq.mp z; omega
            rw [this]; simp
          · have z1 := beq_iff_eq.mp z
            rw [hlen] at z1
            have : a = [] := List.eq_nil_of_length_eq_zero z1
            subst this
            simp
        rw [e4] at q
        exact ⟨.str _, H, I, ⟨_, rfl⟩, q⟩
      · rw [if_neg h2, e3]
        exact ⟨by rw [len_toS, flen]; exact hl, .str _, H, I.tok _, ⟨_, rfl⟩, q⟩
theorem opr_mul (hK : g.K = X.K) (mu : Bool) : OpR X (binaryOp .Mult) (r2 g fr (binD .mul mu)) := OpR.at fun x y H Q h => by
  obtain ⟨a, b, S, ρ, s, ra, rb, h⟩ := h
  unfold binD at h; dsimp only at h
  split at h
  · rename_i i j
    cases ra; cases rb
    split at h
    · rename_i hc
      exact ⟨_, op_mulW, i, j, rfl, rfl, hc, h.val s rfl⟩
    · exact h.elim
  · rename_i a j
    cases ra; cases rb
    split at h
    · rename_i hc
      exact ⟨_, op_mulS, a, j, rfl, rfl, hc.1, by rw [← line_eq]; exact hc.2.1, hc.2.2, h.val s rfl⟩
    · exact h.elim
  · rename_i a j
    obtain ⟨p, xs, rfl, hp, hx⟩ := ra
    cases rb
    split at h
    · rename_i hc
      refine ⟨_, op_repT, p, j, xs, rfl, rfl, hK ▸ hp.sq, ?_, hc.2.1, hc.2.2.1, ?_, fun q hq => h.tup s (hx.rep _) hq⟩
      · intro z
        have z1 := hx.length
        rw [z] at z1
        exact hc.1 (List.eq_nil_of_length_eq_zero z1)
      · rw [← hx.length]; exact hc.2.2.2
    · exact h.elim
  · rename_i j _ _ _
    cases rb
    split at h
    · rename_i ds e
      split at h
      · rename_i hc
        obtain ⟨p, xs, rfl, hp, hx⟩ := tview_ok s ra e
        refine ⟨_, op_rep, p, j, xs, rfl, rfl, hp, by omega, by omega, ?_, fun q hq => h.lst s (hx.rep _) hq⟩
        rw [← hx.length, ← line_eq]; exact hc.2.1
      · exact h.elim
    · exact h.elim
  · exact h.elim
/-- x in t: a tuple of data -/
def rInT (K : PySem.W.Frag) : R2 := fun x y H Q => ∃ d ds, Dp K H x d ∧ Dp K H y (.tuple ds) ∧ SeqAt.shaped d = true ∧ SeqAt.shaped (.tuple ds) = true ∧ Q (.bl (ds.any fun z => PyData.eqv z d)) H
def rNotInT (K : PySem.W.Frag) : R2 := fun x y H Q => ∃ d ds, Dp K H x d ∧ Dp K H y (.tuple ds) ∧ SeqAt.shaped d = true ∧ SeqAt.shaped (.tuple ds) = true ∧ Q (.bl (!ds.any fun z => PyData.eqv z d)) H
theorem op_inT (hu : X.A.units + 65 < cLine) : OpR X (compareOp .In) (rInT X.K) := by
  intro pins s σ H x y v u Q I rx ry h
  obtain ⟨d, ds, hd, he, sd, se, q⟩ := h
  obtain ⟨as, r1⟩ := Dp.reads I d x v hd rx
  obtain ⟨bs, r2⟩ := Dp.reads I (.tuple ds) y u he ry
  exact SeqAt.in_tuple_reads r2 r1 (SeqAt.canLay_of_shaped se) (SeqAt.canLay_of_shaped sd) (room_in_shaped sd hu) ⟨.bl _, H, I, rfl, q⟩
theorem op_notInT (hu : X.A.units + 65 < cLine) : OpR X (compareOp .NotIn) (rNotInT X.K) := by
  intro pins s σ H x y v u Q I rx ry h
  obtain ⟨d, ds, hd, he, sd, se, q⟩ := h
  obtain ⟨as, r1⟩ := Dp.reads I d x v hd rx
  obtain ⟨bs, r2⟩ := Dp.reads I (.tuple ds) y u he ry
  exact SeqAt.notIn_tuple_reads r2 r1 (SeqAt.canLay_of_shaped se) (SeqAt.canLay_of_shaped sd) (room_in_shaped sd hu) ⟨.bl _, H, I, rfl, q⟩
theorem isN_iff {K : PySem.W.Frag} {LI : LamT} {ρ : List Addr} {H : Hp} {a : Vl} {v : V} (h : RVl K LI fr ρ H a v) : decide (v = .non) = isN a := by
  cases a with
  | d x => cases x <;> first
    | (cases h; rfl)
    | (obtain ⟨a, xs, rfl, _⟩ := h; rfl)
    | (obtain ⟨a, rfl, _⟩ := h; rfl)
  | ro ds => obtain ⟨a, xs, rfl, _⟩ := h; rfl
  | loc l => obtain ⟨a, rfl, _⟩ := h; rfl
  | lam k sl => obtain ⟨f, li, fr', rfl, _⟩ := h; rfl
  | clo k caps => obtain ⟨f, q, cl, li, rfl, _⟩ := h; rfl
  | seq vs => obtain ⟨a, xs, rfl, _⟩ := h; rfl
theorem opc_eq (hu : X.A.units + 64 < cLine) (hK : g.K = X.K) : OpR X (compareOp .Eq) (rc g fr .eq) := OpR.at fun x y H Q h => by
  obtain ⟨a, b, S, ρ, k, s, ra, rb, e, q⟩ := h
  unfold cmpD at e; dsimp only at e
  split at e
  · rename_i c d ec ed
    split at e
    · rename_i ok
      cases e
      unfold eqOk at ok
      rw [Bool.or_eq_true, Bool.and_eq_true] at ok
      rcases ok with ok | ⟨o1, o2⟩
      · have fin : ∀ {c' d' : D}, RD g.K ρ H c' x → RD g.K ρ H d' y → D.scal c' d' = true → D.eqv c' d' = D.eqv c d → ∃ r : R2, OpR X (compareOp .Eq) r ∧ r x y H Q := fun h1 h2 h3 h4 => by
          obtain ⟨z1, z2⟩ := scal_ok h3 h1 h2
          exact ⟨_, op_eq, z1, by rw [z2, h4]; exact q⟩
        have z : ∀ {v : Vl} {w : V} {c' : D}, RVl g.K g.LI fr ρ H v w → dview S v = some c' → (∀ ds, c' ≠ .lst ds) → RD g.K ρ H c' w := fun {v w c'} h1 h2 h3 => by
          cases v with
          | d x => simp [dview] at h2; subst h2; exact h1
          | _ =>
            simp only [dview, Option.map_eq_some_iff] at h2
            obtain ⟨ds, _, h5⟩ := h2
            exact absurd h5.symm (h3 ds)
        refine fin (z ra ec fun ds e => ?_) (z rb ed fun ds e => ?_) ok rfl
        · subst e; cases d <;> simp [D.scal] at ok
        · subst e; cases c <;> simp [D.scal] at ok
      · refine ⟨_, op_eqD hu, D.py c, D.py d, hK ▸ dview_dp s ra ec o1, hK ▸ dview_dp s rb ed o2, shp_shaped o1, shp_shaped o2, ?_⟩
        rw [eqv_py 60 c d o1 o2]; exact q
    · cases e
  · cases e
theorem opc_ne (hu : X.A.units + 64 < cLine) (hK : g.K = X.K) : OpR X (compareOp .NotEq) (rc g fr .ne) := OpR.at fun x y H Q h => by
  obtain ⟨a, b, S, ρ, k, s, ra, rb, e, q⟩ := h
  unfold cmpD at e; dsimp only at e
  split at e
  · rename_i c d ec ed
    split at e
    · rename_i ok
      cases e
      unfold eqOk at ok
      rw [Bool.or_eq_true, Bool.and_eq_true] at ok
      rcases ok with ok | ⟨o1, o2⟩
      · have fin : ∀ {c' d' : D}, RD g.K ρ H c' x → RD g.K ρ H d' y → D.scal c' d' = true → D.eqv c' d' = D.eqv c d → ∃ r : R2, OpR X (compareOp .NotEq) r ∧ r x y H Q := fun h1 h2 h3 h4 => by
          obtain ⟨z1, z2⟩ := scal_ok h3 h1 h2
          exact ⟨_, op_ne, z1, by rw [z2, h4]; exact q⟩
        have z : ∀ {v : Vl} {w : V} {c' : D}, RVl g.K g.LI fr ρ H v w → dview S v = some c' → (∀ ds, c' ≠ .lst ds) → RD g.K ρ H c' w := fun {v w c'} h1 h2 h3 => by
          cases v with
          | d x => simp [dview] at h2; subst h2; exact h1
          | _ =>
            simp only [dview, Option.map_eq_some_iff] at h2
            obtain ⟨ds, _, h5⟩ := h2
            exact absurd h5.symm (h3 ds)
        refine fin (z ra ec fun ds e => ?_) (z rb ed fun ds e => ?_) ok rfl
        · subst e; cases d <;> simp [D.scal] at ok
        · subst e; cases c <;> simp [D.scal] at ok
      · refine ⟨_, op_neD hu, D.py c, D.py d, hK ▸ dview_dp s ra ec o1, hK ▸ dview_dp s rb ed o2, shp_shaped o1, shp_shaped o2, ?_⟩
        rw [eqv_py 60 c d o1 o2]; exact q
    · cases e
  · cases e
theorem opc_lt : OpR X (compareOp .Lt) (rc g fr .lt) := OpR.at fun x y H Q h => by
  obtain ⟨a, b, S, ρ, k, s, ra, rb, e, q⟩ := h
  unfold cmpD at e; dsimp only at e
  split at e
  · cases e; cases ra; cases rb
    exact ⟨_, op_lt, _, _, rfl, rfl, q⟩
  · cases e
theorem opc_le : OpR X (compareOp .LtE) (rc g fr .le) := OpR.at fun x y H Q h => by
  obtain ⟨a, b, S, ρ, k, s, ra, rb, e, q⟩ := h
  unfold cmpD at e; dsimp only at e
  split at e
  · cases e; cases ra; cases rb
    exact ⟨_, op_le, _, _, rfl, rfl, q⟩
  · cases e
theorem opc_gt : OpR X (compareOp .Gt) (rc g fr .gt) := OpR.at fun x y H Q h => by
  obtain ⟨a, b, S, ρ, k, s, ra, rb, e, q⟩ := h
  unfold cmpD at e; dsimp only at e
  split at e
  · cases e; cases ra; cases rb
    exact ⟨_, op_gt, _, _, rfl, rfl, q⟩
  · cases e
theorem opc_ge : OpR X (compareOp .GtE) (rc g fr .ge) := OpR.at fun x y H Q h => by
  obtain ⟨a, b, S, ρ, k, s, ra, rb, e, q⟩ := h
  unfold cmpD at e; dsimp only at e
  split at e
  · cases e; cases ra; cases rb
    exact ⟨_, op_ge, _, _, rfl, rfl, q⟩
  · cases e
theorem opc_is : OpR X (compareOp .Is) (rc g fr .is_) := OpR.at fun x y H Q h => by
  obtain ⟨a, b, S, ρ, k, s, ra, rb, e, q⟩ := h
  unfold cmpD at e; dsimp only at e
  split at e
  · rename_i n
    cases e
    have z := isN_iff rb
    rw [n] at z
    exact ⟨_, op_isN, of_decide_eq_true z, by rw [isN_iff ra]; exact q⟩
  · cases e
theorem opc_isnot : OpR X (compareOp .IsNot) (rc g fr .isnot) := OpR.at fun x y H Q h => by
  obtain ⟨a, b, S, ρ, k, s, ra, rb, e, q⟩ := h
  unfold cmpD at e; dsimp only at e
  split at e
  · rename_i n
    cases e
    have z := isN_iff rb
    rw [n] at z
    exact ⟨_, op_notN, of_decide_eq_true z, by rw [isN_iff ra]; exact q⟩
  · cases e
end
end Mi
set_option linter.all false
set_option maxRecDepth 100000
set_option maxHeartbeats 1000000
/-! Mi6: in, items, slices, isinstance. -/
namespace Mi
open PySem PySem.Spec PyProof.Rows L2
theorem tl_toS (z : List Nat) : (toS z).cps.toList = z := by simp [toS]
/-- what is read of «x in y», y no dict -/
def rIn2 (K : PySem.W.Frag) (neg : Bool) : R2 := fun x y H Q =>
  (∃ c z k, x = .str (toS [c]) ∧ y = .str (toS z) ∧ k = decide (c ∈ z) ∧ Q (.bl (if neg then !k else k)) H) ∨
  (∃ d ds k, Dp K H x d ∧ (Dp K H y (.tuple ds) ∨ Dp K H y (.list ds)) ∧ SeqAt.shaped d = true ∧ SeqAt.shaped (.tuple ds) = true ∧ SeqAt.shaped (.list ds) = true ∧ k = (ds.any fun z => PyData.eqv z d) ∧ Q (.bl (if neg then !k else k)) H)
section
variable {X : Cx} {g : Gi} {fr : Option Fr0}
theorem op_in2 (hu : X.A.units + 65 < cLine) : OpR X (compareOp .In) (rIn2 X.K false) := OpR.at fun x y H Q h => by
  rcases h with ⟨c, z, k, rfl, rfl, rfl, q⟩ | ⟨d, ds, k, h1, h2, h3, h4, h5, rfl, q⟩
  · exact ⟨_, op_in_sign, c, toS z, rfl, rfl, by rw [tl_toS]; exact q⟩
  · rcases h2 with h2 | h2
    · exact ⟨_, op_inT hu, d, ds, h1, h2, h3, h4, q⟩
    · exact ⟨_, op_inD hu, d, ds, h1, h2, h3, h5, q⟩
theorem op_notin2 (hu : X.A.units + 65 < cLine) : OpR X (compareOp .NotIn) (rIn2 X.K true) := OpR.at fun x y H Q h => by
  rcases h with ⟨c, z, k, rfl, rfl, rfl, q⟩ | ⟨d, ds, k, h1, h2, h3, h4, h5, rfl, q⟩
  · exact ⟨_, op_notIn_sign, c, toS z, rfl, rfl, by rw [tl_toS]; exact q⟩
  · rcases h2 with h2 | h2
    · exact ⟨_, op_notInT hu, d, ds, h1, h2, h3, h4, q⟩
    · exact ⟨_, op_notInD hu, d, ds, h1, h2, h3, h5, q⟩
/-- no dict -/
def noDks : Vl → Bool
  | .d (.dks _) => false
  | _ => true
theorem inD_read {K : PySem.W.Frag} {LI : LamT} {T : List (Addr × Str)} {ρ : List Addr} {H : Hp} {S : Store} {a b : Vl} {x y : V} {k : Bool} {neg : Bool} {Q : VK} (s : RS K T ρ H S) (ra : RVl K LI fr ρ H a x) (rb : RVl K LI fr ρ H b y)
    (e : inD a b S = some k) (nd : noDks b = true) (q : Q (.bl (if neg then !k else k)) H) : rIn2 K neg x y H Q := by
  have fin : ∀ {d : D} {ds : List D}, RD K ρ H d x → (Dp K H y (.tuple (D.py.pys ds)) ∨ Dp K H y (.list (D.py.pys ds))) → D.shp 60 d = true → D.shps 60 ds = true → k = inS d ds → rIn2 K neg x y H Q := fun {d ds} h1 h2 h3 h4 h5 =>
    .inr ⟨D.py d, D.py.pys ds, k, RD.dp 60 d x h3 h1, h2, shp_shaped h3, (shps_shaped h4).2, (shps_shaped h4).1, by rw [inS_py d h3 ds h4]; exact h5, q⟩
  have lst : ∀ {d : D} (ds : List D), RD K ρ H d x → lview S b = some ds → D.shp 60 d = true → D.shps 60 ds = true → k = inS d ds → rIn2 K neg x y H Q := fun {d} ds h1 h2 h3 h4 h5 => by
    obtain ⟨p, xs, rfl, hp, hx⟩ := lview_ok s rb h2
    exact fin h1 (.inr (.lst hp (RDs.dp 60 ds xs h4 hx))) h3 h4 h5
  have lst2 : ∀ {d : D}, RD K ρ H d x → (match lview S b with
      | some b => if D.shp 60 d && D.shps 60 b then some (inS d b) else none
      | none => none) = some k → rIn2 K neg x y H Q := fun {d} h1 h2 => by
    split at h2
    · rename_i ds e1
      split at h2
      · rename_i ok
        rw [Bool.and_eq_true] at ok
        exact lst ds h1 e1 ok.1 ok.2 (Option.some.inj h2).symm
      · cases h2
    · cases h2
  cases a with
  | d a =>
    cases b with
    | d b =>
      cases b with
      | str z =>
        simp only [inD] at e
        split at e
        · cases e; cases ra; cases rb
          exact .inl ⟨_, z, _, rfl, rfl, rfl, q⟩
        · cases e
      | tup ds =>
        simp only [inD] at e
        split at e
        · rename_i ok
          rw [Bool.and_eq_true] at ok
          have h2 : D.shp 61 (.tup ds) = true := by simpa [D.shp] using ok.2
          exact fin ra (.inl (RD.dp 61 (.tup ds) y h2 rb)) ok.1 ok.2 (Option.some.inj e).symm
        · cases e
      | dks kvs => simp [noDks] at nd
      | _ => exact lst2 ra e
    | _ => exact lst2 ra e
  | _ => simp [inD] at e
theorem opc_in (hu : X.A.units + 65 < cLine) (hK : g.K = X.K) : OpR X (compareOp .In) (fun x y H Q => ∃ a b S ρ k, RS g.K g.T ρ H S ∧ RVl g.K g.LI fr ρ H a x ∧ RVl g.K g.LI fr ρ H b y ∧ cmpD .in_ a b S = some k ∧ noDks b = true ∧ Q (.bl k) H) :=
  OpR.imp (op_in2 hu) fun x y H Q ⟨a, b, S, ρ, k, s, ra, rb, e, nd, q⟩ => hK ▸ inD_read (neg := false) s ra rb e nd q
theorem opc_notin (hu : X.A.units + 65 < cLine) (hK : g.K = X.K) : OpR X (compareOp .NotIn) (fun x y H Q => ∃ a b S ρ k, RS g.K g.T ρ H S ∧ RVl g.K g.LI fr ρ H a x ∧ RVl g.K g.LI fr ρ H b y ∧ cmpD .notin a b S = some k ∧ noDks b = true ∧ Q (.bl k) H) :=
  OpR.imp (op_notin2 hu) fun x y H Q ⟨a, b, S, ρ, k, s, ra, rb, e, nd, q⟩ => by
    have e' : (inD a b S).map (!·) = some k := e
    obtain ⟨k', e1, e2⟩ := Option.map_eq_some_iff.mp e'
    subst e2
    exact hK ▸ inD_read (neg := true) s ra rb e1 nd q

/-! ### items -/
theorem IxR.at {r' : R2} (h : ∀ (x y : V) (H : Hp) (Q : VK), r' x y H Q → ∃ r : R2, IxR X r ∧ r x y H Q) : IxR X r' :=
  fun value slice pins s σ H x y v u Q I rx ry q => by
    obtain ⟨r, h1, h2⟩ := h x y H Q q
    exact h1 value slice pins s σ H x y v u Q I rx ry h2
theorem ixr (hK : g.K = X.K) : IxR X (fun x y H Q => ∃ a b S ρ d, RS g.K g.T ρ H S ∧ RVl g.K g.LI fr ρ H a x ∧ RVl g.K g.LI fr ρ H b y ∧ idxD a b S = some d ∧ noDks a = true ∧ ∀ v, RD g.K ρ H d v → Q v H) := IxR.at fun x y H Q h => by
  obtain ⟨a, b, S, ρ, d, s, ra, rb, e, nd, q⟩ := h
  have lst : ∀ {j : Int}, b = .d (.int j) → (match lview S a with
      | some a => L2.atI a j
      | none => none) = some d → ∃ r : R2, IxR X r ∧ r x y H Q := fun {j} eb e0 => by
    split at e0
    · rename_i ds e1
      have rb' : RVl g.K g.LI fr ρ H (.d (.int j)) y := eb ▸ rb
      cases rb'
      obtain ⟨p, xs, rfl, hp, hx⟩ := lview_ok s ra e1
      obtain ⟨v, h1, h2⟩ := hx.atI e0
      exact ⟨_, ix_list, p, xs, j, v, rfl, rfl, hK ▸ hp, h1, q v h2⟩
    · cases e0
  cases b with
  | d b =>
    cases b with
    | int j =>
      cases a with
      | d a =>
        cases a with
        | tup ds =>
          have e : L2.atI ds j = some d := e
          cases rb
          obtain ⟨p, xs, rfl, hp, hx⟩ := ra
          obtain ⟨v, h1, h2⟩ := hx.atI e
          exact ⟨_, ix_tup, p, xs, j, v, rfl, rfl, hK ▸ hp.sq, h1, q v h2⟩
        | str z =>
          simp only [idxD] at e
          split at e
          · rename_i hl
            obtain ⟨c, e1, e2⟩ := Option.map_eq_some_iff.mp e
            subst e2; cases ra; cases rb
            exact ⟨_, ix_str, toS z, j, c, rfl, rfl, by rw [len_toS, ← line_eq]; exact hl, by rw [tl_toS]; exact e1, q _ rfl⟩
          · cases e
        | dks kvs => simp [noDks] at nd
        | _ => exact lst rfl e
      | _ => exact lst rfl e
    | str k =>
      cases a with
      | d a => cases a <;> first
        | (simp [noDks] at nd; done)
        | (simp [idxD] at e; done)
      | _ => simp [idxD] at e
    | _ => cases a with
      | d a => cases a <;> simp [idxD] at e
      | _ => simp [idxD] at e
  | _ => cases a with
    | d a => cases a <;> simp [idxD] at e
    | _ => simp [idxD] at e

/-! ### slices -/
theorem SlR.at {r' : V → Option Int → Option Int → Hp → VK → Prop} (h : ∀ (x : V) (lo hi : Option Int) (H : Hp) (Q : VK), r' x lo hi H Q → ∃ r, SlR X r ∧ r x lo hi H Q) : SlR X r' :=
  fun pins s σ H x v vl vu lo hi sl Q I rx hs pl pu q => by
    obtain ⟨r, h1, h2⟩ := h x lo hi H Q q
    exact h1 pins s σ H x v vl vu lo hi sl Q I rx hs pl pu h2
theorem cutS_toS (z : List Nat) (lo hi : Option Int) : cutS (toS z) lo hi = toS (cutL z lo hi) := by
  unfold cutS
  rw [tl_toS, len_toS]
theorem slr (hK : g.K = X.K) (mu : Bool) : SlR X (fun x lo hi H Q => ∃ a S ρ, RS g.K g.T ρ H S ∧ RVl g.K g.LI fr ρ H a x ∧ PoR g fr Q ρ H (slD mu a lo hi S)) := SlR.at fun x lo hi H Q h => by
  obtain ⟨a, S, ρ, s, ra, h⟩ := h
  have lst : PoR g fr Q ρ H (match lview S a with
      | some a => newL mu (cutL a lo hi) S
      | none => .bad) → ∃ r, SlR X r ∧ r x lo hi H Q := fun h => by
    split at h
    · rename_i ds e1
      obtain ⟨p, xs, rfl, hp, hx⟩ := lview_ok s ra e1
      exact ⟨_, sl_list, p, xs, rfl, hK ▸ hp, fun q hq => h.lst s (hx.cut lo hi) hq⟩
    · exact h.elim
  cases a with
  | d a =>
    cases a with
    | tup ds =>
      obtain ⟨p, xs, rfl, hp, hx⟩ := ra
      refine ⟨_, sl_tupA, p, xs, rfl, hK ▸ hp.sq, fun w => ?_, fun _ q hq => h.tup s (hx.cut lo hi) hq⟩
      have e : cutL ds lo hi = ds := by
        unfold cutL
        rw [hx.length, w.1, w.2, ← hx.length]
        simp
      have h' : PoR g fr Q ρ H (.ok (.d (.tup (cutL ds lo hi))) S) := h
      rw [e] at h'
      exact h'.val s ⟨p, xs, rfl, hp, hx⟩
    | str z =>
      cases ra
      simp only [slD] at h
      split at h
      · rename_i hl
        exact ⟨_, sl_str, toS z, rfl, by rw [len_toS, ← line_eq]; exact hl, by rw [cutS_toS]; exact h.val s rfl⟩
      · exact h.elim
    | _ => exact lst h
  | _ => exact lst h

/-! ### isinstance -/
def tyN : Ty → String
  | .int => "int" | .bool => "bool" | .str => "str" | .tuple => "tuple" | .list => "list"
theorem isi_ty {K : PySem.W.Frag} {LI : LamT} {T : List (Addr × Str)} {ρ : List Addr} {H : Hp} {S : Store} {a : Vl} {x : V} {t : Ty} {b : Bool} (s : RS K T ρ H S) (ra : RVl K LI fr ρ H a x) (e : isiD a t = some b) : ∃ n : String, TyX K H x (.type n) ∧ kitB n (tyN t) = some b := by
  cases a with
  | d a =>
    cases a with
    | non => cases ra; exact ⟨"NoneType", .base .non, by cases t <;> cases e <;> decide +kernel⟩
    | bl k => cases ra; exact ⟨"bool", .base (.bl _), by cases t <;> cases e <;> decide +kernel⟩
    | int i => cases ra; exact ⟨"int", .base (.int _), by cases t <;> cases e <;> decide +kernel⟩
    | str z => cases ra; exact ⟨"str", .base (.str _), by cases t <;> cases e <;> decide +kernel⟩
    | tup ds =>
      obtain ⟨p, xs, rfl, hp, hx⟩ := ra
      refine ⟨"tuple", ?_, by cases t <;> cases e <;> decide +kernel⟩
      rcases hp with hp | ⟨o, its, n, h1, h2, h3⟩
      · exact .base (.tup hp.1)
      · exact .kTuple h1 h2
    | lst ds =>
      obtain ⟨p, xs, rfl, hp, hx⟩ := ra
      exact ⟨"list", .base (.lst hp.1), by cases t <;> cases e <;> decide +kernel⟩
    | dks kvs =>
      obtain ⟨p, rfl, hp | hp⟩ := ra
      · exact ⟨"dict", .base (.dK hp.1), by cases t <;> cases e <;> decide +kernel⟩
      · exact hp.elim
  | loc l =>
    obtain ⟨p, rfl, hp⟩ := ra
    obtain ⟨xs, h1⟩ := s.tracked hp
    exact ⟨"list", .base (.lst h1), by cases t <;> cases e <;> decide +kernel⟩
  | _ => cases e
end
end Mi
set_option linter.all false
set_option maxRecDepth 100000
set_option maxHeartbeats 1000000
/-! Mi7: built-ins. -/
namespace Mi
open PySem PySem.Spec PyProof.Rows L2
theorem CallR.at {X : Cx} {f : Value} {r' : List V → Hp → VK → Prop} (h : ∀ (vs : List V) (H : Hp) (Q : VK), r' vs H Q → ∃ r, CallR X f r ∧ r vs H Q) : CallR X f r' :=
  fun pins s σ H xs us Q I r q => by
    obtain ⟨r0, h1, h2⟩ := h xs H Q q
    exact h1 pins s σ H xs us Q I r h2
/-- what a built-in asks -/
def rb (g : Gi) (fr : Option Fr0) (b : Blt) : List V → Hp → VK → Prop := fun vs H Q => ∃ mu as S ρ, RS g.K g.T ρ H S ∧ RVls g.K g.LI fr ρ H as vs ∧ PoR g fr Q ρ H (bltD b mu as S)
theorem digVal_eq (s : List Nat) : digVal s = NumText.digitsVal s := rfl
theorem ofString_toS {x : String} {l : List Nat} (h : (Str.ofString x).cps.toList = l) : Str.ofString x = toS l := by
  subst h
  show _ = (⟨_⟩ : Str)
  simp
theorem str_numI (i : Int) : Str.ofString (toString i) = toS (numI i) := by
  refine ofString_toS ?_
  unfold numI
  by_cases h : i < 0
  · rw [if_pos h]
    have e : i = Int.negSucc (i.natAbs - 1) := by omega
    have e2 : toString i = "-" ++ toString i.natAbs := by
      rw [e]
      show ("-" ++ toString (i.natAbs - 1 + 1) : String) = _
      congr 2
    rw [e2]
    have z := TL.tl_ofString ("-" ++ toString i.natAbs)
    have z2 := TL.tl_num i.natAbs
    have z3 := TL.tl_ofString (toString ((i.natAbs : Nat) : Int))
    show TL.tl _ = _
    rw [z, String.toList_append, List.map_append]
    rw [z3] at z2
    have e3 : toString ((i.natAbs : Nat) : Int) = toString i.natAbs := rfl
    rw [e3] at z2
    rw [z2]
    rfl
  · rw [if_neg h]
    have e : i = ((i.natAbs : Nat) : Int) := by omega
    rw [e]
    exact TL.tl_num _
section
variable {X : Cx} {g : Gi} {fr : Option Fr0}
theorem RVls.one {K : PySem.W.Frag} {LI : LamT} {ρ : List Addr} {H : Hp} {a : Vl} {vs : List V} (h : RVls K LI fr ρ H [a] vs) : ∃ v, vs = [v] ∧ RVl K LI fr ρ H a v := by
  match vs, h with
  | [v], h => exact ⟨v, rfl, h.1⟩
theorem RVls.two {K : PySem.W.Frag} {LI : LamT} {ρ : List Addr} {H : Hp} {a b : Vl} {vs : List V} (h : RVls K LI fr ρ H [a, b] vs) : ∃ v w, vs = [v, w] ∧ RVl K LI fr ρ H a v ∧ RVl K LI fr ρ H b w := by
  match vs, h with
  | [v, w], h => exact ⟨v, w, rfl, h.1, h.2.1⟩
theorem lview_dp (hK : g.K = X.K) {T : List (Addr × Str)} {ρ : List Addr} {H : Hp} {S : Store} (s : RS g.K T ρ H S) {a : Vl} {v : V} (r : RVl g.K g.LI fr ρ H a v) {ds : List D} (e : lview S a = some ds) : ∃ p xs, v = .ref p ∧ SqL X.K H p xs ∧ RDs g.K ρ H ds xs := by
  obtain ⟨p, xs, h1, h2, h3⟩ := lview_ok s r e
  exact ⟨p, xs, h1, hK ▸ h2, h3⟩
theorem blr_len (hK : g.K = X.K) : CallR X (.builtin "len") (rb g fr .len) := CallR.at fun vs H Q h => by
  obtain ⟨mu, as, S, ρ, s, ra, h⟩ := h
  refine ⟨_, call_len, ?_⟩
  replace h : PoR g fr Q ρ H (lenD S as) := h
  unfold lenD at h
  split at h
  · obtain ⟨v, rfl, r⟩ := ra.one
    cases r
    split at h
    · rename_i a hl
      exact ⟨_, a.length, rfl, ⟨by rw [len_toS, ← line_eq]; exact hl, (len_toS a).symm⟩, h.val s rfl⟩
    · exact h.elim
  · obtain ⟨v, rfl, r⟩ := ra.one
    obtain ⟨p, xs, rfl, hp, hx⟩ := r
    rename_i a
    exact ⟨_, a.length, rfl, .inr ⟨xs, hK ▸ hp.sq, hx.length⟩, h.val s rfl⟩
  · obtain ⟨v, rfl, r⟩ := ra.one
    split at h
    · rename_i a e1
      obtain ⟨p, xs, rfl, hp, hx⟩ := lview_dp hK s r e1
      exact ⟨_, a.length, rfl, .inl ⟨xs, hp, hx.length⟩, h.val s rfl⟩
    · exact h.elim
  · exact h.elim
theorem blr_abs : CallR X (.builtin "abs") (rb g fr .abs) := CallR.at fun vs H Q h => by
  obtain ⟨mu, as, S, ρ, s, ra, h⟩ := h
  refine ⟨_, call_abs, ?_⟩
  replace h : PoR g fr Q ρ H (absD S as) := h
  unfold absD at h
  split at h
  · obtain ⟨v, rfl, r⟩ := ra.one
    cases r
    exact ⟨_, rfl, h.val s rfl⟩
  · exact h.elim
theorem blr_int : CallR X (.type "int") (rb g fr .int) := CallR.at fun vs H Q h => by
  obtain ⟨mu, as, S, ρ, s, ra, h⟩ := h
  replace h : PoR g fr Q ρ H (intD S as) := h
  unfold intD at h
  split at h
  · obtain ⟨v, rfl, r⟩ := ra.one
    cases r
    exact ⟨_, call_int1, .inl ⟨_, rfl, h.val s rfl⟩⟩
  · obtain ⟨v, rfl, r⟩ := ra.one
    cases r
    exact ⟨_, call_int1, .inr ⟨_, rfl, h.val s rfl⟩⟩
  · obtain ⟨v, rfl, r⟩ := ra.one
    cases r
    split at h
    · rename_i a hc
      refine ⟨_, call_int_str, toS a, digVal a, rfl, ?_, by rw [len_toS]; exact hc.2.2, h.val s rfl⟩
      rw [digVal_eq]
      have e := intText_digits (x := toS a) (by
        rw [tl_toS]
        intro c hc'
        have z := List.all_eq_true.mp hc.2.1 c hc'
        unfold isDig at z
        simpa using z) (by rw [tl_toS]; exact hc.1) (by rw [len_toS]; omega)
      rw [tl_toS] at e
      exact e
    · exact h.elim
  · exact h.elim
theorem blr_str : CallR X (.type "str") (rb g fr .str) := CallR.at fun vs H Q h => by
  obtain ⟨mu, as, S, ρ, s, ra, h⟩ := h
  replace h : PoR g fr Q ρ H (strD S as) := h
  unfold strD at h
  split at h
  · obtain ⟨v, rfl, r⟩ := ra.one
    cases r
    split at h
    · rename_i i hc
      refine ⟨_, call_str_int, i, rfl, hc, ?_⟩
      have z := str_numI i
      show Q (.str (Str.ofString (toString i))) H
      rw [z]
      exact h.val s rfl
    · exact h.elim
  · exact h.elim
theorem blr_tuple (hK : g.K = X.K) : CallR X (.type "tuple") (rb g fr .tuple) := CallR.at fun vs H Q h => by
  obtain ⟨mu, as, S, ρ, s, ra, h⟩ := h
  replace h : PoR g fr Q ρ H (tupleD S as) := h
  unfold tupleD at h
  refine ⟨_, call_tuple_of, ?_⟩
  split at h
  · obtain ⟨v, rfl, r⟩ := ra.one
    obtain ⟨p, xs, rfl, hp, hx⟩ := id r
    exact ⟨p, xs, rfl, .inr ⟨hK ▸ hp.sq, h.val s r⟩⟩
  · obtain ⟨v, rfl, r⟩ := ra.one
    split at h
    · rename_i a e1
      obtain ⟨p, xs, rfl, hp, hx⟩ := lview_dp hK s r e1
      exact ⟨p, xs, rfl, .inl ⟨hp, fun l hl => h.tup s hx hl⟩⟩
    · exact h.elim
  · exact h.elim
theorem blr_list (hK : g.K = X.K) : CallR X (.type "list") (rb g fr .list) := CallR.at fun vs H Q h => by
  obtain ⟨mu, as, S, ρ, s, ra, h⟩ := h
  replace h : PoR g fr Q ρ H (listD mu S as) := h
  unfold listD at h
  refine ⟨_, call_list_of, ?_⟩
  split at h
  · obtain ⟨v, rfl, r⟩ := ra.one
    obtain ⟨p, xs, rfl, hp, hx⟩ := id r
    exact ⟨p, xs, rfl, .inr (hK ▸ hp.sq), fun l hl => h.lst s hx hl⟩
  · obtain ⟨v, rfl, r⟩ := ra.one
    split at h
    · rename_i a e1
      obtain ⟨p, xs, rfl, hp, hx⟩ := lview_dp hK s r e1
      exact ⟨p, xs, rfl, .inl hp, fun l hl => h.lst s hx hl⟩
    · exact h.elim
  · exact h.elim
theorem allB_bs {K : PySem.W.Frag} {ρ : List Addr} {H : Hp} : ∀ {ds : List D} {xs : List V} {c : Bool}, RDs K ρ H ds xs → allB ds = some c → ∃ bs : List Bool, xs = bs.map V.bl ∧ bs.all id = c
  | [], [], c, _, e => ⟨[], rfl, by simp [allB] at e; rw [e]; rfl⟩
  | .bl b :: ds, v :: vs, c, h, e => by
    simp only [allB, Option.map_eq_some_iff] at e
    obtain ⟨c', e1, rfl⟩ := e
    obtain ⟨bs, rfl, e2⟩ := allB_bs h.2 e1
    have hv : v = .bl b := h.1
    subst hv
    exact ⟨b :: bs, rfl, by simp [← e2]⟩
  | [], _ :: _, _, h, _ => h.elim
  | _ :: _, [], _, h, _ => h.elim
  | .non :: _, _ :: _, _, _, e => by simp [allB] at e
  | .int _ :: _, _ :: _, _, _, e => by simp [allB] at e
  | .str _ :: _, _ :: _, _, _, e => by simp [allB] at e
  | .tup _ :: _, _ :: _, _, _, e => by simp [allB] at e
  | .lst _ :: _, _ :: _, _, _, e => by simp [allB] at e
  | .dks _ :: _, _ :: _, _, _, e => by simp [allB] at e
theorem blr_all (hc : X.calm = true) (hK : g.K = X.K) : CallR X (.builtin "all") (rb g fr .all) := CallR.at fun vs H Q h => by
  obtain ⟨mu, as, S, ρ, s, ra, h⟩ := h
  replace h : PoR g fr Q ρ H (allD S as) := h
  unfold allD at h
  refine ⟨_, cr_all hc, ?_⟩
  split at h
  · obtain ⟨v, rfl, r⟩ := ra.one
    split at h
    · rename_i a e1
      split at h
      · rename_i c e2
        obtain ⟨p, xs, rfl, hp, hx⟩ := lview_dp hK s r e1
        obtain ⟨bs, rfl, e3⟩ := allB_bs hx e2
        exact ⟨p, bs, rfl, hp, by rw [e3]; exact h.val s rfl⟩
      · exact h.elim
    · exact h.elim
  · exact h.elim
/-- max(t), t a tuple of ints -/
theorem maxI_ns {K : PySem.W.Frag} {ρ : List Addr} {H : Hp} : ∀ {ds : List D} {xs : List V} {m c : Int}, RDs K ρ H ds xs → maxI m ds = some c → ∃ ns : List Int, xs = ns.map V.int ∧ ns.foldl (fun a y => if a < y then y else a) m = c
  | [], [], m, c, _, e => ⟨[], rfl, by simp [maxI] at e; exact e⟩
  | .int i :: ds, v :: vs, m, c, h, e => by
    simp only [maxI] at e
    obtain ⟨ns, rfl, e2⟩ := maxI_ns h.2 e
    have hv : v = .int i := h.1
    subst hv
    exact ⟨i :: ns, rfl, by simpa using e2⟩
  | [], _ :: _, _, _, h, _ => h.elim
  | _ :: _, [], _, _, h, _ => h.elim
  | .non :: _, _ :: _, _, _, _, e => by simp [maxI] at e
  | .bl _ :: _, _ :: _, _, _, _, e => by simp [maxI] at e
  | .str _ :: _, _ :: _, _, _, _, e => by simp [maxI] at e
  | .tup _ :: _, _ :: _, _, _, _, e => by simp [maxI] at e
  | .lst _ :: _, _ :: _, _, _, _, e => by simp [maxI] at e
  | .dks _ :: _, _ :: _, _, _, _, e => by simp [maxI] at e
theorem dpAll_ints {K : PySem.W.Frag} {H : Hp} : ∀ ns : List Int, DpAll K H (ns.map V.int) (ns.map PyData.int)
  | [] => .nil
  | n :: ns => .cons (.int n) (dpAll_ints ns)
theorem depth_ints : ∀ ns : List Int, PyData.depthAll (ns.map PyData.int) = 0
  | [] => by simp [PyData.depthAll]
  | n :: ns => by simp [PyData.depthAll, PyData.depth, depth_ints ns]
theorem maxD_ints : ∀ (ns : List Int) (m : Int), PySem.W.maxD (.int m) (ns.map PyData.int) = .int (ns.foldl (fun a y => if a < y then y else a) m)
  | [], m => rfl
  | n :: ns, m => by
    unfold PySem.W.maxD
    rw [List.map_cons, List.foldl_cons, List.foldl_cons, PySem.W.dataLt_int]
    by_cases h : m < n
    · rw [if_pos (decide_eq_true h), if_pos h]; exact maxD_ints ns n
    · rw [if_neg (by rw [decide_eq_false h]; exact Bool.false_ne_true), if_neg h]; exact maxD_ints ns m
theorem call_maxT (hc : X.calm = true) (hu : X.A.units + 64 < cLine) : CallR X (.builtin "max") (fun vs H Q => ∃ (p : Addr) (m : Int) (ns : List Int), vs = [.ref p] ∧ SqT X.K H p ((m :: ns).map V.int) ∧ Q (.int (ns.foldl (fun a y => if a < y then y else a) m)) H) := by
  intro pins s σ H vs us Q I r h
  obtain ⟨p, m, ns, rfl, hp, q⟩ := h
  obtain ⟨u, rfl, ru⟩ := vals1 r
  cases ru
  obtain ⟨its, rv, ht, hz⟩ := I.tuple hp
  obtain ⟨as, hr⟩ := Dp.readsAll I ((m :: ns).map PyData.int) _ its (dpAll_ints (m :: ns)) rv
  have hal : PySem.W.AlikeAll (PyData.int m :: ns.map PyData.int) := by
    refine ⟨fun x hx y hy => ?_, fun x hx => ?_⟩
    · obtain ⟨i, _, rfl⟩ := List.mem_map.mp (show x ∈ (m :: ns).map PyData.int from hx)
      obtain ⟨j, _, rfl⟩ := List.mem_map.mp (show y ∈ (m :: ns).map PyData.int from hy)
      simp [PySem.W.alike]
    · obtain ⟨i, _, rfl⟩ := List.mem_map.mp (show x ∈ (m :: ns).map PyData.int from hx)
      intro z; cases z
  refine PySem.W.max_tuple_data (vs := its.toArray) (I.ok.hd hc) ht hr hal (by rw [show (PyData.int m :: ns.map PyData.int) = (m :: ns).map PyData.int from rfl, depth_ints]; omega) fun i v h' tk bs _ rd hk => ?_
  rw [maxD_ints] at rd
  have I2 : Inv X pins σ H { s with heap := h', toks := tk } := I.kept hk
  cases rd with
  | int t => exact ⟨.int _, H, I2, ⟨_, rfl⟩, q⟩
theorem blr_max (hc : X.calm = true) (hu : X.A.units + 64 < cLine) (hK : g.K = X.K) : CallR X (.builtin "max") (rb g fr .max) := CallR.at fun vs H Q h => by
  obtain ⟨mu, as, S, ρ, s, ra, h⟩ := h
  replace h : PoR g fr Q ρ H (maxD S as) := h
  unfold maxD at h
  split at h
  · obtain ⟨v, w, rfl, r1, r2⟩ := ra.two
    cases r1; cases r2
    exact ⟨_, call_max2 hc, _, _, rfl, h.val s rfl⟩
  · obtain ⟨v, rfl, r⟩ := ra.one
    rename_i i ds
    split at h
    · rename_i m e1
      obtain ⟨p, xs, rfl, hp, hx⟩ := r
      match xs, hx with
      | x :: xs, hx =>
        have hx1 : x = .int i := hx.1
        subst hx1
        obtain ⟨ns, rfl, e2⟩ := maxI_ns hx.2 e1
        exact ⟨_, call_maxT hc hu, p, i, ns, rfl, hK ▸ hp.sq, by rw [e2]; exact h.val s rfl⟩
    · exact h.elim
  · exact h.elim
end
end Mi
set_option linter.all false
set_option maxRecDepth 100000
set_option maxHeartbeats 1000000
/-! Mi8: methods. -/
namespace Mi
open PySem PySem.Spec PyProof.Rows L2
theorem MtR.at {X : Cx} {id : String} {r' : V → List V → Hp → VK → Prop} (h : ∀ (x : V) (vs : List V) (H : Hp) (Q : VK), r' x vs H Q → ∃ r, MtR X id r ∧ r x vs H Q) : MtR X id r' :=
  fun pins s σ H x xs v us Q I rx r q => by
    obtain ⟨r0, h1, h2⟩ := h x xs H Q q
    exact h1 pins s σ H x xs v us Q I rx r h2
/-- what a method asks -/
def rm (g : Gi) (fr : Option Fr0) (m : Mth) : V → List V → Hp → VK → Prop := fun x vs H Q => ∃ o as S ρ, RS g.K g.T ρ H S ∧ RVl g.K g.LI fr ρ H o x ∧ RVls g.K g.LI fr ρ H as vs ∧ PoR g fr Q ρ H (mthD m o as S)
theorem RDs.strs {K : PySem.W.Frag} {ρ : List Addr} {H : Hp} : ∀ {ds : List D} {xs : List V} {ys : List (List Nat)}, RDs K ρ H ds xs → strsOf ds = some ys → xs = (ys.map toS).map V.str
  | [], [], ys, _, e => by simp [strsOf] at e; subst e; rfl
  | .str s :: ds, v :: vs, ys, h, e => by
    simp only [strsOf, Option.map_eq_some_iff] at e
    obtain ⟨zs, e1, rfl⟩ := e
    have hv : v = .str (toS s) := h.1
    subst hv
    have ih := RDs.strs h.2 e1
    rw [ih]; rfl
  | [], _ :: _, _, h, _ => h.elim
  | _ :: _, [], _, h, _ => h.elim
  | .non :: _, _ :: _, _, _, e => by simp [strsOf] at e
  | .bl _ :: _, _ :: _, _, _, e => by simp [strsOf] at e
  | .int _ :: _, _ :: _, _, _, e => by simp [strsOf] at e
  | .tup _ :: _, _ :: _, _, _, e => by simp [strsOf] at e
  | .lst _ :: _, _ :: _, _, _, e => by simp [strsOf] at e
  | .dks _ :: _, _ :: _, _, _, e => by simp [strsOf] at e
theorem RDs.of_strs {K : PySem.W.Frag} {ρ : List Addr} {H : Hp} : ∀ ys : List (List Nat), RDs K ρ H (ys.map D.str) ((ys.map toS).map V.str)
  | [] => trivial
  | _ :: ys => ⟨rfl, RDs.of_strs ys⟩
theorem toS_tl (x : Str) : toS (TL.tl x) = x := by
  show (⟨_⟩ : Str) = x
  simp [TL.tl]
theorem join_toS (a : List Nat) (ys : List (List Nat)) : Txt.join (toS a) (ys.map toS) = toS (TL.joinL a ys) := by
  rw [TL.join_eq]
  have e := TL.tl_join (toS a) (ys.map toS)
  have e2 : (ys.map toS).map TL.tl = ys := by
    rw [List.map_map]
    have : TL.tl ∘ toS = id := by
      funext x
      exact tl_toS x
    rw [this, List.map_id]
  rw [e2] at e
  have e3 : TL.tl (toS a) = a := tl_toS a
  rw [e3] at e
  rw [← e, toS_tl]
theorem split_toS (a b : List Nat) (hb : b ≠ []) (hk : b.all (· < 256) = true) : Txt.split (toS a) (toS b) = (TL.spl b 0 [] a).map toS := by
  have e := TL.split_spl (toS a) (toS b) (by
    show TL.tl (toS b) ≠ []
    rw [show TL.tl (toS b) = b from tl_toS b]; exact hb) (TL.kind_ok (by
    show (toS b).cps.all (· < 256) = true
    simpa using hk))
  rw [show TL.tl (toS a) = a from tl_toS a, show TL.tl (toS b) = b from tl_toS b] at e
  rw [← e, List.map_map]
  have : toS ∘ TL.tl = id := by
    funext x
    exact toS_tl x
  rw [this, List.map_id]
section
variable {X : Cx} {g : Gi} {fr : Option Fr0}
theorem mtr_append : MtR X "list.append" (rm g fr .append) := MtR.at fun x vs H Q h => by
  obtain ⟨o, as, S, ρ, s, ro, ra, h⟩ := h
  refine ⟨_, mt_append, ?_⟩
  replace h : PoR g fr Q ρ H (appD S o as) := h
  unfold appD at h
  split at h
  · rename_i l y
    obtain ⟨p, rfl, hp⟩ := ro
    obtain ⟨v, rfl, rv⟩ := ra.one
    split at h
    · rename_i ds e1
      split at h
      · rename_i hl
        obtain ⟨xs, h1, h2⟩ := s.obj _ _ _ hp e1
        have hd : RDs g.K ρ H (ds ++ [y]) (xs ++ [v]) := h2.app ⟨rv, trivial⟩
        refine ⟨p, xs, v, rfl, rfl, h1, by rw [← h2.length, ← line_eq]; exact hl, ?_⟩
        exact h _ _ ρ (Ext.set s hp) (s.set hp hd) rfl
      · exact h.elim
    · exact h.elim
  · exact h.elim
theorem mtr_pop : MtR X "list.pop" (rm g fr .pop) := MtR.at fun x vs H Q h => by
  obtain ⟨o, as, S, ρ, s, ro, ra, h⟩ := h
  refine ⟨_, mt_pop, ?_⟩
  replace h : PoR g fr Q ρ H (popD S o as) := h
  unfold popD at h
  split at h
  · rename_i l
    obtain ⟨p, rfl, hp⟩ := ro
    have hv : vs = [] := List.eq_nil_of_length_eq_zero ra.length.symm
    subst hv
    split at h
    · rename_i ds e1
      split at h
      · rename_i y e2
        obtain ⟨xs, h1, h2⟩ := s.obj _ _ _ hp e1
        rw [List.getLast?_eq_getElem?] at e2
        obtain ⟨v, e3, rv⟩ := h2.get e2
        rw [h2.length] at e3
        have hd : RDs g.K ρ H ds.dropLast xs.dropLast := by
          rw [List.dropLast_eq_take, List.dropLast_eq_take, h2.length]
          exact h2.take _
        refine ⟨p, xs, v, rfl, rfl, h1, e3, ?_⟩
        exact h _ _ ρ (Ext.set s hp) (s.set hp hd) (RD.ext (Ext.set s hp) y v rv)
      · exact h.elim
    · exact h.elim
  · exact h.elim
theorem mtr_split : MtR X "str.split" (rm g fr .split) := MtR.at fun x vs H Q h => by
  obtain ⟨o, as, S, ρ, s, ro, ra, h⟩ := h
  refine ⟨_, mt_split, ?_⟩
  replace h : PoR g fr Q ρ H (splitD S o as) := h
  unfold splitD at h
  split at h
  · rename_i a b
    cases ro
    obtain ⟨v, rfl, rv⟩ := ra.one
    cases rv
    split at h
    · rename_i hc
      refine ⟨toS a, toS b, rfl, rfl, ?_, by rw [len_toS, ← line_eq]; exact hc.2.2, fun p hp => ?_⟩
      · rw [len_toS]
        cases b with
        | nil => exact absurd rfl hc.1
        | cons c r => rfl
      · rw [split_toS a b hc.1 hc.2.1]
        exact h _ _ ρ (Ext.new hp) (s.new hp) ⟨p, _, rfl, ⟨upd_same, s.free hp⟩, RDs.of_strs _⟩
    · exact h.elim
  · exact h.elim
theorem mtr_join (hK : g.K = X.K) : MtR X "str.join" (rm g fr .join) := MtR.at fun x vs H Q h => by
  obtain ⟨o, as, S, ρ, s, ro, ra, h⟩ := h
  refine ⟨_, mt_join, ?_⟩
  replace h : PoR g fr Q ρ H (joinD S o as) := h
  unfold joinD at h
  split at h
  · rename_i a y
    cases ro
    obtain ⟨v, rfl, rv⟩ := ra.one
    split at h
    · rename_i ds e1
      split at h
      · rename_i ys e2
        split at h
        · rename_i hc
          obtain ⟨p, xs, rfl, hp, hx⟩ := lview_dp hK s rv e1
          have e3 := hx.strs e2
          subst e3
          refine ⟨toS a, p, ys.map toS, rfl, rfl, .inl hp, ?_, ?_⟩
          · have e4 : (ys.map toS).map (·.length) = ys.map (·.length) := by
              rw [List.map_map]
              apply List.map_congr_left
              intro z _
              exact len_toS z
            rw [e4, List.length_map, len_toS]
            exact hc
          · rw [join_toS]
            exact h.val s rfl
        · exact h.elim
      · exact h.elim
    · exact h.elim
  · exact h.elim
theorem upp_eq (c : Nat) : PyProof.Rows.up1 c = uppC c := by
  unfold PyProof.Rows.up1 uppC
  rfl
theorem mtr_upper : MtR X "str.upper" (rm g fr .upper) := MtR.at fun x vs H Q h => by
  obtain ⟨o, as, S, ρ, s, ro, ra, h⟩ := h
  refine ⟨_, mt_upper, ?_⟩
  replace h : PoR g fr Q ρ H (uppD S o as) := h
  unfold uppD at h
  split at h
  · rename_i a
    cases ro
    have hv : vs = [] := List.eq_nil_of_length_eq_zero ra.length.symm
    subst hv
    split at h
    · rename_i hc
      refine ⟨toS a, rfl, rfl, by rw [len_toS]; exact hc.2, ?_⟩
      rw [PyProof.Rows.upper_ascii (x := toS a) fun c hc' => by
        rw [tl_toS] at hc'
        simpa using List.all_eq_true.mp hc.1 c hc']
      have e : (⟨(toS a).cps.map PyProof.Rows.up1⟩ : Str) = toS (a.map uppC) := by
        show (⟨a.toArray.map PyProof.Rows.up1⟩ : Str) = ⟨(a.map uppC).toArray⟩
        simp only [List.map_toArray]
        congr 2
      rw [e]
      exact h.val s rfl
    · exact h.elim
  · exact h.elim
end
end Mi
set_option linter.all false
set_option maxRecDepth 100000
set_option maxHeartbeats 1000000
/-! Mi9: the readings of expressions, node by node. -/
namespace Mi
open PySem PySem.Spec PyProof.Rows L2

/-- what a frame's reading leans on -/
structure Ctx where
  g : Gi
  fr : Option Fr0
  P : Pg
  F : Call
  /-- the errors' context is None -/
  md : Bool := false
abbrev Ctx.RS (C : Ctx) (ρ : List Addr) (H : Hp) (S : Store) : Prop := Mi.RS C.g.K C.g.T ρ H S
abbrev Ctx.RV (C : Ctx) (ρ : List Addr) (H : Hp) (x : Vl) (v : V) : Prop := RVl C.g.K C.g.LI C.fr ρ H x v
abbrev Ctx.RVs (C : Ctx) (ρ : List Addr) (H : Hp) (x : List Vl) (v : List V) : Prop := RVls C.g.K C.g.LI C.fr ρ H x v
/-- the names' values -/
structure REnv (C : Ctx) (ρ : List Addr) (H : Hp) (env : Env) (σ : L2.St) : Prop where
  len : env.length = σ.length
  at_ : ∀ (i : Nat) (x : Vl), env[i]? = some (some x) → ∃ v, σ[i]? = some (some v) ∧ C.RV ρ H x v
theorem REnv.ext {C : Ctx} {ρ ρ' : List Addr} {H H' : Hp} {env : Env} {σ : L2.St} (e : Ext ρ H ρ' H') (r : REnv C ρ H env σ) : REnv C ρ' H' env σ :=
  ⟨r.len, fun i x h => let ⟨v, h1, h2⟩ := r.at_ i x h; ⟨v, h1, RVl.ext e _ _ _ h2⟩⟩
def tE (C : Ctx) (W : XK) (e : Mi.E) : TE := fun σ H Q => ∃ env S ρ, C.RS ρ H S ∧ REnv C ρ H env σ ∧ PoE C.g C.fr W Q ρ H (evE C.P C.F e env S)
def tA (C : Ctx) (W : XK) (es : List Mi.E) : TA := fun σ H Q => ∃ env S ρ, C.RS ρ H S ∧ REnv C ρ H env σ ∧ PoEs C.g C.fr W Q ρ H (evEs C.P C.F es env S)
def tT (C : Ctx) (W : XK) (e : Mi.E) : TT := fun σ H Q => ∃ env S ρ, C.RS ρ H S ∧ REnv C ρ H env σ ∧ PoB C.g W Q ρ H (asB (evE C.P C.F e env S))
theorem PE.imp {X : Cx} {e : Expr} {t t' : TE} (h : PE X e t) (i : ∀ σ H Q, t' σ H Q → t σ H Q) : PE X e t' := ⟨fun pins s σ H Q I q => h.run pins s σ H Q I (i _ _ _ q)⟩
theorem PT.imp {X : Cx} {e : Expr} {t t' : TT} (h : PT X e t) (i : ∀ σ H Q, t' σ H Q → t σ H Q) : PT X e t' := ⟨fun pins s σ H Q I q => h.run pins s σ H Q I (i _ _ _ q)⟩
theorem PA.imp {X : Cx} {e : List Expr} {t t' : TA} (h : PA X e t) (i : ∀ σ H Q, t' σ H Q → t σ H Q) : PA X e t' := ⟨fun pos pins s σ H Q I q => h.run pos pins s σ H Q I (i _ _ _ q)⟩
section
variable {g : Gi} {fr : Option Fr0} {W : XK} {Q Q1 : VK} {ρ : List Addr} {H : Hp}
theorem PoE.of {r : Res Vl} (hok : ∀ x S1, r = .ok x S1 → ∀ v H' ρ', Ext ρ H ρ' H' → RS g.K g.T ρ' H' S1 → RVl g.K g.LI fr ρ' H' x v → Q1 v H') (hex : ∀ c d S1, r = .exc c d S1 → PoE g fr W Q ρ H (.exc c d S1)) (hb : r = .bad → False) : PoE g fr W Q1 ρ H r := by
  cases r with
  | ok x S1 => exact fun v H' ρ' e s r => hok x S1 rfl v H' ρ' e s r
  | exc c d S1 => exact hex c d S1 rfl
  | bad => exact hb rfl
theorem PoEs.of {Q1 : List V → Hp → Prop} {r : Res (List Vl)} (hok : ∀ x S1, r = .ok x S1 → ∀ v H' ρ', Ext ρ H ρ' H' → RS g.K g.T ρ' H' S1 → RVls g.K g.LI fr ρ' H' x v → Q1 v H') (hex : ∀ c d S1, r = .exc c d S1 → PoE g fr W Q ρ H (.exc c d S1)) (hb : r = .bad → False) : PoEs g fr W Q1 ρ H r := by
  cases r with
  | ok x S1 => exact fun v H' ρ' e s r => hok x S1 rfl v H' ρ' e s r
  | exc c d S1 => exact hex c d S1 rfl
  | bad => exact hb rfl
theorem PoB.of {Q1 : Bool → Hp → Prop} {r : Res Bool} (hok : ∀ x S1, r = .ok x S1 → ∀ H' ρ', Ext ρ H ρ' H' → RS g.K g.T ρ' H' S1 → Q1 x H') (hex : ∀ c d S1, r = .exc c d S1 → PoE g fr W Q ρ H (.exc c d S1)) (hb : r = .bad → False) : PoB g W Q1 ρ H r := by
  cases r with
  | ok x S1 => exact fun H' ρ' e s => hok x S1 rfl H' ρ' e s
  | exc c d S1 => exact hex c d S1 rfl
  | bad => exact hb rfl
/-- what raises nothing -/
theorem PoE.toR {r : Res Vl} (h : PoE g fr W Q ρ H r) (n : ∀ c d S, r ≠ .exc c d S) : PoR g fr Q ρ H r := by
  cases r with
  | ok x S1 => exact h
  | exc c d S1 => exact absurd rfl (n c d S1)
  | bad => exact h
theorem newL_noexc {mu : Bool} {ds : List D} {S : Store} : ∀ c d S', newL mu ds S ≠ .exc c d S' := fun c d S' => by
  unfold newL; split <;> (try split) <;> (intro h; cases h)
theorem ofD_noexc {o : Option D} {S : Store} : ∀ c d S', ofD S o ≠ .exc c d S' := fun c d S' => by
  cases o <;> (intro h; cases h)
end
section
variable {C : Ctx} {X : Cx} {W : XK} {σ : L2.St} {H : Hp} {Q : VK}
/-- a value without effect, by tC -/
theorem pe_const {e : Expr} {x : Mi.E} {d : D} {v : V} (h : PE X e (tC v)) (hx : ∀ env S, evE C.P C.F x env S = .ok (.d d) S) (hr : ∀ ρ H, RD C.g.K ρ H d v) : PE X e (tE C W x) :=
  PE.imp h fun σ H Q ⟨env, S, ρ, rs, re, h⟩ => by
    rw [hx] at h
    exact h v H ρ (Ext.refl ρ H) rs (hr ρ H)
theorem pe_v {i : Nat} {x : Str} {pos : Pos} (hN : X.N[i]? = some x) (hv : Vis X.env.scope x) (hd : (x == ("__debug__" : Str)) = false) (hcd : (x == ("__classdict__" : Str)) = false) : PE X (.Name x pos) (tE C W (.var i)) :=
  PE.imp (pe_var hN hv hd hcd) fun σ H Q ⟨env, S, ρ, rs, re, h⟩ => by
    simp only [evE] at h
    split at h
    · rename_i v e
      obtain ⟨u, h1, h2⟩ := re.at_ i v e
      exact ⟨u, h1, h u H ρ (Ext.refl ρ H) rs h2⟩
    · exact h.elim
theorem pa_n : PA X [] (tA C W []) := PA.imp pa_nil fun σ H Q ⟨env, S, ρ, rs, re, h⟩ => h [] H ρ (Ext.refl ρ H) rs trivial
theorem pa_c {e : Expr} {es : List Expr} {x : Mi.E} {xs : List Mi.E} (h1 : PE X e (tE C W x)) (h2 : PA X es (tA C W xs)) (hs : starEach (e :: es) X.env = (false, eval e X.env) :: starEach es X.env) : PA X (e :: es) (tA C W (x :: xs)) :=
  PA.imp (pa_cons h1 h2 hs) fun σ H Q ⟨env, S, ρ, rs, re, h⟩ => by
    simp only [evEs] at h
    refine ⟨env, S, ρ, rs, re, PoE.of (Q := fun _ _ => True) (fun x1 S1 e v H1 ρ1 x1' s1 r1 => ?_) (fun c d S1 e => by rw [e] at h; exact h) (fun e => by rw [e] at h; exact h)⟩
    simp only [e] at h
    refine ⟨env, S1, ρ1, s1, re.ext x1', PoEs.of (Q := fun _ _ => True) (fun x2 S2 e2 v2 H2 ρ2 x2' s2 r2 => ?_) (fun c d S2 e2 => ?_) (fun e2 => by rw [e2] at h; exact h)⟩
    · simp only [e2] at h
      exact h (v :: v2) H2 ρ2 (x1'.trans x2') s2 ⟨RVl.ext x2' _ _ _ r1, r2⟩
    · simp only [e2] at h
      exact PoE.mono x1' (r := .exc c d S2) h
/-- two parts, then a step that raises nothing -/
theorem two {a b : Mi.E} {k : Vl → Vl → Store → Res Vl} {env : Env} {S : Store} {ρ : List Addr} (rs : C.RS ρ H S) (re : REnv C ρ H env σ)
    (h : PoE C.g C.fr W Q ρ H (match evE C.P C.F a env S with
      | .ok x S1 => match evE C.P C.F b env S1 with
        | .ok y S2 => k x y S2
        | .exc c d S2 => .exc c d S2
        | .bad => .bad
      | .exc c d S1 => .exc c d S1
      | .bad => .bad)) {R : V → V → Hp → Prop}
    (hR : ∀ x y S2 v u H2 ρ2, C.RS ρ2 H2 S2 → C.RV ρ2 H2 x v → C.RV ρ2 H2 y u → REnv C ρ2 H2 env σ → PoE C.g C.fr W Q ρ2 H2 (k x y S2) → R v u H2) : tE C W a σ H fun v H1 => tE C W b σ H1 fun u H2 => R v u H2 := by
  refine ⟨env, S, ρ, rs, re, PoE.of (Q := Q) (fun x S1 e v H1 ρ1 x1 s1 r1 => ?_) (fun c d S1 e => by rw [e] at h; exact h) (fun e => by rw [e] at h; exact h)⟩
  simp only [e] at h
  refine ⟨env, S1, ρ1, s1, re.ext x1, PoE.of (Q := Q) (fun y S2 e2 u H2 ρ2 x2 s2 r2 => ?_) (fun c d S2 e2 => ?_) (fun e2 => by rw [e2] at h; exact h)⟩
  · simp only [e2] at h
    exact hR x y S2 v u H2 ρ2 s2 (RVl.ext x2 _ _ _ r1) r2 ((re.ext x1).ext x2) (h.mono (x1.trans x2))
  · rw [e2] at h
    exact PoE.mono x1 (r := .exc c d S2) h
theorem binD_noexc {o : Bop} {mu : Bool} {x y : Vl} {S : Store} : ∀ c d S', binD o mu x y S ≠ .exc c d S' := fun c d S' h => by
  unfold binD at h
  cases o <;> dsimp only at h <;> repeat' (first | (exact newL_noexc _ _ _ h) | (cases h; done) | split at h)
theorem pe_b {o : Bop} {mu : Bool} {a b : Expr} {x y : Mi.E} {pos : Pos} (ho : OpR X (binaryOp (opO o)) (r2 C.g C.fr (binD o mu))) (ha : PE X a (tE C W x)) (hb : PE X b (tE C W y)) : PE X (.BinOp a (opO o) b pos) (tE C W (.bin o mu x y)) :=
  PE.imp (pe_op ho ha hb) fun σ H Q ⟨env, S, ρ, rs, re, h⟩ => by
    simp only [evE] at h
    exact two (k := binD o mu) rs re h fun x y S2 v u H2 ρ2 s2 r1 r2 _ h2 => ⟨x, y, S2, ρ2, s2, r1, r2, h2.toR binD_noexc⟩
theorem pe_ng {a : Expr} {x : Mi.E} {pos : Pos} (ha : PE X a (tE C W x)) : PE X (.UnaryOp .USub a pos) (tE C W (.neg x)) :=
  PE.imp (pe_un un_neg ha) fun σ H Q ⟨env, S, ρ, rs, re, h⟩ => by
    simp only [evE] at h
    refine ⟨env, S, ρ, rs, re, PoE.of (Q := Q) (fun x S1 e v H1 ρ1 x1 s1 r1 => ?_) (fun c d S1 e => by rw [e] at h; exact h) (fun e => by rw [e] at h; exact h)⟩
    rw [e] at h
    replace h : PoE C.g C.fr W Q ρ H (match (Res.ok x S1 : Res Vl) with | .ok (.d (.int i)) S1 => .ok (.d (.int (-i))) S1 | .ok _ _ => .bad | .exc c d S1 => .exc c d S1 | .bad => .bad) := h
    split at h
    · rename_i i S2 q
      cases q
      cases r1
      exact ⟨i, rfl, h _ H1 ρ1 x1 s1 rfl⟩
    · exact h.elim
    · rename_i q; cases q
    · exact h.elim
/-- a comparison, by its rule -/
theorem pe_cm {o : Cop} {a b : Expr} {x y : Mi.E} {pos : Pos} (ho : OpR X (compareOp (cop o)) (fun v u H Q => ∃ a b S ρ k, Mi.RS C.g.K C.g.T ρ H S ∧ RVl C.g.K C.g.LI C.fr ρ H a v ∧ RVl C.g.K C.g.LI C.fr ρ H b u ∧ cmpD o a b S = some k ∧ Q (.bl k) H))
    (ha : PE X a (tE C W x)) (hb : PE X b (tE C W y)) (hm : behindInMarks (cop o) b = false) : PE X (.Compare a [cop o] [b] pos) (tE C W (.cmp o x y)) :=
  PE.imp (pe_cmpR ho ha hb hm) fun σ H Q ⟨env, S, ρ, rs, re, h⟩ => by
    simp only [evE] at h
    refine two (k := fun x y S2 => ofD S2 ((cmpD o x y S2).map .bl)) rs re h fun x y S2 v u H2 ρ2 s2 r1 r2 _ h2 => ?_
    cases q : cmpD o x y S2 with
    | none => rw [q] at h2; exact h2.elim
    | some k =>
      rw [q] at h2
      exact ⟨x, y, S2, ρ2, k, s2, r1, r2, q, h2 _ H2 ρ2 (Ext.refl _ _) s2 rfl⟩
end
end Mi
set_option linter.all false
set_option maxRecDepth 100000
set_option maxHeartbeats 1000000
/-! Mi10: more nodes. -/
namespace Mi
open PySem PySem.Spec PyProof.Rows L2
theorem inD_nd {a b : Vl} {S : Store} {k : Bool} (h : inD a b S = some k) : noDks b = true := by
  cases b with
  | d b => cases b with
    | dks kvs => cases a with
      | d a => simp [inD] at h
      | _ => simp [inD] at h
    | _ => rfl
  | _ => rfl
theorem idxD_nd {a b : Vl} {S : Store} {d : D} (h : idxD a b S = some d) : noDks a = true := by
  cases a with
  | d a => cases a with
    | dks kvs => cases b with
      | d b => cases b <;> simp [idxD, lview] at h
      | _ => simp [idxD] at h
    | _ => rfl
  | _ => rfl
section
variable {C : Ctx} {X : Cx} {W : XK} {σ : L2.St} {H : Hp} {Q : VK}
/-- every comparison's rule -/
theorem opc (hu : X.A.units + 65 < cLine) (hK : C.g.K = X.K) (o : Cop) : OpR X (compareOp (cop o)) (rc C.g C.fr o) := by
  have hu' : X.A.units + 64 < cLine := by omega
  cases o with
  | eq => exact opc_eq hu' hK
  | ne => exact opc_ne hu' hK
  | lt => exact opc_lt
  | le => exact opc_le
  | gt => exact opc_gt
  | ge => exact opc_ge
  | is_ => exact opc_is
  | isnot => exact opc_isnot
  | in_ => exact OpR.imp (opc_in hu hK) fun x y H Q ⟨a, b, S, ρ, k, s, ra, rb, e, q⟩ => ⟨a, b, S, ρ, k, s, ra, rb, e, inD_nd (show inD a b S = some k from e), q⟩
  | notin =>
    refine OpR.imp (opc_notin hu hK) fun x y H Q ⟨a, b, S, ρ, k, s, ra, rb, e, q⟩ => ⟨a, b, S, ρ, k, s, ra, rb, e, ?_, q⟩
    have e' : (inD a b S).map (!·) = some k := e
    cases z : inD a b S with
    | none => rw [z] at e'; cases e'
    | some k' => exact inD_nd z
theorem pe_ch {o p : Cop} {a b c : Expr} {x y z : Mi.E} {pos : Pos} (hu : X.A.units + 65 < cLine) (hK : C.g.K = X.K)
    (ha : PE X a (tE C W x)) (hb : PE X b (tE C W y)) (hc : PE X c (tE C W z)) (hm : lastMarks [cop o, cop p] [b, c] = false) : PE X (.Compare a [cop o, cop p] [b, c] pos) (tE C W (.chn o p x y z)) :=
  PE.imp (pe_chain (opc hu hK o) (opc hu hK p) ha hb hc hm) fun σ H Q ⟨env, S, ρ, rs, re, h⟩ => by
    simp only [evE] at h
    refine two (k := fun x1 y1 S2 => match cmpD o x1 y1 S2 with
        | some true => match evE C.P C.F z env S2 with
          | .ok z S3 => ofD S3 ((cmpD p y1 z S3).map .bl)
          | .exc c d S3 => .exc c d S3
          | .bad => .bad
        | some false => .ok (.d (.bl false)) S2
        | none => .bad) rs re h fun x1 y1 S2 v u H2 ρ2 s2 r1 r2 re2 h2 => ?_
    cases q : cmpD o x1 y1 S2 with
    | none => rw [q] at h2; exact h2.elim
    | some k =>
      simp only [q] at h2
      refine ⟨x1, y1, S2, ρ2, k, s2, r1, r2, q, k, rfl, ?_⟩
      cases k with
      | false => exact h2 _ H2 ρ2 (Ext.refl _ _) s2 rfl
      | true =>
        dsimp only at h2
        refine ⟨env, S2, ρ2, s2, re2, PoE.of (Q := Q) (fun z1 S3 e w H3 ρ3 x3 s3 r3 => ?_) (fun c d S3 e => by rw [e] at h2; exact h2) (fun e => by rw [e] at h2; exact h2)⟩
        rw [e] at h2
        replace h2 : PoE C.g C.fr W Q ρ2 H2 (ofD S3 ((cmpD p y1 z1 S3).map .bl)) := h2
        cases q3 : cmpD p y1 z1 S3 with
        | none => rw [q3] at h2; exact h2.elim
        | some k =>
          rw [q3] at h2
          exact ⟨y1, z1, S3, ρ3, k, s3, RVl.ext x3 _ _ _ r2, r3, q3, h2 _ H3 ρ3 x3 s3 rfl⟩
/-! ### truth -/
theorem tT_tB {x : Mi.E} {σ : L2.St} {H : Hp} {Q : Bool → Hp → Prop} (h : tT C W x σ H Q) : tB (tE C W x) σ H Q := by
  obtain ⟨env, S, ρ, rs, re, h⟩ := h
  refine ⟨env, S, ρ, rs, re, ?_⟩
  cases q : evE C.P C.F x env S with
  | bad => rw [q] at h; exact h
  | exc c d S1 => rw [q] at h; exact h
  | ok v S1 =>
    rw [q] at h
    intro v' H' ρ' e s r
    cases v with
    | d d =>
      cases d with
      | bl b => exact ⟨b, r, h H' ρ' e s⟩
      | _ => exact h.elim
    | _ => exact h.elim
theorem tE_tT {x : Mi.E} {σ : L2.St} {H : Hp} {Q : VK} {env : Env} {S : Store} {ρ : List Addr} (rs : C.RS ρ H S) (re : REnv C ρ H env σ) {Q' : Bool → Hp → Prop} (h : PoB C.g W Q' ρ H (asB (evE C.P C.F x env S))) : tT C W x σ H Q' := ⟨env, S, ρ, rs, re, h⟩
theorem pt_v {e : Expr} {x : Mi.E} (h : PE X e (tE C W x)) (he : ∀ whole, isTrue e X.env whole = (do let v ← whole; standAt e.pos; holding [v] (truthy v))) : PT X e (tT C W x) :=
  PT.imp (pt_val h he) fun σ H Q q => tT_tB q
theorem pt_cm {o : Cop} {a b : Expr} {x y : Mi.E} {pos : Pos} (ho : OpR X (compareOp (cop o)) (rc C.g C.fr o)) (ha : PE X a (tE C W x)) (hb : PE X b (tE C W y)) (hm : behindInMarks (cop o) b = false) : PT X (.Compare a [cop o] [b] pos) (tT C W (.cmp o x y)) :=
  PT.imp (pt_cmpR ho ha hb hm) fun σ H Q q => by
    obtain ⟨env, S, ρ, rs, re, h⟩ := tT_tB q
    simp only [evE] at h
    refine two (k := fun x y S2 => ofD S2 ((cmpD o x y S2).map .bl)) rs re h fun x y S2 v u H2 ρ2 s2 r1 r2 _ h2 => ?_
    cases q : cmpD o x y S2 with
    | none => rw [q] at h2; exact h2.elim
    | some k =>
      rw [q] at h2
      exact ⟨x, y, S2, ρ2, k, s2, r1, r2, q, h2 _ H2 ρ2 (Ext.refl _ _) s2 rfl⟩
theorem pt_ch {o p : Cop} {a b c : Expr} {x y z : Mi.E} {pos : Pos} (hu : X.A.units + 65 < cLine) (hK : C.g.K = X.K)
    (ha : PE X a (tE C W x)) (hb : PE X b (tE C W y)) (hc : PE X c (tE C W z)) (hm : lastMarks [cop o, cop p] [b, c] = false) : PT X (.Compare a [cop o, cop p] [b, c] pos) (tT C W (.chn o p x y z)) :=
  PT.imp (pt_chain (opc hu hK o) (opc hu hK p) ha hb hc hm) fun σ H Q q => by
    obtain ⟨env, S, ρ, rs, re, h⟩ := tT_tB q
    simp only [evE] at h
    refine two (k := fun x1 y1 S2 => match cmpD o x1 y1 S2 with
        | some true => match evE C.P C.F z env S2 with
          | .ok z S3 => ofD S3 ((cmpD p y1 z S3).map .bl)
          | .exc c d S3 => .exc c d S3
          | .bad => .bad
        | some false => .ok (.d (.bl false)) S2
        | none => .bad) rs re h fun x1 y1 S2 v u H2 ρ2 s2 r1 r2 re2 h2 => ?_
    cases q : cmpD o x1 y1 S2 with
    | none => rw [q] at h2; exact h2.elim
    | some k =>
      simp only [q] at h2
      refine ⟨x1, y1, S2, ρ2, k, s2, r1, r2, q, k, rfl, ?_⟩
      cases k with
      | false => exact h2 _ H2 ρ2 (Ext.refl _ _) s2 rfl
      | true =>
        dsimp only at h2
        refine ⟨env, S2, ρ2, s2, re2, PoE.of (Q := fun x1 H' => ∃ c, x1 = V.bl c ∧ Q c H') (fun z1 S3 e w H3 ρ3 x3 s3 r3 => ?_) (fun c d S3 e => by rw [e] at h2; exact h2) (fun e => by rw [e] at h2; exact h2)⟩
        rw [e] at h2
        replace h2 : PoE C.g C.fr W (fun x1 H' => ∃ c, x1 = V.bl c ∧ Q c H') ρ2 H2 (ofD S3 ((cmpD p y1 z1 S3).map .bl)) := h2
        cases q3 : cmpD p y1 z1 S3 with
        | none => rw [q3] at h2; exact h2.elim
        | some k =>
          rw [q3] at h2
          exact ⟨y1, z1, S3, ρ3, k, s3, RVl.ext x3 _ _ _ r2, r3, q3, h2 _ H3 ρ3 x3 s3 rfl⟩
/-- not -/
theorem pt_nt {a : Expr} {x : Mi.E} {pos : Pos} (ha : PT X a (tT C W x)) : PT X (.UnaryOp .Not a pos) (tT C W (.not x)) :=
  PT.imp (pt_not ha) fun σ H Q ⟨env, S, ρ, rs, re, h⟩ => by
    simp only [evE] at h
    refine ⟨env, S, ρ, rs, re, ?_⟩
    cases q : asB (evE C.P C.F x env S) with
    | bad => rw [q] at h; exact h
    | exc c d S1 => rw [q] at h; exact h
    | ok v S1 => rw [q] at h; exact h
theorem pe_nt {a : Expr} {x : Mi.E} {pos : Pos} (ha : PE X a (tE C W x)) : PE X (.UnaryOp .Not a pos) (tE C W (.not x)) :=
  PE.imp (pe_not ha) fun σ H Q ⟨env, S, ρ, rs, re, h⟩ => by
    simp only [evE] at h
    refine tT_tB (Q := fun c H1 => Q (.bl (!c)) H1) ⟨env, S, ρ, rs, re, ?_⟩
    cases q : asB (evE C.P C.F x env S) with
    | bad => rw [q] at h; exact h
    | exc c d S1 => rw [q] at h; exact h
    | ok v S1 => rw [q] at h; exact fun H' ρ' e s => h _ H' ρ' e s rfl
/-- a if c else b -/
theorem ife_tE {x y z : Mi.E} {σ : L2.St} {H : Hp} {Q : VK} (h : tE C W (.ife x y z) σ H Q) : tT C W x σ H fun c H1 => if c = true then tE C W y σ H1 Q else tE C W z σ H1 Q := by
  obtain ⟨env, S, ρ, rs, re, h⟩ := h
  simp only [evE] at h
  refine ⟨env, S, ρ, rs, re, ?_⟩
  cases q : asB (evE C.P C.F x env S) with
  | bad => rw [q] at h; exact h
  | exc c d S1 => rw [q] at h; exact h
  | ok v S1 =>
    rw [q] at h
    intro H' ρ' e s
    cases v with
    | true => rw [if_pos rfl]; exact ⟨env, S1, ρ', s, re.ext e, PoE.mono e h⟩
    | false => rw [if_neg Bool.false_ne_true]; exact ⟨env, S1, ρ', s, re.ext e, PoE.mono e h⟩
theorem pe_if {c a b : Expr} {x y z : Mi.E} {pos : Pos} (hc : PT X c (tT C W x)) (ha : PE X a (tE C W y)) (hb : PE X b (tE C W z)) : PE X (.IfExp c a b pos) (tE C W (.ife x y z)) :=
  PE.imp (pe_ifExp hc ha hb) fun σ H Q h => ife_tE h
theorem pt_if {c a b : Expr} {x y z : Mi.E} {pos : Pos} (hc : PT X c (tT C W x)) (ha : PT X a (tT C W y)) (hb : PT X b (tT C W z)) : PT X (.IfExp c a b pos) (tT C W (.ife x y z)) := by
  refine ⟨fun pins s σ H Q I hw => ?_⟩
  obtain ⟨env, S, ρ, rs, re, h⟩ := hw
  refine PyProof.Rows.isTrue_IfExp (thn (hc.run pins s σ H (fun k H1 => if k = true then tT C W y σ H1 Q else tT C W z σ H1 Q) I ⟨env, S, ρ, rs, re, ?_⟩) fun k s1 ⟨H1, I1, q1⟩ => ?_)
  · simp only [evE] at h
    cases q : asB (evE C.P C.F x env S) with
    | bad => rw [q] at h; exact h
    | exc c d S1 => rw [q] at h; exact h
    | ok v S1 =>
      rw [q] at h
      intro H' ρ' e s
      cases v with
      | true => rw [if_pos rfl]; exact ⟨env, S1, ρ', s, re.ext e, PoB.mono e h⟩
      | false => rw [if_neg Bool.false_ne_true]; exact ⟨env, S1, ρ', s, re.ext e, PoB.mono e h⟩
  · cases k with
    | true =>
      rw [if_pos rfl] at q1 ⊢
      exact ha.run pins s1 σ H1 Q I1 q1
    | false =>
      rw [if_neg Bool.false_ne_true] at q1 ⊢
      exact hb.run pins s1 σ H1 Q I1 q1
end
end Mi
set_option linter.all false
set_option maxRecDepth 100000
set_option maxHeartbeats 1000000
/-! Mi11: and, or, subscripts, built-ins, methods. -/
namespace Mi
open PySem PySem.Spec PyProof.Rows L2
section
variable {C : Ctx} {X : Cx} {W : XK} {σ : L2.St} {H : Hp} {Q : VK}
/-- an expression's two readings -/
structure PB (C : Ctx) (X : Cx) (W : XK) (e : Expr) (x : Mi.E) : Prop where
  pe : PE X e (tE C W x)
  pt : PT X e (tT C W x)
def PBs (C : Ctx) (X : Cx) (W : XK) : List Expr → List Mi.E → Prop
  | [], [] => True
  | e :: es, x :: xs => PB C X W e x ∧ PBs C X W es xs
  | _, _ => False
theorem and_tT {x y : Mi.E} {ys : List Mi.E} {σ : L2.St} {H : Hp} {Q : VK} (h : tE C W (.and (x :: y :: ys)) σ H Q) : tT C W x σ H fun c H1 => if c = true then tE C W (.and (y :: ys)) σ H1 Q else Q (.bl false) H1 := by
  obtain ⟨env, S, ρ, rs, re, h⟩ := h
  simp only [evE] at h
  rw [evAnd] at h
  refine ⟨env, S, ρ, rs, re, ?_⟩
  cases q : asB (evE C.P C.F x env S) with
  | bad => rw [q] at h; exact h
  | exc c d S1 => rw [q] at h; exact h
  | ok v S1 =>
    rw [q] at h
    intro H' ρ' e s
    cases v with
    | true => rw [if_pos rfl]; exact ⟨env, S1, ρ', s, re.ext e, by simp only [evE]; exact PoE.mono e h⟩
    | false => rw [if_neg Bool.false_ne_true]; exact h _ H' ρ' e s rfl
theorem or_tT {x y : Mi.E} {ys : List Mi.E} {σ : L2.St} {H : Hp} {Q : VK} (h : tE C W (.or (x :: y :: ys)) σ H Q) : tT C W x σ H fun c H1 => if c = true then Q (.bl true) H1 else tE C W (.or (y :: ys)) σ H1 Q := by
  obtain ⟨env, S, ρ, rs, re, h⟩ := h
  simp only [evE] at h
  rw [evOr] at h
  refine ⟨env, S, ρ, rs, re, ?_⟩
  cases q : asB (evE C.P C.F x env S) with
  | bad => rw [q] at h; exact h
  | exc c d S1 => rw [q] at h; exact h
  | ok v S1 =>
    rw [q] at h
    intro H' ρ' e s
    cases v with
    | false => rw [if_neg Bool.false_ne_true]; exact ⟨env, S1, ρ', s, re.ext e, by simp only [evE]; exact PoE.mono e h⟩
    | true => rw [if_pos rfl]; exact h _ H' ρ' e s rfl
theorem and1_tT {x : Mi.E} {σ : L2.St} {H : Hp} {Q : VK} (h : tE C W (.and [x]) σ H Q) : tT C W x σ H fun c H1 => Q (.bl c) H1 := by
  obtain ⟨env, S, ρ, rs, re, h⟩ := h
  simp only [evE] at h
  rw [evAnd] at h
  refine ⟨env, S, ρ, rs, re, ?_⟩
  cases q : asB (evE C.P C.F x env S) with
  | bad => rw [q] at h; exact h
  | exc c d S1 => rw [q] at h; exact h
  | ok v S1 =>
    rw [q] at h
    intro H' ρ' e s
    cases v with
    | false => exact h _ H' ρ' e s rfl
    | true => exact h _ H' ρ' e s rfl
theorem or1_tT {x : Mi.E} {σ : L2.St} {H : Hp} {Q : VK} (h : tE C W (.or [x]) σ H Q) : tT C W x σ H fun c H1 => Q (.bl c) H1 := by
  obtain ⟨env, S, ρ, rs, re, h⟩ := h
  simp only [evE] at h
  rw [evOr] at h
  refine ⟨env, S, ρ, rs, re, ?_⟩
  cases q : asB (evE C.P C.F x env S) with
  | bad => rw [q] at h; exact h
  | exc c d S1 => rw [q] at h; exact h
  | ok v S1 =>
    rw [q] at h
    intro H' ρ' e s
    cases v with
    | false => exact h _ H' ρ' e s rfl
    | true => exact h _ H' ρ' e s rfl
theorem tT_mono {x : Mi.E} {σ : L2.St} {H : Hp} {Q Q' : Bool → Hp → Prop} (h : tT C W x σ H Q) (i : ∀ c H1, Q c H1 → Q' c H1) : tT C W x σ H Q' := by
  obtain ⟨env, S, ρ, rs, re, h⟩ := h
  refine ⟨env, S, ρ, rs, re, ?_⟩
  cases q : asB (evE C.P C.F x env S) with
  | bad => rw [q] at h; exact h
  | exc c d S1 => rw [q] at h; exact h
  | ok v S1 => rw [q] at h; exact fun H' ρ' e s => i _ _ (h H' ρ' e s)
/-- a test's reading, by its value's -/
theorem tT_tE {x : Mi.E} {σ : L2.St} {H : Hp} {Q : Bool → Hp → Prop} (h : tT C W x σ H Q) : tE C W x σ H fun v H1 => ∃ c, v = .bl c ∧ Q c H1 := tT_tB h
theorem pe_ands {pos : Pos} : ∀ {es : List Expr} {xs : List Mi.E}, PBs C X W es xs → xs ≠ [] → PE X (.BoolOp .And es pos) (tE C W (.and xs))
  | [], [], _, n => absurd rfl n
  | [e], [x], h, _ => PE.imp (pe_one h.1.pe) fun σ H Q q => by
    obtain ⟨env, S, ρ, rs, re, h⟩ := tT_tB (and1_tT q)
    refine ⟨env, S, ρ, rs, re, ?_⟩
    cases q : evE C.P C.F x env S with
    | bad => rw [q] at h; exact h
    | exc c d S1 => rw [q] at h; exact h
    | ok v S1 =>
      rw [q] at h
      intro v' H' ρ' e s r
      obtain ⟨c, rfl, q⟩ := h v' H' ρ' e s r
      exact q
  | e :: e2 :: es, x :: y :: ys, h, _ => PE.imp (pe_and h.1.pe (pe_ands h.2 (by simp))) fun σ H Q q => tT_tB (and_tT q)
  | [_], _ :: _ :: _, h, _ => h.2.elim
  | _ :: _ :: _, [_], h, _ => h.2.elim
  | [], _ :: _, h, _ => h.elim
  | _ :: _, [], h, _ => h.elim
theorem pe_ors {pos : Pos} : ∀ {es : List Expr} {xs : List Mi.E}, PBs C X W es xs → xs ≠ [] → PE X (.BoolOp .Or es pos) (tE C W (.or xs))
  | [], [], _, n => absurd rfl n
  | [e], [x], h, _ => PE.imp (pe_one h.1.pe) fun σ H Q q => by
    obtain ⟨env, S, ρ, rs, re, h⟩ := tT_tB (or1_tT q)
    refine ⟨env, S, ρ, rs, re, ?_⟩
    cases q : evE C.P C.F x env S with
    | bad => rw [q] at h; exact h
    | exc c d S1 => rw [q] at h; exact h
    | ok v S1 =>
      rw [q] at h
      intro v' H' ρ' e s r
      obtain ⟨c, rfl, q⟩ := h v' H' ρ' e s r
      exact q
  | e :: e2 :: es, x :: y :: ys, h, _ => PE.imp (pe_or h.1.pe (pe_ors h.2 (by simp))) fun σ H Q q => tT_tB (or_tT q)
  | [_], _ :: _ :: _, h, _ => h.2.elim
  | _ :: _ :: _, [_], h, _ => h.2.elim
  | [], _ :: _, h, _ => h.elim
  | _ :: _, [], h, _ => h.elim
/-- a test of a bool's value -/
theorem tT_of {x : Mi.E} {σ : L2.St} {H : Hp} {Q : Bool → Hp → Prop} {env : Env} {S : Store} {ρ : List Addr} (rs : C.RS ρ H S) (re : REnv C ρ H env σ) (h : PoB C.g W Q ρ H (asB (evE C.P C.F x env S))) : tE C W x σ H fun v H1 => ∃ c, v = .bl c ∧ Q c H1 := tT_tB ⟨env, S, ρ, rs, re, h⟩
theorem PW.imp {X : Cx} {e : Expr} {t t' : TT} (h : PW X e t) (i : ∀ σ H Q, t' σ H Q → t σ H Q) : PW X e t' := ⟨fun w pins s σ H Q I q => h.run w pins s σ H Q I (i _ _ _ q)⟩
theorem and_tT2 {x y : Mi.E} {ys : List Mi.E} {σ : L2.St} {H : Hp} {Q : Bool → Hp → Prop} (h : tT C W (.and (x :: y :: ys)) σ H Q) : tT C W x σ H fun c H1 => if c = true then tT C W (.and (y :: ys)) σ H1 Q else Q false H1 := by
  obtain ⟨env, S, ρ, rs, re, h⟩ := h
  simp only [evE] at h
  rw [evAnd] at h
  refine ⟨env, S, ρ, rs, re, ?_⟩
  cases q : asB (evE C.P C.F x env S) with
  | bad => rw [q] at h; exact h
  | exc c d S1 => rw [q] at h; exact h
  | ok v S1 =>
    rw [q] at h
    intro H' ρ' e s
    cases v with
    | true => rw [if_pos rfl]; exact ⟨env, S1, ρ', s, re.ext e, by simp only [evE]; exact PoB.mono e h⟩
    | false => rw [if_neg Bool.false_ne_true]; exact h H' ρ' e s
theorem and1_tT2 {x : Mi.E} {σ : L2.St} {H : Hp} {Q : Bool → Hp → Prop} (h : tT C W (.and [x]) σ H Q) : tT C W x σ H Q := by
  obtain ⟨env, S, ρ, rs, re, h⟩ := h
  simp only [evE] at h
  rw [evAnd] at h
  refine ⟨env, S, ρ, rs, re, ?_⟩
  cases q : asB (evE C.P C.F x env S) with
  | bad => rw [q] at h; exact h
  | exc c d S1 => rw [q] at h; exact h
  | ok v S1 =>
    rw [q] at h
    intro H' ρ' e s
    cases v with
    | false => exact h H' ρ' e s
    | true => exact h H' ρ' e s
theorem pw_ands {pos : Pos} : ∀ {es : List Expr} {xs : List Mi.E}, PBs C X W es xs → xs ≠ [] → PW X (.BoolOp .And es pos) (tT C W (.and xs))
  | [], [], _, n => absurd rfl n
  | [e], [x], h, _ => PW.imp (pw_and1 h.1.pt) fun σ H Q q => and1_tT2 q
  | e :: e2 :: es, x :: y :: ys, h, _ => PW.imp (pw_and h.1.pt (pw_ands h.2 (by simp))) fun σ H Q q => and_tT2 q
  | [_], _ :: _ :: _, h, _ => h.2.elim
  | _ :: _ :: _, [_], h, _ => h.2.elim
  | [], _ :: _, h, _ => h.elim
  | _ :: _, [], h, _ => h.elim
theorem or_tT2 {x y : Mi.E} {ys : List Mi.E} {σ : L2.St} {H : Hp} {Q : Bool → Hp → Prop} (h : tT C W (.or (x :: y :: ys)) σ H Q) : tT C W x σ H fun c H1 => if c = true then Q true H1 else tT C W (.or (y :: ys)) σ H1 Q := by
  obtain ⟨env, S, ρ, rs, re, h⟩ := h
  simp only [evE] at h
  rw [evOr] at h
  refine ⟨env, S, ρ, rs, re, ?_⟩
  cases q : asB (evE C.P C.F x env S) with
  | bad => rw [q] at h; exact h
  | exc c d S1 => rw [q] at h; exact h
  | ok v S1 =>
    rw [q] at h
    intro H' ρ' e s
    cases v with
    | true => rw [if_pos rfl]; exact h H' ρ' e s
    | false => rw [if_neg Bool.false_ne_true]; exact ⟨env, S1, ρ', s, re.ext e, by simp only [evE]; exact PoB.mono e h⟩
theorem or1_tT2 {x : Mi.E} {σ : L2.St} {H : Hp} {Q : Bool → Hp → Prop} (h : tT C W (.or [x]) σ H Q) : tT C W x σ H Q := by
  obtain ⟨env, S, ρ, rs, re, h⟩ := h
  simp only [evE] at h
  rw [evOr] at h
  refine ⟨env, S, ρ, rs, re, ?_⟩
  cases q : asB (evE C.P C.F x env S) with
  | bad => rw [q] at h; exact h
  | exc c d S1 => rw [q] at h; exact h
  | ok v S1 =>
    rw [q] at h
    intro H' ρ' e s
    cases v with
    | false => exact h H' ρ' e s
    | true => exact h H' ρ' e s
theorem pw_ors {pos : Pos} : ∀ {es : List Expr} {xs : List Mi.E}, PBs C X W es xs → xs ≠ [] → PW X (.BoolOp .Or es pos) (tT C W (.or xs))
  | [], [], _, n => absurd rfl n
  | [e], [x], h, _ => PW.imp (pw_or1 h.1.pt) fun σ H Q q => or1_tT2 q
  | e :: e2 :: es, x :: y :: ys, h, _ => PW.imp (pw_or h.1.pt (pw_ors h.2 (by simp))) fun σ H Q q => or_tT2 q
  | [_], _ :: _ :: _, h, _ => h.2.elim
  | _ :: _ :: _, [_], h, _ => h.2.elim
  | [], _ :: _, h, _ => h.elim
  | _ :: _, [], h, _ => h.elim
/-- a step on one value that raises nothing -/
theorem one {a : Mi.E} {k : Vl → Store → Res Vl} {env : Env} {S : Store} {ρ : List Addr} (rs : C.RS ρ H S) (re : REnv C ρ H env σ)
    (h : PoE C.g C.fr W Q ρ H (match evE C.P C.F a env S with
      | .ok x S1 => k x S1
      | .exc c d S1 => .exc c d S1
      | .bad => .bad)) {R : V → Hp → Prop}
    (hR : ∀ x S2 v H2 ρ2, C.RS ρ2 H2 S2 → C.RV ρ2 H2 x v → REnv C ρ2 H2 env σ → Ext ρ H ρ2 H2 → PoE C.g C.fr W Q ρ2 H2 (k x S2) → R v H2) : tE C W a σ H R := by
  refine ⟨env, S, ρ, rs, re, PoE.of (Q := Q) (fun x S1 e v H1 ρ1 x1 s1 r1 => ?_) (fun c d S1 e => by rw [e] at h; exact h) (fun e => by rw [e] at h; exact h)⟩
  rw [e] at h
  exact hR x S1 v H1 ρ1 s1 r1 (re.ext x1) x1 (PoE.mono x1 h)
/-- .. on arguments -/
theorem many {as : List Mi.E} {k : List Vl → Store → Res Vl} {env : Env} {S : Store} {ρ : List Addr} (rs : C.RS ρ H S) (re : REnv C ρ H env σ)
    (h : PoE C.g C.fr W Q ρ H (match evEs C.P C.F as env S with
      | .ok x S1 => k x S1
      | .exc c d S1 => .exc c d S1
      | .bad => .bad)) {R : List V → Hp → Prop}
    (hR : ∀ x S2 v H2 ρ2, C.RS ρ2 H2 S2 → C.RVs ρ2 H2 x v → REnv C ρ2 H2 env σ → Ext ρ H ρ2 H2 → PoE C.g C.fr W Q ρ2 H2 (k x S2) → R v H2) : tA C W as σ H R := by
  refine ⟨env, S, ρ, rs, re, PoEs.of (Q := Q) (fun x S1 e v H1 ρ1 x1 s1 r1 => ?_) (fun c d S1 e => by rw [e] at h; exact h) (fun e => by rw [e] at h; exact h)⟩
  rw [e] at h
  exact hR x S1 v H1 ρ1 s1 r1 (re.ext x1) x1 (PoE.mono x1 h)
theorem pe_x {a b : Expr} {x y : Mi.E} {pos : Pos} (hK : C.g.K = X.K) (ha : PE X a (tE C W x)) (hb : PE X b (tE C W y)) (hs : PlainIx b) : PE X (.Subscript a b pos) (tE C W (.idx x y)) :=
  PE.imp (pe_ix (ixr (fr := C.fr) hK) ha hb hs) fun σ H Q ⟨env, S, ρ, rs, re, h⟩ => by
    simp only [evE] at h
    refine two (k := fun x y S2 => ofD S2 (idxD x y S2)) rs re h fun x y S2 v u H2 ρ2 s2 r1 r2 _ h2 => ?_
    cases q : idxD x y S2 with
    | none => rw [q] at h2; exact h2.elim
    | some d =>
      rw [q] at h2
      exact ⟨x, y, S2, ρ2, d, s2, r1, r2, q, idxD_nd q, fun w hw => h2 w H2 ρ2 (Ext.refl _ _) s2 hw⟩
theorem slD_noexc {mu : Bool} {x : Vl} {lo hi : Option Int} {S : Store} : ∀ c d S', slD mu x lo hi S ≠ .exc c d S' := fun c d S' h => by
  unfold slD at h
  repeat' (first | (exact newL_noexc _ _ _ h) | (cases h; done) | split at h)
theorem revD_noexc {mu : Bool} {x : Vl} {S : Store} : ∀ c d S', revD mu x S ≠ .exc c d S' := fun c d S' h => by
  unfold revD at h
  repeat' (first | (exact newL_noexc _ _ _ h) | (cases h; done) | split at h)
theorem bltD_noexc {b : Blt} {mu : Bool} {as : List Vl} {S : Store} : ∀ c d S', bltD b mu as S ≠ .exc c d S' := fun c d S' h => by
  cases b <;> simp only [bltD, lenD, absD, intD, strD, tupleD, listD, maxD, allD] at h <;>
  repeat' (first | (exact newL_noexc _ _ _ h) | (cases h; done) | split at h)
theorem mthD_noexc {m : Mth} {o : Vl} {as : List Vl} {S : Store} : ∀ c d S', mthD m o as S ≠ .exc c d S' := fun c d S' h => by
  cases m <;> simp only [mthD, appD, popD, splitD, joinD, replD, uppD] at h <;>
  repeat' (first | (exact newL_noexc _ _ _ h) | (cases h; done) | split at h)
end
end Mi
set_option linter.all false
set_option maxRecDepth 100000
set_option maxHeartbeats 1000000
/-! Mi12: slices, reversal, isinstance, built-ins, methods, displays. -/
namespace Mi
open PySem PySem.Spec PyProof.Rows L2
section
variable {C : Ctx} {X : Cx} {W : XK} {σ : L2.St} {H : Hp} {Q : VK}
/-! ### slices -/
def tO (C : Ctx) (W : XK) (lo : List Mi.E) : TO := fun σ H Q => ∃ env S ρ, C.RS ρ H S ∧ REnv C ρ H env σ ∧ (match evEs C.P C.F lo env S with
  | .ok l S1 => ∃ i, parts l = some i ∧ ∀ H' ρ', Ext ρ H ρ' H' → C.RS ρ' H' S1 → Q i H'
  | .exc c d S1 => PoE C.g C.fr W (fun _ _ => True) ρ H (.exc c d S1)
  | .bad => False)
def PLo (C : Ctx) (X : Cx) (W : XK) : Option Expr → List Mi.E → Prop
  | none, [] => True
  | some e, [x] => PE X e (tE C W x)
  | _, _ => False
theorem po_l : ∀ {e : Option Expr} {lo : List Mi.E}, PLo C X W e lo → PO X e (tO C W lo)
  | none, [], _ => ⟨fun pins s σ H Q I h => po_none.run pins s σ H Q I (by
      obtain ⟨env, S, ρ, rs, re, h⟩ := h
      obtain ⟨i, h1, h2⟩ := h
      cases h1
      exact h2 H ρ (Ext.refl _ _) rs)⟩
  | some e, [x], p => ⟨fun pins s σ H Q I h => (po_some p).run pins s σ H Q I (by
      obtain ⟨env, S, ρ, rs, re, h⟩ := h
      simp only [evEs] at h
      refine ⟨env, S, ρ, rs, re, ?_⟩
      cases q : evE C.P C.F x env S with
      | bad => simp only [q] at h
      | exc c d S1 => simp only [q] at h; exact h
      | ok v S1 =>
        simp only [q] at h
        obtain ⟨i, h1, h2⟩ := h
        intro v' H' ρ' e s r
        unfold parts at h1
        split at h1
        · rename_i z; cases z
        · rename_i j z
          cases z; cases h1; cases r
          exact ⟨j, rfl, h2 H' ρ' e s⟩
        · cases h1)⟩
  | none, _ :: _, h => h.elim
  | some _, [], h => h.elim
  | some _, _ :: _ :: _, h => h.elim
theorem pe_s {mu : Bool} {a : Expr} {lo hi : Option Expr} {x : Mi.E} {l h : List Mi.E} {p2 pos : Pos} (hK : C.g.K = X.K) (ha : PE X a (tE C W x)) (hl : PLo C X W lo l) (hh : PLo C X W hi h) : PE X (.Subscript a (.Slice lo hi none p2) pos) (tE C W (.sl mu x l h)) :=
  PE.imp (pe_slice (slr (fr := C.fr) hK mu) ha (po_l hl) (po_l hh)) fun σ H Q ⟨env, S, ρ, rs, re, w⟩ => by
    simp only [evE] at w
    refine one rs re (k := fun x S1 => match evEs C.P C.F l env S1 with
      | .ok l S2 => match parts l with
        | some i => match evEs C.P C.F h env S2 with
          | .ok h S3 => match parts h with
            | some j => slD mu x i j S3
            | none => .bad
          | .exc c d S3 => .exc c d S3
          | .bad => .bad
        | none => .bad
      | .exc c d S2 => .exc c d S2
      | .bad => .bad) w fun x1 S1 v H1 ρ1 s1 r1 re1 x1e w1 => ?_
    refine ⟨env, S1, ρ1, s1, re1, ?_⟩
    cases q : evEs C.P C.F l env S1 with
    | bad => rw [q] at w1; exact w1
    | exc c d S2 => rw [q] at w1; exact w1
    | ok l1 S2 =>
      simp only [q] at w1
      dsimp only
      cases pl : parts l1 with
      | none => rw [pl] at w1; exact w1.elim
      | some i =>
        simp only [pl] at w1
        refine ⟨i, rfl, fun H2 ρ2 x2 s2 => ⟨env, S2, ρ2, s2, re1.ext x2, ?_⟩⟩
        cases q2 : evEs C.P C.F h env S2 with
        | bad => rw [q2] at w1; exact w1.elim
        | exc c d S3 =>
          simp only [q2] at w1
          exact PoE.mono x2 (r := .exc c d S3) w1
        | ok h1 S3 =>
          simp only [q2] at w1
          dsimp only
          cases ph : parts h1 with
          | none => rw [ph] at w1; exact w1.elim
          | some j =>
            simp only [ph] at w1
            exact ⟨j, rfl, fun H3 ρ3 x3 s3 => ⟨x1, S3, ρ3, s3, RVl.ext (x2.trans x3) _ _ _ r1, (PoE.mono (x2.trans x3) w1).toR slD_noexc⟩⟩
/-! ### x[::-1] -/
def RvR (X : Cx) (r : V → Hp → VK → Prop) : Prop :=
  ∀ (pins : List (Addr × Obj)) (s : Shared) (σ : L2.St) (H : Hp) (x : V) (v vl vu vs : Value) (sl : Addr) (Q : VK), Inv X pins σ H s → RelV x v → s.heap.IsSliceOf sl vl vu vs → IsPart vl none → IsPart vu none → IsPart vs (some (-1)) → r x H Q →
    ∃ T id, typeLookup (.type T) "__getitem__" = pure (some (.builtin id)) ∧ s.TypeIs v T ∧ wpAny (model X.prog X.w) X.A (getItem v (.ref sl)) (EP X pins σ Q) X.xe s
theorem rv_list : RvR X (fun x H Q => ∃ a xs, x = .ref a ∧ SqL X.K H a xs ∧ ∀ p, H p = none → Q (.ref p) (upd H p (.lst xs.reverse))) := by
  intro pins s σ H x v vl vu vs sl Q I rx hs pl pu ps h
  obtain ⟨a, xs, ex, hx, q⟩ := h
  subst ex
  cases rx
  obtain ⟨its, r, ht, hz⟩ := I.list hx
  have hlen := r.length
  refine ⟨"list", _, PySem.slot_list_getitem.lookup, ht.isList.typeIs, wpAny_getItem_list_slice ht.isList hs pl pu ps (by decide) ?_ (by rw [List.size_toArray]; omega)⟩
  rw [PySem.W.krv_pick]
  refine ⟨.ref _, _, I.laid (t' := s.toks) (o := .lst xs.reverse) (fun b ob q => Heap.get?_push_of_some _ q) (Nat.le_refl _) ?_, rfl, q _ (I.hok.fresh (Nat.le_refl _))⟩
  exact ⟨by rw [List.length_reverse]; exact hz, _, 0, r.reverse, Heap.get?_push_size _ rfl⟩
theorem rev_pick (z : Str) : ((slicePicked z none none (some ((-1 : Int), t))).filterMap (z.cps[·]?)) = z.cps.toList.reverse := by
  show ((Builtin.Str.strSliceIndices none none (-1) z.length).filterMap (z.cps[·]?)) = _
  show ((sliceRange ((z.cps.size : Int) - 1) (-1) (-1)).filterMap (z.cps[·]?)) = _
  rw [PySem.W.krv_sliceRange, PySem.W.krv_range, List.filterMap_reverse, PySem.W.krv_all]
theorem rv_str : RvR X (fun x H Q => ∃ z : List Nat, x = .str (toS z) ∧ z.length ≤ sizeLine ∧ Q (.str (toS z.reverse)) H) := by
  intro pins s σ H x v vl vu vs sl Q I rx hs pl pu ps h
  obtain ⟨z, ex, hz, q⟩ := h
  subst ex
  obtain ⟨t, rfl⟩ := rx
  obtain ⟨os, hos, hcs, hds⟩ := hs
  cases pl
  cases pu
  cases ps with
  | int i t' =>
  refine ⟨"str", _, F.slot_str_getitem.lookup, typeIs_str _ _ _, wpAny_getItem_str_slice (l := none) (u := none) (st := some ((-1 : Int), t')) ⟨os, hos, hcs, hds⟩ (by simp) ?_⟩
  unfold sliceMade
  rw [if_neg (by
    intro w
    rw [Bool.and_eq_true] at w
    exact absurd w.1 (by simp)), rev_pick]
  have e : (⟨((toS z).cps.toList.reverse).toArray⟩ : Str) = toS z.reverse := by simp [toS]
  rw [e]
  refine ⟨by rw [len_toS, List.length_reverse]; exact hz, .str _, H, I.tok _, ⟨_, rfl⟩, q⟩
theorem pe_rv {e : Expr} {x : Mi.E} {mu : Bool} {k : Nat} {p1 p2 p3 pos : Pos} (hK : C.g.K = X.K) (he : PE X e (tE C W x)) : PE X (.Subscript e (.Slice none none (some (.UnaryOp .USub (.Constant (.int 1) k p1) p2)) p3) pos) (tE C W (.rev mu x)) := by
  refine ⟨fun pins s σ H Q I h => ?_⟩
  obtain ⟨env, S, ρ, rs, re, w⟩ := h
  simp only [evE] at w
  have w2 : tE C W x σ H fun v H1 => ∃ r, RvR X r ∧ r v H1 Q := one rs re (k := fun x S1 => revD mu x S1) w fun x1 S1 v H1 ρ1 s1 r1 re1 x1e w1 => by
    have w2 := w1.toR revD_noexc
    unfold revD at w2
    split at w2
    · rename_i z
      cases r1
      split at w2
      · rename_i hl
        exact ⟨_, rv_str, z, rfl, by rw [← line_eq]; exact hl, w2.val s1 rfl⟩
      · exact w2.elim
    · split at w2
      · rename_i ds e1
        obtain ⟨p, xs, rfl, hp, hx⟩ := tview_ok s1 r1 e1
        exact ⟨_, rv_list, p, xs, rfl, SqL.of hp, fun q hq => w2.lst s1 hx.rev hq⟩
      · exact w2.elim
  refine Subscript_ (thn (he.run pins s σ H _ I w2) fun v s1 ⟨x, H1, I1, r1, q1⟩ => ?_)
  obtain ⟨r, hr, q⟩ := q1
  have hst : PO X (some (.UnaryOp .USub (.Constant (.int 1) k p1) p2)) (tPart (tUn (rU fun i => .int (-i)) (tC (.int 1)))) := po_some (pe_un un_neg pe_int)
  refine wpAny_Slice (thn (po_none.run pins s1 σ H1 (fun o H2 => o = none ∧ H2 = H1) I1 ⟨rfl, rfl⟩) fun vl s2 ⟨l, H2, I2, pl, el, e2⟩ => ?_)
  subst el e2
  refine thn (po_none.run pins s2 σ H2 (fun o H3 => o = none ∧ H3 = H2) I2 ⟨rfl, rfl⟩) fun vu s3 ⟨u, H3, I3, pu, eu, e3⟩ => ?_
  subst eu e3
  refine thn (hst.run pins s3 σ H3 (fun o H4 => o = some (-1) ∧ H4 = H3) I3 ⟨1, rfl, -1, rfl, rfl, rfl⟩) fun vs s4 ⟨o, H4, I4, ps, eo, e4⟩ => ?_
  subst eo e4
  have I5 : Inv X pins σ H4 { s4 with heap := s4.heap.push { cls := .type "slice", data := .fields #[vl, vu, vs] } } := I4.kept (t' := s4.toks) fun b ob q => Heap.get?_push_of_some _ q
  obtain ⟨T, id, hT, ht, hg⟩ := hr pins _ σ H4 x v vl vu vs s4.heap.objs.size Q I5 r1 (Heap.IsSliceOf.new ..) pl pu ps q
  show wpAny (model X.prog X.w) X.A (subscriptTail e (.Slice none none (some (.UnaryOp .USub (.Constant (.int 1) k p1) p2)) p3) v (.ref s4.heap.objs.size)) (EP X pins σ Q) X.xe { s4 with heap := s4.heap.push { cls := .type "slice", data := .fields #[vl, vu, vs] } }
  exact tail_any (ops := [v, .ref s4.heap.objs.size]) ht hT hg (by with_unfolding_all rfl)
/-! ### isinstance -/
theorem notStar {e : Expr} (h : (match e with | .Starred _ _ => false | _ => true) = true) (es : List Expr) (env : PySem.Env) : starEach (e :: es) env = (false, eval e env) :: starEach es env := by
  cases e <;> first | rfl | cases h
def nstar : Expr → Bool
  | .Starred _ _ => false | _ => true
theorem nstar_each {e : Expr} (h : nstar e = true) (es : List Expr) (env : PySem.Env) : starEach (e :: es) env = (false, eval e env) :: starEach es env := by
  cases e <;> first | rfl | cases h
theorem nstar_any (pos : Pos) (env : PySem.Env) : ∀ {es : List Expr}, es.all nstar = true → (backTo pos (starEach es env)).any (·.1) = false
  | [], _ => rfl
  | e :: es, h => by
    rw [List.all_cons, Bool.and_eq_true] at h
    rw [nstar_each h.1]
    show (false || (backTo pos (starEach es env)).any (·.1)) = false
    rw [nstar_any pos env h.2]; rfl
theorem nstar_all (pos : Pos) (env : PySem.Env) : ∀ {es : List Expr}, es.all nstar = true → (backTo pos (starEach es env)).all (fun x => !x.1) = true
  | [], _ => rfl
  | e :: es, h => by
    rw [List.all_cons, Bool.and_eq_true] at h
    rw [nstar_each h.1]
    show (true && (backTo pos (starEach es env)).all (fun x => !x.1)) = true
    rw [nstar_all pos env h.2]; rfl
theorem boot_tyN (t : Ty) : bootBuiltins (Str.ofString (tyN t)) = some (.type (tyN t)) := by cases t <;> decide +kernel
theorem pe_tyN (t : Ty) {pos : Pos} (hg : Gl X (Str.ofString (tyN t))) (hm : X.mg (Str.ofString (tyN t)) = none) : PE X (.Name (Str.ofString (tyN t)) pos) (tC (.ty (tyN t))) :=
  pe_bltn hg hm (boot_tyN t) rfl (by cases t <;> decide) (by cases t <;> decide)
theorem pe_is {a : Expr} {x : Mi.E} {t : Ty} {p p2 pos : Pos} (hg : Gl X "isinstance") (hm : X.mg "isinstance" = none) (hg2 : Gl X (Str.ofString (tyN t))) (hm2 : X.mg (Str.ofString (tyN t)) = none) (hK : C.g.K = X.K) (ha : PE X a (tE C W x)) (hs : nstar a = true) :
    PE X (.Call (.Name "isinstance" p) [a, .Name (Str.ofString (tyN t)) p2] [] pos) (tE C W (.isi x t)) := by
  refine PE.imp (pe_callB call_isi hg hm boot_isinstance (pa_cons ha (pa_cons (pe_tyN t hg2 hm2) pa_nil) (nstar_each hs _ _)) (by decide) (by decide) (nstar_each hs _ _)) fun σ H Q ⟨env, S, ρ, rs, re, w⟩ => ?_
  simp only [evE] at w
  refine one rs re (k := fun x S1 => ofD S1 ((isiD x t).map .bl)) w fun x1 S1 v H1 ρ1 s1 r1 re1 x1e w1 => ?_
  cases q : isiD x1 t with
  | none => rw [q] at w1; exact w1.elim
  | some b =>
    rw [q] at w1
    obtain ⟨n, h1, h2⟩ := isi_ty s1 r1 q
    exact ⟨v, .ty (tyN t), .type n, .type (tyN t), b, rfl, .ty _, by rw [← hK]; exact h1, kit_ty h2, w1 _ H1 ρ1 (Ext.refl _ _) s1 rfl⟩
/-! ### built-in functions -/
def bltN : Blt → String
  | .len => "len" | .abs => "abs" | .int => "int" | .str => "str" | .tuple => "tuple" | .list => "list" | .max => "max" | .all => "all" | .any => "any" | .rep => "repr"
theorem blt_call {b : Blt} {mu : Bool} {as : List Mi.E} {σ : L2.St} {H : Hp} {Q : VK} (h : tE C W (.blt b mu as) σ H Q) : tA C W as σ H fun vs H1 => rb C.g C.fr b vs H1 Q := by
  obtain ⟨env, S, ρ, rs, re, w⟩ := h
  simp only [evE] at w
  exact many rs re (k := fun x S1 => bltD b mu x S1) w fun x1 S1 v H1 ρ1 s1 r1 re1 x1e w1 => ⟨mu, x1, S1, ρ1, s1, r1, w1.toR bltD_noexc⟩
theorem pe_bl2 {b : Blt} {mu : Bool} {e : Expr} {es : List Expr} {as : List Mi.E} {p pos : Pos} (hc : X.calm = true) (hu : X.A.units + 64 < cLine) (hK : C.g.K = X.K) (hg : Gl X (Str.ofString (bltN b))) (hm : X.mg (Str.ofString (bltN b)) = none) (ha : PA X (e :: es) (tA C W as)) (hs : (e :: es).all nstar = true) (hb : b ≠ .any ∧ b ≠ .rep) :
    PE X (.Call (.Name (Str.ofString (bltN b)) p) (e :: es) [] pos) (tE C W (.blt b mu as)) := by
  have hs' := hs
  rw [List.all_cons, Bool.and_eq_true] at hs'
  have h1 := nstar_each hs'.1 es X.env
  have h2 := nstar_any pos X.env hs'.2
  cases b with
  | len => exact PE.imp (pe_callB (blr_len hK) hg hm boot_len ha (by decide) (by decide) h1 h2) fun σ H Q h => blt_call h
  | abs => exact PE.imp (pe_callB blr_abs hg hm boot_abs ha (by decide) (by decide) h1 h2) fun σ H Q h => blt_call h
  | int => exact PE.imp (pe_callTy blr_int hg hm boot_int ha (by decide) (by decide) h1 h2) fun σ H Q h => blt_call h
  | str => exact PE.imp (pe_callTy blr_str hg hm boot_str ha (by decide) (by decide) h1 h2) fun σ H Q h => blt_call h
  | tuple => exact PE.imp (pe_callTy (blr_tuple hK) hg hm boot_tuple ha (by decide) (by decide) h1 h2) fun σ H Q h => blt_call h
  | list => exact PE.imp (pe_callTy (blr_list hK) hg hm boot_list ha (by decide) (by decide) h1 h2) fun σ H Q h => blt_call h
  | max => exact PE.imp (pe_callB (blr_max hc hu hK) hg hm boot_max ha (by decide) (by decide) h1 h2) fun σ H Q h => blt_call h
  | all => exact PE.imp (pe_callB (blr_all hc hK) hg hm boot_all ha (by decide) (by decide) h1 h2) fun σ H Q h => blt_call h
  | any => exact absurd rfl hb.1
  | rep => exact absurd rfl hb.2
/-! ### methods -/
def mthN : Mth → String
  | .append => "append" | .pop => "pop" | .split => "split" | .join => "join" | .replace => "replace" | .upper => "upper"
def mthT : Mth → String
  | .append => "list" | .pop => "list" | _ => "str"
theorem mth_ty {m : Mth} {o : Vl} {S0 : Store} {ρ : List Addr} {H : Hp} {v : V} (rs : C.RS ρ H S0) (r : C.RV ρ H o v) (h : mthO m o = true) : tyV X.K (mthT m) v H := by
  unfold mthO at h
  split at h
  · obtain ⟨p, e1, e2⟩ := r
    subst e1
    obtain ⟨xs, e3⟩ := rs.tracked e2
    refine .inl ⟨?_, xs, SqL.of e3⟩
    cases m <;> first | rfl | cases h
  · cases r
    cases m <;> first | rfl | cases h
  · cases h
def plainO : Expr → Bool
  | .Call _ [] _ _ => false
  | _ => true
theorem plainO_ok {o : Expr} (h : plainO o = true) (name : Str) (env : PySem.Env) (w : Sem Value) : attributeBase o name env w = w := by
  cases o with
  | Call f as ks pos =>
    cases as with
    | nil => cases h
    | cons a as => cases f <;> rfl
  | _ => rfl
theorem mth_tBM {m : Mth} {o : Mi.E} {as : List Mi.E} {σ : L2.St} {H : Hp} {Q : VK} (h : tE C W (.mth m o as) σ H Q) : tE C W o σ H fun x H1 => tyV X.K (mthT m) x H1 ∧ tA C W as σ H1 fun vs H2 => rm C.g C.fr m x vs H2 Q := by
  obtain ⟨env, S, ρ, rs, re, w⟩ := h
  simp only [evE] at w
  refine one rs re (k := fun x S1 => if mthO m x then (match evEs C.P C.F as env S1 with
      | .ok vs S2 => mthD m x vs S2
      | .exc c d S2 => .exc c d S2
      | .bad => .bad) else .bad) w fun x1 S1 v H1 ρ1 s1 r1 re1 x1e w1 => ?_
  split at w1
  · rename_i ok
    exact ⟨mth_ty s1 r1 ok, many s1 re1 (k := fun vs S2 => mthD m x1 vs S2) w1 fun x2 S2 vs H2 ρ2 s2 r2 re2 x2e w2 => ⟨x1, x2, S2, ρ2, s2, RVl.ext x2e _ _ _ r1, r2, w2.toR mthD_noexc⟩⟩
  · exact w1.elim
theorem few30 {es : List Expr} (h : es.length < 30) (h0 : es.all nstar = true) (pos : Pos) (env : PySem.Env) : ((backTo pos (starEach es env)).all (fun x => !x.1) && (backToKw pos (keywordEach [] env)).all (fun x => x.1.isSome)
      && decide (es.length + ([] : List Keyword).length + (if ([] : List Keyword).isEmpty then 0 else 1) < 30)) = true := by
  rw [nstar_all pos env h0]
  simp
  exact ⟨by intro a b c; simp [keywordEach, backToKw] at c, h⟩
theorem pe_mt {m : Mth} {o e : Expr} {es : List Expr} {x : Mi.E} {as : List Mi.E} {apos cpos : Pos} (hK : C.g.K = X.K) (ho : PE X o (tE C W x)) (ha : PA X (e :: es) (tA C W as)) (hs : (e :: es).all nstar = true) (hp : plainO o = true) (hf : (e :: es).length < 30) (hl : (apos.endLine == cpos.line) = true) (hm : m = .append ∨ m = .split ∨ m = .join) :
    PE X (.Call (.Attribute o (Str.ofString (mthN m)) apos) (e :: es) [] cpos) (tE C W (.mth m x as)) := by
  have hs' := hs
  rw [List.all_cons, Bool.and_eq_true] at hs'
  have h1 := nstar_each hs'.1 es X.env
  have h2 := nstar_any cpos X.env hs'.2
  have h3 := few30 hf hs cpos X.env
  have hb := fun n => plainO_ok hp n X.env (eval o X.env)
  rcases hm with rfl | rfl | rfl
  · exact PE.imp (pe_bm F.plainAttrs_list F.slot_list_append F.type_list_append (mtr_append (g := C.g) (fr := C.fr)) ho ha (hb _) h3 hl h1 h2) fun σ H Q h => mth_tBM h
  · exact PE.imp (pe_bm F.plainAttrs_str F.slot_str_split F.type_str_split (mtr_split (g := C.g) (fr := C.fr)) ho ha (hb _) h3 hl h1 h2) fun σ H Q h => mth_tBM h
  · exact PE.imp (pe_bm F.plainAttrs_str F.slot_str_join F.type_str_join (mtr_join (g := C.g) (fr := C.fr) hK) ho ha (hb _) h3 hl h1 h2) fun σ H Q h => mth_tBM h
theorem pe_mt0 {m : Mth} {o : Expr} {x : Mi.E} {apos cpos : Pos} (ho : PE X o (tE C W x)) (hp : plainO o = true) (hl : (apos.endLine == cpos.line) = true) (hm : m = .pop ∨ m = .upper) :
    PE X (.Call (.Attribute o (Str.ofString (mthN m)) apos) [] [] cpos) (tE C W (.mth m x [])) := by
  have hb := fun n => plainO_ok hp n X.env (eval o X.env)
  have fin : ∀ {m : Mth} {σ : L2.St} {H : Hp} {Q : VK}, tE C W (.mth m x []) σ H Q → tBM0 X.K (mthT m) (rm C.g C.fr m) (tE C W x) σ H Q := fun {m σ H Q} h => by
    obtain ⟨env, S, ρ, rs, re, w⟩ := mth_tBM (X := X) h
    refine ⟨env, S, ρ, rs, re, ?_⟩
    cases q : evE C.P C.F x env S with
    | bad => rw [q] at w; exact w
    | exc c d S1 => rw [q] at w; exact w
    | ok v S1 =>
      rw [q] at w
      intro v' H' ρ' e s r
      obtain ⟨h1, env2, S2, ρ2, s2, re2, h2⟩ := w v' H' ρ' e s r
      exact ⟨h1, h2 [] H' ρ2 (Ext.refl _ _) s2 trivial⟩
  rcases hm with rfl | rfl
  · exact PE.imp (pe_bm0 F.plainAttrs_list F.slot_list_pop F.type_list_pop (mtr_pop (g := C.g) (fr := C.fr)) ho (hb _) hl) fun σ H Q h => fin h
  · exact PE.imp (pe_bm0 F.plainAttrs_str F.slot_str_upper F.type_str_upper (mtr_upper (g := C.g) (fr := C.fr)) ho (hb _) hl) fun σ H Q h => fin h
/-! ### displays -/
theorem PoE.seq {vs : List Vl} {S : Store} {ρ : List Addr} {H : Hp} {xs : List V} {p : Addr} {o : HO} (h : PoE C.g C.fr W Q ρ H (.ok (.seq vs) S)) (s : C.RS ρ H S) (r : C.RVs ρ H vs xs) (hp : H p = none) (ho : o = .tup xs ∨ o = .lst xs) : Q (.ref p) (upd H p o) :=
  h _ _ ρ (Ext.new hp) (s.new hp) ⟨p, xs, rfl, s.free hp, ho.elim (fun e => .inl (by rw [upd_same, e])) (fun e => .inr (by rw [upd_same, e])), RVls.ext (Ext.new hp) _ _ _ r⟩
theorem pe_tp {es : List Expr} {xs : List Mi.E} {k : Nat} {pos : Pos} (h : PA X es (tA C W xs)) : PE X (.Tuple es k pos) (tE C W (.tup xs)) :=
  PE.imp (pe_tup h) fun σ H Q ⟨env, S, ρ, rs, re, w⟩ => by
    simp only [evE] at w
    refine many rs re (k := fun vs S1 => if vs.all isLam && !vs.isEmpty && decide (vs.length ≤ line) then .ok (.seq vs) S1 else (match datas vs with
      | some ds => if ds.length ≤ line then .ok (.d (.tup ds)) S1 else .bad
      | none => .bad)) w fun x1 S1 v H1 ρ1 s1 r1 re1 x1e w1 => ?_
    split at w1
    · rename_i ok
      rw [Bool.and_eq_true, Bool.and_eq_true] at ok
      exact ⟨by rw [← r1.length, ← line_eq]; exact of_decide_eq_true ok.2, fun p hp => w1.seq s1 r1 hp (.inl rfl)⟩
    · split at w1
      · rename_i ds e
        have hd := r1.datas e
        split at w1
        · rename_i hl
          refine ⟨by rw [← hd.length, ← line_eq]; exact hl, fun p hp => ?_⟩
          exact (w1.toR (fun c d S h => by cases h)).tup s1 hd hp
        · exact w1.elim
      · exact w1.elim
theorem pe_ls {es : List Expr} {xs : List Mi.E} {mu : Bool} {pos : Pos} (h : PA X es (tA C W xs)) : PE X (.List es pos) (tE C W (.lst mu xs)) :=
  PE.imp (pe_lst h) fun σ H Q ⟨env, S, ρ, rs, re, w⟩ => by
    simp only [evE] at w
    refine many rs re (k := fun vs S1 => if vs.all isLam && !vs.isEmpty && decide (vs.length ≤ line) then .ok (.seq vs) S1 else (match datas vs with
      | some ds => newL mu ds S1
      | none => .bad)) w fun x1 S1 v H1 ρ1 s1 r1 re1 x1e w1 => ?_
    split at w1
    · rename_i ok
      rw [Bool.and_eq_true, Bool.and_eq_true] at ok
      exact ⟨by rw [← r1.length, ← line_eq]; exact of_decide_eq_true ok.2, fun p hp => w1.seq s1 r1 hp (.inr rfl)⟩
    · split at w1
      · rename_i ds e
        have hd := r1.datas e
        have w2 := w1.toR newL_noexc
        exact ⟨by rw [← hd.length]; exact w2.lst_len, fun p hp => w2.lst s1 hd hp⟩
      · exact w1.elim
theorem pe_dc {pos : Pos} : PE X (.Dict [] [] pos) (tE C W .dic) :=
  PE.imp pe_dnewK fun σ H Q ⟨env, S, ρ, rs, re, w⟩ => by
    simp only [evE] at w
    intro p hp
    exact w _ _ ρ (Ext.new hp) (rs.new hp) ⟨p, rfl, .inl ⟨upd_same, rs.free hp⟩⟩
end
end Mi
set_option linter.all false
set_option maxRecDepth 100000
set_option maxHeartbeats 1000000
/-! Mi13: a frame's cells are locked around a call; the call of a def. -/
namespace Mi
open PySem PySem.Spec PyProof.Rows L2
/-- what is kept of an error's object: with its context None, or whatever it is -/
def Zm : Bool → Value → Option Addr → Obj → Prop
  | true => L2N.Zn
  | false => Zc
/-- behind a call that let an exception out -/
def CXm (m : Bool) (P : Program) (w : World) (outer : List PySem.Env) (H : Hp) (s : Shared) (E : XK) (u : Value) (s' : Shared) : Prop :=
  ∃ (a : Addr) (B : Heap) (H' : Hp) (cls : Value) (d : Option Addr), u = .ref a ∧ HandSPX.FlyingZ B outer a (Zm m cls d) s'.heap ∧ HOk P w H' B ∧ UB (frs outer) H H' s.heap B s'.heap ∧ H' a = none ∧ s'.os = s.os ∧ AllBare s'.gens ∧ E cls d H'
def XEm (m : Bool) (X : Cx) (W : WX) (u : Value) (s' : Shared) : Prop :=
  ∃ (a : Addr) (B : Heap) (sI : Shared) (pins : List (Addr × Obj)) (σ : L2.St) (H : Hp) (cls : Value) (d : Option Addr),
    u = .ref a ∧ Inv X pins σ H sI ∧ (∀ b o, sI.heap.get? b = some o → b ∉ frs X.stack → B.get? b = some o) ∧ sI.heap.UpToSlots s'.heap ∧
      Sky B X.stack a (Zm m cls d) X.env.locals s'.heap ∧ H a = none ∧ s'.os = sI.os ∧ AllBare s'.gens ∧ W cls d σ H
def TakesM (m : Bool) (X : Cx) (W : WX) : Prop := ∀ u s', XEm m X W u s' → X.xe u s'
theorem takesM_f {X : Cx} {W : WX} : TakesM false X W = L2.Takes X W := rfl
theorem takesM_t {X : Cx} {W : WX} : TakesM true X W = L2N.Takes X W := rfl
theorem cxm_f {P : Program} {w : World} : CXm false P w = L2.CX P w := rfl
theorem cxm_t {P : Program} {w : World} : CXm true P w = L2N.CX P w := rfl
/-- a call's exception is in the air -/
theorem xem_call {m : Bool} {X : Cx} {pins : List (Addr × Obj)} {σ : L2.St} {H : Hp} {s s' : Shared} {E : XK} {W : WX} (I : Inv X pins σ H s) (hW : ∀ cls d H', E cls d H' → W cls d σ H') {u : Value} (c : CXm m X.prog X.w X.stack H s E u s') : XEm m X W u s' := by
  cases m with
  | false => exact L2.XE.of_call I hW c
  | true => exact L2N.XE.of_call I hW c
/-- the cells that the names stand in -/
def cellsOf (cs : List (Str × Addr)) : List Addr := cs.filterMap fun p => cs.lookup p.1
theorem mem_cellsOf {cs : List (Str × Addr)} {c : Addr} : c ∈ cellsOf cs ↔ ∃ x, cs.lookup x = some c := by
  unfold cellsOf
  rw [List.mem_filterMap]
  constructor
  · rintro ⟨p, _, e⟩; exact ⟨p.1, e⟩
  · rintro ⟨x, e⟩; exact ⟨(x, c), PySem.mem_of_lookup e, e⟩
def lck (ks : List Addr) (h : Heap) (H : Hp) : Hp := fun a => if a ∈ ks then (match h.get? a with
  | some o => some (.frz o (.own 0))
  | none => H a) else H a
def unl (ks : List Addr) (H : Hp) : Hp := fun a => if a ∈ ks then none else H a
/-- what may be locked -/
structure Lk (X : Cx) (ks : List Addr) (s : Shared) (H : Hp) : Prop where
  free : ∀ a ∈ ks, H a = none
  obj : ∀ a ∈ ks, ∃ o, s.heap.get? a = some o
  nb : ∀ a ∈ ks, X.base.get? a = none
  nf : ∀ a ∈ ks, a ∉ frs X.stack
section
variable {P : Program} {w : World} {X : Cx} {ks : List Addr} {s s' : Shared} {H H' : Hp} {ρ ρ' : List Addr} {S S' : Store} {g : Gi}
theorem lck_in {h : Heap} {a : Addr} {o : Obj} (hm : a ∈ ks) (e : h.get? a = some o) : lck ks h H a = some (.frz o (.own 0)) := by
  unfold lck; rw [if_pos hm, e]
theorem lck_out {h : Heap} {a : Addr} (hm : a ∉ ks) : lck ks h H a = H a := by
  unfold lck; rw [if_neg hm]
theorem unl_in {a : Addr} (hm : a ∈ ks) : unl ks H a = none := by
  unfold unl; rw [if_pos hm]
theorem unl_out {a : Addr} (hm : a ∉ ks) : unl ks H a = H a := by
  unfold unl; rw [if_neg hm]
theorem Lk.keep (l : Lk X ks s H) {a : Addr} {o : HO} (e : H a = some o) : lck ks s.heap H a = some o := by
  rw [lck_out fun z => ?_]; exact e
  rw [l.free a z] at e; cases e
theorem Lk.hok (l : Lk X ks s H) (x : HOk P w H s.heap) : HOk P w (lck ks s.heap H) s.heap := fun a o e => by
  by_cases hm : a ∈ ks
  · obtain ⟨ob, e1⟩ := l.obj a hm
    rw [lck_in hm e1] at e
    cases e
    exact ⟨e1, ob, e1⟩
  · rw [lck_out hm] at e
    exact (x a o e).stay (fun _ _ _ q => q) (fun b q => l.keep q) (fun b xs q => l.keep q)
theorem Lk.ext (l : Lk X ks s H) : Ext ρ H ρ (lck ks s.heap H) where
  pre := ⟨[], by simp, by simp⟩
  keep := fun a o _ e _ => l.keep e
  dom := fun a e => by
    by_cases hm : a ∈ ks
    · exact l.free a hm
    · rw [lck_out hm] at e; exact e
theorem RS.keep {K : PySem.W.Frag} {T : List (Addr × Str)} (r : RS K T ρ H S) (k : ∀ a o, H a = some o → H' a = some o) (d : ∀ a, H' a = none → H a = none) : RS K T ρ H' S where
  len := r.len
  nd := r.nd
  obj := fun l a o h1 h2 => by
    have e : Ext ρ H ρ H' := ⟨⟨[], by simp, by simp⟩, fun a o _ h _ => k a o h, d⟩
    cases o with
    | lst ds =>
      obtain ⟨xs, e1, e2⟩ := r.obj l a _ h1 h2
      exact ⟨xs, k _ _ e1, RDs.ext e ds xs e2⟩
  tab := r.tab.ext k
theorem Lk.env0 (l : Lk X ks s H) {A : Around} {base : Heap} {K : PySem.W.Frag} {mg : Str → Option Value} {outer : List PySem.Env} (e : Env0 P w K mg base A outer s H) (hb : ∀ a ∈ ks, base.get? a = none) (hf : ∀ a ∈ ks, a ∉ frs outer) : Env0 P w K mg base A outer s (lck ks s.heap H) where
  frames := e.frames
  mod := e.mod
  bs := fun b o q => ⟨(e.bs b o q).1, by rw [lck_out fun z => ?_]; exact (e.bs b o q).2; rw [hb b z] at q; cases q⟩
  bsz := e.bsz
  funs := e.funs
  frf := fun b hb => by rw [lck_out fun z => hf b z hb]; exact e.frf b hb
  hok := l.hok e.hok
  bare := e.bare
/-! ### unlocked -/
/-- behind a call: the locks stand -/
structure Ulk (ks : List Addr) (h : Heap) (H' : Hp) : Prop where
  frz : ∀ a ∈ ks, ∃ o, h.get? a = some o ∧ H' a = some (.frz o (.own 0))
def NoFz (o : HO) : Prop := ∀ ob u, o ≠ .frz ob u
theorem Ulk.keep {h : Heap} (l : Ulk ks h H') {a : Addr} {o : HO} (e : H' a = some o) (n : NoFz o) : unl ks H' a = some o := by
  rw [unl_out fun z => ?_]; exact e
  obtain ⟨ob, _, e1⟩ := l.frz a z
  rw [e1] at e; cases e
  exact n _ _ rfl
mutual
theorem RD.agr {K : PySem.W.Frag} (k : ∀ a o, H a = some o → NoFz o → H' a = some o) : ∀ (d : D) (v : V), RD K ρ H d v → RD K ρ H' d v
  | .non, v, h => h
  | .bl b, v, h => h
  | .int i, v, h => h
  | .str s, v, h => h
  | .tup ds, v, ⟨a, xs, h1, h2, h3⟩ => ⟨a, xs, h1, h2.elim (fun z => .inl ⟨k _ _ z.1 (fun _ _ q => nomatch q), z.2⟩) .inr, RDs.agr k ds xs h3⟩
  | .lst ds, v, ⟨a, xs, h1, z, h3⟩ => ⟨a, xs, h1, ⟨k _ _ z.1 (fun _ _ q => nomatch q), z.2⟩, RDs.agr k ds xs h3⟩
  | .dks kvs, v, ⟨a, h1, h2⟩ => ⟨a, h1, h2.elim (fun z => .inl ⟨k _ _ z.1 (fun _ _ q => nomatch q), z.2⟩) .inr⟩
theorem RDs.agr {K : PySem.W.Frag} (k : ∀ a o, H a = some o → NoFz o → H' a = some o) : ∀ (ds : List D) (vs : List V), RDs K ρ H ds vs → RDs K ρ H' ds vs
  | [], [], _ => trivial
  | d :: ds, v :: vs, h => ⟨RD.agr k d v h.1, RDs.agr k ds vs h.2⟩
  | [], _ :: _, h => h.elim
  | _ :: _, [], h => h.elim
end
theorem RS.agr {K : PySem.W.Frag} {T : List (Addr × Str)} (r : RS K T ρ H S) (k : ∀ a o, H a = some o → NoFz o → H' a = some o) : RS K T ρ H' S where
  len := r.len
  nd := r.nd
  obj := fun l a o h1 h2 => by
    cases o with
    | lst ds =>
      obtain ⟨xs, e1, e2⟩ := r.obj l a _ h1 h2
      exact ⟨xs, k _ _ e1 (fun _ _ q => nomatch q), RDs.agr k ds xs e2⟩
  tab := fun p hp => by
    obtain ⟨ps, h1, h2, h3⟩ := r.tab p hp
    refine ⟨ps, k _ _ h1 (fun _ _ q => nomatch q), h2, fun pos cv hc => ?_⟩
    obtain ⟨c, e1, e2⟩ := h3 pos cv hc
    exact ⟨c, e1, k _ _ e2 (fun _ _ q => by unfold LamX.CodeO at q; cases q)⟩
theorem RX.agr {c : Nat} {d : D} {cls : Value} {dx : Option Addr} (r : RX g ρ H c d cls dx) (k : ∀ a o, H a = some o → NoFz o → H' a = some o) : RX g ρ H' c d cls dx := by
  obtain ⟨C, fl, dd, v, h1, h2, h3, h4, h5, h6⟩ := r
  exact ⟨C, fl, dd, v, h1, h2, h3, k _ _ h4 (fun _ _ q => nomatch q), h5, RD.agr k d v h6⟩
theorem Ulk.ext (l : Lk X ks s H) (u : Ulk ks s.heap H') (e : Ext ρ (lck ks s.heap H) ρ' H') : Ext ρ H ρ' (unl ks H') where
  pre := by
    obtain ⟨more, e1, e2⟩ := e.pre
    refine ⟨more, e1, fun a ha => ?_⟩
    exact l.ext (ρ := ρ).dom a (e2 a ha)
  keep := fun a o hn h ht => by
    have h1 : a ∉ ks := fun z => by rw [l.free a z] at h; cases h
    rw [unl_out h1]
    exact e.keep a o hn (l.keep h) ht
  dom := fun a h => by
    by_cases z : a ∈ ks
    · exact l.free a z
    · rw [unl_out z] at h
      exact l.ext (ρ := ρ).dom a (e.dom a h)
theorem Ulk.un (l : Lk X ks s H) (u : Ulk ks s.heap H') {fs : List Addr} {h' : Heap} (n : Un fs [] (lck ks s.heap H) H' s.heap h') (hok : HOk P w H' h') : Un fs [] H (unl ks H') s.heap h' where
  keep := fun b o e hn hb hx => by
    by_cases z : b ∈ ks
    · obtain ⟨ob, e1, e2⟩ := u.frz b z
      rw [e] at e1; cases e1
      exact (hok b _ e2).1
    · exact n.keep b o e (by rw [lck_out z]; exact hn) hb hx
  slot := fun b o e hn hb hx => by
    by_cases z : b ∈ ks
    · obtain ⟨ob, e1, e2⟩ := u.frz b z
      rw [e] at e1; cases e1
      exact ⟨o.slots, (hok b _ e2).1⟩
    · exact n.slot b o e (by rw [lck_out z]; exact hn) hb hx
  free := fun b o e hn hx => by
    by_cases z : b ∈ ks
    · exact unl_in z
    · rw [unl_out z]
      exact n.free b o e (by rw [lck_out z]; exact hn) hx
  there := fun b o e hx => n.there b o e hx
  tups := fun b xs e => u.keep (n.tups b xs (l.keep e)) (fun _ _ q => nomatch q)
  frzs := fun b o x e => by
    rw [unl_out fun z => by rw [l.free b z] at e; cases e]
    exact n.frzs b o x (l.keep e)
  tbls := fun b ps e => by
    obtain ⟨more, e1⟩ := n.tbls b ps (l.keep e)
    exact ⟨more, u.keep e1 (fun _ _ q => nomatch q)⟩
theorem Ulk.hok {h h' : Heap} (u : Ulk ks h H') (x : HOk P w H' h') : HOk P w (unl ks H') h' := fun a o e => by
  have hm : a ∉ ks := fun z => by rw [unl_in z] at e; cases e
  rw [unl_out hm] at e
  exact (x a o e).stay (fun _ _ _ q => q) (fun b q => u.keep q (fun _ _ z => nomatch z)) (fun b xs q => u.keep q (fun _ _ z => nomatch z))
theorem Ulk.of (l : Lk X ks s H) (f : ∀ b o v, lck ks s.heap H b = some (.frz o v) → H' b = some (.frz o v)) : Ulk ks s.heap H' := ⟨fun a ha => by
  obtain ⟨o, e⟩ := l.obj a ha
  exact ⟨o, e, f a o _ (lck_in ha e)⟩⟩
/-- a call's end, unlocked -/
theorem Lk.ce (l : Lk X ks s H) {outer : List PySem.Env} {Q : VK} {u : Value} (c : CE outer P w (lck ks s.heap H) s (fun v H' => Q v (unl ks H')) u s') : CE outer P w H s Q u s' := by
  obtain ⟨v, H', os, bare, un, hok, r, q⟩ := c
  have ul := Ulk.of l fun b o v e => un.frzs b o v e
  exact ⟨v, unl ks H', os, bare, ul.un l un hok, ul.hok hok, r, q⟩
theorem Lk.cx (l : Lk X ks s H) {outer : List PySem.Env} {E : XK} {m : Bool} {u : Value} (c : CXm m P w outer (lck ks s.heap H) s (fun cls d H' => E cls d (unl ks H')) u s') : CXm m P w outer H s E u s' := by
  obtain ⟨a, B, H', cls, d, e, fl, hok, ub, na, os, ag, q⟩ := c
  have ul := Ulk.of l fun b o v e => ub.frzs b o v e
  refine ⟨a, B, unl ks H', cls, d, e, fl, ul.hok hok, ⟨fun b o e n hb => ?_, ub.slot, fun b o e n => ?_, ub.there, fun b xs e => ul.keep (ub.tups b xs (l.keep e)) (fun _ _ q => nomatch q), fun b o x e => ?_, fun b ps e => ?_⟩, ?_, os, ag, q⟩
  · by_cases z : b ∈ ks
    · obtain ⟨ob, e1, e2⟩ := ul.frz b z
      rw [e] at e1; cases e1
      exact (hok b _ e2).1
    · exact ub.keep b o e (by rw [lck_out z]; exact n) hb
  · by_cases z : b ∈ ks
    · exact unl_in z
    · rw [unl_out z]
      exact ub.free b o e (by rw [lck_out z]; exact n)
  · rw [unl_out fun z => by rw [l.free b z] at e; cases e]
    exact ub.frzs b o x (l.keep e)
  · obtain ⟨more, e1⟩ := ub.tbls b ps (l.keep e)
    exact ⟨more, ul.keep e1 (fun _ _ q => nomatch q)⟩
  · by_cases z : a ∈ ks
    · exact unl_in z
    · rw [unl_out z]; exact na
end
end Mi
set_option linter.all false
set_option maxRecDepth 100000
set_option maxHeartbeats 1000000
/-! Mi14: calls of defs. -/
namespace Mi
open PySem PySem.Spec PyProof.Rows L2
/-- what a frame's context is -/
structure FrOk (C : Ctx) (X : Cx) : Prop where
  K : C.g.K = X.K
  calm : X.calm = true
  nd : X.N.Nodup
  un : X.A.units + 65 < cLine
  fr : ∀ f, C.fr = some f → f = ⟨X.env.cells, X.env.qual, X.N, X.env.scope⟩ ∧ ∀ x, X.fn x = true
def lks (C : Ctx) (X : Cx) : List Addr := match C.fr with
  | some _ => cellsOf X.env.cells
  | none => []
/-- what the functions hand back -/
def FRes (F : Call) : Prop := ∀ f ws S x S', F f ws S = .ok x S' → isDL x = true
section
variable {C : Ctx} {X : Cx} {W : XK} {σ : L2.St} {H : Hp} {Q : VK} {pins : List (Addr × Obj)} {s : Shared} {ρ : List Addr} {S : Store} {env : Env}
theorem lk_of (fo : FrOk C X) (I : Inv X pins σ H s) : Lk X (lks C X) s H := by
  unfold lks
  cases e : C.fr with
  | none => exact ⟨fun a h => absurd h (by simp), fun a h => absurd h (by simp), fun a h => absurd h (by simp), fun a h => absurd h (by simp)⟩
  | some f =>
    obtain ⟨_, hf⟩ := fo.fr f e
    dsimp only
    refine ⟨fun a h => ?_, fun a h => ?_, fun a h => ?_, fun a h => ?_⟩ <;> obtain ⟨x, hx⟩ := mem_cellsOf.mp h
    · exact I.freeC x a hx
    · obtain ⟨v, o, ho, _⟩ := I.cell x a hx
      exact ⟨o, ho⟩
    · have h1 := I.ok.cab x a (hf x) hx
      exact Heap.get?_none_of_le (Nat.le_trans I.ok.bsz h1)
    · intro z
      rcases List.mem_cons.mp (I.stkSub a z) with z | z
      · exact I.cne x a hx z
      · obtain ⟨_, o, ho, _⟩ := I.ok.funs.mem z
        exact absurd (Heap.lt_size ho) (Nat.not_lt.mpr (I.ok.cab x a (hf x) hx))
theorem rcap_of {li : LamI} {K : PySem.W.Frag} {LI : LamT} (I : Inv X pins σ H s) (l : Lk X (cellsOf X.env.cells) s H) (hK : C.g.K = K) (hL : C.g.LI = LI) (rs : C.RS ρ H S) (re : REnv C ρ H env σ) (hall : ∀ y ∈ li.scope.names, y.2 = .free → X.env.scope.names.lookup y.1 = some .cell ∨ X.env.scope.names.lookup y.1 = some .free) :
    ∀ (sl : List Nat) (ys : List Str) (vals : List Vl), getAll env sl = some vals → sl.map (fun j => X.N[j]?) = ys.map some → (∀ y ∈ ys, (y, NameKind.free) ∈ li.scope.names) →
      RCap K LI ρ (lck (cellsOf X.env.cells) s.heap H) (cloFrom X.env.cells li.scope.names []) ys vals
  | [], [], vals, h, _, _ => by simp [getAll] at h; subst h; trivial
  | [], _ :: _, _, _, h, _ => by simp at h
  | _ :: _, [], _, _, h, _ => by simp at h
  | j :: sl, y :: ys, vals, h, hm, hfree => by
    simp only [List.map_cons, List.cons.injEq] at hm
    obtain ⟨m1, m2⟩ := hm
    have hy := hfree y List.mem_cons_self
    have hk := hall _ hy rfl
    have hc0 : ∀ y ∈ li.scope.names, y.2 = .free → ∃ c, X.env.cells.lookup y.1 = some c := fun y hy e => I.ok.has _ (hall y hy e)
    have main : ∀ (x : Vl) (r : List Vl), isDL x = true → env[j]? = some (some x) → (∀ ρ H v, C.RV ρ H x v → RVl K LI none ρ H x v) → getAll env sl = some r → RCap K LI ρ (lck (cellsOf X.env.cells) s.heap H) (cloFrom X.env.cells li.scope.names []) (y :: ys) (x :: r) := fun x r dl e1 e2 e3 => by
      obtain ⟨v, hv, rv⟩ := re.at_ j x e1
      obtain ⟨m, hn, hl⟩ := I.loc
      obtain ⟨u, ru, lk⟩ := hl j y v m1 hv (.inr hk)
      rcases lk with ⟨k1, _⟩ | ⟨_, c, hc, o, ho, hd⟩
      · have k1 : X.env.scope.names.lookup y = some .local := k1
        rcases hk with z | z <;> (rw [z] at k1; cases k1)
      · have hmem : c ∈ cellsOf X.env.cells := mem_cellsOf.mpr ⟨y, hc⟩
        exact ⟨⟨dl, c, o, u, v, NdefX.clo_has hc0 hy hc, rs.free (I.freeC y c hc), lck_in hmem ho, hd, ru, RVl.ext l.ext _ _ _ (e2 _ _ _ rv)⟩, rcap_of I l hK hL rs re hall sl ys r e3 m2 fun y hy => hfree y (List.mem_cons_of_mem _ hy)⟩
    simp only [getAll] at h
    split at h
    · rename_i x e
      simp only [Option.map_eq_some_iff] at h
      obtain ⟨r, e3, rfl⟩ := h
      exact main (.d x) r rfl e (fun ρ H v q => by rw [← hK]; exact q) e3
    · rename_i x e
      simp only [Option.map_eq_some_iff] at h
      obtain ⟨r, e3, rfl⟩ := h
      exact main (.loc x) r rfl e (fun ρ H v q => q) e3
    · cases h
mutual
theorem bindV_ok (fo : FrOk C X) (I : Inv X pins σ H s) (rs : C.RS ρ H S) (re : REnv C ρ H env σ) : ∀ (x : Vl) (v : V) (y : Vl), C.RV ρ H x v → bindV env x = some y → RVl C.g.K C.g.LI none ρ (lck (lks C X) s.heap H) y v
  | .d x, v, y, h, e => by simp [bindV] at e; subst e; exact RVl.ext (lk_of fo I).ext none (.d x) v h
  | .ro x, v, y, h, e => by simp [bindV] at e; subst e; exact RVl.ext (lk_of fo I).ext none (.ro x) v h
  | .loc x, v, y, h, e => by simp [bindV] at e; subst e; exact RVl.ext (lk_of fo I).ext none (.loc x) v h
  | .clo k cs, v, y, h, e => by simp [bindV] at e; subst e; exact RVl.ext (lk_of fo I).ext none (.clo k cs) v h
  | .lam k sl, v, y, h, e => by
    simp only [bindV, Option.map_eq_some_iff] at e
    obtain ⟨vals, e1, rfl⟩ := e
    obtain ⟨f, li, fr', rfl, hfr, fits, clo⟩ := h
    obtain ⟨hf, hfn⟩ := fo.fr fr' hfr
    have l := lk_of fo I
    have hk : lks C X = cellsOf X.env.cells := by unfold lks; rw [hfr]
    rw [hk] at l ⊢
    subst hf
    have hc0 : ∀ y ∈ li.scope.names, y.2 = .free → ∃ c, X.env.cells.lookup y.1 = some c := fun y hy e => I.ok.has _ (fits.all y hy e)
    refine ⟨f, _, _, li, rfl, clo.ext l.ext, ⟨fun y c e => ?_, fun x y c e1 e2 => I.ok.inj x y c (NdefX.clo_cm hc0 e1) (NdefX.clo_cm hc0 e2)⟩, rcap_of I l rfl rfl rs re fits.all sl li.caps vals e1 fits.ix fits.free⟩
    rcases cloFrom_mem (PySem.mem_of_lookup e) with hm | ⟨h1, _⟩
    · cases hm
    · exact fits.caps _ h1 rfl
  | .seq vs, v, y, h, e => by
    simp only [bindV, Option.map_eq_some_iff] at e
    obtain ⟨us, e1, rfl⟩ := e
    obtain ⟨a, xs, rfl, h1, h2, h3⟩ := h
    have l := lk_of fo I
    exact ⟨a, xs, rfl, h1, h2.imp (fun z => l.keep z) (fun z => l.keep z), bindVs_ok fo I rs re vs xs us h3 e1⟩
theorem bindVs_ok (fo : FrOk C X) (I : Inv X pins σ H s) (rs : C.RS ρ H S) (re : REnv C ρ H env σ) : ∀ (x : List Vl) (v : List V) (y : List Vl), C.RVs ρ H x v → bindVs env x = some y → RVls C.g.K C.g.LI none ρ (lck (lks C X) s.heap H) y v
  | [], [], y, _, e => by simp [bindVs] at e; subst e; trivial
  | x :: xs, v :: vs, y, h, e => by
    simp only [bindVs] at e
    split at e
    · rename_i u e1
      simp only [Option.map_eq_some_iff] at e
      obtain ⟨us, e2, rfl⟩ := e
      exact ⟨bindV_ok fo I rs re x v u h.1 e1, bindVs_ok fo I rs re xs vs us h.2 e2⟩
    · cases e
  | [], _ :: _, _, h, _ => h.elim
  | _ :: _, [], _, h, _ => h.elim
end
/-- what a function of the text promises -/
def spI (g : Gi) (F : Call) (f n : Nat) : Sp := fun vs H Q E => ∃ ρ S ws, Mi.RS g.K g.T ρ H S ∧ RVls g.K g.LI none ρ H ws vs ∧ vs.length = n ∧ PoE g none E Q ρ H (F f ws S)
theorem RVl.dl {K : PySem.W.Frag} {LI : LamT} {fr fr' : Option Fr0} {ρ : List Addr} {H H' : Hp} {x : Vl} {v : V} (h : isDL x = true) (k : ∀ a o, H a = some o → NoFz o → H' a = some o) (r : RVl K LI fr ρ H x v) : RVl K LI fr' ρ H' x v := by
  cases x with
  | d x => exact RD.agr k x v r
  | loc l => exact r
  | _ => cases h
/-- a call, with the cells locked -/
theorem sp_lock {f n : Nat} {ws vs : List Vl} {xs : List V} (fo : FrOk C X) (hF : FRes C.F) (I : Inv X pins σ H s) (rs : C.RS ρ H S) (re : REnv C ρ H env σ) (rv : C.RVs ρ H vs xs) (bv : bindVs env vs = some ws) (hn : xs.length = n) (h : PoE C.g C.fr W Q ρ H (C.F f ws S)) :
    spI C.g C.F f n xs (lck (lks C X) s.heap H) (fun v H' => Q v (unl (lks C X) H')) (fun cls d H' => W cls d (unl (lks C X) H')) := by
  have l := lk_of fo I
  refine ⟨ρ, S, ws, RS.keep rs (fun a o e => l.keep e) (l.ext (ρ := ρ)).dom, bindVs_ok fo I rs re vs xs ws rv bv, hn, ?_⟩
  have ulk : ∀ {ρ' H'}, Ext ρ (lck (lks C X) s.heap H) ρ' H' → Ulk (lks C X) s.heap H' := fun {ρ' H'} e => ⟨fun a ha => by
    obtain ⟨o, ho⟩ := l.obj a ha
    exact ⟨o, ho, e.keep a _ (rs.free (l.free a ha)) (lck_in ha ho) (fun _ z => nomatch z)⟩⟩
  cases q : C.F f ws S with
  | bad => rw [q] at h; exact h
  | ok x S1 =>
    rw [q] at h
    intro v H' ρ' e s1 r
    have u := ulk e
    exact h v _ ρ' (Ulk.ext l u e) (RS.agr s1 fun a o z n => u.keep z n) (r.dl (hF _ _ _ _ _ q) fun a o z n => u.keep z n)
  | exc c d S1 =>
    rw [q] at h
    intro cls dx H' ρ' e s1 r
    have u := ulk e
    exact h cls dx _ ρ' (Ulk.ext l u e) (RS.agr s1 fun a o z n => u.keep z n) (r.agr fun a o z n => u.keep z n)
theorem call_lock {f n k : Nat} {a : Addr} {fd : FuncData} {ps : List Str} {ws vs : List Vl} {xs : List V} {args : Args} {us : List Value} (fo : FrOk C X) (hF : FRes C.F) (hx : Passes (CXm C.md X.prog X.w) X W)
    (Fn : FnOk X.prog X.w X.K X.mg X.base (CXm C.md X.prog X.w) k a fd ps (spI C.g C.F f ps.length)) (hr : Room k X.A) (I : Inv X pins σ H s) (rs : C.RS ρ H S) (re : REnv C ρ H env σ) (rv : C.RVs ρ H vs xs) (bv : bindVs env vs = some ws)
    (hb : BindsTo s fd args (ps.zip us)) (ru : Vals xs us) (hn : xs.length = ps.length) (h : PoE C.g C.fr W Q ρ H (C.F f ws S)) :
    codeAny (model X.prog X.w) X.A (.call (.ref a) args) (fun r s' => match r with
      | .ok (.ret u) => EP X pins σ Q u s'
      | .ok _ => False
      | .error e => X.xe e s') s := by
  have l := lk_of fo I
  have sp := sp_lock fo hF I rs re rv bv hn h
  have e0 : Env0 X.prog X.w X.K X.mg X.base X.A X.stack s (lck (lks C X) s.heap H) := l.env0 I.env0 l.nb l.nf
  refine codeAny_mono (Fn.run X.A X.stack s _ args us xs _ _ hr e0 hb ru sp) fun r s' hq => ?_
  cases r with
  | error e => exact hx pins σ H s e s' I (l.cx hq)
  | ok fl =>
    cases fl with
    | ret u => exact I.after (l.ce hq)
    | next => exact False.elim hq
    | brk => exact False.elim hq
    | cont => exact False.elim hq
end
end Mi
set_option linter.all false
set_option maxRecDepth 100000
set_option maxHeartbeats 1000000
/-! Mi15: f(..), as an expression. -/
namespace Mi
open PySem PySem.Spec PyProof.Rows L2
/-- a function of the text, as a frame finds it -/
structure FnX (C : Ctx) (X : Cx) (f : Nat) (x : Str) (ps : List Str) : Prop where
  ex : ∃ (a : Addr) (fd : FuncData) (k : Nat), X.mg x = some (.ref a) ∧ PySem.W.keepIn X.K (.ref a) = true ∧ Room k X.A ∧
    (∀ (s : Shared) (us ws : List Value), X.K.In s.heap → (us ++ ws).length = ps.length → BindsTo s fd ⟨us, (ps.drop us.length).zip ws⟩ (ps.zip (us ++ ws))) ∧
    FnOk X.prog X.w X.K X.mg X.base (CXm C.md X.prog X.w) k a fd ps (spI C.g C.F f ps.length)
  ar : ∀ ws S, C.F f ws S ≠ .bad → ws.length = ps.length
theorem bindVs_length {env : Env} : ∀ {vs ws : List Vl}, bindVs env vs = some ws → vs.length = ws.length
  | [], ws, e => by simp [bindVs] at e; subst e; rfl
  | v :: vs, ws, e => by
    simp only [bindVs] at e
    split at e
    · simp only [Option.map_eq_some_iff] at e
      obtain ⟨us, e2, rfl⟩ := e
      simp [bindVs_length e2]
    · cases e
section
variable {C : Ctx} {X : Cx} {W : XK} {σ : L2.St} {H : Hp} {Q : VK} {pins : List (Addr × Obj)} {s : Shared} {ρ : List Addr} {S : Store} {env : Env}
/-- what is asked where the arguments are there -/
def CallQ (C : Ctx) (W : XK) (f n : Nat) (σ : L2.St) (Q : VK) (vs zs : List V) (H : Hp) : Prop := vs.length = n ∧ ∃ env S ρ us ws, C.RS ρ H S ∧ REnv C ρ H env σ ∧ C.RVs ρ H us (vs ++ zs) ∧ bindVs env us = some ws ∧ PoE C.g C.fr W Q ρ H (C.F f ws S)
theorem evEs_length {P : Pg} {F : Call} {env : Env} : ∀ {es : List Mi.E} {S S' : Store} {vs : List Vl}, evEs P F es env S = .ok vs S' → vs.length = es.length
  | [], S, S', vs, h => by simp [evEs] at h; rw [h.1]; rfl
  | e :: es, S, S', vs, h => by
    rw [evEs] at h
    split at h
    · rename_i v S1 q
      split at h
      · rename_i us S2 q2
        cases h
        simp [evEs_length q2]
      · cases h
      · cases h
    · cases h
    · cases h
theorem pa_s : ∀ {es : List Expr} {xs : List Mi.E}, PBs C X W es xs → es.all nstar = true → PA X es (tA C W xs)
  | [], [], _, _ => pa_n
  | e :: es, x :: xs, h, hs => by
    rw [List.all_cons, Bool.and_eq_true] at hs
    exact pa_c h.1.pe (pa_s h.2 hs.2) (nstar_each hs.1 _ _)
  | [], _ :: _, h, _ => h.elim
  | _ :: _, [], h, _ => h.elim
theorem PBs.length : ∀ {es : List Expr} {xs : List Mi.E}, PBs C X W es xs → es.length = xs.length
  | [], [], _ => rfl
  | _ :: _, _ :: _, h => by simp [PBs.length h.2]
  | [], _ :: _, h => h.elim
  | _ :: _, [], h => h.elim
theorem call_tA {f : Nat} {as ks : List Mi.E} {σ : L2.St} {H : Hp} {Q : VK} (h : tE C W (.call f as ks) σ H Q) : tA C W as σ H fun vs H1 => tA C W ks σ H1 fun zs H2 => CallQ C W f as.length σ Q vs zs H2 := by
  obtain ⟨env, S, ρ, rs, re, w⟩ := h
  simp only [evE] at w
  refine ⟨env, S, ρ, rs, re, PoEs.of (Q := Q) (fun x1 S1 e1 v H1 ρ1 x1e s1 r1 => ?_) (fun c d S1 e => by rw [e] at w; exact w) (fun e => by rw [e] at w; exact w)⟩
  have hlen := evEs_length e1
  simp only [e1] at w
  have re1 := re.ext x1e
  have w1 := PoE.mono x1e w
  refine many s1 re1 (k := fun us S2 => match bindVs env (x1 ++ us) with
        | some ws => C.F f ws S2
        | none => .bad) w1 fun x2 S2 v2 H2 ρ2 s2 r2 re2 x2e w2 => ?_
  split at w2
  · rename_i ws e
    exact ⟨by rw [← r1.length]; exact hlen, env, S2, ρ2, _, ws, s2, re2, (RVls.ext x2e _ _ _ r1).app r2, e, w2⟩
  · exact w2.elim
theorem call_fin {f : Nat} {ps : List Str} {a : Addr} {us ws : List Value} {vs zs : List V} {fd : FuncData} {k : Nat} (fo : FrOk C X) (hF : FRes C.F) (hx : Passes (CXm C.md X.prog X.w) X W) (har : ∀ ws S, C.F f ws S ≠ .bad → ws.length = ps.length)
    (hr : Room k X.A) (hb : ∀ (s : Shared) (us ws : List Value), X.K.In s.heap → (us ++ ws).length = ps.length → BindsTo s fd ⟨us, (ps.drop us.length).zip ws⟩ (ps.zip (us ++ ws)))
    (Fn : FnOk X.prog X.w X.K X.mg X.base (CXm C.md X.prog X.w) k a fd ps (spI C.g C.F f ps.length)) (I : Inv X pins σ H s) (r : Vals vs us) (rz : Vals zs ws) {n : Nat} (q : CallQ C W f n σ Q vs zs H) :
    wpAny (model X.prog X.w) X.A (call (.ref a) us ((ps.drop n).zip ws)) (EP X pins σ Q) X.xe s := by
  obtain ⟨hn0, env, S, ρ, us', ws', rs, re, rv, bv, h⟩ := q
  rw [← hn0, r.length]
  have nb : C.F f ws' S ≠ .bad := fun z => by rw [z] at h; exact h
  have hn : (vs ++ zs).length = ps.length := by rw [← rv.length, bindVs_length bv]; exact har _ _ nb
  have r2 : Vals (vs ++ zs) (us ++ ws) := r.append rz
  have hl : (us ++ ws).length = ps.length := by rw [← r2.length]; exact hn
  exact wpAny_call (codeAny_mono (call_lock (n := 0) fo hF hx Fn hr I rs re rv bv (hb s us ws I.kIn hl) r2 hn h) fun r s' hq => hq)
/-- the keywords' values -/
def PKs (C : Ctx) (X : Cx) (W : XK) : List Keyword → List Mi.E → Prop
  | [], [] => True
  | k :: ks, x :: xs => PE X k.value (tE C W x) ∧ PKs C X W ks xs
  | _, _ => False
theorem PK.imp {X : Cx} {e : List Keyword} {t t' : TA} (h : PK X e t) (i : ∀ σ H Q, t' σ H Q → t σ H Q) : PK X e t' := ⟨fun pos pins s σ H Q I q => h.run pos pins s σ H Q I (i _ _ _ q)⟩
theorem pk_s : ∀ {ks : List Keyword} {xs : List Mi.E}, PKs C X W ks xs → PK X ks (tA C W xs)
  | [], [], _ => PK.imp pk_nil fun σ H Q ⟨env, S, ρ, rs, re, h⟩ => h [] H ρ (Ext.refl ρ H) rs trivial
  | ⟨nm, e, kpos⟩ :: ks, x :: xs, h => PK.imp (pk_cons h.1 (pk_s h.2)) fun σ H Q ⟨env, S, ρ, rs, re, h⟩ => by
    simp only [evEs] at h
    refine ⟨env, S, ρ, rs, re, PoE.of (Q := fun _ _ => True) (fun x1 S1 e v H1 ρ1 x1' s1 r1 => ?_) (fun c d S1 e => by rw [e] at h; exact h) (fun e => by rw [e] at h; exact h)⟩
    simp only [e] at h
    refine ⟨env, S1, ρ1, s1, re.ext x1', PoEs.of (Q := fun _ _ => True) (fun x2 S2 e2 v2 H2 ρ2 x2' s2 r2 => ?_) (fun c d S2 e2 => ?_) (fun e2 => by rw [e2] at h; exact h)⟩
    · simp only [e2] at h
      exact h (v :: v2) H2 ρ2 (x1'.trans x2') s2 ⟨RVl.ext x2' _ _ _ r1, r2⟩
    · simp only [e2] at h
      exact PoE.mono x1' (r := .exc c d S2) h
  | [], _ :: _, h => h.elim
  | _ :: _, [], h => h.elim
theorem kw_all (pos : Pos) (env : PySem.Env) : ∀ {ks : List Keyword} {ns : List Str}, ks.map (·.arg) = ns.map some → (backToKw pos (keywordEach ks env)).all (·.1.isSome) = true ∧ (backToKw pos (keywordEach ks env)).filterMap (·.1) = ns ∧ (backToKw pos (keywordEach ks env)).any (·.1.isNone) = false
  | [], [], _ => ⟨rfl, rfl, rfl⟩
  | ⟨nm, e, kpos⟩ :: ks, n :: ns, h => by
    simp only [List.map_cons, List.cons.injEq] at h
    obtain ⟨h1, h2⟩ := h
    obtain ⟨a, b, c⟩ := kw_all pos env h2
    have h1 : nm = some n := h1
    subst h1
    refine ⟨?_, ?_, ?_⟩
    · show (true && (backToKw pos (keywordEach ks env)).all (·.1.isSome)) = true
      rw [a]; rfl
    · show n :: (backToKw pos (keywordEach ks env)).filterMap (·.1) = _
      rw [b]
    · show (false || (backToKw pos (keywordEach ks env)).any (·.1.isNone)) = false
      rw [c]; rfl
  | [], _ :: _, h => by simp at h
  | _ :: _, [], h => by simp at h
theorem pe_fn {f : Nat} {x : Str} {ps : List Str} {es : List Expr} {kws : List Keyword} {as ks : List Mi.E} {p pos : Pos} (fo : FrOk C X) (hF : FRes C.F) (hx : Passes (CXm C.md X.prog X.w) X W) (fx : FnX C X f x ps) (hg : Gl X x) (hdb : (x == ("__debug__" : Str)) = false)
    (ha : PBs C X W es as) (hk : PKs C X W kws ks) (hs : es.all nstar = true) (hkn : kws.map (·.arg) = (ps.drop es.length).map some) : PE X (.Call (.Name x p) es kws pos) (tE C W (.call f as ks)) := by
  obtain ⟨⟨a, fd, k, hm, hkp, hr, hb, Fn⟩, har⟩ := fx
  obtain ⟨k1, k2, k3⟩ := kw_all pos X.env hkn
  have hlen := ha.length
  refine ⟨fun pins s σ H Q I h => ?_⟩
  refine wpAny_Call_Name_kw (ld_glob I hg hm ?_ hdb)
  have h' := call_tA h
  have any0 := nstar_any pos X.env hs
  cases es with
  | nil =>
    cases as with
    | cons _ _ => exact ha.elim
    | nil =>
      have h2 : tA C W ks σ H fun zs H2 => CallQ C W f 0 σ Q [] zs H2 := by
        obtain ⟨env, S, ρ, rs, re, w⟩ := h'
        exact w [] H ρ (Ext.refl _ _) rs trivial
      cases kws with
      | nil =>
        cases ks with
        | cons _ _ => exact hk.elim
        | nil =>
          have q : CallQ C W f 0 σ Q [] [] H := by
            obtain ⟨env, S, ρ, rs, re, w⟩ := h2
            exact w [] H ρ (Ext.refl _ _) rs trivial
          refine PySem.W.callWith_K0 I.kIn hkp ?_
          have z := call_fin (us := []) (ws := []) fo hF hx har hr hb Fn I .nil .nil q
          simpa using z
      | cons kw kws =>
        refine PySem.W.callWith_KW0 (h₀ := X.base) I.ok.mod.kin hkp k1 (thn ((pk_s hk).run pos pins s σ H _ I h2) fun ws s2 ⟨zs, H2, I2, rz, q2⟩ => ⟨I2.kIn, ?_⟩) (by rw [k3]; rfl)
        rw [k2]
        have z := call_fin (us := []) fo hF hx har hr hb Fn I2 .nil rz q2
        simpa using z
  | cons e es =>
    have hs' := hs
    rw [List.all_cons, Bool.and_eq_true] at hs'
    have he := nstar_each hs'.1 es X.env
    have hpl := nstar_any pos X.env hs'.2
    cases kws with
    | nil =>
      cases ks with
      | cons _ _ => exact hk.elim
      | nil =>
        refine PySem.W.callWith_K (h₀ := X.base) I.ok.mod.kin hkp (thn ((pa_s ha hs).run pos pins s σ H _ I h') fun us s1 ⟨vs, H1, I1, r, q⟩ => ⟨I1.kIn, ?_⟩) he hpl
        obtain ⟨env, S, ρ, rs, re, w⟩ := q
        have q := w [] H1 ρ (Ext.refl _ _) rs trivial
        have z := call_fin (ws := []) fo hF hx har hr hb Fn I1 r .nil q
        simpa using z
    | cons kw kws =>
      refine PySem.W.callWith_KW (h₀ := X.base) I.ok.mod.kin hkp k1 (thn ((pa_s ha hs).run pos pins s σ H _ I h') fun us s1 ⟨vs, H1, I1, r, q⟩ => ?_) (by rw [any0, k3]; rfl) he
      refine thn ((pk_s hk).run pos pins s1 σ H1 _ I1 q) fun ws s2 ⟨zs, H2, I2, rz, q2⟩ => ⟨I2.kIn, ?_⟩
      rw [k2]
      have z := call_fin fo hF hx har hr hb Fn I2 r rz q2
      rw [hlen]
      exact z
end
end Mi
set_option linter.all false
set_option maxRecDepth 100000
set_option maxHeartbeats 1000000
/-! Mi16: an exception that leaves a comprehension's block. -/
namespace Mi
open PySem PySem.Spec PyProof.Rows L2
/-- behind a step that let an exception out, held by the frame L -/
def CXL (m : Bool) (P : Program) (w : World) (L : Addr) (outer : List PySem.Env) (H : Hp) (s : Shared) (E : XK) (u : Value) (s' : Shared) : Prop :=
  ∃ (a : Addr) (B : Heap) (H' : Hp) (cls : Value) (d : Option Addr), u = .ref a ∧ HandSPX.HeldZ B outer a (Zm m cls d) L s'.heap ∧ HOk P w H' B ∧ UB (frs outer) H H' s.heap B s'.heap ∧ H' a = none ∧ s'.os = s.os ∧ AllBare s'.gens ∧ E cls d H'
section
variable {X : Cx} {pins : List (Addr × Obj)} {σ : L2.St} {H : Hp} {s s' : Shared} {W : XK} {u : Value} {m : Bool}
theorem xe_of_held {Wx : WX} (I : Inv X pins σ H s) (hW : ∀ cls d H', W cls d H' → Wx cls d σ H') (c : CXL m X.prog X.w X.env.locals X.stack H s W u s') : XEm m X Wx u s' := by
  obtain ⟨a, B, H', cls, d, rfl, hd, hok, ub, na, os, ag, hE⟩ := c
  obtain ⟨G, g1, g2⟩ := restrict s'.heap fun b => (B.get? b).isSome || decide (b ∈ frs X.stack)
  have st : B.StaysIn s'.heap := hd.1
  have gB : ∀ b o, B.get? b = some o → G.get? b = some o := fun b o e => (g1 b (by simp [e])).trans (st b o e)
  have gF : ∀ b, b ∈ frs X.stack → G.get? b = s'.heap.get? b := fun b hb => g1 b (by simp [hb])
  have og : ∀ b o, G.get? b = some o → s'.heap.get? b = some o ∧ ((B.get? b).isSome = true ∨ b ∈ frs X.stack) := fun b o e => by
    cases q : ((B.get? b).isSome || decide (b ∈ frs X.stack)) with
    | false => rw [g2 b q] at e; cases e
    | true => exact ⟨(g1 b q).symm.trans e, by simpa [Bool.or_eq_true] using q⟩
  refine ⟨a, B, { s with heap := G, gens := s'.gens, drawn := s'.drawn, toks := s'.toks }, pins, σ, H', cls, d, rfl, ?_, fun b o e hb => ?_, Heap.UpToSlots.of_keeps fun b o e => (og b o e).1, .inr (.inr hd), na, os, ag, hW _ _ _ hE⟩
  · refine I.call (ch := []) ⟨fun b o e n hb _ => gB b o (ub.keep b o e n hb), fun b o e n hb _ => ?_, fun b o e n _ => ub.free b o e n, fun b o e _ => ?_, ub.tups, ub.frzs, ub.tbls⟩ (hok.kept gB) ag (fun _ z => nomatch z)
    · obtain ⟨sl, q⟩ := ub.slot b o e hb
      exact ⟨sl, (gF b hb).trans q⟩
    · by_cases hb : b ∈ frs X.stack
      · obtain ⟨sl, q⟩ := ub.slot b o e hb
        exact ⟨_, (gF b hb).trans q⟩
      · obtain ⟨o', q⟩ := ub.there b o e hb
        exact ⟨o', gB b o' q⟩
  · obtain ⟨e', h⟩ := og b o e
    rcases h with h | h
    · obtain ⟨o', q⟩ := Option.isSome_iff_exists.mp h
      have z := st b o' q
      rw [e'] at z; cases z
      exact q
    · exact absurd h hb
/-- how an exception leaves an expression of X: W tells what is wanted -/
structure XCh (m : Bool) (X : Cx) (W : XK) : Prop where
  fr : ∃ (env0 : PySem.Env) (outer0 : List PySem.Env) (L : Addr), X.stack = env0 :: outer0 ∧ env0.frame = some L ∧ X.env.frame = some L ∧
    ∀ (pins : List (Addr × Obj)) (σ : L2.St) (H : Hp) (s : Shared) (e : Value) (s' : Shared), Inv X pins σ H s → CXL m X.prog X.w L X.stack H s W e s' → X.xe e s'
  call : Passes (CXm m X.prog X.w) X W
/-- of a def's frame (or a try's) -/
theorem XCh.of {Wx : WX} (hs : X.stack = X.env :: X.outer) (hf : X.env.frame = some X.env.locals) (tk : TakesM m X Wx) (hW : ∀ cls d σ H, σ.length = X.N.length → W cls d H → Wx cls d σ H) : XCh m X W where
  fr := ⟨X.env, X.outer, X.env.locals, hs, hf, hf, fun pins σ H s e s' I c => tk e s' (xe_of_held I (fun cls d H' h => hW cls d σ H' I.len h) c)⟩
  call := fun pins σ H s e s' I c => tk e s' (xem_call I (fun cls d H' h => hW cls d σ H' I.len h) c)
/-- the block's exception goes on in the frame around -/
theorem blk_tail {L C a : Addr} {env0 : PySem.Env} {outer0 : List PySem.Env} {B : Heap} {H' : Hp} {cls : Value} {d : Option Addr} {m0 : Str → Option Value} {ce : PySem.Env} {s5 : Shared} {k : Heap} (hst : X.stack = env0 :: outer0) (hcf : ce.frame = some L) (hC : ce.locals = C)
    (out : ∀ (pins : List (Addr × Obj)) (σ : L2.St) (H : Hp) (s : Shared) (e : Value) (s' : Shared), Inv X pins σ H s → CXL m X.prog X.w L X.stack H s W e s' → X.xe e s')
    (I : Inv X pins σ H s) (fC : FpOk X pins H C) (hn : s.heap.Ns C m0) (nfC : C ∉ frs X.stack)
    (hh : HandSPX.HeldZ B X.stack a (Zm m cls d) L s5.heap) (hok : HOk X.prog X.w H' B) (ub : UB (frs X.stack) H H' s.heap B s5.heap) (na : H' a = none) (os : s5.os = s.os) (ag : AllBare s5.gens) (w : W cls d H') :
    CompFails (model X.prog X.w) X.A X.xe ce (.ref a) s5 := by
  subst hC
  obtain ⟨oC, es, ep, hoC, hdC, rC⟩ := hn
  have hBC : B.get? ce.locals = some oC := ub.keep _ _ hoC fC.1 nfC
  refine ⟨m0, ⟨oC, es, ep, hh.1 _ _ hBC, hdC, rC⟩, fun h1 m1 hn1 sb => ?_⟩
  obtain ⟨k1, k2, k3, oe, vs, T, oT, ts, he, hz, hd, hv, hnT, hTe, hT, hdT, h3⟩ := id hh
  have aC : a ≠ ce.locals := fun z => by rw [z, hBC] at k2; cases k2
  have tC : T ≠ ce.locals := fun z => by rw [z, hBC] at hnT; cases hnT
  obtain ⟨G, g1, g2⟩ := restrict s.heap fun b => decide (b ≠ ce.locals)
  obtain ⟨B1, b1, b2⟩ := restrict B fun b => decide (b ≠ ce.locals)
  have gk : ∀ b o, s.heap.get? b = some o → b ≠ ce.locals → G.get? b = some o := fun b o e n => (g1 b (by simpa using n)).trans e
  have gs : ∀ b o, G.get? b = some o → s.heap.get? b = some o ∧ b ≠ ce.locals := fun b o e => by
    by_cases z : b = ce.locals
    · rw [g2 b (by simpa using z)] at e; cases e
    · exact ⟨(g1 b (by simpa using z)).symm.trans e, z⟩
  have bk : ∀ b o, B.get? b = some o → b ≠ ce.locals → B1.get? b = some o := fun b o e n => (b1 b (by simpa using n)).trans e
  have bs : ∀ b o, B1.get? b = some o → B.get? b = some o ∧ b ≠ ce.locals := fun b o e => by
    by_cases z : b = ce.locals
    · rw [b2 b (by simpa using z)] at e; cases e
    · exact ⟨(b1 b (by simpa using z)).symm.trans e, z⟩
  have bn : ∀ b, B.get? b = none → B1.get? b = none := fun b e => by
    cases q : B1.get? b with
    | none => rfl
    | some o => rw [(bs b o q).1] at e; cases e
  have nH : ∀ b o, H b = some o → b ≠ ce.locals := fun b o e z => by rw [z, fC.1] at e; cases e
  have nH' : H' ce.locals = none := ub.free _ _ hoC fC.1
  -- the state without the block's names
  have I8 : Inv X pins σ H { s with heap := G, gens := s.gens, drawn := s.drawn, toks := s.toks } := by
    refine I.call (ch := [ce.locals]) ⟨fun b o e n _ hx => gk b o e (by simpa using hx), fun b o e n _ hx => ⟨o.slots, gk b o e (by simpa using hx)⟩, fun b o e n _ => n, fun b o e hx => ⟨o, gk b o e (by simpa using hx)⟩, fun _ _ q => q, fun _ _ _ q => q, fun _ ps q => ⟨#[], by rw [q]; simp⟩⟩ (fun b o e => ?_) I.bare (fun b hb => ?_)
    · refine (I.hok b o e).stay (fun c v hc q => gk c v q ?_) (fun _ q => q) fun _ _ q => q
      rcases hc with z | z
      · rw [z]; exact nH b o e
      · exact nH c _ z
    · have e : b = ce.locals := by simpa using hb
      subst e
      exact ⟨fC.2.2.2.1, fC.2.1, fC.2.2.2.2.1, fC.2.2.2.2.2⟩
  have hok1 : HOk X.prog X.w H' B1 := fun b o e => by
    refine (hok b o e).stay (fun c v hc q => bk c v q ?_) (fun _ q => q) fun _ _ q => q
    rcases hc with z | z
    · rw [z]; intro y; rw [y, nH'] at e; cases e
    · intro y; rw [y, nH'] at z; cases z
  have hh1 : HandSPX.HeldZ B1 X.stack a (Zm m cls d) L h1 := by
    refine ⟨fun b o e => (sb.2 b (bs b o e).2).trans (k1 b o (bs b o e).1), bn _ k2, funFrames_none (Heap.FunFrames.sameBut sb hn1 k3) fun b hb => bn b (k3.mem hb).1, oe, vs, T, oT, ts, (sb.2 a aC).trans he, hz, hd, hv, bn _ hnT, hTe, (sb.2 T tC).trans hT, hdT, h3⟩
  unfold PySem.passOn
  refine wpAny_bind (wpAny_field ((sb.2 a aC).trans he) hd hv ?_)
  rw [if_neg (show ¬ ((Value.ref T == Value.none) = true) from by simp), hcf]
  have fin : wpAny (model X.prog X.w) X.A (setFlight (.ref a) (some L)) (fun _ s4 => wpAny (model X.prog X.w) X.A (throw (.ref a) : Sem Value) (fun _ _ => False) X.xe s4) X.xe { s5 with heap := h1 } := by
    refine HandSPX.setFlight_onZ hh1 fun h2 hh2 up2 => wpAny_throw ?_
    refine out pins σ H _ _ _ I8 ⟨a, B1, H', cls, d, rfl, hh2, hok1, ⟨fun b o e n hb => ?_, fun b o e hb => ?_, fun b o e n => ub.free b o (gs b o e).1 n, fun b o e hb => ?_, ub.tups, ub.frzs, ub.tbls⟩, na, os, ag, w⟩
    · exact bk b o (ub.keep b o (gs b o e).1 n hb) (gs b o e).2
    · obtain ⟨sl, q⟩ := ub.slot b o (gs b o e).1 hb
      have q1 : h1.get? b = some { o with slots := sl } := (sb.2 b (gs b o e).2).trans q
      obtain ⟨_, o', e', hnf⟩ := k3.mem hb
      rw [q] at e'
      cases e'
      obtain ⟨sl2, q2⟩ := up2 b _ q1 hnf
      exact ⟨sl2, q2⟩
    · obtain ⟨o', q⟩ := ub.there b o (gs b o e).1 hb
      exact ⟨o', bk b o' q (gs b o e).2⟩
  first
    | exact wpAny_bind (wpAny_pure (wpAny_bind fin))
    | exact wpAny_bind fin
theorem looksM {M : Model} {A : Around} {E : Value → Shared → Prop} {s : Shared} {base : Heap} {env : PySem.Env} {outer : List PySem.Env} {L e : Addr} {cls : Value} {d : Option Addr} {Q : Unit → Shared → Prop} (hfr : A.frames = some (env :: outer)) (hf : env.frame = some L) (hfl : HandSPX.FlyingZ base (env :: outer) e (Zm m cls d) s.heap)
    (hQ : ∀ h', HandSPX.HeldZ base (env :: outer) e (Zm m cls d) L h' → s.heap.UpToSlots h' → Q () { s with heap := h' }) : wpAny M A (noteFrame (.ref e) env) Q E s := by
  cases m with
  | false => exact HandSPX.looks_onZ Zc.steady hfr hf hfl hQ
  | true => exact PXN.looks_onZ L2N.Zn.steady hfr hf hfl hQ
/-- an exception of a call, in a block -/
theorem blk_call {D C : Addr} {m0 : Str → Option Value} {ce : PySem.Env} {Qf : Value → Shared → Prop} (ch : XCh m X W) (hcf : ce.frame = X.env.frame) (hC : ce.locals = C)
    (I : Inv X pins σ H s) (fC : FpOk X pins H C) (hn : s.heap.Ns C m0) (nfC : C ∉ frs X.stack) (c : CXm m X.prog X.w X.stack H s W u s') :
    notedBy (model X.prog X.w) X.A ce (fun e s' => compEnds (model X.prog X.w) X.A X.xe none Qf (.ref D) ce (.error e) s') u s' := by
  obtain ⟨env0, outer0, L, hst, hf0, hf, out⟩ := ch.fr
  obtain ⟨a, B, H', cls, d, rfl, fl, hok, ub, na, os, ag, w⟩ := c
  show wpAny _ _ (noteFrame (.ref a) ce) _ _ s'
  rw [noteFrame_env _ (hcf.trans (hf.trans hf0.symm))]
  have hfr : X.A.frames = some (env0 :: outer0) := by rw [I.ok.frames, hst]
  rw [hst] at fl
  refine looksM hfr hf0 fl fun h5 hh5 up5 => ?_
  have hh5' : HandSPX.HeldZ B X.stack a (Zm m cls d) L h5 := by rw [hst]; exact hh5
  refine blk_tail (s5 := { s' with heap := h5 }) (k := s.heap) hst (hcf.trans hf) hC out I fC hn nfC hh5' hok ⟨ub.keep, fun b o e hb => ?_, ub.free, ub.there, ub.tups, ub.frzs, ub.tbls⟩ na os ag w
  obtain ⟨sl, q⟩ := ub.slot b o e hb
  obtain ⟨_, o', e', hnf⟩ := fl.2.2.1.mem (show b ∈ frs (env0 :: outer0) by rw [← hst]; exact hb)
  rw [q] at e'
  cases e'
  obtain ⟨sl2, q2⟩ := up5 b _ q hnf
  exact ⟨sl2, q2⟩
/-- .. of a block within the block -/
theorem blk_held {D C L : Addr} {m0 : Str → Option Value} {ce : PySem.Env} {Qf : Value → Shared → Prop} {env0 : PySem.Env} {outer0 : List PySem.Env} (hst : X.stack = env0 :: outer0) (hcf : ce.frame = some L) (hC : ce.locals = C)
    (out : ∀ (pins : List (Addr × Obj)) (σ : L2.St) (H : Hp) (s : Shared) (e : Value) (s' : Shared), Inv X pins σ H s → CXL m X.prog X.w L X.stack H s W e s' → X.xe e s')
    (I : Inv X pins σ H s) (fC : FpOk X pins H C) (hn : s.heap.Ns C m0) (nfC : C ∉ frs X.stack) (c : CXL m X.prog X.w L X.stack H s W u s') :
    notedBy (model X.prog X.w) X.A ce (fun e s' => compEnds (model X.prog X.w) X.A X.xe none Qf (.ref D) ce (.error e) s') u s' := by
  obtain ⟨a, B, H', cls, d, rfl, hh, hok, ub, na, os, ag, w⟩ := c
  show wpAny _ _ (noteFrame (.ref a) ce) _ _ s'
  refine HandSPX.againZ hcf hh.2.2.2 ?_
  exact blk_tail (k := s.heap) hst hcf hC out I fC hn nfC hh hok ub na os ag w
end
end Mi
set_option linter.all false
set_option maxRecDepth 100000
set_option maxHeartbeats 1000000
/-! Mi17: enumerate over a tuple. -/
namespace PySem
open Sem (wp)
open AutoSeq1 (wpAny_loadPart')
theorem mi_enum_newT (l : Addr) (items : Array Value) (n : Nat) (dct : Option Addr) (sl : Array (Option Value)) :
    Meets (Builtin.«enumerate.__new__» ⟨[.type "enumerate", .ref l], []⟩) (fun _ R s => s.heap.get? l = some { cls := .type "tuple", dict := dct, data := .seq items n, slots := sl } ∧
      R (.ok (.ret (.ref (s.heap.push { cls := .type "tuple_iterator", data := .fields #[.ref l, .int 0 0] }).objs.size)))
        { s with heap := (s.heap.push { cls := .type "tuple_iterator", data := .fields #[.ref l, .int 0 0] }).push { cls := .type "enumerate", data := .fields #[.none, .bool false, .ref s.heap.objs.size, rawInt 0, .none, .none] } }) :=
  .of_wp fun prog w A R s h => by
    obtain ⟨hp, g, d, tk, os⟩ := s; obtain ⟨hl, h⟩ := h
    have hsub := sub_enumerate
    have hL : Heap.IsTuple (Shared.heap ⟨hp, g, d, tk, os⟩) l items := ⟨_, hl, rfl, n, rfl⟩
    wp_walk using wpAny_loadPart' hl
    refine wpAny_stack_any fun st => wpAny_pure ?_
    split
    · rename_i c _ _ _ _ _
      cases (c == Value.type "enumerate")
      · wp_walk using wpAny_loadPart' hl, wpAny_pyIter_tuple hL
        exact ⟨_, rfl, h⟩
      · wp_walk using wpAny_loadPart' hl, wpAny_pyIter_tuple hL
        exact ⟨_, rfl, h⟩
    · wp_walk using wpAny_loadPart' hl, wpAny_pyIter_tuple hL
      exact ⟨_, rfl, h⟩
section
variable {prog : Program} {w : World} {A : Around} {E : Value → Shared → Prop} {s : Shared}
theorem mi_call_enumT {l : Addr} {items : Array Value} {Q : Value → Shared → Prop} (hL : s.heap.IsTuple l items)
    (h : ∀ h', IsEnum h' (s.heap.objs.size + 1) s.heap.objs.size 0 .none → h'.IsTupleIter s.heap.objs.size l 0 →
      (∀ b o, s.heap.get? b = some o → h'.get? b = some o) → Q (.ref (s.heap.objs.size + 1)) { s with heap := h' }) :
    wpAny (model prog w) A (call (.type "enumerate") [.ref l]) Q E s := by
  obtain ⟨⟨c, dct, dt, sl⟩, hl, hc, n, hd⟩ := hL
  replace hc : c = .type "tuple" := hc
  replace hd : dt = .seq items n := hd
  subst hc hd
  refine callType_new F.called_enumerate (by decide) (F.typeCall_enumerate_1 _) (F.newCall_enumerate_1 _) (fun obj => F.args_object_init_2 obj _) F.entry_enumerate_new
    (mi_enum_newT l items n dct sl) ⟨hl, ?_⟩
  have hz : (s.heap.push { cls := .type "tuple_iterator", data := .fields #[.ref l, .int 0 0] }).objs.size = s.heap.objs.size + 1 := Heap.size_push ..
  show _ ∧ _
  rw [hz]
  have he : IsEnum ((s.heap.push { cls := .type "tuple_iterator", data := .fields #[.ref l, .int 0 0] }).push
      { cls := .type "enumerate", data := .fields #[.none, .bool false, .ref s.heap.objs.size, rawInt 0, .none, .none] }) (s.heap.objs.size + 1) s.heap.objs.size 0 .none := by
    have := Heap.get?_push_size (s.heap.push { cls := .type "tuple_iterator", data := .fields #[.ref l, .int 0 0] })
      (o := { cls := .type "enumerate", data := .fields #[.none, .bool false, .ref s.heap.objs.size, rawInt 0, .none, .none] }) rfl
    rw [hz] at this; exact this
  exact ⟨⟨_, he, rfl⟩, h _ he ⟨_, Heap.get?_push_of_some _ (Heap.get?_push_size _ rfl), rfl, rfl⟩ fun b o x => Heap.get?_push_of_some _ (Heap.get?_push_of_some _ x)⟩
theorem mi_enum_endT {e it l : Addr} {i : Nat} {items : Array Value} {old : Value} {Q : Option Value → Shared → Prop} (hh : A.handled = none)
    (he : IsEnum s.heap e it i old) (hit : s.heap.IsTupleIter it l i) (hl : s.heap.IsTuple l items) (hx : items[i]? = none)
    (hQ : ∀ h', Heap.ExtBut it s.heap h' → Q none { s with heap := h' }) : wpAny (model prog w) A (pyNext (.ref e)) Q E s := by
  have hT : s.TypeIs (.ref e) "enumerate" := ⟨_, he, rfl⟩
  unfold pyNext
  refine wpAny_bind (wpAny_attempt (wpAny_callSpecial?_slot (name := Str.ofString "__next__") hT F.slot_enumerate_next
    (wpAny_call_entry F.slot_enumerate_next hT F.entry_enumerate_next ?_ (F.args_enumerate_next_1 _))))
  show wpAny _ _ (field (.ref e) 2 >>= _) _ _ _
  refine wpAny_bind (wpAny_field he rfl (x := .ref it) rfl ?_)
  refine wpAny_bind (wpAny_nextOf_tuple_end hh hit hl hx fun h' x he' hx' => ?_)
  obtain ⟨o, ho, hc⟩ := hx'
  refine wpAny_bind (wpAny_isInstance (T := "StopIteration") (b := true) ⟨o, ho, hc⟩ isSubtype_stop ?_)
  exact wpAny_pure (hQ _ he')
end
end PySem
namespace Mi
open PySem PySem.Spec PyProof.Rows L2
def IteT (K : PySem.W.Frag) (a : Addr) : It :=
  ⟨fun i H => ∃ (xs : List V) (x : V), SqT K H a xs ∧ xs[i]? = some x, fun i H v H' => ∃ T x, v = .ref T ∧ H T = none ∧ H' = upd H T (.tup [.int (i : Nat), x]) ∧ ∀ xs, SqT K H a xs → xs[i]? = some x, fun i H => ∃ xs : List V, SqT K H a xs ∧ xs.length ≤ i⟩
theorem turn_enumT {P : Program} {w : World} {K : PySem.W.Frag} {elts : List Expr} {kk : Nat} {tpos : Pos} (a e it : Addr) (hae : a ≠ e) (hai : a ≠ it) :
    Turn P w K (.Tuple elts kk tpos) (IteT K a) [e, it] e (fun i h => (∃ old, IsEnum h e it ((i : Nat) : Int) old) ∧ h.IsTupleIter it a i ∧ e ≠ it) where
  mem := by simp
  obj := fun i h st b hb => by
    obtain ⟨⟨old, he⟩, ⟨o, ho, hc, hd⟩, _⟩ := st
    have e' : b = e ∨ b = it := by simpa using hb
    rcases e' with z | z
    · rw [z]; exact ⟨_, he, fun v q => nomatch q⟩
    · rw [z]; exact ⟨o, ho, fun v q => by rw [hd] at q; cases q⟩
  keep := fun i h h' st k => let ⟨⟨old, he⟩, hi, hne⟩ := st; ⟨⟨old, k e (by simp) _ he⟩, hi.at fun o q => k it (by simp) o q, hne⟩
  item := by
    intro X hP hw hK hc i pins s σ H E I hf st hg
    subst hP hw hK
    obtain ⟨⟨old, he⟩, hit, hne⟩ := st
    obtain ⟨xs, x, hq, hx⟩ := hg
    obtain ⟨its, rv, p, hz⟩ := I.tuple hq
    obtain ⟨u, hu, ru⟩ := rv.get hx
    have hel : e < s.heap.objs.size := Heap.lt_size he
    have hil : it < s.heap.objs.size := by obtain ⟨_, q, _⟩ := hit; exact Heap.lt_size q
    have hlt : i < its.toArray.size := by
      have := (List.getElem?_eq_some_iff.mp hu).1
      simpa using this
    refine wpAny_pyNext_enum_itemD (Draws.tuple (show X.A.in1.handled = none from I.ok.hd hc) it a hai its.toArray) he ⟨hit, p⟩ hlt hne (by simp [hne, Ne.symm hae]) fun x' h' tk hx' ho hst hT hsz hk => ?_
    obtain ⟨hit', _⟩ := hst
    have exx : x' = u := by
      have : its.toArray[i]? = some u := by simpa using hu
      rw [this] at hx'; exact (Option.some.inj hx').symm
    subst exx
    refine ⟨_, rfl, wpAny_letOwnedTupleGo_enum (s := { s with heap := h', toks := tk + 1 }) ho fun h'' he' sb => ?_⟩
    have hT2 : h''.get? s.heap.objs.size = some { cls := .type "tuple", data := .seq #[.int i tk, x'] } := (sb.2 _ (Nat.ne_of_gt hel)).trans hT
    have new : ObjOk X.prog X.w (upd H s.heap.objs.size (.tup [.int (i : Nat), x])) h'' s.heap.objs.size (.tup [.int (i : Nat), x]) :=
      ⟨by show 2 ≤ sizeLine; decide, [.int i tk, x'], .cons ⟨_, rfl⟩ (.cons ru .nil), ⟨_, hT2, rfl, _, rfl⟩⟩
    have I1 : Inv X pins σ (upd H s.heap.objs.size (.tup [.int (i : Nat), x])) { s with heap := h'', toks := tk + 1 } :=
      I.turnedNew (ch := [e, it]) (fun b ob hb q => (sb.2 b (fun z => hb (by simp [z]))).trans (hk b ob (fun z => hb (by simp [z])) (fun z => hb (by simp [z])) q)) hf (Nat.le_refl _) new
    refine ⟨.ref s.heap.objs.size, _, I1, rfl, ⟨_, x, rfl, I.hok.fresh (Nat.le_refl _), rfl, fun ys hy => by rw [I.tuple_inj hy hq]; exact hx⟩, ⟨⟨x', ?_⟩, hit'.at fun o q => (sb.2 it (Ne.symm hne)).trans q, hne⟩, fun b hb => ?_⟩
    · have e1 : ((i + 1 : Nat) : Int) = (i : Int) + 1 := by omega
      rw [e1]; exact he'
    · have hb' : b < s.heap.objs.size := by
        have e' : b = e ∨ b = it := by simpa using hb
        rcases e' with z | z
        · rw [z]; exact hel
        · rw [z]; exact hil
      rw [upd_ne (Nat.ne_of_lt hb')]
      exact (hf b hb).1
  done := by
    intro X hP hw hK hc i pins s σ H E I hf st hg
    subst hP hw hK
    obtain ⟨⟨old, he⟩, hit, hne⟩ := st
    obtain ⟨xs, hq, hx⟩ := hg
    obtain ⟨its, rv, p, hz⟩ := I.tuple hq
    obtain ⟨f0, f1, f2, f3, f4, f5⟩ := hf it (by simp)
    have hl := rv.length
    exact mi_enum_endT (I.ok.hd hc) he hit p (by simp; omega) fun h' eb => ⟨rfl, I.turned (t' := s.toks) (fun b o hb q => eb b o hb q) f0 f1 f3 f4 f5⟩
  self := fun A i s Q E st h => let ⟨⟨_, he⟩, _⟩ := st; wpAny_pyIter_enum he h
def iEnumT (K : PySem.W.Frag) (ta : TA) : TI := fun σ H R => ta σ H fun vs H1 => ∃ a xs, vs = [.ref a] ∧ SqT K H1 a xs ∧ R (IteT K a) H1
theorem pi_enumT {X : Cx} {e : Expr} {ta : TA} {p pos tpos : Pos} {elts : List Expr} {kk : Nat} (hg : Gl X "enumerate") (hm : X.mg "enumerate" = none) (ha : PA X [e] ta) (hs : starEach [e] X.env = [(false, eval e X.env)]) :
    PI X (.Tuple elts kk tpos) (.Call (.Name "enumerate" p) [e] [] pos) (iEnumT X.K ta) := by
  refine ⟨fun pins s σ H R I h => ?_⟩
  refine Call_ (ld_blt I hg hm boot_enumerate (PyProof.Rows.callWith_type1 (thn (ha.run pos pins s σ H _ I h) fun us s1 ⟨vs, H1, I1, r1, q1⟩ => ?_) hs rfl))
  obtain ⟨a, xs, ex, hq, q⟩ := q1
  subst ex
  cases r1 with
  | cons r rr =>
    cases rr
    cases r
    obtain ⟨its, rv, p', hz⟩ := I1.tuple hq
    have hal : a < s1.heap.objs.size := p'.lt
    refine mi_call_enumT p' fun h' he hit hk => wpAny_pyIter_enum he ?_
    have I2 : Inv X pins σ H1 { s1 with heap := h' } := I1.kept (t' := s1.toks) hk
    refine ⟨s1.heap.objs.size + 1, [s1.heap.objs.size + 1, s1.heap.objs.size], _, _, H1, rfl, I2, turn_enumT a (s1.heap.objs.size + 1) s1.heap.objs.size (Nat.ne_of_lt (Nat.lt_succ_of_lt hal)) (Nat.ne_of_lt hal), ⟨⟨.none, he⟩, hit, Nat.succ_ne_self _⟩, fun b hb => ?_, q⟩
    have e' : b = s1.heap.objs.size + 1 ∨ b = s1.heap.objs.size := by simpa using hb
    have hle : s1.heap.objs.size ≤ b := by
      rcases e' with z | z
      · rw [z]; exact Nat.le_add_right _ _
      · rw [z]; exact Nat.le_refl _
    exact I1.fpOk hle (I1.hok.fresh hle)
end Mi
set_option linter.all false
set_option maxRecDepth 100000
set_option maxHeartbeats 1000000
/-! Mi18: what a for or a comprehension goes through. -/
namespace Mi
open PySem PySem.Spec PyProof.Rows L2
/-- the iterator J gives xs, whatever happens to the store -/
structure SrcOk (C : Ctx) (J : It) (ρ : List Addr) (H : Hp) (xs : List Vl) : Prop where
  go : ∀ (i : Nat) (H' : Hp) (ρ' : List Addr), Ext ρ H ρ' H' → i < xs.length → J.go i H'
  stop : ∀ (H' : Hp) (ρ' : List Addr), Ext ρ H ρ' H' → J.stop xs.length H'
  yld : ∀ (i : Nat) (x0 : Vl) (H' : Hp) (ρ' : List Addr) (v : V) (H'' : Hp) (S : Store), Ext ρ H ρ' H' → C.RS ρ' H' S → xs[i]? = some x0 → J.yld i H' v H'' → Ext ρ' H' ρ' H'' ∧ C.RS ρ' H'' S ∧ C.RV ρ' H'' x0 v
theorem SrcOk.ext {C : Ctx} {J : It} {ρ ρ' : List Addr} {H H' : Hp} {xs : List Vl} (s : SrcOk C J ρ H xs) (e : Ext ρ H ρ' H') : SrcOk C J ρ' H' xs :=
  ⟨fun i H2 ρ2 e2 => s.go i H2 ρ2 (e.trans e2), fun H2 ρ2 e2 => s.stop H2 ρ2 (e.trans e2), fun i x0 H2 ρ2 v H3 S e2 => s.yld i x0 H2 ρ2 v H3 S (e.trans e2)⟩
def tSrc (C : Ctx) (W : XK) (k : Sk) (src : List Mi.E) : TI := fun σ H R => ∃ env S ρ, C.RS ρ H S ∧ REnv C ρ H env σ ∧ (match evEs C.P C.F src env S with
  | .ok vs S1 => ∃ xs, items k vs S1 = some xs ∧ ∀ J H' ρ', Ext ρ H ρ' H' → C.RS ρ' H' S1 → SrcOk C J ρ' H' xs → R J H'
  | .exc c d S1 => PoE C.g C.fr W (fun _ _ => True) ρ H (.exc c d S1)
  | .bad => False)
theorem PI.at {X : Cx} {tg e : Expr} {t' : TI} (h : ∀ σ H R, t' σ H R → ∃ t, PI X tg e t ∧ t σ H R) : PI X tg e t' := ⟨fun pins s σ H R I q => by
  obtain ⟨t, h1, h2⟩ := h σ H R q
  exact h1.run pins s σ H R I h2⟩
section
variable {C : Ctx} {X : Cx} {W : XK} {σ : L2.St} {H : Hp} {ρ : List Addr}
theorem SrcOk.walk {J : It} {n : Nat} {G : Hp → Prop} {Y : Nat → Hp → V → Hp → Prop} {xs : List Vl} (w : Walk J n G Y) (hn : n = xs.length) (hG : ∀ H' ρ', Ext ρ H ρ' H' → G H')
    (hY : ∀ (i : Nat) (x0 : Vl) (H' : Hp) (ρ' : List Addr) (v : V) (H'' : Hp) (S : Store), Ext ρ H ρ' H' → C.RS ρ' H' S → xs[i]? = some x0 → Y i H' v H'' → Ext ρ' H' ρ' H'' ∧ C.RS ρ' H'' S ∧ C.RV ρ' H'' x0 v) : SrcOk C J ρ H xs where
  go := fun i H' ρ' e hi => w.goes i H' (by rw [hn]; exact hi) (hG H' ρ' e)
  stop := fun H' ρ' e => by rw [← hn]; exact w.stops H' (hG H' ρ' e)
  yld := fun i x0 H' ρ' v H'' S e rs hx y => hY i x0 H' ρ' v H'' S e rs hx (w.yields i H' v H'' (by rw [hn]; exact (List.getElem?_eq_some_iff.mp hx).1) (hG H' ρ' e) y)
/-- items that stand -/
theorem yat {xs : List Vl} {vs : List V} (r : C.RVs ρ H xs vs) : ∀ (i : Nat) (x0 : Vl) (H' : Hp) (ρ' : List Addr) (v : V) (H'' : Hp) (S : Store), Ext ρ H ρ' H' → C.RS ρ' H' S → xs[i]? = some x0 → YAt vs i H' v H'' → Ext ρ' H' ρ' H'' ∧ C.RS ρ' H'' S ∧ C.RV ρ' H'' x0 v := fun i x0 H' ρ' v H'' S e rs hx y => by
  obtain ⟨rfl, hv⟩ := y
  refine ⟨Ext.refl _ _, rs, ?_⟩
  have r' := RVls.ext e _ _ _ r
  clear r e rs
  revert i vs
  induction xs with
  | nil => intro vs i hx hv r; simp at hx
  | cons x xs ih =>
    intro vs i hx hv r
    cases vs with
    | nil => exact r.elim
    | cons w ws =>
      cases i with
      | zero =>
        simp at hx hv
        subst hx hv
        exact r.1
      | succ i => exact ih i (by simpa using hx) (by simpa using hv) r.2
theorem RDs.rvs : ∀ {ds : List D} {vs : List V}, RDs C.g.K ρ H ds vs → C.RVs ρ H (ds.map .d) vs
  | [], [], _ => trivial
  | _ :: _, _ :: _, h => ⟨h.1, RDs.rvs h.2⟩
  | [], _ :: _, h => h.elim
  | _ :: _, [], h => h.elim
theorem src_tup {K : PySem.W.Frag} (hK : C.g.K = K) {a : Addr} {ds : List D} {vs : List V} (ht : TupAt C.g.K ρ H a vs) (hd : RDs C.g.K ρ H ds vs) : SrcOk C (Itt K a) ρ H (ds.map .d) :=
  SrcOk.walk (walk_tup (xs := vs)) (by rw [List.length_map, hd.length]) (fun H' ρ' e => by
    rw [← hK]
    exact (ht.elim (fun z => .inl ⟨e.keep _ _ z.2 z.1 (fun _ q => nomatch q), e.nmem z.2 z.1⟩) .inr : TupAt C.g.K ρ' H' a vs).sq) (yat (RDs.rvs hd))
theorem src_lst {K : PySem.W.Frag} {a : Addr} {ds : List D} {vs : List V} (ht : H a = some (.lst vs) ∨ ∃ o, H a = some (.frz o (.lst vs))) (hn : a ∉ ρ) (hd : RDs C.g.K ρ H ds vs) : SrcOk C (Itl K a) ρ H (ds.map .d) :=
  SrcOk.walk (walk_list (xs := vs)) (by rw [List.length_map, hd.length]) (fun H' ρ' e => by
    rcases ht with z | ⟨o, z⟩
    · exact SqL.of (e.keep _ _ hn z (fun _ q => nomatch q))
    · exact .inl (.inr ⟨o, e.keep _ _ hn z (fun _ q => nomatch q)⟩)) (yat (RDs.rvs hd))
theorem src_str {z : List Nat} : SrcOk C (Its (toS z)) ρ H (z.map fun c => .d (.str [c])) :=
  SrcOk.walk (walk_str (z := toS z)) (by simp [toS]) (fun _ _ _ => trivial) fun i x0 H' ρ' v H'' S e rs hx y => by
    obtain ⟨rfl, c, hc, rfl⟩ := y
    have hc' : z[i]? = some c := by simpa [toS] using hc
    rw [List.getElem?_map, hc'] at hx
    cases hx
    exact ⟨Ext.refl _ _, rs, rfl⟩
/-- a tuple or a list -/
def iTL (K : PySem.W.Frag) (te : TE) : TI := fun σ H R => te σ H fun x H1 => ∃ a, x = .ref a ∧ (((∃ xs, SqL K H1 a xs) ∧ R (Itl K a) H1) ∨ ((∃ xs, SqT K H1 a xs) ∧ R (Itt K a) H1))
theorem pi_TL {tg l : Expr} {tl : TE} (hl : PE X l tl) : PI X tg l (iTL X.K tl) := by
  refine ⟨fun pins s σ H R I h => ?_⟩
  refine thn (hl.run pins s σ H _ I h) fun v s1 ⟨x, H1, I1, r1, q1⟩ => ?_
  obtain ⟨a, e, q⟩ := q1
  subst e
  cases r1
  rcases q with ⟨⟨xs, hq⟩, q⟩ | ⟨⟨xs, hq⟩, q⟩
  · obtain ⟨its, rv, p, hz⟩ := I1.list hq
    exact wpAny_pyIter_list p.isList (pi_one (tk := s1.toks) I1 _ (turn_list a _) ⟨_, Heap.get?_push_size _ rfl, rfl, rfl⟩ q)
  · obtain ⟨its, rv, p, hz⟩ := I1.tuple hq
    exact wpAny_pyIter_tuple (show s1.heap.IsTuple a its.toArray from p) (pi_one (tk := s1.toks) I1 _ (turn_tuple a _) ⟨_, Heap.get?_push_size _ rfl, rfl, rfl⟩ q)
/-- one source: the reading of its value -/
theorem src_one {x : Mi.E} {σ : L2.St} {H : Hp} {env : Env} {S : Store} {ρ : List Addr} {R : Vl → Store → Prop} {Q : V → Hp → Prop} (rs : C.RS ρ H S) (re : REnv C ρ H env σ)
    (h : match evEs C.P C.F [x] env S with
      | .ok vs S1 => ∃ v, vs = [v] ∧ R v S1
      | .exc c d S1 => PoE C.g C.fr W (fun _ _ => True) ρ H (.exc c d S1)
      | .bad => False)
    (hQ : ∀ y S1 v H' ρ', Ext ρ H ρ' H' → C.RS ρ' H' S1 → C.RV ρ' H' y v → R y S1 → Q v H') : tE C W x σ H Q := by
  refine ⟨env, S, ρ, rs, re, ?_⟩
  simp only [evEs] at h
  cases q : evE C.P C.F x env S with
  | bad => simp only [q] at h
  | exc c d S1 => simp only [q] at h; exact h
  | ok v S1 =>
    simp only [q] at h
    obtain ⟨v', e, r⟩ := h
    cases e
    exact fun w H' ρ' e s r' => hQ v S1 w H' ρ' e s r' r
theorem pi_it {tg e : Expr} {x : Mi.E} (hK : C.g.K = X.K) (he : PE X e (tE C W x)) : PI X tg e (tSrc C W .it [x]) := PI.at fun σ H R ⟨env, S, ρ, rs, re, h⟩ => by
  cases q : evE C.P C.F x env S with
  | bad => simp only [evEs, q] at h
  | exc c d S1 =>
    simp only [evEs, q] at h
    exact ⟨_, pi_TL he, env, S, ρ, rs, re, by rw [q]; exact h⟩
  | ok v S1 =>
    simp only [evEs, q] at h
    obtain ⟨xs, h1, h2⟩ := h
    have fin : ∀ {Q : VK}, (∀ w H' ρ', Ext ρ H ρ' H' → C.RS ρ' H' S1 → C.RV ρ' H' v w → Q w H') → tE C W x σ H Q := fun {Q} k => ⟨env, S, ρ, rs, re, by rw [q]; exact k⟩
    have h1 : itemsV S1 v = some xs := h1
    unfold itemsV at h1
    split at h1
    · cases h1
      refine ⟨_, pi_TL he, fin fun w H' ρ' e s r => ?_⟩
      obtain ⟨a, vs, rfl, ht, hd⟩ := r
      exact ⟨a, rfl, .inr ⟨⟨vs, hK ▸ ht.sq⟩, h2 _ _ _ e s (src_tup hK ht hd)⟩⟩
    · cases h1
      refine ⟨_, pi_TL he, fin fun w H' ρ' e s r => ?_⟩
      obtain ⟨a, vs, rfl, ht, hd⟩ := r
      exact ⟨a, rfl, .inl ⟨⟨vs, SqL.of ht.1⟩, h2 _ _ _ e s (src_lst (.inl ht.1) ht.2 hd)⟩⟩
    · cases h1
      refine ⟨_, pi_str he, fin fun w H' ρ' e s r => ?_⟩
      cases r
      exact ⟨_, rfl, h2 _ _ _ e s src_str⟩
    · cases h1
      refine ⟨_, pi_TL he, fin fun w H' ρ' e s r => ?_⟩
      obtain ⟨a, vs, rfl, ⟨⟨o, ht⟩, hn⟩, hd⟩ := r
      exact ⟨a, rfl, .inl ⟨⟨vs, .inl (.inr ⟨o, ht⟩)⟩, h2 _ _ _ e s (src_lst (.inr ⟨o, ht⟩) hn hd)⟩⟩
    · cases h1
      refine ⟨_, pi_TL he, fin fun w H' ρ' e s r => ?_⟩
      obtain ⟨a, vs, rfl, hn, ht, hd⟩ := r
      rcases ht with ht | ht
      · refine ⟨a, rfl, .inr ⟨⟨vs, SqT.of ht⟩, h2 _ _ _ e s ?_⟩⟩
        exact SrcOk.walk (walk_tup (xs := vs)) (by rw [hd.length]) (fun H'' ρ'' e' => SqT.of (e'.keep _ _ hn ht (fun _ q => nomatch q))) (yat hd)
      · refine ⟨a, rfl, .inl ⟨⟨vs, SqL.of ht⟩, h2 _ _ _ e s ?_⟩⟩
        exact SrcOk.walk (walk_list (xs := vs)) (by rw [hd.length]) (fun H'' ρ'' e' => SqL.of (e'.keep _ _ hn ht (fun _ q => nomatch q))) (yat hd)
    · cases h1
end
end Mi
set_option linter.all false
set_option maxRecDepth 100000
set_option maxHeartbeats 1000000
/-! Mi19: range, enumerate, zip; targets. -/
namespace Mi
open PySem PySem.Spec PyProof.Rows L2
section
variable {C : Ctx} {X : Cx} {W : XK} {σ : L2.St} {H : Hp} {ρ : List Addr}
/-- the sources' values -/
theorem src_tA {k : Sk} {src : List Mi.E} {σ : L2.St} {H : Hp} {R : It → Hp → Prop} {Q : List V → Hp → Prop} (h : tSrc C W k src σ H R)
    (hQ : ∀ vs S1 us H' ρ' xs, C.RS ρ' H' S1 → C.RVs ρ' H' vs us → items k vs S1 = some xs → (∀ J, SrcOk C J ρ' H' xs → R J H') → Q us H') : tA C W src σ H Q := by
  obtain ⟨env, S, ρ0, rs, re, h⟩ := h
  refine ⟨env, S, ρ0, rs, re, ?_⟩
  cases q : evEs C.P C.F src env S with
  | bad => rw [q] at h; exact h
  | exc c d S1 => rw [q] at h; exact h
  | ok vs S1 =>
    rw [q] at h
    obtain ⟨xs, h1, h2⟩ := h
    exact fun us H' ρ' e s r => hQ vs S1 us H' ρ' xs s r h1 fun J sj => h2 J H' ρ' e s sj
theorem src_rng {lo : Int} {n : Nat} : SrcOk C (Itr lo n) ρ H ((List.range n).map fun (i : Nat) => Vl.d (.int (lo + (i : Int)))) :=
  SrcOk.walk (walk_range (lo := lo) (n := n)) (by simp) (fun _ _ _ => trivial) fun i x0 H' ρ' v H'' S e rs hx y => by
    obtain ⟨rfl, rfl⟩ := y
    rw [List.getElem?_map] at hx
    cases hi : (List.range n)[i]? with
    | none => rw [hi] at hx; cases hx
    | some j =>
      rw [hi] at hx
      cases hx
      have : j = i := by
        have := List.getElem?_eq_some_iff.mp hi
        obtain ⟨h1, h2⟩ := this
        simpa using h2.symm
      subst this
      exact ⟨Ext.refl _ _, rs, rfl⟩
theorem pi_r1 {tg a : Expr} {src : List Mi.E} {p pos : Pos} (hg : Gl X "range") (hm : X.mg "range" = none) (ha : PA X [a] (tA C W src)) (hs : nstar a = true) : PI X tg (.Call (.Name "range" p) [a] [] pos) (tSrc C W .rng1 src) := PI.at fun σ H R h =>
  ⟨_, pi_range1 hg hm ha (nstar_each hs _ _), src_tA h fun vs S1 us H' ρ' xs s r hi k => by
    replace hi : r1D vs = some xs := hi
    unfold r1D at hi
    split at hi
    · rename_i n
      obtain ⟨w, rfl, rw'⟩ := r.one
      cases rw'
      split at hi
      · rename_i hc
        cases hi
        refine ⟨n, rfl, hc.1, hc.2, k _ ?_⟩
        have z := src_rng (C := C) (ρ := ρ') (H := H') (lo := 0) (n := n.toNat)
        simpa using z
      · cases hi
    · cases hi⟩
theorem pi_r2 {tg a b : Expr} {src : List Mi.E} {p pos : Pos} (hg : Gl X "range") (hm : X.mg "range" = none) (ha : PA X [a, b] (tA C W src)) (hs : nstar a = true) (hs2 : nstar b = true) : PI X tg (.Call (.Name "range" p) [a, b] [] pos) (tSrc C W .rng2 src) := PI.at fun σ H R h =>
  ⟨_, pi_range2 hg hm ha (by rw [nstar_each hs, nstar_each hs2]; rfl) (nstar_each hs2 _ _), src_tA h fun vs S1 us H' ρ' xs s r hi k => by
    replace hi : r2D vs = some xs := hi
    unfold r2D at hi
    split at hi
    · rename_i a b
      obtain ⟨w, w2, rfl, rw', rw2⟩ := r.two
      cases rw'; cases rw2
      split at hi
      · rename_i hc
        cases hi
        exact ⟨a, b, rfl, ⟨hc.1.1, hc.1.2, hc.2.1, hc.2.2⟩, k _ src_rng⟩
      · cases hi
    · cases hi⟩
/-- a sequence as it stands -/
theorem seq_ok {x : Vl} {v : V} {b : Bool} {ds : List D} (r : C.RV ρ H x v) (h : seqD x = some (b, ds)) : ∃ a vs, v = .ref a ∧ RDs C.g.K ρ H ds vs ∧
    ((b = true ∧ TupAt C.g.K ρ H a vs) ∨ (b = false ∧ a ∉ ρ ∧ (H a = some (.lst vs) ∨ ∃ o, H a = some (.frz o (.lst vs))))) := by
  unfold seqD at h
  split at h
  · cases h
    obtain ⟨a, vs, rfl, ht, hd⟩ := r
    exact ⟨a, vs, rfl, hd, .inl ⟨rfl, ht⟩⟩
  · cases h
    obtain ⟨a, vs, rfl, ht, hd⟩ := r
    exact ⟨a, vs, rfl, hd, .inr ⟨rfl, ht.2, .inl ht.1⟩⟩
  · cases h
    obtain ⟨a, vs, rfl, ⟨⟨o, ht⟩, hn⟩, hd⟩ := r
    exact ⟨a, vs, rfl, hd, .inr ⟨rfl, hn, .inr ⟨o, ht⟩⟩⟩
  · cases h
theorem tup_stay {K : PySem.W.Frag} (hK : C.g.K = K) {ρ' : List Addr} {H' : Hp} {a : Addr} {vs : List V} (h : TupAt C.g.K ρ H a vs) (e : Ext ρ H ρ' H') : SqT K H' a vs := by
  rw [← hK]
  exact (h.elim (fun z => .inl ⟨e.keep _ _ z.2 z.1 (fun _ q => nomatch q), e.nmem z.2 z.1⟩) .inr : TupAt C.g.K ρ' H' a vs).sq
theorem lst_stay {K : PySem.W.Frag} {ρ' : List Addr} {H' : Hp} {a : Addr} {vs : List V} (h : a ∉ ρ ∧ (H a = some (.lst vs) ∨ ∃ o, H a = some (.frz o (.lst vs)))) (e : Ext ρ H ρ' H') : SqL K H' a vs := by
  rcases h.2 with z | ⟨o, z⟩
  · exact SqL.of (e.keep _ _ h.1 z (fun _ q => nomatch q))
  · exact .inl (.inr ⟨o, e.keep _ _ h.1 z (fun _ q => nomatch q)⟩)
theorem enumD_length : ∀ (n : Nat) (ds : List D), (enumD n ds).length = ds.length
  | _, [] => rfl
  | n, _ :: ds => by simp [enumD, enumD_length (n + 1) ds]
theorem enumD_get : ∀ (n i : Nat) (ds : List D) (x : D), (enumD n ds)[i]? = some x → ∃ d, ds[i]? = some d ∧ x = .tup [.int ((n + i : Nat) : Int), d]
  | _, _, [], _, h => by simp [enumD] at h
  | n, 0, d :: ds, x, h => by simp [enumD] at h; exact ⟨d, rfl, h.symm⟩
  | n, i + 1, d :: ds, x, h => by
    have h' : (enumD (n + 1) ds)[i]? = some x := by simpa [enumD] using h
    obtain ⟨e, h1, h2⟩ := enumD_get (n + 1) i ds x h'
    refine ⟨e, by simpa using h1, ?_⟩
    rw [h2, show n + 1 + i = n + (i + 1) by omega]
theorem zipD_length : ∀ (xs ys : List D), (zipD xs ys).length = min xs.length ys.length
  | [], ys => by simp [zipD]
  | _ :: _, [] => by simp [zipD]
  | _ :: xs, _ :: ys => by simp [zipD, zipD_length xs ys]
theorem zipD_get : ∀ (i : Nat) (xs ys : List D) (z : D), (zipD xs ys)[i]? = some z → ∃ x y, xs[i]? = some x ∧ ys[i]? = some y ∧ z = .tup [x, y]
  | _, [], _, _, h => by simp [zipD] at h
  | _, _ :: _, [], _, h => by simp [zipD] at h
  | 0, x :: xs, y :: ys, z, h => by simp [zipD] at h; exact ⟨x, y, rfl, rfl, h.symm⟩
  | i + 1, x :: xs, y :: ys, z, h => by
    have h' : (zipD xs ys)[i]? = some z := by simpa [zipD] using h
    obtain ⟨a, b, h1, h2, h3⟩ := zipD_get i xs ys z h'
    exact ⟨a, b, by simpa using h1, by simpa using h2, h3⟩
/-- a new pair of what stands -/
theorem ypair {xs ys : Nat → Option V} {ps : List D} (hp : ∀ (i : Nat) (x0 : D) (H' : Hp) (ρ' : List Addr) (u v : V), Ext ρ H ρ' H' → ps[i]? = some x0 → xs i = some u → ys i = some v → ∃ a b, x0 = .tup [a, b] ∧ RD C.g.K ρ' H' a u ∧ RD C.g.K ρ' H' b v) :
    ∀ (i : Nat) (x0 : Vl) (H' : Hp) (ρ' : List Addr) (v : V) (H'' : Hp) (S : Store), Ext ρ H ρ' H' → C.RS ρ' H' S → (ps.map Vl.d)[i]? = some x0 → YPair xs ys i H' v H'' → Ext ρ' H' ρ' H'' ∧ C.RS ρ' H'' S ∧ C.RV ρ' H'' x0 v := fun i x0 H' ρ' v H'' S e rs hx y => by
  obtain ⟨T, u, w, rfl, hT, rfl, h1, h2⟩ := y
  rw [List.getElem?_map] at hx
  cases q : ps[i]? with
  | none => rw [q] at hx; cases hx
  | some x1 =>
    rw [q] at hx
    cases hx
    obtain ⟨a, b, rfl, ha, hb⟩ := hp i x1 H' ρ' u w e q h1 h2
    exact ⟨Ext.new hT, rs.new hT, T, [u, w], rfl, .inl ⟨upd_same, rs.free hT⟩, RD.ext (Ext.new hT) a u ha, RD.ext (Ext.new hT) b w hb, trivial⟩
theorem walk_enumT {K : PySem.W.Frag} {a : Addr} {xs : List V} : Walk (IteT K a) xs.length (fun H => SqT K H a xs) (YPair (fun i => some (.int (i : Nat))) (fun i => xs[i]?)) := by
  refine ⟨fun i _ hi q => ⟨xs, xs[i], q, by simp [hi]⟩, fun _ q => ⟨xs, q, Nat.le_refl _⟩, fun i H v H' _ q y => ?_⟩
  obtain ⟨T, x, h1, h2, h3, h4⟩ := y
  exact ⟨T, .int (i : Nat), x, h1, h2, h3, rfl, h4 xs q⟩
theorem walk_zipT {K : PySem.W.Frag} {a b : Addr} {xs ys : List V} {n : Nat} (hn : n = min xs.length ys.length) : Walk (RZ.ItzT K a b) n (fun H => SqT K H a xs ∧ SqT K H b ys) (YPair (fun i => xs[i]?) (fun i => ys[i]?)) := by
  subst hn
  refine ⟨fun i _ hi q => ?_, fun _ q => ⟨xs, ys, q.1, q.2, by omega⟩, fun i H v H' _ q y => ?_⟩
  · have h1 : i < xs.length := by omega
    have h2 : i < ys.length := by omega
    exact ⟨xs, ys, xs[i], ys[i], q.1, q.2, by simp [h1], by simp [h2]⟩
  · obtain ⟨T, x, y', h1, h2, h3, h4, h5⟩ := y
    exact ⟨T, x, y', h1, h2, h3, h4 xs q.1, h5 ys q.2⟩
theorem en_pair {vs : List V} {ds : List D} (hd : RDs C.g.K ρ H ds vs) : ∀ (i : Nat) (x0 : D) (H' : Hp) (ρ' : List Addr) (u v : V), Ext ρ H ρ' H' → (enumD 0 ds)[i]? = some x0 → (some (V.int (i : Nat))) = some u → vs[i]? = some v → ∃ a b, x0 = .tup [a, b] ∧ RD C.g.K ρ' H' a u ∧ RD C.g.K ρ' H' b v := fun i x0 H' ρ' u v e q h1 h2 => by
  obtain ⟨d, h3, rfl⟩ := enumD_get 0 i ds x0 q
  cases h1
  obtain ⟨w, h4, h5⟩ := hd.get h3
  rw [h2] at h4
  cases h4
  exact ⟨_, d, rfl, by rw [Nat.zero_add]; rfl, RD.ext e d v h5⟩
theorem zp_pair {vs us : List V} {ds es : List D} (hd : RDs C.g.K ρ H ds vs) (he : RDs C.g.K ρ H es us) : ∀ (i : Nat) (x0 : D) (H' : Hp) (ρ' : List Addr) (u v : V), Ext ρ H ρ' H' → (zipD ds es)[i]? = some x0 → vs[i]? = some u → us[i]? = some v → ∃ a b, x0 = .tup [a, b] ∧ RD C.g.K ρ' H' a u ∧ RD C.g.K ρ' H' b v := fun i x0 H' ρ' u v e q h1 h2 => by
  obtain ⟨x, y, h3, h4, rfl⟩ := zipD_get i ds es x0 q
  obtain ⟨w, h5, h6⟩ := hd.get h3
  obtain ⟨w2, h7, h8⟩ := he.get h4
  rw [h1] at h5; cases h5
  rw [h2] at h7; cases h7
  exact ⟨x, y, rfl, RD.ext e x u h6, RD.ext e y v h8⟩
theorem pi_en {elts : List Expr} {kk : Nat} {tpos : Pos} {a : Expr} {src : List Mi.E} {p pos : Pos} (hK : C.g.K = X.K) (hg : Gl X "enumerate") (hm : X.mg "enumerate" = none) (ha : PA X [a] (tA C W src)) (hs : nstar a = true) :
    PI X (.Tuple elts kk tpos) (.Call (.Name "enumerate" p) [a] [] pos) (tSrc C W .enum src) := PI.at fun σ H R ⟨env, S, ρ, rs, re, h⟩ => by
  have e1 : starEach [a] X.env = [(false, eval a X.env)] := nstar_each hs _ _
  cases q : evEs C.P C.F src env S with
  | bad => rw [q] at h; exact h.elim
  | exc c d S1 =>
    rw [q] at h
    exact ⟨_, pi_enumT hg hm ha e1, env, S, ρ, rs, re, by rw [q]; exact h⟩
  | ok vs S1 =>
    rw [q] at h
    obtain ⟨xs, h1, h2⟩ := h
    have fin : ∀ {Q : List V → Hp → Prop}, (∀ us H' ρ', Ext ρ H ρ' H' → C.RS ρ' H' S1 → C.RVs ρ' H' vs us → Q us H') → tA C W src σ H Q := fun {Q} k => ⟨env, S, ρ, rs, re, by rw [q]; exact k⟩
    replace h1 : enD vs = some xs := h1
    unfold enD at h1
    split at h1
    · rename_i x
      cases z : seqD x with
      | none => rw [z] at h1; cases h1
      | some bd =>
        obtain ⟨b, ds⟩ := bd
        rw [z] at h1
        cases h1
        cases b with
        | true =>
          refine ⟨_, pi_enumT hg hm ha e1, fin fun us H' ρ' e s r => ?_⟩
          obtain ⟨w, rfl, rw'⟩ := r.one
          obtain ⟨a1, vs1, rfl, hd, ⟨_, ht⟩ | ⟨hb, _⟩⟩ := seq_ok rw' z
          · exact ⟨a1, vs1, rfl, hK ▸ ht.sq, h2 _ _ _ e s (SrcOk.walk walk_enumT (by rw [List.length_map, enumD_length, hd.length]) (fun H2 ρ2 e2 => tup_stay hK ht e2) (ypair (en_pair hd)))⟩
          · cases hb
        | false =>
          refine ⟨_, pi_enum hg hm ha e1, fin fun us H' ρ' e s r => ?_⟩
          obtain ⟨w, rfl, rw'⟩ := r.one
          obtain ⟨a1, vs1, rfl, hd, ⟨hb, _⟩ | ⟨_, ht⟩⟩ := seq_ok rw' z
          · cases hb
          · exact ⟨a1, vs1, rfl, lst_stay ht (Ext.refl _ _), h2 _ _ _ e s (SrcOk.walk walk_enum (by rw [List.length_map, enumD_length, hd.length]) (fun H2 ρ2 e2 => lst_stay ht e2) (ypair (en_pair hd)))⟩
    · cases h1
theorem pi_zp {elts : List Expr} {kk : Nat} {tpos : Pos} {a b : Expr} {src : List Mi.E} {p pos : Pos} (hK : C.g.K = X.K) (hg : Gl X "zip") (hm : X.mg "zip" = none) (ha : PA X [a, b] (tA C W src)) (hs : nstar a = true) (hs2 : nstar b = true) :
    PI X (.Tuple elts kk tpos) (.Call (.Name "zip" p) [a, b] [] pos) (tSrc C W .zip src) := PI.at fun σ H R ⟨env, S, ρ, rs, re, h⟩ => by
  have e1 : starEach [a, b] X.env = (false, eval a X.env) :: starEach [b] X.env := nstar_each hs _ _
  have e2 : (backTo pos (starEach [b] X.env)).any (·.1) = false := nstar_any pos X.env (by simp [hs2])
  refine ⟨_, RZ.pi_zipA hg hm ha e1 e2, ?_⟩
  cases q : evEs C.P C.F src env S with
  | bad => rw [q] at h; exact h.elim
  | exc c d S1 =>
    rw [q] at h
    exact ⟨env, S, ρ, rs, re, by rw [q]; exact h⟩
  | ok vs S1 =>
    rw [q] at h
    obtain ⟨xs, h1, h2⟩ := h
    refine ⟨env, S, ρ, rs, re, ?_⟩
    rw [q]
    intro us H' ρ' e s r
    replace h1 : zpD vs = some xs := h1
    unfold zpD at h1
    split at h1
    · rename_i x y
      split at h1
      · rename_i b1 ds b2 es z1 z2
        split at h1
        · rename_i hb
          cases h1
          have hb : b1 = b2 := by simpa using hb
          subst hb
          obtain ⟨w, w2, rfl, rw1, rw2⟩ := r.two
          obtain ⟨a1, vs1, rfl, hd1, k1⟩ := seq_ok rw1 z1
          obtain ⟨a2, vs2, rfl, hd2, k2⟩ := seq_ok rw2 z2
          cases b1 with
          | true =>
            obtain ⟨_, t1⟩ := k1.resolve_right (fun z => nomatch z.1)
            obtain ⟨_, t2⟩ := k2.resolve_right (fun z => nomatch z.1)
            exact ⟨a1, a2, vs1, vs2, rfl, .inr ⟨tup_stay hK t1 (Ext.refl _ _), tup_stay hK t2 (Ext.refl _ _), h2 _ _ _ e s (SrcOk.walk (walk_zipT rfl) (by rw [List.length_map, zipD_length, hd1.length, hd2.length]) (fun H2 ρ2 e2 => ⟨tup_stay hK t1 e2, tup_stay hK t2 e2⟩) (ypair (zp_pair hd1 hd2)))⟩⟩
          | false =>
            obtain ⟨_, t1⟩ := k1.resolve_left (fun z => nomatch z.1)
            obtain ⟨_, t2⟩ := k2.resolve_left (fun z => nomatch z.1)
            exact ⟨a1, a2, vs1, vs2, rfl, .inl ⟨lst_stay t1 (Ext.refl _ _), lst_stay t2 (Ext.refl _ _), h2 _ _ _ e s (SrcOk.walk (walk_zip rfl) (by rw [List.length_map, zipD_length, hd1.length, hd2.length]) (fun H2 ρ2 e2 => ⟨lst_stay t1 e2, lst_stay t2 e2⟩) (ypair (zp_pair hd1 hd2)))⟩⟩
        · cases h1
      · cases h1
    · cases h1
/-! ### targets -/
mutual
def T.slots : T → List Nat
  | .nm i => [i]
  | .tp ts => T.slotss ts
def T.slotss : List T → List Nat
  | [] => []
  | t :: ts => T.slots t ++ T.slotss ts
end
/-- a target takes a value: what is behind it -/
def gT (C : Ctx) (t : T) : TG := fun v σ H Q => ∃ env S ρ x env1, C.RS ρ H S ∧ REnv C ρ H env σ ∧ C.RV ρ H x v ∧ T.put t x env = some env1 ∧
  ∀ σ', REnv C ρ H env1 σ' → (∀ j, j ∉ t.slots → σ'[j]? = σ[j]?) → Q σ' H
def gTs (C : Ctx) (ts : List T) : TGs := fun vs σ H Q => ∃ env S ρ ds env1, C.RS ρ H S ∧ REnv C ρ H env σ ∧ RDs C.g.K ρ H ds vs ∧ T.puts ts ds env = some env1 ∧
  ∀ σ', REnv C ρ H env1 σ' → (∀ j, j ∉ T.slotss ts → σ'[j]? = σ[j]?) → Q σ' H
theorem PG.imp {X : Cx} {e : Expr} {t t' : TG} (h : PG X e t) (i : ∀ v σ H Q, t' v σ H Q → t v σ H Q) : PG X e t' := ⟨fun pins s σ H v u Q I r q => h.run pins s σ H v u Q I r (i _ _ _ _ q)⟩
theorem PG.at {X : Cx} {e : Expr} {t' : TG} (h : ∀ v σ H Q, t' v σ H Q → ∃ t, PG X e t ∧ t v σ H Q) : PG X e t' := ⟨fun pins s σ H v u Q I r q => by
  obtain ⟨t, h1, h2⟩ := h v σ H Q q
  exact h1.run pins s σ H v u Q I r h2⟩
theorem PGs.imp {X : Cx} {e : List Expr} {t t' : TGs} (h : PGs X e t) (i : ∀ v σ H Q, t' v σ H Q → t v σ H Q) : PGs X e t' := ⟨fun pins s σ H v u Q I r q => h.run pins s σ H v u Q I r (i _ _ _ _ q)⟩
theorem REnv.set {env : Env} {σ : L2.St} {i : Nat} {x : Vl} {v : V} (r : REnv C ρ H env σ) (h : i < env.length) (hv : C.RV ρ H x v) : REnv C ρ H (env.set i (some x)) (σ.set i (some v)) := by
  refine ⟨by simp [r.len], fun j y e => ?_⟩
  by_cases hj : i = j
  · subst hj
    rw [List.getElem?_set_self h] at e
    cases e
    exact ⟨v, by rw [List.getElem?_set_self (by rw [← r.len]; exact h)], hv⟩
  · rw [List.getElem?_set_ne hj] at e
    obtain ⟨w, h1, h2⟩ := r.at_ j y e
    exact ⟨w, by rw [List.getElem?_set_ne hj]; exact h1, h2⟩
theorem pg_nm {i : Nat} {x : Str} {pos : Pos} (hN : X.N.Nodup) (hi : X.N[i]? = some x) (hx : Loc X.env.scope x) (hf : X.fn x = true ∨ X.env.scope.names.lookup x = some .local) : PG X (.Name x pos) (gT C (.nm i)) :=
  PG.imp (pg_name hN hi hx hf) fun v σ H Q ⟨env, S, ρ, y, env1, rs, re, rv, hp, q⟩ => by
    simp only [T.put] at hp
    split at hp
    · rename_i hl
      cases hp
      refine q _ (re.set hl rv) fun j hj => ?_
      simp only [T.slots, List.mem_singleton] at hj
      rw [List.getElem?_set_ne (fun z => hj z.symm)]
    · cases hp
theorem assignEach_plain (env : PySem.Env) : ∀ {es : List Expr}, es.all nstar = true → (assignEach es env).length = es.length ∧ (assignEach es env).findIdx? (·.1) = none
  | [], _ => ⟨rfl, rfl⟩
  | e :: es, h => by
    rw [List.all_cons, Bool.and_eq_true] at h
    obtain ⟨h1, h2⟩ := assignEach_plain env h.2
    have e1 : assignEach (e :: es) env = (false, assign e env) :: assignEach es env := by
      cases e <;> first | rfl | exact absurd h.1 (by simp [nstar])
    rw [e1]
    refine ⟨by simp [h1], ?_⟩
    rw [List.findIdx?_cons]
    simp [h2]
theorem assign_map (env : PySem.Env) {e : Expr} (es : List Expr) : (assignEach (e :: es) env).map (·.2) = assign e env :: (assignEach es env).map (·.2) ∨ nstar e = false := by
  cases e <;> first | exact .inl rfl | exact .inr rfl
theorem pgs_n : PGs X [] (gTs C []) := PGs.imp pgs_nil fun vs σ H Q ⟨env, S, ρ, ds, env1, rs, re, rd, hp, q⟩ => by
  cases ds with
  | nil =>
    cases vs with
    | nil => cases hp; exact ⟨rfl, q σ re fun _ _ => rfl⟩
    | cons _ _ => exact rd.elim
  | cons _ _ => cases hp
theorem pgs_c {e : Expr} {es : List Expr} {t : T} {ts : List T} (h1 : PG X e (gT C t)) (h2 : PGs X es (gTs C ts)) (hs : nstar e = true) : PGs X (e :: es) (gTs C (t :: ts)) :=
  PGs.imp (pgs_cons h1 h2 ((assign_map X.env es).resolve_right (by rw [hs]; decide))) fun vs σ H Q ⟨env, S, ρ, ds, env1, rs, re, rd, hp, q⟩ => by
    cases ds with
    | nil => cases hp
    | cons d ds =>
      cases vs with
      | nil => exact rd.elim
      | cons v vs =>
        simp only [T.puts] at hp
        split at hp
        · rename_i env2 e2
          refine ⟨v, vs, rfl, env, S, ρ, .d d, env2, rs, re, rd.1, e2, fun σ1 r1 k1 => ?_⟩
          refine ⟨env2, S, ρ, ds, env1, rs, r1, rd.2, hp, fun σ2 r2 k2 => q σ2 r2 fun j hj => ?_⟩
          simp only [T.slotss, List.mem_append, not_or] at hj
          rw [k2 j hj.2, k1 j hj.1]
        · cases hp
theorem puts_len : ∀ {ts : List T} {ds : List D} {env env1 : Env}, T.puts ts ds env = some env1 → ds.length = ts.length
  | [], [], _, _, _ => rfl
  | t :: ts, d :: ds, env, env1, h => by
    simp only [T.puts] at h
    split at h
    · simp [puts_len h]
    · cases h
  | [], _ :: _, _, _, h => by cases h
  | _ :: _, [], _, _, h => by cases h
theorem pg_tpl {es : List Expr} {ts : List T} {k : Nat} {pos : Pos} (hc : X.calm = true) (hK : C.g.K = X.K) (h : PGs X es (gTs C ts)) (hs : es.all nstar = true) (hl : es.length = ts.length) : PG X (.Tuple es k pos) (gT C (.tp ts)) := by
  obtain ⟨a1, a2⟩ := assignEach_plain X.env hs
  refine PG.at fun v σ H Q ⟨env, S, ρ, x, env1, rs, re, rv, hp, q⟩ => ?_
  cases x with
  | d d =>
    cases d with
    | tup ds =>
      obtain ⟨a, vs, rfl, ht, hd⟩ := rv
      have hp : T.puts ts ds env = some env1 := hp
      exact ⟨_, pg_tup (n := ts.length) hc h (a1.trans hl) a2, a, vs, rfl, hK ▸ ht.sq, by rw [← hd.length]; exact puts_len hp, env, S, ρ, ds, env1, rs, re, hd, hp, q⟩
    | lst ds =>
      obtain ⟨a, vs, rfl, ht, hd⟩ := rv
      have hp : T.puts ts ds env = some env1 := hp
      exact ⟨_, pg_lst (n := ts.length) hc h (a1.trans hl) a2, a, vs, rfl, SqL.of ht.1, by rw [← hd.length]; exact puts_len hp, env, S, ρ, ds, env1, rs, re, hd, hp, q⟩
    | _ => cases hp
  | _ => cases hp
end
end Mi
set_option linter.all false
set_option maxRecDepth 100000
set_option maxHeartbeats 2000000
/-! Mi20: list comprehensions. -/
namespace Mi
open PySem PySem.Spec PyProof.Rows L2
section
variable {C : Ctx} {X : Cx} {W : XK} {σ : L2.St} {H Hu : Hp} {ρ ρ' : List Addr} {pins : List (Addr × Obj)} {s : Shared} {D : Addr}
/-- one tracked thing is told otherwise -/
theorem inv_swap {x0 : List V} {o o' : HO} (I : Inv X pins σ H s) (h0 : X.H_0 D = some (.lst x0)) (hD : H D = some o) (n1 : ∀ a, o ≠ .own a) (n2 : ∀ xs, o ≠ .tup xs) (new : ObjOk X.prog X.w (upd H D o') s.heap D o') : Inv X pins σ (upd H D o') s := by
  have nn : ∀ b, H b = none → b ≠ D := fun b e z => by rw [z, hD] at e; cases e
  have n0 : ∀ b u, X.H_0 b = some u → (∀ x, u ≠ .lst x) → b ≠ D := fun b u e n z => by rw [z, h0] at e; cases e; exact n _ rfl
  refine ⟨I.ok, I.os, I.bare, ⟨I.base.keep, I.base.slot, fun b ob e n hx => ?_, I.base.there, fun b xs e => ?_, fun b ob u e => ?_, fun b ps e => ?_⟩, I.loc, I.cell, ?_, fun x c e => ?_, fun p hp => ?_, fun b u e => ?_, I.len⟩
  · have z := I.base.free b ob e n hx
    rw [upd_ne (nn b z)]; exact z
  · rw [upd_ne (n0 b _ e (fun _ q => nomatch q))]; exact I.base.tups b xs e
  · rw [upd_ne (n0 b _ e (fun _ q => nomatch q))]; exact I.base.frzs b ob u e
  · rw [upd_ne (n0 b _ e (fun _ q => nomatch q))]; exact I.base.tbls b ps e
  · rw [upd_ne (nn _ I.free)]; exact I.free
  · rw [upd_ne (nn _ (I.freeC x c e))]; exact I.freeC x c e
  · obtain ⟨a1, a2, a3⟩ := I.pin p hp
    exact ⟨a1, by rw [upd_ne (nn _ a2)]; exact a2, a3⟩
  · by_cases hb : b = D
    · subst hb
      rw [upd_same] at e
      cases e
      exact new
    · rw [upd_ne hb] at e
      refine (I.hok b u e).stay (fun _ _ _ q => q) (fun c q => ?_) fun c xs q => ?_
      · rw [upd_ne fun z => by rw [z, hD] at q; cases q; exact n1 _ rfl]; exact q
      · rw [upd_ne fun z => by rw [z, hD] at q; cases q; exact n2 _ rfl]; exact q
theorem ext_unl {H' : Hp} {o : Obj} {z : HO} (hu : Hu D = none) (e : Ext ρ (upd Hu D (.frz o z)) ρ' H') : Ext ρ Hu ρ' (unl [D] H') where
  pre := by
    obtain ⟨more, e1, e2⟩ := e.pre
    exact ⟨more, e1, fun a ha => (Ext.new (ρ := ρ) (o := .frz o z) hu).dom a (e2 a ha)⟩
  keep := fun a u hn h ht => by
    have h1 : a ≠ D := ne_of_none h hu
    rw [unl_out (by simpa using h1)]
    exact e.keep a u hn (by rw [upd_ne h1]; exact h) ht
  dom := fun a h => by
    by_cases q : a = D
    · rw [q]; exact hu
    · rw [unl_out (by simpa using q)] at h
      exact (Ext.new (ρ := ρ) (o := .frz o z) hu).dom a (e.dom a h)
theorem unl_upd {H' : Hp} {o : HO} : upd (unl [D] H') D o = upd H' D o := by
  funext b
  unfold upd
  split
  · rfl
  · rename_i hb
    exact unl_out (by simpa using hb)
theorem agr_unl {H' : Hp} {o : Obj} {z : HO} (hD : H' D = some (.frz o z)) : ∀ a u, H' a = some u → NoFz u → unl [D] H' a = some u := fun a u e n => by
  rw [unl_out fun q => ?_]; exact e
  have : a = D := by simpa using q
  rw [this, hD] at e
  cases e
  exact n _ _ rfl
/-- a block's Ctx -/
abbrev Ctx.blk (C : Ctx) : Ctx := { C with fr := none }
theorem wipeE_get {env : Env} {i : Nat} {x : Vl} : ∀ {own : List Nat}, (wipeE env own)[i]? = some (some x) → env[i]? = some (some x) ∧ i ∉ own
  | [], h => ⟨h, by simp⟩
  | j :: own, h => by
    unfold wipeE at h
    obtain ⟨h1, h2⟩ := wipeE_get h
    by_cases e : j = i
    · subst e
      by_cases hl : j < env.length
      · rw [List.getElem?_set_self hl] at h1; cases h1
      · rw [List.getElem?_eq_none (by simpa using hl)] at h1; cases h1
    · rw [List.getElem?_set_ne e] at h1
      exact ⟨h1, by simp only [List.mem_cons, not_or]; exact ⟨fun z => e z.symm, h2⟩⟩
theorem wipeE_length (env : Env) : ∀ own : List Nat, (wipeE env own).length = env.length
  | [] => rfl
  | j :: own => by unfold wipeE; rw [wipeE_length]; simp
theorem wipe_get {σ : L2.St} {i : Nat} {y : Option V} : ∀ {vs : List Nat}, i ∉ vs → σ[i]? = some y → (wipe σ vs)[i]? = some y
  | [], _, h => h
  | v :: vs, hn, h => by
    simp only [List.mem_cons, not_or] at hn
    unfold wipe
    rw [List.getElem?_set_ne (fun z => hn.1 z.symm)]
    exact wipe_get hn.2 h
theorem blk_env {env : Env} {own : List Nat} (r : REnv C ρ H env σ) : REnv C.blk ρ H (blkE env own) (wipe σ own) where
  len := by unfold blkE; rw [List.length_map, wipeE_length, wipe_length]; exact r.len
  at_ := fun i x h => by
    unfold blkE at h
    rw [List.getElem?_map] at h
    cases q : (wipeE env own)[i]? with
    | none => rw [q] at h; cases h
    | some y =>
      rw [q] at h
      have h : blkV y = some x := by simpa using h
      cases y with
      | none => cases h
      | some y =>
        obtain ⟨h1, h2⟩ := wipeE_get q
        obtain ⟨v, hv, rv⟩ := r.at_ i y h1
        refine ⟨v, wipe_get h2 hv, ?_⟩
        cases y with
        | d d => cases h; exact rv
        | ro d => cases h; exact rv
        | loc d => cases h; exact rv
        | clo k c => cases h; exact rv
        | lam k c => cases h
        | seq c => cases h
/-- the tests' reading -/
def tCd (C : Ctx) (W : XK) (cond : List Mi.E) : TT := fun σ H Q => ∃ env S ρ, C.RS ρ H S ∧ REnv C ρ H env σ ∧ (match evC C.P C.F cond env S with
  | none => Q true H
  | some r => PoB C.g W Q ρ H r)
def PCd (C : Ctx) (X : Cx) (W : XK) : List Expr → List Mi.E → Prop
  | [], [] => True
  | [e], [x] => PT X e (tT C W x)
  | _, _ => False
theorem PTs.imp {X : Cx} {e : List Expr} {t t' : TT} (h : PTs X e t) (i : ∀ σ H Q, t' σ H Q → t σ H Q) : PTs X e t' := ⟨fun pins s σ H Q I q => h.run pins s σ H Q I (i _ _ _ q)⟩
theorem pts_cd : ∀ {es : List Expr} {xs : List Mi.E}, PCd C X W es xs → PTs X es (tCd C W xs)
  | [], [], _ => PTs.imp pts_nil fun σ H Q ⟨env, S, ρ, rs, re, h⟩ => h
  | [e], [x], h => PTs.imp (pts_one h) fun σ H Q ⟨env, S, ρ, rs, re, h⟩ => ⟨env, S, ρ, rs, re, h⟩
  | [], _ :: _, h => h.elim
  | [_], [], h => h.elim
  | [_], _ :: _ :: _, h => h.elim
  | _ :: _ :: _, [], h => h.elim
  | _ :: _ :: _, [_], h => h.elim
  | _ :: _ :: _, _ :: _ :: _, h => h.elim
end
end Mi
set_option linter.all false
set_option maxRecDepth 100000
set_option maxHeartbeats 4000000
/-! Mi21: list comprehensions, the rule. -/
namespace Mi
open PySem PySem.Spec PyProof.Rows L2
section
variable {C : Ctx} {X : Cx} {W : XK}
/-- what the loop still owes -/
abbrev compK (C : Ctx) (t : T) (cond : List Mi.E) (e : Mi.E) (envw : Env) (mu : Bool) (its acc : List D) (S : Store) : Res Vl :=
  match compL t (fun env' S' => evC C.P C.F cond env' S') (fun env' S' => evE C.P C.F e env' S') envw its acc S with
  | .ok ds S2 => newL mu ds S2
  | .exc c d S2 => .exc c d S2
  | .bad => .bad
abbrev XB (X : Cx) (s : Shared) (H : Hp) (scope : Scope) (ce : PySem.Env) (fp : List Addr) (xe : Value → Shared → Prop) : Cx := (X.blk s H scope ce fp).wish xe
theorem pe_cp {mu : Bool} {t : T} {k : Sk} {src cond : List Mi.E} {e : Mi.E} {elt tg iter : Expr} {ifs : List Expr} {scope : Scope} {own : List (Str × Nat)} {pos : Pos} (fo : FrOk C X) (ch : XCh C.md X W)
    (hi : PI X tg iter (tSrc C W k src)) (ok : BlkOk X.N X.env.scope scope own) (hs : ∀ x, foldedSetIterable iter X.env x = pure x) (hslots : ∀ j ∈ t.slots, j ∈ own.map (·.2))
    (hb : ∀ (s : Shared) (H : Hp) (ce : PySem.Env) (fp : List Addr) (xe : Value → Shared → Prop), ce.scope = relS scope X.env.scope → XCh C.md (XB X s H scope ce fp xe) W → FrOk C.blk (XB X s H scope ce fp xe) →
      PG (XB X s H scope ce fp xe) tg (gT C.blk t) ∧ PCd C.blk (XB X s H scope ce fp xe) W ifs cond ∧ PE (XB X s H scope ce fp xe) elt (tE C.blk W e)) :
    PE X (.ListComp elt [⟨tg, iter, ifs, 0⟩] scope pos) (tE C W (.comp mu (own.map fun p : Str × Nat => p.2) t k src cond e)) := by
  refine ⟨fun pins s σ H Q I h => ?_⟩
  have hc := fo.calm
  have hN := fo.nd
  rw [eval_ListComp]
  have hfree : ∀ y ∈ scope.names, y.2 = .free → ∃ c, X.env.cells.lookup y.1 = some c := fun y hy e => by
    rcases ok.free y hy e with k | k
    · exact I.ok.has _ (.inl k)
    · exact I.ok.has _ (.inr k)
  -- the source
  have h0 : tSrc C W k src σ H fun J H1 => ∃ env S1 ρ1 its, C.RS ρ1 H1 S1 ∧ REnv C ρ1 H1 env σ ∧ SrcOk C J ρ1 H1 (its.map .d) ∧ PoE C.g C.fr W Q ρ1 H1 (compK C t cond e (blkE env (own.map fun p : Str × Nat => p.2)) mu its [] S1) := by
    obtain ⟨env, S, ρ, rs, re, h⟩ := h
    refine ⟨env, S, ρ, rs, re, ?_⟩
    simp only [evE] at h
    cases q : evEs C.P C.F src env S with
    | bad => rw [q] at h; exact h
    | exc c d S1 => rw [q] at h; exact h
    | ok vs S1 =>
      simp only [q] at h
      cases q2 : items k vs S1 with
      | none => rw [q2] at h; exact h.elim
      | some xs =>
        simp only [q2] at h
        cases q3 : datas xs with
        | none => rw [q3] at h; exact h.elim
        | some its =>
          simp only [q3] at h
          have ex : ∀ {xs : List Vl} {ds : List D}, datas xs = some ds → xs = ds.map .d := by
            intro xs
            induction xs with
            | nil => intro ds e; simp [datas] at e; subst e; rfl
            | cons x xs ih =>
              intro ds e
              cases x with
              | d x =>
                simp only [datas, Option.map_eq_some_iff] at e
                obtain ⟨es, e1, rfl⟩ := e
                rw [List.map_cons, ← ih e1]
              | _ => simp [datas] at e
          refine ⟨xs, q2, fun J H' ρ' x' s' sj => ⟨env, S1, ρ', its, s', re.ext x', ?_, PoE.mono x' h⟩⟩
          rw [← ex q3]; exact sj
  refine comprehension_at (use := none) (E := X.xe) rfl hs (closure_ok hfree) ok.kind (fun y hy e => by rw [ok.uniq y hy, e]) (thn (hi.run pins s σ H _ I h0) fun xv s1 hx => thn hx fun itv s2 h2 => ?_)
  obtain ⟨it, fp, tn, J, H2, e2, I2, Tu, st2, f2, env, S1, ρ1, its, rs2, re2, sj2, po2⟩ := h2
  subst e2
  refine wpAny_newObj_type (newEnv_comp ?_) (by show 0 ≤ sizeLine; decide)
  generalize hD : s2.heap.objs.size = dA
  have hDn : H2 dA = none := I2.hok.fresh (Nat.le_of_eq hD)
  generalize hs3 : ({ s2 with heap := s2.heap.push { cls := .type "list", data := .seq ([] : List Value).toArray } } : Shared) = s3
  have I3 : Inv X pins σ (upd H2 dA (.lst [])) s3 := by
    rw [← hs3]
    refine I2.laid (t' := s2.toks) (fun b o e => Heap.get?_push_of_some _ e) (Nat.le_of_eq hD) ⟨Nat.zero_le _, [], 0, .nil, ?_⟩
    rw [← hD]
    exact Heap.get?_push_size _ rfl
  have h3 : s3.heap = s2.heap.push { cls := .type "list", data := .seq ([] : List Value).toArray } := by rw [← hs3]
  have sz : ∀ b ∈ fp, b < s2.heap.objs.size := fun b hb => by
    obtain ⟨o, e, _⟩ := Tu.obj _ _ st2 b hb
    exact Heap.lt_size e
  have fpD : ∀ b ∈ fp, b ≠ dA := fun b hb => by rw [← hD]; exact Nat.ne_of_lt (sz b hb)
  have f3 : ∀ b ∈ fp, FpOk X pins (upd H2 dA (.lst [])) b ∧ b < s3.heap.objs.size := fun b hb => by
    refine ⟨⟨?_, (f2 b hb).2⟩, by rw [h3, Heap.size_push]; exact Nat.lt_succ_of_lt (sz b hb)⟩
    rw [upd_ne (fpD b hb)]
    exact (f2 b hb).1
  have st3 : tn 0 s3.heap := Tu.keep _ _ _ st2 fun b _ o e => by rw [h3]; exact Heap.get?_push_of_some _ e
  have I4 := block_start I3 ok hN f3
  show codeAny _ _ (.compStart (.ListComp elt [⟨tg, iter, ifs, 0⟩] scope pos) 0 (.ref it) (.ref dA) (compEnvC scope (cellsFrom (s3.heap.objs.size + 1) scope.names (cloFrom X.env.cells scope.names [])) s3.heap.objs.size X.env)) (compEnds (model X.prog X.w) X.A X.xe none (EP X pins σ Q) (.ref dA) (compEnvC scope (cellsFrom (s3.heap.objs.size + 1) scope.names (cloFrom X.env.cells scope.names [])) s3.heap.objs.size X.env)) { s3 with heap := pushCells (s3.heap.push { cls := .type "dict", data := .dict #[] }) scope.names }
  have nfp : ∀ b ∈ fp, (upd H2 dA (.lst [])) b = none := fun b hb => (f3 b hb).1.1
  have hce1 : (compEnvC scope (cellsFrom (s3.heap.objs.size + 1) scope.names (cloFrom X.env.cells scope.names [])) s3.heap.objs.size X.env).scope = relS scope X.env.scope := rfl
  have hce2 : (compEnvC scope (cellsFrom (s3.heap.objs.size + 1) scope.names (cloFrom X.env.cells scope.names [])) s3.heap.objs.size X.env).frame = X.env.frame := rfl
  generalize hce : compEnvC scope (cellsFrom (s3.heap.objs.size + 1) scope.names (cloFrom X.env.cells scope.names [])) s3.heap.objs.size X.env = ce at I4 hce1 hce2 ⊢
  have cL : ce.locals = s3.heap.objs.size := by subst hce; rfl
  generalize hs4 : ({ s3 with heap := pushCells (s3.heap.push { cls := .type "dict", data := .dict #[] }) scope.names } : Shared) = s4 at I4 ⊢
  have st4 : tn 0 s4.heap := Tu.keep _ _ _ st3 fun b _ o e => by rw [← hs4]; exact pushCells_keeps _ _ _ _ (Heap.get?_push_of_some _ e)
  -- the block's context
  generalize hxe : (notedBy (model X.prog X.w) X.A ce fun e s' => compEnds (model X.prog X.w) X.A X.xe none (EP X pins σ Q) (.ref dA) ce (.error e) s') = xe
  have back : ∀ {pins' : List (Addr × Obj)} {σ' : L2.St} {H' : Hp} {s' : Shared}, Inv (XB X s3 (upd H2 dA (.lst [])) scope ce fp xe) pins' σ' H' s' → Inv X pins σ H' s' ∧ FpOk X pins H' s3.heap.objs.size ∧ ∃ m, s'.heap.Ns s3.heap.objs.size m := fun {pins' σ' H' s'} I6 => by
    have nC : H' s3.heap.objs.size = none := by
      have z : H' ce.locals = none := I6.free
      rw [cL] at z
      exact z
    obtain ⟨m, hn, _⟩ := I6.loc
    have hn : s'.heap.Ns ce.locals m := hn
    rw [cL] at hn
    exact ⟨I3.call' (ch := fp) I6.os I6.base I6.hok I6.bare fun b hb => ⟨(f3 b hb).1.2.2.2.1, (f3 b hb).1.2.1, (f3 b hb).1.2.2.2.2.1, (f3 b hb).1.2.2.2.2.2⟩, I3.fpOk (Nat.le_refl _) nC, m, hn⟩
  have nfC : s3.heap.objs.size ∉ frs X.stack := fun z => by
    obtain ⟨_, o, ho, _⟩ := I3.stack.mem z
    exact absurd (Heap.lt_size ho) (Nat.lt_irrefl _)
  have chb : XCh C.md (XB X s3 (upd H2 dA (.lst [])) scope ce fp xe) W := by
    obtain ⟨env0, outer0, L, hst, hf0, hf, out⟩ := ch.fr
    refine ⟨⟨env0, outer0, L, hst, hf0, hce2.trans hf, fun pins' σ' H' s' u s'' I6 c => ?_⟩, fun pins' σ' H' s' u s'' I6 c => ?_⟩
    · obtain ⟨J, fC, m, hn⟩ := back I6
      show xe u s''
      rw [← hxe]
      exact blk_held hst (hce2.trans hf) cL out J fC hn nfC c
    · obtain ⟨J, fC, m, hn⟩ := back I6
      show xe u s''
      rw [← hxe]
      exact blk_call ch hce2 cL J fC hn nfC c
  have fob : FrOk C.blk (XB X s3 (upd H2 dA (.lst [])) scope ce fp xe) := ⟨fo.K, fo.calm, fo.nd, fo.un, fun f z => nomatch z⟩
  obtain ⟨pg, pc, pe⟩ := hb s3 (upd H2 dA (.lst [])) ce fp xe hce1 chb fob
  have pt := pts_cd pc
  have I4' : Inv (XB X s3 (upd H2 dA (.lst [])) scope ce fp xe) [] (wipe σ (own.map fun p : Str × Nat => p.2)) (upd H2 dA (.lst [])) s4 := I4.wish xe
  have stat : ∀ {σ' : L2.St} {H' : Hp} {s' : Shared}, Inv (XB X s3 (upd H2 dA (.lst [])) scope ce fp xe) [] σ' H' s' → (∀ b ∈ fp, H' b = none) → ∀ b ∈ fp, FpOk (XB X s3 (upd H2 dA (.lst [])) scope ce fp xe) [] H' b := fun {σ' H' s'} I' hn b hb =>
    ⟨hn b hb, (I'.ok.exf b hb).1, I'.ok.exfs b hb, .inl hb, fun x c e => (I'.ok.exf b hb).2 x c e, fun p hp => absurd (show p ∈ ([] : List (Addr × Obj)) ++ [] from hp) (by simp)⟩
  have loop : codeAny (model X.prog X.w) X.A (.compLoop (.ListComp elt [⟨tg, iter, ifs, 0⟩] scope pos) 0 (.ref it) (.ref dA) ce) (compEnds (model X.prog X.w) X.A X.xe none (EP X pins σ Q) (.ref dA) ce) s4 := by
    refine compLoop_any (fun n s' => ∃ (i : Nat) (Hu : Hp) (ρ : List Addr) (S : Store) (acc : List V) (ds : List D), Inv (XB X s3 (upd H2 dA (.lst [])) scope ce fp xe) [] (wipe σ (own.map fun p : Str × Nat => p.2)) (upd Hu dA (.lst acc)) s' ∧ tn i s'.heap ∧ (∀ b ∈ fp, Hu b = none) ∧ Hu dA = none ∧ C.RS ρ Hu S ∧
      REnv C.blk ρ Hu (blkE env (own.map fun p : Str × Nat => p.2)) (wipe σ (own.map fun p : Str × Nat => p.2)) ∧ SrcOk C J ρ Hu (its.map .d) ∧ RDs C.g.K ρ Hu ds acc ∧ PoE C.g C.fr W Q ρ Hu (compK C t cond e (blkE env (own.map fun p : Str × Nat => p.2)) mu (its.drop i) ds S) ∧ i ≤ its.length ∧ n = its.length - i) ?_ its.length
      ⟨0, H2, ρ1, S1, [], [], I4', st4, fun b hb => (f2 b hb).1, hDn, rs2, blk_env re2, sj2, trivial, by rw [List.drop_zero]; exact po2, Nat.zero_le _, rfl⟩
    rintro n s5 ⟨i, Hu, ρ, S, acc, ds, I5, st5, n5, uD, rs, re, sj, rd, po, hi5, hn5⟩
    rw [hxe]
    by_cases hlt : i < its.length
    · -- a turn
      have hD5 : (upd Hu dA (.lst acc)) dA = some (.lst acc) := upd_same
      obtain ⟨hz, itsv, nn, rvv, eo⟩ := I5.hok dA _ hD5
      generalize ho : ({ cls := .type "list", data := .seq itsv.toArray nn } : Obj) = o at eo
      have h0D : (XB X s3 (upd H2 dA (.lst [])) scope ce fp xe).H_0 dA = some (.lst []) := upd_same
      have I5f := inv_swap (o' := .frz o (.own 0)) I5 h0D hD5 (fun _ q => nomatch q) (fun _ q => nomatch q) ⟨eo, o, eo⟩
      rw [upd_upd] at I5f
      have eF : Ext ρ Hu ρ (upd Hu dA (.frz o (.own 0))) := Ext.new uD
      have n5f : ∀ b ∈ fp, (upd Hu dA (.frz o (.own 0))) b = none := fun b hb => by rw [upd_ne (fpD b hb)]; exact n5 b hb
      have dρ : dA ∉ ρ := rs.free uD
      have go := sj.go i _ ρ eF (by simpa using hlt)
      refine thn (Tu.item (XB X s3 (upd H2 dA (.lst [])) scope ce fp xe) rfl rfl rfl hc i [] s5 _ _ xe I5f (stat I5f n5f) st5 go) fun r s6 ⟨u, hr, h6⟩ => ?_
      subst hr
      refine thn h6 fun _ s7 ⟨x, H7, I7, r7, y7, st7, n7⟩ => ?_
      obtain ⟨e7, rs7, rv7⟩ := sj.yld i (.d its[i]) _ ρ x H7 S eF (rs.new uD) (by simp [hlt]) y7
      have I7' := I7.pinned (stat I7 n7) (Tu.obj _ _ st7)
      have hdrop : its.drop i = its[i] :: its.drop (i + 1) := List.drop_eq_getElem_cons hlt
      simp only [compK, hdrop, compL] at po
      -- a turn's end
      have fin : ∀ {s' : Shared} {σ8 : L2.St} {H' : Hp} {accn : List V} {dsn : List D} {Sn : Store} {ρn : List Addr}, Inv (XB X s3 (upd H2 dA (.lst [])) scope ce fp xe) ([] ++ pinsAt fp s7.heap) σ8 (upd H' dA (.lst accn)) s' → H' dA = some (.frz o (.own 0)) → Ext ρ (upd Hu dA (.frz o (.own 0))) ρn H' → C.RS ρn H' Sn → RDs C.g.K ρn (unl [dA] H') dsn accn →
          PoE C.g C.fr W Q ρ Hu (compK C t cond e (blkE env (own.map fun p : Str × Nat => p.2)) mu (its.drop (i + 1)) dsn Sn) → (∀ j, j ∉ t.slots → σ8[j]? = (wipe σ (own.map fun p : Str × Nat => p.2))[j]?) →
          ∃ m, m < n ∧ ∃ (i : Nat) (Hu : Hp) (ρ : List Addr) (S : Store) (acc : List V) (ds : List D), Inv (XB X s3 (upd H2 dA (.lst [])) scope ce fp xe) [] (wipe σ (own.map fun p : Str × Nat => p.2)) (upd Hu dA (.lst acc)) s' ∧ tn i s'.heap ∧ (∀ b ∈ fp, Hu b = none) ∧ Hu dA = none ∧ C.RS ρ Hu S ∧
            REnv C.blk ρ Hu (blkE env (own.map fun p : Str × Nat => p.2)) (wipe σ (own.map fun p : Str × Nat => p.2)) ∧ SrcOk C J ρ Hu (its.map .d) ∧ RDs C.g.K ρ Hu ds acc ∧ PoE C.g C.fr W Q ρ Hu (compK C t cond e (blkE env (own.map fun p : Str × Nat => p.2)) mu (its.drop i) ds S) ∧ i ≤ its.length ∧ m = its.length - i := fun {s' σ8 H' accn dsn Sn ρn} I' fD xe' rs' rd' po' ag => by
        have xu := ext_unl uD xe'
        have pin' : ∀ b ∈ fp, ∀ ob, s7.heap.get? b = some ob → s'.heap.get? b = some ob ∧ (upd H' dA (.lst accn)) b = none := fun b hb ob eb =>
          let z := I'.pin (b, ob) (List.mem_append_right _ (List.mem_append_right _ (mem_pinsAt hb eb)))
          ⟨z.1, z.2.1⟩
        have hl : (wipe σ (own.map fun p : Str × Nat => p.2)).length = σ8.length := (I4'.len).trans (I'.len).symm
        refine ⟨its.length - (i + 1), by omega, i + 1, unl [dA] H', ρn, Sn, accn, dsn, ?_, Tu.keep _ _ _ st7 fun b hb ob eb => (pin' b hb ob eb).1, fun b hb => ?_, unl_in (by simp), RS.agr rs' (agr_unl fD), re.ext xu, sj.ext xu, rd', PoE.mono xu po', hlt, rfl⟩
        · rw [unl_upd]
          refine (I'.unpinned (pins := [])).weak hl fun j v ej => ?_
          rw [ag j fun hm => (wipe_some ej).2 (hslots j hm)]
          exact ej
        · obtain ⟨ob, eb, _⟩ := Tu.obj _ _ st7 b hb
          have z := (pin' b hb ob eb).2
          rw [upd_ne (fpD b hb)] at z
          rw [unl_out (by simpa using fpD b hb)]
          exact z
      cases q : T.put t (.d its[i]) (blkE env (own.map fun p : Str × Nat => p.2)) with
      | none => simp only [q] at po; exact po.elim
      | some env1 =>
        simp only [q] at po
        refine thn (pg.run _ s7 _ H7 x u (fun σ8 H8 => H8 = H7 ∧ REnv C.blk ρ H7 env1 σ8 ∧ ∀ j : Nat, j ∉ t.slots → σ8[j]? = (wipe σ (own.map fun p : Str × Nat => p.2))[j]?) I7' r7 ⟨blkE env (own.map fun p : Str × Nat => p.2), S, ρ, .d its[i], env1, rs7, re.ext (eF.trans e7), rv7, q, fun σ8 r8 k8 => ⟨rfl, r8, k8⟩⟩) fun _ s8 ⟨σ8, H8, I8, eH8, r8, ag8⟩ => ?_
        subst eH8
        refine thn (pt.run _ s8 σ8 H8 (fun b H9 => ∃ ρ9 S9, Ext ρ H8 ρ9 H9 ∧ C.RS ρ9 H9 S9 ∧ (b = false → PoE C.g C.fr W Q ρ Hu (compK C t cond e (blkE env (own.map fun p : Str × Nat => p.2)) mu (its.drop (i + 1)) ds S9)) ∧
          (b = true → PoE C.g C.fr W Q ρ Hu (match (match evE C.P C.F e env1 S9 with
            | .ok (.d y) S2 => if ds.length < line then compL t (fun env' S' => evC C.P C.F cond env' S') (fun env' S' => evE C.P C.F e env' S') (blkE env (own.map fun p : Str × Nat => p.2)) (its.drop (i + 1)) (ds ++ [y]) S2 else .bad
            | .ok _ _ => .bad
            | .exc k d S2 => .exc k d S2
            | .bad => .bad) with
            | .ok ds S2 => newL mu ds S2
            | .exc c d S2 => .exc c d S2
            | .bad => .bad))) I8 ⟨env1, S, ρ, rs7, r8, ?_⟩) fun b s9 ⟨H9, I9, ρ9, S9, x9, rs9, qf, qt⟩ => ?_
        · cases q2 : evC C.P C.F cond env1 S with
          | none =>
            have q2' : evC C.blk.P C.blk.F cond env1 S = none := q2
            simp only [q2]
            simp only [q2] at po
            exact ⟨ρ, S, Ext.refl _ _, rs7, fun z => (nomatch z), fun _ => po⟩
          | some r =>
            simp only [q2]
            simp only [q2] at po
            cases r with
            | bad => exact po
            | exc c d S9 => exact PoE.mono (eF.trans e7) (r := .exc c d S9) po
            | ok b S9 =>
              intro H9 ρ9 x9 s9
              cases b with
              | false => exact ⟨ρ9, S9, x9, s9, fun _ => po, fun z => (nomatch z)⟩
              | true => exact ⟨ρ9, S9, x9, s9, fun z => (nomatch z), fun _ => po⟩
        · have fD9 : H9 dA = some (.frz o (.own 0)) := (e7.trans x9).keep dA _ dρ upd_same (fun _ z => nomatch z)
          have toL : ∀ {σ' : L2.St} {H' : Hp} {s' : Shared} {pp : List (Addr × Obj)}, Inv (XB X s3 (upd H2 dA (.lst [])) scope ce fp xe) pp σ' H' s' → H' dA = some (.frz o (.own 0)) → Inv (XB X s3 (upd H2 dA (.lst [])) scope ce fp xe) pp σ' (upd H' dA (.lst acc)) s' := fun {σ' H' s' pp} I' fD => by
            have ho' := (I'.hok dA _ fD).1
            exact inv_swap (o' := .lst acc) I' h0D fD (fun _ q => nomatch q) (fun _ q => nomatch q) ⟨hz, itsv, nn, rvv, by rw [ho]; exact ho'⟩
          cases b with
          | false =>
            simp only [Bool.false_eq_true, if_false]
            refine fin (toL I9 fD9) fD9 (e7.trans x9) rs9 ?_ (qf rfl) ag8
            exact RDs.ext (ext_unl uD (e7.trans x9)) ds acc rd
          | true =>
            simp only [if_true]
            have qt := qt rfl
            refine thn (pe.run _ s9 σ8 H9 (fun v H10 => ∃ ρ10 S10 dy, Ext ρ9 H9 ρ10 H10 ∧ C.RS ρ10 H10 S10 ∧ RD C.g.K ρ10 H10 dy v ∧ ds.length < line ∧ PoE C.g C.fr W Q ρ Hu (compK C t cond e (blkE env (own.map fun p : Str × Nat => p.2)) mu (its.drop (i + 1)) (ds ++ [dy]) S10)) I9 ⟨env1, S9, ρ9, rs9, r8.ext x9, ?_⟩) fun z s10 ⟨yv, H10, I10, r10, ρ10, S10, dy, x10, rs10, rd10, hl10, po10⟩ => ?_
            · cases q3 : evE C.P C.F e env1 S9 with
              | bad => simp only [q3] at qt; exact qt
              | exc c d S10 => simp only [q3] at qt; exact PoE.mono ((eF.trans e7).trans x9) (r := .exc c d S10) qt
              | ok v S10 =>
                intro w H10 ρ10 x10 s10 r10
                cases v with
                | d dy =>
                  simp only [q3] at qt
                  by_cases hl : ds.length < line
                  · rw [if_pos hl] at qt
                    exact ⟨ρ10, S10, dy, x10, s10, r10, hl, qt⟩
                  · rw [if_neg hl] at qt
                    exact qt.elim
                | _ => simp only [q3] at qt; exact qt.elim
            · have fD10 : H10 dA = some (.frz o (.own 0)) := ((e7.trans x9).trans x10).keep dA _ dρ upd_same (fun _ z => nomatch z)
              refine app_ok (X := XB X s3 (upd H2 dA (.lst [])) scope ce fp xe) (toL I10 fD10) upd_same (by rw [← rd.length, ← line_eq]; exact hl10) r10 fun s11 I11 => ?_
              rw [upd_upd] at I11
              refine fin I11 fD10 ((e7.trans x9).trans x10) rs10 ?_ po10 ag8
              exact RDs.app (RDs.ext (ext_unl uD ((e7.trans x9).trans x10)) ds acc rd) ⟨RD.agr (agr_unl fD10) dy yv rd10, trivial⟩
    · -- the end
      have hi : its.drop i = [] := List.drop_eq_nil_of_le (by omega)
      simp only [compK, hi, compL] at po
      have hil : i = (its.map Vl.d).length := by rw [List.length_map]; omega
      have stop : J.stop i (upd Hu dA (.lst acc)) := by rw [hil]; exact sj.stop _ ρ (Ext.new uD)
      refine thn (Tu.done (XB X s3 (upd H2 dA (.lst [])) scope ce fp xe) rfl rfl rfl hc i [] s5 _ _ xe I5 (stat I5 fun b hb => by rw [upd_ne (fpD b hb)]; exact n5 b hb) st5 stop) fun r s6 ⟨hr, I6⟩ => ?_
      subst hr
      obtain ⟨J7, fC, m, hn⟩ := back I6
      show ∃ m, s6.heap.Ns ce.locals m ∧ _
      rw [cL]
      refine ⟨m, hn, fun h'' sb => ?_⟩
      obtain ⟨g0, g1, g2, g3, g4, g5⟩ := fC
      exact ⟨.ref dA, _, J7.turned (t' := s6.toks) (fun b o hb e => (sb.2 b hb).trans e) g0 g1 g3 g4 g5, rfl, (po.toR newL_noexc).lst rs rd uD⟩
  exact codeAny_compStart_list loop (Tu.self X.A 0 _ _ _ st4 loop)
end
end Mi
set_option linter.all false
set_option maxRecDepth 100000
set_option maxHeartbeats 1000000
/-! Mi22: a lambda that was handed over, called: its cells are unlocked while it runs. -/
namespace Mi
open PySem PySem.Spec PyProof.Rows L2
def rlk (ks : List Addr) (H H' : Hp) : Hp := fun a => if a ∈ ks then H a else H' a
/-- locked cells -/
def Lkd (ks : List Addr) (H : Hp) : Prop := ∀ a ∈ ks, ∃ o, H a = some (.frz o (.own 0))
section
variable {P : Program} {w : World} {K : PySem.W.Frag} {mg : Str → Option Value} {base : Heap} {A : Around} {outer : List PySem.Env} {ks : List Addr} {s s' : Shared} {H H' : Hp} {ρ ρ' : List Addr} {S S' : Store} {g : Gi} {E : XK} {Q : VK}
theorem rlk_in {a : Addr} (h : a ∈ ks) : rlk ks H H' a = H a := by unfold rlk; rw [if_pos h]
theorem rlk_out {a : Addr} (h : a ∉ ks) : rlk ks H H' a = H' a := by unfold rlk; rw [if_neg h]
theorem Lkd.out (l : Lkd ks H) {a : Addr} {o : HO} (e : H a = some o) (n : NoFz o) : a ∉ ks := fun z => by
  obtain ⟨ob, q⟩ := l a z
  rw [q] at e; cases e
  exact n _ _ rfl
theorem Lkd.nn (l : Lkd ks H) {a : Addr} (e : H a = none) : a ∉ ks := fun z => by
  obtain ⟨ob, q⟩ := l a z
  rw [q] at e; cases e
theorem Lkd.env0 (l : Lkd ks H) (e : Env0 P w K mg base A outer s H) : Env0 P w K mg base A outer s (unl ks H) where
  frames := e.frames
  mod := e.mod
  bs := fun b o q => ⟨(e.bs b o q).1, by rw [unl_out (l.nn (e.bs b o q).2)]; exact (e.bs b o q).2⟩
  bsz := e.bsz
  funs := e.funs
  frf := fun b hb => by rw [unl_out (l.nn (e.frf b hb))]; exact e.frf b hb
  hok := fun a o q => by
    have hm : a ∉ ks := fun z => by rw [unl_in z] at q; cases q
    rw [unl_out hm] at q
    exact (e.hok a o q).stay (fun _ _ _ z => z) (fun b z => by rw [unl_out (l.out z (fun _ _ y => nomatch y))]; exact z) (fun b xs z => by rw [unl_out (l.out z (fun _ _ y => nomatch y))]; exact z)
  bare := e.bare
theorem Lkd.agr (l : Lkd ks H) : ∀ a o, H a = some o → NoFz o → unl ks H a = some o := fun a o e n => by rw [unl_out (l.out e n)]; exact e
theorem Lkd.ext (l : Lkd ks H) (rs : Mi.RS g.K g.T ρ' H' S') (hn : ∀ a ∈ ks, H' a = none) (e : Ext ρ (unl ks H) ρ' H') : Ext ρ H ρ' (rlk ks H H') where
  pre := by
    obtain ⟨more, e1, e2⟩ := e.pre
    refine ⟨more, e1, fun a ha => ?_⟩
    have hm : a ∉ ks := fun z => rs.free (hn a z) (by rw [e1]; exact List.mem_append_right _ ha)
    have z := e2 a ha
    rw [unl_out hm] at z; exact z
  keep := fun a o hr h ht => by
    by_cases z : a ∈ ks
    · rw [rlk_in z]; exact h
    · rw [rlk_out z]
      exact e.keep a o hr (by rw [unl_out z]; exact h) ht
  dom := fun a h => by
    by_cases z : a ∈ ks
    · obtain ⟨o, q⟩ := l a z
      rw [rlk_in z, q] at h; cases h
    · rw [rlk_out z] at h
      have y := e.dom a h
      rw [unl_out z] at y; exact y
theorem Lkd.keep (l : Lkd ks H) (hn : ∀ a ∈ ks, H' a = none) : (∀ a o, H' a = some o → rlk ks H H' a = some o) ∧ ∀ a, rlk ks H H' a = none → H' a = none :=
  ⟨fun a o e => by
    rw [rlk_out fun z => by rw [hn a z] at e; cases e]; exact e, fun a e => by
    by_cases z : a ∈ ks
    · exact hn a z
    · rw [rlk_out z] at e; exact e⟩
theorem Lkd.po (l : Lkd ks H) {r : Res Vl} (h : PoE g none E Q ρ H r) : PoE g none (fun cls d H' => (∀ a ∈ ks, H' a = none) → E cls d (rlk ks H H')) (fun v H' => (∀ a ∈ ks, H' a = none) → Q v (rlk ks H H')) ρ (unl ks H) r := by
  cases r with
  | bad => exact h
  | ok x S1 =>
    intro v H' ρ' e rs rv hn
    obtain ⟨k1, k2⟩ := l.keep hn
    exact h v _ ρ' (l.ext rs hn e) (RS.keep rs k1 k2) (RVl.ext ⟨⟨[], by simp, by simp⟩, fun a o _ z _ => k1 a o z, k2⟩ _ _ _ rv)
  | exc c d S1 =>
    intro cls dx H' ρ' e rs rx hn
    obtain ⟨k1, k2⟩ := l.keep hn
    exact h cls dx _ ρ' (l.ext rs hn e) (RS.keep rs k1 k2) (rx.agr fun a o z _ => k1 a o z)
theorem Lkd.ce (l : Lkd ks H) (e : Env0 P w K mg base A outer s H) {u : Value} (c : CE outer P w (unl ks H) s (fun v H' => (∀ a ∈ ks, H' a = none) → Q v (rlk ks H H')) u s') : CE outer P w H s Q u s' := by
  obtain ⟨v, H', os, bare, un, hok, r, q⟩ := c
  have nf : ∀ a ∈ ks, a ∉ frs outer := fun a ha z => l.nn (e.frf a z) ha
  have at_ : ∀ a ∈ ks, ∃ o, H a = some (.frz o (.own 0)) ∧ s.heap.get? a = some o := fun a ha => by
    obtain ⟨o, q⟩ := l a ha
    exact ⟨o, q, (e.hok a _ q).1⟩
  have hn : ∀ a ∈ ks, H' a = none := fun a ha => by
    obtain ⟨o, _, q⟩ := at_ a ha
    exact un.free a o q (unl_in ha) (by simp)
  obtain ⟨k1, k2⟩ := l.keep hn
  refine ⟨v, _, os, bare, ⟨fun b o eb n hb hx => un.keep b o eb (by rw [unl_out (l.nn n)]; exact n) hb hx, fun b o eb n hb hx => un.slot b o eb (by rw [unl_out (l.nn n)]; exact n) hb hx, fun b o eb n hx => ?_, un.there, fun b xs eb => ?_, fun b o u eb => ?_, fun b ps eb => ?_⟩, fun b o eb => ?_, r, q hn⟩
  · rw [rlk_out (l.nn n)]; exact un.free b o eb (by rw [unl_out (l.nn n)]; exact n) hx
  · exact k1 _ _ (un.tups b xs (l.agr _ _ eb (fun _ _ z => nomatch z)))
  · by_cases z : b ∈ ks
    · rw [rlk_in z]; exact eb
    · exact k1 _ _ (un.frzs b o u (by rw [unl_out z]; exact eb))
  · obtain ⟨more, y⟩ := un.tbls b ps (l.agr _ _ eb (fun _ _ z => nomatch z))
    exact ⟨more, k1 _ _ y⟩
  · by_cases z : b ∈ ks
    · rw [rlk_in z] at eb
      obtain ⟨o', q1, q2⟩ := at_ b z
      rw [q1] at eb; cases eb
      have q3 := un.keep b o' q2 (unl_in z) (nf b z) (by simp)
      exact ⟨q3, o', q3⟩
    · rw [rlk_out z] at eb
      exact (hok b o eb).stay (fun _ _ _ y => y) (fun c y => k1 _ _ y) (fun c xs y => k1 _ _ y)
theorem Lkd.cx (l : Lkd ks H) (e : Env0 P w K mg base A outer s H) {m : Bool} {u : Value} (c : CXm m P w outer (unl ks H) s (fun cls d H' => (∀ a ∈ ks, H' a = none) → E cls d (rlk ks H H')) u s') : CXm m P w outer H s E u s' := by
  obtain ⟨a, B, H', cls, d, eu, fl, hok, ub, na, os, ag, q⟩ := c
  have nf : ∀ a ∈ ks, a ∉ frs outer := fun a ha z => l.nn (e.frf a z) ha
  have at_ : ∀ a ∈ ks, ∃ o, H a = some (.frz o (.own 0)) ∧ s.heap.get? a = some o := fun a ha => by
    obtain ⟨o, q⟩ := l a ha
    exact ⟨o, q, (e.hok a _ q).1⟩
  have hn : ∀ a ∈ ks, H' a = none := fun a ha => by
    obtain ⟨o, _, q⟩ := at_ a ha
    exact ub.free a o q (unl_in ha)
  obtain ⟨k1, k2⟩ := l.keep hn
  have inB : ∀ b ∈ ks, ∃ o, H b = some (.frz o (.own 0)) ∧ B.get? b = some o := fun b z => by
    obtain ⟨o', q1, q2⟩ := at_ b z
    exact ⟨o', q1, ub.keep b o' q2 (unl_in z) (nf b z)⟩
  refine ⟨a, B, _, cls, d, eu, fl, fun b o eb => ?_, ⟨fun b o eb n hb => ub.keep b o eb (by rw [unl_out (l.nn n)]; exact n) hb, ub.slot, fun b o eb n => ?_, ub.there, fun b xs eb => ?_, fun b o u eb => ?_, fun b ps eb => ?_⟩, ?_, os, ag, q hn⟩
  · by_cases z : b ∈ ks
    · rw [rlk_in z] at eb
      obtain ⟨o', q1, q2⟩ := inB b z
      rw [q1] at eb; cases eb
      exact ⟨q2, o', q2⟩
    · rw [rlk_out z] at eb
      exact (hok b o eb).stay (fun _ _ _ y => y) (fun c y => k1 _ _ y) (fun c xs y => k1 _ _ y)
  · rw [rlk_out (l.nn n)]; exact ub.free b o eb (by rw [unl_out (l.nn n)]; exact n)
  · exact k1 _ _ (ub.tups b xs (l.agr _ _ eb (fun _ _ z => nomatch z)))
  · by_cases z : b ∈ ks
    · rw [rlk_in z]; exact eb
    · exact k1 _ _ (ub.frzs b o u (by rw [unl_out z]; exact eb))
  · obtain ⟨more, y⟩ := ub.tbls b ps (l.agr _ _ eb (fun _ _ z => nomatch z))
    exact ⟨more, k1 _ _ y⟩
  · by_cases z : a ∈ ks
    · obtain ⟨o', _, q2⟩ := inB a z
      rw [fl.2.1] at q2; cases q2
    · rw [rlk_out z]; exact na
/-! ### a call's end: what was made within goes -/
mutual
theorem RD.sub {K : PySem.W.Frag} (h : ∀ a ∈ ρ, a ∈ ρ') : ∀ (d : D) (v : V), RD K ρ' H d v → RD K ρ H d v
  | .non, v, h => h
  | .bl b, v, h => h
  | .int i, v, h => h
  | .str s, v, h => h
  | .tup ds, v, ⟨a, xs, h1, h2, h3⟩ => ⟨a, xs, h1, h2.elim (fun z => .inl ⟨z.1, fun y => z.2 (h a y)⟩) .inr, RDs.sub h ds xs h3⟩
  | .lst ds, v, ⟨a, xs, h1, z, h3⟩ => ⟨a, xs, h1, ⟨z.1, fun y => z.2 (h a y)⟩, RDs.sub h ds xs h3⟩
  | .dks kvs, v, ⟨a, h1, h2⟩ => ⟨a, h1, h2.elim (fun z => .inl ⟨z.1, fun y => z.2 (h a y)⟩) .inr⟩
theorem RDs.sub {K : PySem.W.Frag} (h : ∀ a ∈ ρ, a ∈ ρ') : ∀ (ds : List D) (vs : List V), RDs K ρ' H ds vs → RDs K ρ H ds vs
  | [], [], _ => trivial
  | d :: ds, v :: vs, q => ⟨RD.sub h d v q.1, RDs.sub h ds vs q.2⟩
  | [], _ :: _, h => h.elim
  | _ :: _, [], h => h.elim
end
theorem RS.take {T : List (Addr × Str)} (rs : RS K T ρ H S) (rs' : RS K T ρ' H' S') (e : Ext ρ H ρ' H') : RS K T ρ H' (S'.take S.length) := by
  obtain ⟨more, rfl, _⟩ := e.pre
  have hl := rs.len
  have hl' := rs'.len
  rw [List.length_append] at hl'
  refine ⟨by rw [List.length_take]; omega, (List.nodup_append.mp rs'.nd).1, fun l a o h1 h2 => ?_, rs'.tab⟩
  have hlt : l < ρ.length := (List.getElem?_eq_some_iff.mp h1).1
  rw [List.getElem?_take_of_lt (by omega)] at h2
  have z := rs'.obj l a o (by rw [List.getElem?_append_left hlt]; exact h1) h2
  cases o with
  | lst ds =>
    obtain ⟨xs, a1, a2⟩ := z
    exact ⟨xs, a1, RDs.sub (fun b hb => List.mem_append_left _ hb) ds xs a2⟩
theorem Ext.cut (e : Ext ρ H ρ' H') : Ext ρ H ρ H' := ⟨⟨[], by simp, by simp⟩, e.keep, e.dom⟩
theorem Ext.subs (e : Ext ρ H ρ' H') : ∀ a ∈ ρ, a ∈ ρ' := fun a h => by
  obtain ⟨more, rfl, _⟩ := e.pre
  exact List.mem_append_left _ h
theorem RX.sub {c : Nat} {d : D} {cls : Value} {dx : Option Addr} (h : ∀ a ∈ ρ, a ∈ ρ') (r : RX g ρ' H c d cls dx) : RX g ρ H c d cls dx := by
  obtain ⟨C, fl, dd, v, h1, h2, h3, h4, h5, h6⟩ := r
  exact ⟨C, fl, dd, v, h1, h2, h3, h4, fun z => h5 (h dd z), RD.sub h d v h6⟩
theorem PoE.finE {fr : Option Fr0} {r : Res Vl} (rs : Mi.RS g.K g.T ρ H S) (h : PoE g none E Q ρ H (finishE S.length r)) : PoE g fr E Q ρ H r := by
  unfold finishE at h
  split at h
  · intro v H' ρ' e rs' rv
    exact h v H' ρ e.cut (RS.take rs rs' e) (RD.sub e.subs _ _ rv)
  · intro cls dx H' ρ' e rs' rx
    exact h cls dx H' ρ e.cut (RS.take rs rs' e) (RX.sub e.subs rx)
  · exact h.elim
end
end Mi
set_option linter.all false
set_option maxRecDepth 100000
set_option maxHeartbeats 1000000
/-! Mi23: a lambda runs. -/
namespace Mi
open PySem PySem.Spec PyProof.Rows L2
/-- what a lambda's default is, in the heap -/
def DfV (s : Shared) (d : Option Int) (dV : Value) (us : List Value) : Prop := match d with
  | none => dV = .none ∧ us = []
  | some i => ∃ T o n t, dV = .ref T ∧ s.heap.get? T = some o ∧ o.data = .seq #[.int i t] n ∧ us = [.int i t]
structure LamOk (li : LamI) : Prop where
  sc : NdefX.NScope (li.ps ++ li.caps) li.ps li.caps li.scope
  dl : li.ps.length = (match li.dflt with | none => 0 | some _ => 1)
  bind : ∀ (q : Str) (cl : List (Str × Addr)) (dV pm cdv ctv : Value) (s : Shared) (us : List Value), DfV s li.dflt dV us → BindsTo s (fnL q li cl dV pm cdv ctv) ⟨[], []⟩ (li.ps.zip us)
section
variable {P : Program} {w : World} {K : PySem.W.Frag} {mg : Str → Option Value} {base : Heap} {A : Around} {outer : List PySem.Env} {s : Shared} {H : Hp} {ρ : List Addr} {S : Store} {g : Gi} {E : XK} {Q : VK}
theorem rcap_ws {K : PySem.W.Frag} {LI : LamT} {cl : List (Str × Addr)} : ∀ {ys : List Str} {xs : List Vl}, RCap K LI ρ H cl ys xs → ∃ ws : List V, RVls K LI none ρ H xs ws ∧ xs.all isDL = true ∧ ws.length = ys.length ∧
    ∀ (i : Nat) (y : Str), ys[i]? = some y → ∃ c oc u v, ws[i]? = some v ∧ cl.lookup y = some c ∧ c ∉ ρ ∧ H c = some (.frz oc (.own 0)) ∧ oc.data = .cell (some u) ∧ RelV v u
  | [], [], _ => ⟨[], trivial, rfl, rfl, fun i y e => by simp at e⟩
  | y :: ys, x :: xs, ⟨⟨h0, c, oc, u, v, h1, h2, h3, h4, h5, h6⟩, h7⟩ => by
    obtain ⟨ws, a1, a2, a3, a4⟩ := rcap_ws h7
    refine ⟨v :: ws, ⟨h6, a1⟩, by rw [List.all_cons, h0, a2]; rfl, by simp [a3], fun i z e => ?_⟩
    cases i with
    | zero =>
      simp at e; subst e
      exact ⟨c, oc, u, v, rfl, h1, h2, h3, h4, h5⟩
    | succ i =>
      obtain ⟨c', oc', u', v', b1, b2⟩ := a4 i z (by simpa using e)
      exact ⟨c', oc', u', v', by simpa using b1, b2⟩
  | [], _ :: _, h => h.elim
  | _ :: _, [], h => h.elim
theorem RVls.dls {K : PySem.W.Frag} {LI : LamT} {fr fr' : Option Fr0} {H' : Hp} (k : ∀ a o, H a = some o → NoFz o → H' a = some o) : ∀ {xs : List Vl} {vs : List V}, xs.all isDL = true → RVls K LI fr ρ H xs vs → RVls K LI fr' ρ H' xs vs
  | [], [], _, _ => trivial
  | x :: xs, v :: vs, h, r => by
    rw [List.all_cons, Bool.and_eq_true] at h
    exact ⟨r.1.dl h.1 k, RVls.dls k h.2 r.2⟩
  | [], _ :: _, _, h => h.elim
  | _ :: _, [], _, h => h.elim
/-- what a handed-over lambda does -/
def CloOk (m : Bool) (P : Program) (w : World) (K : PySem.W.Frag) (mg : Str → Option Value) (base : Heap) (g : Gi) (lvl : Nat) (F : Call) : Prop :=
  ∀ (A : Around) (outer : List PySem.Env) (s : Shared) (H : Hp) (f : Addr) (k : Nat) (caps : List Vl) (ρ : List Addr) (S : Store) (Q : VK) (E : XK), Room lvl A → Env0 P w K mg base A outer s H → Mi.RS g.K g.T ρ H S → RVl g.K g.LI none ρ H (.clo k caps) (.ref f) →
    PoE g none E Q ρ H (F k caps S) → codeAny (model P w) A (.call (.ref f) ⟨[], []⟩) (CR (CXm m P w) outer P w H s Q E) s
/-- a lambda of the text, by its body's reading -/
def LamP (m : Bool) (P : Program) (w : World) (K : PySem.W.Frag) (mg : Str → Option Value) (base : Heap) (g : Gi) (Pg : Mi.Pg) (n lvl k : Nat) (li : LamI) : Prop :=
  LamOk li ∧ ∃ e, Pg.fns[k]? = some (.lam li.caps.length li.ps.length e) ∧ ∀ (A : Around) (outer : List PySem.Env) (s : Shared) (H : Hp) (E : XK) (F : NdefX.NF) (f : Addr), F.scope = li.scope → Room lvl (A.deeper (NdefX.envF F f s.heap.objs.size)) →
    PE (NdefX.ncx (CXm m P w) P w K mg base (li.ps ++ li.caps) F f A outer s H E) li.body (tE ⟨g, none, Pg, callF Pg n, m⟩ E e)
theorem clo_ok {m : Bool} {Pg : Mi.Pg} {n lvl : Nat} (hli : ∀ k li, g.LI k = some li → LamP m P w K mg base g Pg n lvl k li) : CloOk m P w K mg base g (lvl + 1) (callF Pg (n + 1)) := by
  intro A outer s H f k caps ρ S Q E hr e0 rs rv po
  obtain ⟨f', q, cl, li, ef, ⟨hk, nf, c', dV, pm, ctv, hf, hc, nc, hd⟩, cc, rc⟩ := rv
  cases ef
  obtain ⟨lo, e, hfn, hbody⟩ := hli k li hk
  obtain ⟨ws, rws, dls, wl, wat⟩ := rcap_ws rc
  have hcap : caps.length = li.caps.length := by rw [rws.length, wl]
  -- the run, in the interpreter
  have po1 : PoE g none E Q ρ H (evE Pg (callF Pg n) e (List.replicate li.ps.length none ++ caps.map some) S) := by
    refine PoE.finE rs ?_
    unfold callF at po
    rw [hfn] at po
    simp only [hcap, if_true] at po
    exact po
  -- the cells
  have hlk : Lkd (cellsOf cl) H := fun a ha => by
    obtain ⟨y, hy⟩ := mem_cellsOf.mp ha
    obtain ⟨i, hi⟩ := List.mem_iff_getElem?.mp (cc.only y a hy)
    obtain ⟨c, oc, u, v, _, h1, _, h2, _⟩ := wat i y hi
    rw [hy] at h1; cases h1
    exact ⟨oc, h2⟩
  have e1 := hlk.env0 e0
  have po2 := hlk.po po1
  have hf' := (e0.hok f _ hf).1
  have hcr : s.heap.CodeRec (.ref c') q := NdefX.codeO_at e0.hok hc
  -- the default
  obtain ⟨us, dv, vals⟩ : ∃ us : List Value, DfV s li.dflt dV us ∧ ∃ vs : List V, Vals vs us ∧ vs.length = li.ps.length := by
    unfold DfAt at hd
    unfold DfV
    have hdl := lo.dl
    cases z : li.dflt with
    | none =>
      rw [z] at hd hdl
      exact ⟨[], ⟨hd, rfl⟩, [], .nil, hdl.symm⟩
    | some i =>
      rw [z] at hd hdl
      obtain ⟨T, h1, h2, _⟩ := hd
      obtain ⟨_, its, rv, o, h3, _, nn, h4⟩ := e0.hok T _ h2
      cases rv with
      | cons r rr =>
        cases rr
        obtain ⟨t, rfl⟩ := r
        exact ⟨[.int i t], ⟨T, o, nn, t, h1, h3, h4, rfl⟩, [.int i], .cons ⟨t, rfl⟩ .nil, hdl.symm⟩
  obtain ⟨vs, rvs, vl⟩ := vals
  have hbind := lo.bind q cl dV pm (.ref c') ctv s us dv
  have lim : s.heap.NoLimit := e0.mod.nolimit.keeps fun b o z => (e0.bs b o z).1
  have fin : ∀ r s', CR (CXm m P w) outer P w (unl (cellsOf cl) H) s (fun v H' => (∀ a ∈ cellsOf cl, H' a = none) → Q v (rlk (cellsOf cl) H H')) (fun cls d H' => (∀ a ∈ cellsOf cl, H' a = none) → E cls d (rlk (cellsOf cl) H H')) r s' → CR (CXm m P w) outer P w H s Q E r s' := fun r s' hq => by
    cases r with
    | error e => exact hlk.cx e0 hq
    | ok fl =>
      cases fl with
      | ret u => exact hlk.ce e0 hq
      | next => exact hq
      | brk => exact hq
      | cont => exact hq
  refine codeAny_mono ?_ fin
  refine PySem.W.kla_callFunE hr.depth hf' rfl lo.sc.co lo.sc.gen rfl hcr ?_
  refine hbind _ _ _ _ ?_
  have hul : us.length = li.ps.length := by rw [← vl]; exact rvs.length.symm
  refine wpAny_newFunctionEnv (fun y hy => lo.sc.nocell y hy) (fun y hy => lo.sc.par y.1 (List.of_mem_zip (show (y.1, y.2) ∈ li.ps.zip us from hy)).1) (fun h1 hns hsb => ⟨lim.fresh _ hsb, ?_⟩) lo.sc.kind
  have kp : ∀ b o, s.heap.get? b = some o → h1.get? b = some o := fun b o z => hsb.extBut b o (Nat.ne_of_lt (Heap.lt_size z)) (Heap.get?_push_of_some _ z)
  have C : NdefX.CellsAt cl li.caps (ws.map some) s.heap (unl (cellsOf cl) H) := by
    refine ⟨by simp [wl], fun y c hy => ?_, cc.inj, fun i y hi => ?_⟩
    · have hm : c ∈ cellsOf cl := mem_cellsOf.mpr ⟨y, hy⟩
      refine ⟨unl_in hm, ?_⟩
      obtain ⟨i, hi⟩ := List.mem_iff_getElem?.mp (cc.only y c hy)
      obtain ⟨c2, oc, u, v, _, h1, _, h2, h3, _⟩ := wat i y hi
      rw [hy] at h1; cases h1
      exact ⟨some u, oc, (e0.hok _ _ h2).1, h3⟩
    · obtain ⟨c2, oc, u, v, h0, h1, _, h2, h3, h4⟩ := wat i y hi
      refine ⟨c2, h1, fun v' hv => ?_⟩
      rw [List.getElem?_map, h0] at hv
      cases hv
      exact ⟨u, h4, oc, (e0.hok _ _ h2).1, h3⟩
  have I := NdefX.inv_startN (CX := CXm m P w) (F := ⟨"<lambda>", q, li.params, [], li.scope, cl, c'⟩) (f := f) (E := fun cls d H' => (∀ a ∈ cellsOf cl, H' a = none) → E cls d (rlk (cellsOf cl) H H')) (tk := s.toks + (li.ps.zip us).length) lo.sc hr.hd e1 vl rvs C hns kp
  refine PySem.W.kla_codeExpr (wpAny_mono ((hbody A outer s _ _ ⟨"<lambda>", q, li.params, [], li.scope, cl, c'⟩ f rfl (hr.deeper _)).run [] _ _ _ (fun v H' => (∀ a ∈ cellsOf cl, H' a = none) → Q v (rlk (cellsOf cl) H H')) I ⟨_, S, ρ, RS.agr rs hlk.agr, ⟨?_, fun i x hx => ?_⟩, po2⟩) (fun v s' hq => ?_) fun _ _ z => z)
  · have : (NdefX.startF (li.ps ++ li.caps) vs (ws.map some)).length = (li.ps ++ li.caps).length := I.len
    rw [this]
    simp [hcap]
  · have hstart : NdefX.startF (li.ps ++ li.caps) vs (ws.map some) = vs.map some ++ ws.map some := by
      unfold NdefX.startF
      have z : (li.ps ++ li.caps).length - vs.length - (ws.map some).length = 0 := by simp [vl, wl]
      rw [z]
      simp
    rw [hstart]
    by_cases hi : i < li.ps.length
    · rw [List.getElem?_append_left (by simpa using hi), List.getElem?_replicate, if_pos hi] at hx
      cases hx
    · rw [List.getElem?_append_right (by simpa using hi), List.length_replicate] at hx
      rw [List.getElem?_append_right (by simp [vl]; omega), List.length_map, vl]
      have rws' : RVls g.K g.LI none ρ (unl (cellsOf cl) H) caps ws := RVls.dls hlk.agr dls rws
      have hx' : caps[i - li.ps.length]? = some x := by
        rw [List.getElem?_map] at hx
        cases z : caps[i - li.ps.length]? with
        | none => rw [z] at hx; cases hx
        | some y => rw [z] at hx; cases hx; rfl
      have get : ∀ {xs : List Vl} {vs : List V} {j : Nat} {x : Vl}, RVls g.K g.LI none ρ (unl (cellsOf cl) H) xs vs → xs[j]? = some x → ∃ v, vs[j]? = some v ∧ RVl g.K g.LI none ρ (unl (cellsOf cl) H) x v := by
        intro xs
        induction xs with
        | nil => intro vs j x _ h; simp at h
        | cons y xs ih =>
          intro vs j x r h
          cases vs with
          | nil => exact r.elim
          | cons v vs =>
            cases j with
            | zero => simp at h; subst h; exact ⟨v, rfl, r.1⟩
            | succ j =>
              obtain ⟨u, h1, h2⟩ := ih (j := j) r.2 (by simpa using h)
              exact ⟨u, by simpa using h1, h2⟩
      obtain ⟨v, h1, h2⟩ := get rws' hx'
      exact ⟨v, by rw [List.getElem?_map, h1]; rfl, h2⟩
  · obtain ⟨w', H', J', rv, q⟩ := hq
    exact ⟨w', H', J'.os, J'.bare, J'.base, J'.hok, rv, q⟩
end
end Mi
set_option linter.all false
set_option maxRecDepth 100000
set_option maxHeartbeats 2000000
/-! Mi24: a lambda is made; one is called by its name. -/
namespace Mi
open PySem PySem.Spec PyProof.Rows L2
section
variable {M : Model} {A : Around} {E : Value → Shared → Prop} {s : Shared} {name qual : Str} {params : Arguments} {body : Expr} {scope : Scope} {env : PySem.Env} {c P : Addr} {ps : Array Value} {pos : Pos} {firstLine : Nat} {mg : Str → Option Value}
  {clos : List (Str × Addr)} {Q : Value → Shared → Prop} {dV : Value}
abbrev fdD (name qual : Str) (params : Arguments) (body : Expr) (scope : Scope) (cl : List (Str × Addr)) (dV pm cdv ctv : Value) : FuncData := { PySem.W.kla_fn name qual params body scope cl pm cdv ctv with defaults := dV }
/-- the function's object is laid: its code object is new, or found -/
theorem mi_tail (hcl : closureFor scope env = pure clos) (hge0 : env.globals = mainGlobals) (hg : s.heap.Ns mainGlobals mg) (hcode : env.code = .ref c) (C : PySem.W.CodeHd s.heap c P) (hP : s.heap.get? P = some (PySem.W.tabObj ps)) (ht : TriplesOk ps.toList)
    (hgP : mainGlobals ≠ P) (hb : s.heap.BuiltinsAt mg P)
    (h1 : codeAmong pos ps.toList = none → ∀ c' ctv h' tk, Heap.ExtBut P s.heap h' → s.heap.objs.size ≤ c' → c' < h'.objs.size → h'.CodeRec (.ref c') qual → h'.get? P = some (PySem.W.tabObj (ps ++ #[rawInt pos.line, rawInt pos.col, .ref c'])) →
      Q (.ref h'.objs.size) { s with heap := h'.push { cls := .type "function", data := .func (fdD name qual params body scope clos dV ((mg "__name__").getD .none) (.ref c') ctv) }, toks := tk })
    (h2 : ∀ cv, codeAmong pos ps.toList = some cv → ∀ (ctv : Value) (h' : Heap) (tk : Tok), (∀ b o, s.heap.get? b = some o → h'.get? b = some o) → s.heap.objs.size ≤ h'.objs.size →
      Q (.ref h'.objs.size) { s with heap := h'.push { cls := .type "function", data := .func (fdD name qual params body scope clos dV ((mg "__name__").getD .none) cv ctv) }, toks := tk }) :
    wpAny M A (makeTail name qual params (.expr body) scope env dV .none none pos firstLine) Q E s := by
  obtain ⟨bm, ob, hbm, hne0, _, hneP, hbo, hcls, hdict, hdata⟩ := hb
  unfold makeTail
  rw [hcl, hge0]
  refine wpAny_bind (wpAny_pure ?_)
  cases hk : codeAmong pos ps.toList with
  | none =>
    cases clos with
    | nil =>
      simp only [List.isEmpty_nil, if_true]
      refine wpAny_bind (wpAny_pure ?_)
      refine wpAny_bind (wpAny_functionCodeX hcode (C.code hP ht) (C.tab hP) hk fun c' h' tk hx hge hlt _ hrec htb _ => ?_)
      have hg' := hg.extBut hx hgP
      refine wpAny_bind (wpAny_builtinsFor hg' hbm hne0 (hx _ _ hneP hbo) hcls hdict hdata ?_)
      refine wpAny_bind (wpAny_nsGet hg' ?_)
      exact wpAny_bind (wpAny_pure (wpAny_newObj_type (h1 hk c' .none h' tk hx hge hlt hrec htb.2) (by size_fits)))
    | cons q r =>
      simp only [List.isEmpty_cons, Bool.false_eq_true, if_false]
      refine wpAny_bind (wpAny_newTextTuple ?_)
      refine wpAny_bind (wpAny_functionCodeX hcode ((C.keeps fun b o e => Heap.get?_push_of_some _ e).code (Heap.get?_push_of_some _ hP) ht) ((C.keeps fun b o e => Heap.get?_push_of_some _ e).tab (Heap.get?_push_of_some _ hP)) hk fun c' h' tk hx hge hlt _ hrec htb _ => ?_)
      have hg' := (hg.push _).extBut hx hgP
      have hx' : Heap.ExtBut P s.heap h' := fun b o hb' e => hx b o hb' (Heap.get?_push_of_some _ e)
      have hge' : s.heap.objs.size ≤ c' := Nat.le_trans (by rw [Heap.size_push]; omega) hge
      refine wpAny_bind (wpAny_builtinsFor hg' hbm hne0 (hx' _ _ hneP hbo) hcls hdict hdata ?_)
      refine wpAny_bind (wpAny_nsGet hg' ?_)
      exact wpAny_bind (wpAny_pure (wpAny_newObj_type (h1 hk c' _ h' tk hx' hge' hlt hrec htb.2) (by size_fits)))
  | some cv =>
    cases clos with
    | nil =>
      simp only [List.isEmpty_nil, if_true]
      refine wpAny_bind (wpAny_pure ?_)
      refine wpAny_bind (wpAny_functionCode_hit hcode (C.code hP ht) hk ?_)
      refine wpAny_bind (wpAny_builtinsFor hg hbm hne0 hbo hcls hdict hdata ?_)
      refine wpAny_bind (wpAny_nsGet hg ?_)
      exact wpAny_bind (wpAny_pure (wpAny_newObj_type (h2 cv hk .none s.heap s.toks (fun _ _ e => e) (Nat.le_refl _)) (by size_fits)))
    | cons q r =>
      simp only [List.isEmpty_cons, Bool.false_eq_true, if_false]
      refine wpAny_bind (wpAny_newTextTuple ?_)
      refine wpAny_bind (wpAny_functionCode_hit hcode ((C.keeps fun b o e => Heap.get?_push_of_some _ e).code (Heap.get?_push_of_some _ hP) ht) hk ?_)
      refine wpAny_bind (wpAny_builtinsFor (hg.push _) hbm hne0 (Heap.get?_push_of_some _ hbo) hcls hdict hdata ?_)
      refine wpAny_bind (wpAny_nsGet (hg.push _) ?_)
      have hsz : ∀ oT : Obj, s.heap.objs.size ≤ (s.heap.push oT).objs.size := fun oT => by rw [Heap.size_push]; omega
      exact wpAny_bind (wpAny_pure (wpAny_newObj_type (h2 cv hk _ _ s.toks (fun b o e => Heap.get?_push_of_some _ e) (hsz _)) (by size_fits)))
end
section
variable {C : Ctx} {X : Cx} {W : XK} {pins : List (Addr × Obj)} {σ : L2.St} {H : Hp} {s : Shared}
/-- the made function, tracked -/
theorem mi_make {T : List (Addr × Str)} {c P : Addr} {params : Arguments} {body : Expr} {scope : Scope} {pos : Pos} {E : Value → Shared → Prop} {Q : Value → Shared → Prop} {dV : Value} {A : Around} (I : Inv X pins σ H s) (TB : LamX.TabB X.base X.mg c P) (hcode : X.env.code = .ref c)
    (hm : (P, X.env.qual ++ "<lambda>") ∈ T) (hu : ∀ p ∈ T, p.1 = P → p.2 = X.env.qual ++ "<lambda>") (hT : LamX.Tabs T H) (hfree : ∀ y ∈ scope.names, y.2 = .free → ∃ c, X.env.cells.lookup y.1 = some c)
    (h : ∀ (f c' : Addr) (pm ctv : Value) (H1 : Hp) (s' : Shared), Inv X pins σ H1 s' → LamX.ExtN H H1 → (∀ a, H1 a = none → H a = none) → H f = none → LamX.Tabs T H1 →
      H1 f = some (.frz { cls := .type "function", data := .func (fdD "<lambda>" (X.env.qual ++ "<lambda>") params body scope (cloFrom X.env.cells scope.names []) dV pm (.ref c') ctv) } (.own 0)) → H1 c' = some (LamX.CodeO c' (X.env.qual ++ "<lambda>")) → (H c' = none ∨ H c' = some (LamX.CodeO c' (X.env.qual ++ "<lambda>"))) → Q (.ref f) s') :
    wpAny (model X.prog X.w) A (makeTail "<lambda>" (X.env.qual ++ "<lambda>") params (.expr body) scope X.env dV .none none pos pos.line) Q E s := by
  obtain ⟨ps, hP, ht, ha⟩ := hT _ hm
  have bP : s.heap.BuiltinsAt X.mg P := TB.bm.keeps I.bk
  have hP' : s.heap.get? P = some { cls := .none, data := .fields ps } := I.hok P _ hP
  refine mi_tail (mg := X.mg) (c := c) (P := P) (ps := ps) (closure_ok hfree) I.ok.glob (I.mod.glob.keeps I.bk) hcode (TB.code.keeps I.bk) hP' ht TB.gP bP (fun hc c' ctv h' tk hx hge hlt hrec htb => ?_) fun cv hc ctv h' tk hx hsz => ?_
  · obtain ⟨c2, oc, vs, t, e2, hoc, hd, hv⟩ := hrec
    cases e2
    have hsz : s.heap.objs.size ≤ h'.objs.size := Nat.le_trans hge (Nat.le_of_lt hlt)
    have nC : H c' = none := I.hok.fresh hge
    have I1 := LamX.inv_table (t' := tk) (q := X.env.qual ++ "<lambda>") (more := #[rawInt pos.line, rawInt pos.col, .ref c']) (h' := h') I hP hx htb hge ⟨oc, vs, t, hoc, hd, hv⟩
    have hE : LamX.ExtN H (upd (upd H P (.tbl (ps ++ #[rawInt pos.line, rawInt pos.col, .ref c']))) c' (LamX.CodeO c' (X.env.qual ++ "<lambda>"))) := fun b o e n => by
      rw [upd_ne (ne_of_none e nC), upd_ne (fun z => n ps (Option.some.inj (e.symm.trans (by rw [z]; exact hP))))]
      exact e
    have eL : (ps ++ #[rawInt pos.line, rawInt pos.col, .ref c']).toList = ps.toList ++ [rawInt pos.line, rawInt pos.col, .ref c'] := by simp
    have hT1 : LamX.Tabs T (upd (upd H P (.tbl (ps ++ #[rawInt pos.line, rawInt pos.col, .ref c']))) c' (LamX.CodeO c' (X.env.qual ++ "<lambda>"))) := fun p hp => by
      by_cases hb : p.1 = P
      · rw [hu p hp hb, hb]
        refine ⟨_, by rw [upd_ne (ne_of_none hP nC), upd_same], by rw [eL]; exact PySem.TriplesOk_snoc _ _ _ _ ht, fun p' cv hcv => ?_⟩
        rw [eL] at hcv
        rcases LamX.among_app _ ht hcv with z | z
        · obtain ⟨c0, e1, e2⟩ := ha p' cv z
          exact ⟨c0, e1, hE _ _ e2 LamX.codeO_ne⟩
        · exact ⟨c', z, upd_same⟩
      · obtain ⟨ps', a1, a2, a3⟩ := hT p hp
        refine ⟨ps', by rw [upd_ne (ne_of_none a1 nC), upd_ne hb]; exact a1, a2, fun p' cv hcv => ?_⟩
        obtain ⟨c0, e1, e2⟩ := a3 p' cv hcv
        exact ⟨c0, e1, hE _ _ e2 LamX.codeO_ne⟩
    have nF : (upd (upd H P (.tbl (ps ++ #[rawInt pos.line, rawInt pos.col, .ref c']))) c' (LamX.CodeO c' (X.env.qual ++ "<lambda>"))) h'.objs.size = none := I1.hok.fresh (Nat.le_refl _)
    have g0 := Heap.get?_push_size h' (o := { cls := .type "function", data := .func (fdD "<lambda>" (X.env.qual ++ "<lambda>") params body scope (cloFrom X.env.cells scope.names []) dV ((X.mg "__name__").getD .none) (.ref c') ctv) }) rfl
    have I2 := I1.laid (a := h'.objs.size) (o := .frz { cls := .type "function", data := .func (fdD "<lambda>" (X.env.qual ++ "<lambda>") params body scope (cloFrom X.env.cells scope.names []) dV ((X.mg "__name__").getD .none) (.ref c') ctv) } (.own 0)) (t' := tk) (fun b o e => Heap.get?_push_of_some _ e) (Nat.le_refl _) ⟨g0, _, g0⟩
    refine h h'.objs.size c' ((X.mg "__name__").getD .none) ctv _ _ I2 (fun b o e n => ?_) (fun a e => ?_) (I.hok.fresh hsz) ?_ upd_same ?_ (.inl nC)
    · have z := hE b o e n
      rw [upd_ne (ne_of_none z nF)]; exact z
    · by_cases z : a = h'.objs.size
      · rw [z]; exact I.hok.fresh hsz
      · rw [upd_ne z] at e
        by_cases y : a = c'
        · rw [y]; exact nC
        · rw [upd_ne y] at e
          by_cases x : a = P
          · rw [x, upd_same] at e; cases e
          · rw [upd_ne x] at e; exact e
    · exact hT1.ext fun b o e => by rw [upd_ne (ne_of_none e nF)]; exact e
    · rw [upd_ne (Nat.ne_of_lt hlt), upd_same]
  · obtain ⟨c', e, hco⟩ := ha pos cv hc
    subst e
    have I1 : Inv X pins σ H { s with heap := h', toks := tk } := I.kept (t' := tk) fun b o e => hx b o e
    have nF : H h'.objs.size = none := I.hok.fresh hsz
    have g0 := Heap.get?_push_size h' (o := { cls := .type "function", data := .func (fdD "<lambda>" (X.env.qual ++ "<lambda>") params body scope (cloFrom X.env.cells scope.names []) dV ((X.mg "__name__").getD .none) (.ref c') ctv) }) rfl
    have I2 := I1.laid (a := h'.objs.size) (o := .frz { cls := .type "function", data := .func (fdD "<lambda>" (X.env.qual ++ "<lambda>") params body scope (cloFrom X.env.cells scope.names []) dV ((X.mg "__name__").getD .none) (.ref c') ctv) } (.own 0)) (t' := tk) (fun b o e => Heap.get?_push_of_some _ e) (Nat.le_refl _) ⟨g0, _, g0⟩
    refine h h'.objs.size c' ((X.mg "__name__").getD .none) ctv _ _ I2 (fun b o e n => by rw [upd_ne (ne_of_none e nF)]; exact e) (fun a e => ?_) nF (hT.ext fun b o e => by rw [upd_ne (ne_of_none e nF)]; exact e) upd_same (by rw [upd_ne (ne_of_none hco nF)]; exact hco) (.inr hco)
    by_cases z : a = h'.objs.size
    · rw [z]; exact nF
    · rw [upd_ne z] at e; exact e
end
end Mi
set_option linter.all false
set_option maxRecDepth 100000
set_option maxHeartbeats 2000000
/-! Mi25: lambda: .. and f(), f a lambda, as expressions. -/
namespace Mi
open PySem PySem.Spec PyProof.Rows L2
section
variable {C : Ctx} {X : Cx} {W : XK}
/-- the words of a default: none, or an int -/
def DfE (env : PySem.Env) (li : LamI) : Prop := match li.dflt with
  | none => defaultsOf li.params env = ([], [])
  | some i => ∃ j p, defaultsOf li.params env = ([eval (.Constant (.int i) j p) env], [])
/-- what the making of lambdas asks of a frame -/
structure LamX' (C : Ctx) (X : Cx) : Prop where
  ex : ∃ c P, LamX.TabB X.base X.mg c P ∧ X.env.code = .ref c ∧ (P, X.env.qual ++ "<lambda>") ∈ C.g.T ∧ ∀ p ∈ C.g.T, p.1 = P → p.2 = X.env.qual ++ "<lambda>"
theorem RS.extN {ρ : List Addr} {H H1 : Hp} {S : Store} (rs : C.RS ρ H S) (e : LamX.ExtN H H1) (d : ∀ a, H1 a = none → H a = none) (hT : LamX.Tabs C.g.T H1) : C.RS ρ H1 S ∧ Ext ρ H ρ H1 := by
  have x : Ext ρ H ρ H1 := ⟨⟨[], by simp, by simp⟩, fun a o _ h n => e a o h n, d⟩
  refine ⟨⟨rs.len, rs.nd, fun l a o h1 h2 => ?_, hT⟩, x⟩
  cases o with
  | lst ds =>
    obtain ⟨xs, a1, a2⟩ := rs.obj l a _ h1 h2
    exact ⟨xs, e _ _ a1 (fun _ z => nomatch z), RDs.ext x ds xs a2⟩
theorem pe_lm {k : Nat} {sl : List Nat} {li : LamI} {f0 : Fr0} {pos : Pos} (fo : FrOk C X) (hfr : C.fr = some f0) (hk : C.g.LI k = some li) (fits : LamFits f0 li sl) (lx : LamX' C X) (hdef : DfE X.env li) :
    PE X (.Lambda li.params li.body li.scope pos) (tE C W (.lam k sl)) := by
  refine ⟨fun pins s σ H Q I h => ?_⟩
  obtain ⟨env, S, ρ, rs, re, h⟩ := h
  simp only [evE] at h
  obtain ⟨c, P, TB, hcode, hm, hu⟩ := lx.ex
  obtain ⟨hf0, _⟩ := fo.fr f0 hfr
  have hfree : ∀ y ∈ li.scope.names, y.2 = .free → ∃ c, X.env.cells.lookup y.1 = some c := fun y hy e => by
    have z := fits.all y hy e
    rw [hf0] at z
    exact I.ok.has _ z
  -- behind the making
  have fin : ∀ {ρ' : List Addr} {H0 : Hp} {dV : Value} (f c' : Addr) (pm ctv : Value) (H1 : Hp) (s' : Shared), Ext ρ H ρ H0 → C.RS ρ H0 S → DfAt ρ H0 li.dflt dV → Inv X pins σ H1 s' → LamX.ExtN H0 H1 → (∀ a, H1 a = none → H0 a = none) → H0 f = none → LamX.Tabs C.g.T H1 →
      H1 f = some (.frz { cls := .type "function", data := .func (fdD "<lambda>" (X.env.qual ++ "<lambda>") li.params li.body li.scope (cloFrom X.env.cells li.scope.names []) dV pm (.ref c') ctv) } (.own 0)) → H1 c' = some (LamX.CodeO c' (X.env.qual ++ "<lambda>")) → (H0 c' = none ∨ H0 c' = some (LamX.CodeO c' (X.env.qual ++ "<lambda>"))) → EP X pins σ Q (.ref f) s' :=
    fun {ρ' H0 dV} f c' pm ctv H1 s' e0 r0 df I' eN dom nf tb hf hc nc => by
      obtain ⟨r1, e1⟩ := RS.extN r0 eN dom tb
      refine ⟨.ref f, H1, I', rfl, h _ H1 ρ (e0.trans e1) r1 ⟨f, li, f0, rfl, hfr, fits, hk, r0.free nf, c', dV, pm, ctv, ?_, ?_, ?_, ?_⟩⟩
      · rw [hf0]; exact hf
      · rw [hf0]; exact hc
      · rcases nc with z | z
        · exact r0.free z
        · intro y
          obtain ⟨l, hl⟩ := List.mem_iff_getElem?.mp y
          obtain ⟨xs, q⟩ := r0.tracked hl
          rw [z] at q
          unfold LamX.CodeO at q
          cases q
      · unfold DfAt at df ⊢
        cases z : li.dflt with
        | none => rw [z] at df; exact df
        | some i =>
          rw [z] at df
          obtain ⟨T, a, b, d⟩ := df
          exact ⟨T, a, eN _ _ b (fun _ q => nomatch q), d⟩
  rw [arm_eval_Lambda]
  unfold DfE at hdef
  cases z : li.dflt with
  | none =>
    rw [z] at hdef
    rw [hdef]
    show wpAny _ _ (do let dv ← evalAll []; let kdv ← holding dv (evalAllOpt []); makeFunction "<lambda>" (X.env.qual ++ "<lambda>") li.params (.expr li.body) li.scope X.env dv kdv [] pos pos.line) _ _ s
    refine wpAny_bind (wpAny_pure (wpAny_bind (wpAny_holding (wpAny_pure ?_))))
    rw [makeFunction_eq]
    simp only [List.zip_nil_right, List.filterMap_nil, List.isEmpty_nil, if_true, pure_bind]
    refine mi_make (T := C.g.T) I TB hcode hm hu rs.tab hfree fun f c' pm ctv H1 s' I' eN dom nf tb hf hc nc => fin (ρ' := ρ) f c' pm ctv H1 s' (Ext.refl _ _) rs ?_ I' eN dom nf tb hf hc nc
    unfold DfAt
    rw [z]
  | some i =>
    rw [z] at hdef
    obtain ⟨j, p, hdef⟩ := hdef
    rw [hdef]
    show wpAny _ _ (do let dv ← evalAll [eval (.Constant (.int i) j p) X.env]; let kdv ← holding dv (evalAllOpt []); makeFunction "<lambda>" (X.env.qual ++ "<lambda>") li.params (.expr li.body) li.scope X.env dv kdv [] pos pos.line) _ _ s
    refine wpAny_bind (wpAny_evalAll_cons (thn (pe_int.run pins s σ H (fun v H' => v = .int i ∧ H' = H) I ⟨rfl, rfl⟩) fun u s1 ⟨v, H1, I1, r1, e1, e2⟩ => wpAny_evalAll_nil ?_))
    subst e1 e2
    obtain ⟨t, rfl⟩ := r1
    refine wpAny_bind (wpAny_holding (wpAny_pure ?_))
    rw [makeFunction_eq]
    simp only [List.zip_nil_right, List.filterMap_nil, List.isEmpty_nil, List.isEmpty_cons, if_true, pure_bind, Bool.false_eq_true, if_false]
    refine wpAny_bind (wpAny_newTextTuple ?_)
    have hn : H1 s1.heap.objs.size = none := I1.hok.fresh (Nat.le_refl _)
    have I2 := I1.laid (a := s1.heap.objs.size) (o := .tup [.int i]) (h' := s1.heap.push { cls := .type "tuple", data := .seq [Value.int i t].toArray }) (t' := s1.toks) (fun b o e => Heap.get?_push_of_some _ e) (Nat.le_refl _)
      ⟨by show 1 ≤ sizeLine; decide, [.int i t], .cons ⟨t, rfl⟩ .nil, ⟨_, Heap.get?_push_size _ rfl, rfl, _, rfl⟩⟩
    refine mi_make (T := C.g.T) I2 TB hcode hm hu (rs.new hn).tab hfree fun f c' pm ctv H2 s' I' eN dom nf tb hf hc nc => fin (ρ' := ρ) f c' pm ctv H2 s' (Ext.new hn) (rs.new hn) ?_ I' eN dom nf tb hf hc nc
    unfold DfAt
    rw [z]
    exact ⟨_, rfl, upd_same, rs.free hn⟩
/-- f(), f a lambda that was handed over -/
theorem pe_cv {i lvl : Nat} {x : Str} {p pos : Pos} (hF : FRes C.F) (hx : Passes (CXm C.md X.prog X.w) X W) (ck : CloOk C.md X.prog X.w X.K X.mg X.base C.g lvl C.F) (hr : Room lvl X.A) (hN : X.N[i]? = some x) (hv : Vis X.env.scope x) (hd : (x == ("__debug__" : Str)) = false) (hcd : (x == ("__classdict__" : Str)) = false) :
    PE X (.Call (.Name x p) [] [] pos) (tE C W (.cv i)) := by
  refine ⟨fun pins s σ H Q I h => ?_⟩
  obtain ⟨env, S, ρ, rs, re, h⟩ := h
  simp only [evE] at h
  split at h
  · rename_i k caps e
    obtain ⟨v, hσ, rv⟩ := re.at_ i _ e
    obtain ⟨f, q, cl, li, ev, clo, cc, rc⟩ := rv
    subst ev
    have rv' : RVl C.g.K C.g.LI none ρ H (.clo k caps) (.ref f) := ⟨f, q, cl, li, rfl, clo, cc, rc⟩
    refine wpAny_Call_Name_kw (thn ((pe_var (pos := p) (i := i) hN hv hd hcd).run pins s σ H (fun v H1 => v = .ref f ∧ H1 = H) I ⟨.ref f, hσ, rfl, rfl⟩) fun u s1 ⟨v, H1, I1, r1, q1⟩ => ?_)
    obtain ⟨ev, eH⟩ := q1
    subst ev eH
    obtain rfl : u = Value.ref f := r1
    obtain ⟨_, _, c', dV, pm, ctv, hf, _⟩ := id clo
    have of1 := (I1.hok f _ hf).1
    refine PySem.W.callWith_F0 ⟨_, _, _, _, of1⟩ ?_
    have po : PoE C.g none W Q ρ H1 (C.F k caps S) := by
      cases z : C.F k caps S with
      | bad => rw [z] at h; exact h
      | exc c d S1 => rw [z] at h; exact h
      | ok x S1 =>
        rw [z] at h
        exact fun v H' ρ' e s r => h v H' ρ' e s (r.dl (hF _ _ _ _ _ z) fun a o q _ => q)
    refine wpAny_call (codeAny_mono (ck X.A X.stack s1 H1 f k caps ρ S Q W hr I1.env0 rs rv' po) fun r s' hq => ?_)
    cases r with
    | error e => exact hx pins σ H1 s1 e s' I1 hq
    | ok fl =>
      cases fl with
      | ret u => exact I1.after hq
      | next => exact False.elim hq
      | brk => exact False.elim hq
      | cont => exact False.elim hq
  · exact h.elim
end
end Mi
set_option linter.all false
set_option maxRecDepth 100000
set_option maxHeartbeats 4000000
/-! Mi26: the words of the text against the small language: a checker, and what it gives. -/
namespace Mi
open PySem PySem.Spec PyProof.Rows L2
/-- the module's names -/
structure Nm where
  fn : Nat → Option (Str × List Str)
  gl : Nat → Option Str
  /-- lambdas may be called -/
  cv : Bool
def bltNames : List Str := ["isinstance", "int", "bool", "str", "tuple", "list", "len", "abs", "max", "all", "range", "enumerate", "zip"]
structure MdOk (C : Ctx) (X : Cx) (nm : Nm) (lvl : Nat) : Prop where
  res : FRes C.F
  fns : ∀ f x ps, nm.fn f = some (x, ps) → FnX C X f x ps
  gls : ∀ k x, nm.gl k = some x → ∃ d u v, C.P.gls[k]? = some d ∧ X.mg x = some u ∧ RelV v u ∧ ∀ ρ H, RD C.g.K ρ H d v
  blt : ∀ x ∈ bltNames, X.mg x = none
  clo : nm.cv = true → CloOk C.md X.prog X.w X.K X.mg X.base C.g lvl C.F
  room : Room lvl X.A
def visB (sc : Scope) (x : Str) : Bool := decide (sc.names.lookup x = some .local) || decide (sc.names.lookup x = some .cell) || decide (sc.names.lookup x = some .free)
theorem visB_ok {sc : Scope} {x : Str} (h : visB sc x = true) : Vis sc x := by
  unfold visB at h
  simp only [Bool.or_eq_true, decide_eq_true_eq] at h
  rcases h with (h | h) | h
  · exact .inl h
  · exact .inr (.inl h)
  · exact .inr (.inr h)
def locB (fa : Bool) (sc : Scope) (x : Str) : Bool := decide (sc.names.lookup x = some .local) || (fa && decide (sc.names.lookup x = some .cell))
def glB (sc : Scope) (x : Str) : Bool := decide (sc.names.lookup x = some .globalImplicit)
def okN (x : Str) : Bool := !(x == ("__debug__" : Str)) && !(x == ("__classdict__" : Str))
mutual
def chkT (N : List Str) (fa : Bool) (sc : Scope) : T → Expr → Bool
  | .nm i, e => match e with
    | .Name x _ => decide (N[i]? = some x) && locB fa sc x
    | _ => false
  | .tp ts, e => match e with
    | .Tuple es _ _ => chkTs N fa sc ts es && es.all nstar
    | _ => false
def chkTs (N : List Str) (fa : Bool) (sc : Scope) : List T → List Expr → Bool
  | [], es => es.isEmpty
  | t :: ts, es => match es with
    | e :: es => chkT N fa sc t e && nstar e && chkTs N fa sc ts es
    | [] => false
end
def notSetE : Expr → Bool
  | .Set _ _ _ => false
  | _ => true
theorem folded_plain {e : Expr} (h : notSetE e = true) (env : PySem.Env) : ∀ x, foldedSetIterable e env x = pure x := by
  intro x
  cases e <;> first | rfl | cases h
def notSl : Expr → Bool
  | .Slice _ _ _ _ => false
  | _ => true
theorem plainIx_of {b : Expr} (h : notSl b = true) : PlainIx b := by
  intro o i
  cases b <;> first | rfl | cases h
/-- the words that a walk's source is made of -/
def srcArgs (sc : Scope) (k : Sk) (tg iter : Expr) : Option (List Expr) :=
  match k with
  | .it => if notSetE iter then some [iter] else none
  | .rng1 => match iter with
    | .Call (.Name f _) [a] [] _ => if decide (f = ("range" : Str)) && glB sc f && nstar a then some [a] else none
    | _ => none
  | .rng2 => match iter with
    | .Call (.Name f _) [a, b] [] _ => if decide (f = ("range" : Str)) && glB sc f && nstar a && nstar b then some [a, b] else none
    | _ => none
  | .enum => match tg, iter with
    | .Tuple _ _ _, .Call (.Name f _) [a] [] _ => if decide (f = ("enumerate" : Str)) && glB sc f && nstar a then some [a] else none
    | _, _ => none
  | .zip => match tg, iter with
    | .Tuple _ _ _, .Call (.Name f _) [a, b] [] _ => if decide (f = ("zip" : Str)) && glB sc f && nstar a && nstar b then some [a, b] else none
    | _, _ => none
/-- an int default, or none -/
def dfltOf (p : Arguments) : Option (Option Int) :=
  match p with
  | ⟨[], [], none, [], [], none, []⟩ => some none
  | ⟨[], [_], none, [], [], none, [.Constant (.int i) _ _]⟩ => some (some i)
  | _ => none
/-- a lambda of the text -/
def lamOf (N : List Str) (sl : List Nat) (p : Arguments) (body : Expr) (scope : Scope) : LamI :=
  ⟨p, body, scope, sl.filterMap fun j => N[j]?, (dfltOf p).getD none, p.args.map (·.arg)⟩
def lamB (N : List Str) (sc : Scope) (sl : List Nat) (li : LamI) : Bool :=
  decide (sl.map (fun j => N[j]?) = li.caps.map some) && li.caps.all (fun y => decide ((y, NameKind.free) ∈ li.scope.names)) && li.scope.names.all (fun y => !decide (y.2 = .free) || (decide (y.1 ∈ li.caps) && (decide (sc.names.lookup y.1 = some .cell) || decide (sc.names.lookup y.1 = some .free)))) && (dfltOf li.params).isSome
/-- own names of a block with their places -/
def ownP (N : List Str) (own : List Nat) : List (Str × Nat) := own.filterMap fun i => (N[i]?).map fun x => (x, i)
section
variable (nm : Nm) (N : List Str)
mutual
def chkE (la : Bool) (sc : Scope) : Mi.E → Expr → Bool
  | .var i, e => match e with
    | .Name x _ => decide (N[i]? = some x) && visB sc x && okN x
    | _ => false
  | .non, e => match e with
    | .Constant .none _ _ => true
    | _ => false
  | .bl b, e => match e with
    | .Constant (.bool c) _ _ => b == c
    | _ => false
  | .int i, e => match e with
    | .Constant (.int j) _ _ => i == j
    | _ => false
  | .str s, e => match e with
    | .Constant (.str x) _ _ => decide (x.cps.toList = s)
    | _ => false
  | .gl k, e => match e with
    | .Name x _ => decide (nm.gl k = some x) && glB sc x && okN x
    | _ => false
  | .tup es, e => match e with
    | .Tuple fs _ _ => chkEs la sc es fs && fs.all nstar
    | _ => false
  | .lst _ es, e => match e with
    | .List fs _ => chkEs la sc es fs && fs.all nstar
    | _ => false
  | .dic, e => match e with
    | .Dict [] [] _ => true
    | _ => false
  | .bin o _ a b, e => match e with
    | .BinOp a' o' b' _ => decide (o' = opO o) && chkE false sc a a' && chkE false sc b b'
    | _ => false
  | .neg a, e => match e with
    | .UnaryOp .USub a' _ => chkE false sc a a'
    | _ => false
  | .cmp o a b, e => match e with
    | .Compare a' [o'] [b'] _ => decide (o' = cop o) && chkE false sc a a' && chkE false sc b b' && !behindInMarks (cop o) b'
    | _ => false
  | .chn o p a b c, e => match e with
    | .Compare a' [o', p'] [b', c'] _ => decide (o' = cop o) && decide (p' = cop p) && chkE false sc a a' && chkE false sc b b' && chkE false sc c c' && !lastMarks [cop o, cop p] [b', c']
    | _ => false
  | .and es, e => match e with
    | .BoolOp .And fs _ => chkEs la sc es fs && !es.isEmpty
    | _ => false
  | .or es, e => match e with
    | .BoolOp .Or fs _ => chkEs la sc es fs && !es.isEmpty
    | _ => false
  | .not a, e => match e with
    | .UnaryOp .Not a' _ => chkE la sc a a'
    | _ => false
  | .ife c a b, e => match e with
    | .IfExp c' a' b' _ => chkE false sc c c' && chkE false sc a a' && chkE false sc b b'
    | _ => false
  | .idx a i, e => match e with
    | .Subscript a' i' _ => chkE false sc a a' && chkE false sc i i' && notSl i'
    | _ => false
  | .sl _ a lo hi, e => match e with
    | .Subscript a' (.Slice lo' hi' none _) _ => chkE false sc a a' && chkEs false sc lo lo'.toList && chkEs false sc hi hi'.toList
    | _ => false
  | .rev _ a, e => match e with
    | .Subscript a' (.Slice none none (some (.UnaryOp .USub (.Constant (.int 1) _ _) _)) _) _ => chkE false sc a a'
    | _ => false
  | .isi a t, e => match e with
    | .Call (.Name f _) [a', .Name t' _] [] _ => decide (f = ("isinstance" : Str)) && decide (t' = Str.ofString (tyN t)) && glB sc f && glB sc t' && chkE false sc a a' && nstar a'
    | _ => false
  | .call f as ks, e => match e with
    | .Call (.Name x _) as' kws _ => match nm.fn f with
      | some (y, ps) => decide (x = y) && glB sc x && okN x && chkEs la sc as as' && chkEs false sc ks (kws.map (·.value)) && as'.all nstar && decide (kws.map (·.arg) = (ps.drop as'.length).map some)
      | none => false
    | _ => false
  | .blt b _ as, e => match e with
    | .Call (.Name x _) (a :: as') [] _ => decide (x = Str.ofString (bltN b)) && glB sc x && chkEs false sc as (a :: as') && (a :: as').all nstar && decide (b ≠ .any) && decide (b ≠ .rep)
    | _ => false
  | .mth m o as, e => match e with
    | .Call (.Attribute o' n apos) as' [] cpos => decide (n = Str.ofString (mthN m)) && chkE false sc o o' && chkEs false sc as as' && as'.all nstar && plainO o' && decide (as'.length < 30) && (apos.endLine == cpos.line) &&
        (if as'.isEmpty then decide (m = .pop ∨ m = .upper) else decide (m = .append ∨ m = .split ∨ m = .join))
    | _ => false
  | .comp _ own t k src cond x, e => match e with
    | .ListComp elt [⟨tg, iter, ifs, 0⟩] scope _ => match srcArgs sc k tg iter with
      | some as => chkEs false sc src as && blkC N sc scope (ownP N own) && decide ((ownP N own).map (·.2) = own) && t.slots.all (fun j => own.contains j) && chkT N false (relS scope sc) t tg &&
          chkEs false (relS scope sc) cond ifs && decide (cond.length ≤ 1) && chkE false (relS scope sc) x elt && notSetE iter
      | none => false
    | _ => false
  | .lam _ sl, e => match e with
    | .Lambda p body scope _ => la && lamB N sc sl (lamOf N sl p body scope)
    | _ => false
  | .cv i, e => match e with
    | .Call (.Name x _) [] [] _ => decide (N[i]? = some x) && visB sc x && okN x && nm.cv
    | _ => false
  | .un, _ => true
def chkEs (la : Bool) (sc : Scope) : List Mi.E → List Expr → Bool
  | [], fs => fs.isEmpty
  | x :: xs, fs => match fs with
    | f :: fs => chkE la sc x f && chkEs la sc xs fs
    | [] => false
end
mutual
/-- the lambdas -/
def lamsE : Mi.E → Expr → List (Nat × LamI)
  | .tup es, e => match e with
    | .Tuple fs _ _ => lamsEs es fs
    | _ => []
  | .lst _ es, e => match e with
    | .List fs _ => lamsEs es fs
    | _ => []
  | .and es, e => match e with
    | .BoolOp _ fs _ => lamsEs es fs
    | _ => []
  | .or es, e => match e with
    | .BoolOp _ fs _ => lamsEs es fs
    | _ => []
  | .not a, e => match e with
    | .UnaryOp _ a' _ => lamsE a a'
    | _ => []
  | .call _ as _, e => match e with
    | .Call _ as' _ _ => lamsEs as as'
    | _ => []
  | .lam k sl, e => match e with
    | .Lambda p body scope _ => [(k, lamOf N sl p body scope)]
    | _ => []
  | _, _ => []
def lamsEs : List Mi.E → List Expr → List (Nat × LamI)
  | [], _ => []
  | x :: xs, fs => match fs with
    | f :: fs => lamsE x f ++ lamsEs xs fs
    | [] => []
end
end
/-- all that a frame's words lean on -/
structure EOk (C : Ctx) (X : Cx) (W : XK) (nm : Nm) (lvl : Nat) (N : List Str) (la fa : Bool) (sc : Scope) : Prop where
  fo : FrOk C X
  ch : XCh C.md X W
  md : MdOk C X nm lvl
  hN : X.N = N
  hsc : X.env.scope = sc
  la : la = true → LamX' C X ∧ ∃ f0, C.fr = some f0
  fa : fa = true → ∀ x, X.fn x = true
theorem EOk.nola {C : Ctx} {X : Cx} {W : XK} {nm : Nm} {lvl : Nat} {N : List Str} {la fa : Bool} {sc : Scope} (o : EOk C X W nm lvl N la fa sc) : EOk C X W nm lvl N false fa sc := ⟨o.fo, o.ch, o.md, o.hN, o.hsc, fun z => (nomatch z), o.fa⟩
end Mi
set_option linter.all false
set_option maxRecDepth 100000
set_option maxHeartbeats 4000000
/-! Mi27: what the checker gives: every expression is read as the small language says. -/
namespace Mi
open PySem PySem.Spec PyProof.Rows L2
theorem andB {a b : Bool} (h : (a && b) = true) : a = true ∧ b = true := by
  rw [Bool.and_eq_true] at h; exact h
section
variable {C : Ctx} {X : Cx} {W : XK} {nm : Nm} {lvl : Nat} {N : List Str} {la fa : Bool} {sc : Scope}
theorem EOk.gl' (o : EOk C X W nm lvl N la fa sc) {x : Str} (h : glB sc x = true) : Gl X x := by
  unfold glB at h
  rw [← o.hsc] at h
  have h' : X.env.scope.names.lookup x = some .globalImplicit := of_decide_eq_true h
  exact h'
theorem dflt_none {p : Arguments} {env : PySem.Env} (h : dfltOf p = some none) : defaultsOf p env = ([], []) := by
  unfold dfltOf at h
  split at h
  · rfl
  · cases h
  · cases h
theorem dflt_some {p : Arguments} {env : PySem.Env} {i : Int} (h : dfltOf p = some (some i)) : ∃ j pp, defaultsOf p env = ([eval (.Constant (.int i) j pp) env], []) := by
  unfold dfltOf at h
  split at h
  · cases h
  · cases h
    exact ⟨_, _, rfl⟩
  · cases h
theorem okN_ok {x : Str} (h : okN x = true) : (x == ("__debug__" : Str)) = false ∧ (x == ("__classdict__" : Str)) = false := by
  unfold okN at h
  obtain ⟨a, b⟩ := andB h
  exact ⟨by simpa using a, by simpa using b⟩
mutual
theorem pg_all (o : EOk C X W nm lvl N la fa sc) : ∀ (t : T) (e : Expr), chkT N fa sc t e = true → PG X e (gT C t)
  | .nm i, e, h => by
    cases e <;> simp only [chkT] at h <;> try (cases h; done)
    rename_i x pos
    obtain ⟨h1, h2⟩ := andB h
    have h1 := of_decide_eq_true h1
    unfold locB at h2
    rw [Bool.or_eq_true] at h2
    have hsc := o.hsc
    rcases h2 with h2 | h2
    · have h2 := of_decide_eq_true h2
      rw [← hsc] at h2
      exact pg_nm o.fo.nd (by rw [o.hN]; exact h1) (.inl h2) (.inr h2)
    · obtain ⟨h3, h2⟩ := andB h2
      have h2 := of_decide_eq_true h2
      rw [← hsc] at h2
      exact pg_nm o.fo.nd (by rw [o.hN]; exact h1) (.inr h2) (.inl (o.fa h3 x))
  | .tp ts, e, h => by
    cases e <;> simp only [chkT] at h <;> try (cases h; done)
    rename_i es k pos
    obtain ⟨h1, h2⟩ := andB h
    obtain ⟨p, hl⟩ := pgs_all o ts es h1
    exact pg_tpl o.fo.calm o.fo.K p h2 hl
theorem pgs_all (o : EOk C X W nm lvl N la fa sc) : ∀ (ts : List T) (es : List Expr), chkTs N fa sc ts es = true → PGs X es (gTs C ts) ∧ es.length = ts.length
  | [], es, h => by
    cases es with
    | nil => exact ⟨pgs_n, rfl⟩
    | cons _ _ => cases h
  | t :: ts, es, h => by
    cases es with
    | nil => cases h
    | cons e es =>
      simp only [chkTs] at h
      obtain ⟨h12, h3⟩ := andB h
      obtain ⟨h1, h2⟩ := andB h12
      obtain ⟨p, hl⟩ := pgs_all o ts es h3
      exact ⟨pgs_c (pg_all o t e h1) p h2, by simp [hl]⟩
end
/-- a walk's source -/
theorem pi_all (o : EOk C X W nm lvl N la fa sc) {k : Sk} {tg iter : Expr} {as : List Expr} {src : List Mi.E} (h : srcArgs sc k tg iter = some as) (p : PBs C X W as src) : PI X tg iter (tSrc C W k src) := by
  have blt := o.md.blt
  cases k with
  | it =>
    simp only [srcArgs] at h
    split at h
    · cases h
      cases src with
      | nil => exact p.elim
      | cons x xs =>
        cases xs with
        | nil => exact pi_it o.fo.K p.1.pe
        | cons _ _ => exact p.2.elim
    · cases h
  | rng1 =>
    simp only [srcArgs] at h
    split at h
    · rename_i f p1 a p2
      split at h
      · rename_i hc
        cases h
        obtain ⟨h12, h3⟩ := andB hc
        obtain ⟨h1, h2⟩ := andB h12
        have h1 := of_decide_eq_true h1
        subst h1
        exact pi_r1 (o.gl' h2) (blt _ (by simp [bltNames])) (pa_s p (by simp [h3])) h3
      · cases h
    · cases h
  | rng2 =>
    simp only [srcArgs] at h
    split at h
    · rename_i f p1 a b p2
      split at h
      · rename_i hc
        cases h
        obtain ⟨h123, h4⟩ := andB hc
        obtain ⟨h12, h3⟩ := andB h123
        obtain ⟨h1, h2⟩ := andB h12
        have h1 := of_decide_eq_true h1
        subst h1
        exact pi_r2 (o.gl' h2) (blt _ (by simp [bltNames])) (pa_s p (by simp [h3, h4])) h3 h4
      · cases h
    · cases h
  | enum =>
    simp only [srcArgs] at h
    split at h
    · rename_i es kk tp f p1 a p2
      split at h
      · rename_i hc
        cases h
        obtain ⟨h12, h3⟩ := andB hc
        obtain ⟨h1, h2⟩ := andB h12
        have h1 := of_decide_eq_true h1
        subst h1
        exact pi_en o.fo.K (o.gl' h2) (blt _ (by simp [bltNames])) (pa_s p (by simp [h3])) h3
      · cases h
    · cases h
  | zip =>
    simp only [srcArgs] at h
    split at h
    · rename_i es kk tp f p1 a b p2
      split at h
      · rename_i hc
        cases h
        obtain ⟨h123, h4⟩ := andB hc
        obtain ⟨h12, h3⟩ := andB h123
        obtain ⟨h1, h2⟩ := andB h12
        have h1 := of_decide_eq_true h1
        subst h1
        exact pi_zp o.fo.K (o.gl' h2) (blt _ (by simp [bltNames])) (pa_s p (by simp [h3, h4])) h3 h4
      · cases h
    · cases h
/-- the block's facts -/
theorem EOk.blk (o : EOk C X W nm lvl N la fa sc) {s : Shared} {H : Hp} {scope : Scope} {ce : PySem.Env} {fp : List Addr} {xe : Value → Shared → Prop} (h1 : ce.scope = relS scope X.env.scope) (ch : XCh C.md (XB X s H scope ce fp xe) W) (fo : FrOk C.blk (XB X s H scope ce fp xe)) :
    EOk C.blk (XB X s H scope ce fp xe) W nm lvl N false false (relS scope sc) :=
  ⟨fo, ch, ⟨o.md.res, fun f x ps h => let ⟨a, b⟩ := o.md.fns f x ps h; ⟨a, b⟩, o.md.gls, o.md.blt, o.md.clo, o.md.room⟩, o.hN, by rw [← o.hsc]; exact h1, fun z => (nomatch z), fun z => (nomatch z)⟩
/-- an expression without a test of its own -/
theorem PB.val {e : Expr} {x : Mi.E} (h : PE X e (tE C W x)) (he : ∀ whole, isTrue e X.env whole = (do let v ← whole; standAt e.pos; holding [v] (truthy v))) : PB C X W e x := ⟨h, pt_v h he⟩
theorem plo_of {e : Option Expr} {lo : List Mi.E} (h : PBs C X W e.toList lo) : PLo C X W e lo := by
  cases e with
  | none =>
    cases lo with
    | nil => trivial
    | cons _ _ => exact h.elim
  | some e =>
    cases lo with
    | nil => exact h.elim
    | cons x xs =>
      cases xs with
      | nil => exact h.1.pe
      | cons _ _ => exact h.2.elim
theorem pks_of : ∀ {kws : List Keyword} {ks : List Mi.E}, PBs C X W (kws.map (·.value)) ks → PKs C X W kws ks
  | [], [], _ => trivial
  | _ :: _, _ :: _, h => ⟨h.1.pe, pks_of h.2⟩
  | [], _ :: _, h => h.elim
  | _ :: _, [], h => h.elim
theorem pcd_of {ifs : List Expr} {cond : List Mi.E} (h : PBs C X W ifs cond) (hl : cond.length ≤ 1) : PCd C X W ifs cond := by
  cases ifs with
  | nil =>
    cases cond with
    | nil => trivial
    | cons _ _ => exact h.elim
  | cons e es =>
    cases cond with
    | nil => exact h.elim
    | cons x xs =>
      cases xs with
      | nil =>
        cases es with
        | nil => exact h.1.pt
        | cons _ _ => exact h.2.elim
      | cons _ _ => simp at hl
theorem lam_fits (o : EOk C X W nm lvl N la fa sc) {f0 : Fr0} (hf : C.fr = some f0) {sl : List Nat} {p : Arguments} {body : Expr} {scope : Scope} (h : lamB N sc sl (lamOf N sl p body scope) = true) : LamFits f0 (lamOf N sl p body scope) sl ∧ DfE X.env (lamOf N sl p body scope) := by
  unfold lamB at h
  obtain ⟨h123, h4⟩ := andB h
  obtain ⟨h12, h3⟩ := andB h123
  obtain ⟨h1, h2⟩ := andB h12
  obtain ⟨hf0, _⟩ := o.fo.fr f0 hf
  have h1 := of_decide_eq_true h1
  rw [List.all_eq_true] at h2 h3
  refine ⟨⟨by rw [hf0, o.hN]; exact h1, fun y hy => of_decide_eq_true (h2 y hy), fun y hy e => ?_, fun y hy e => ?_⟩, ?_⟩
  · have z := h3 y hy
    simp only [e, Bool.or_eq_true, Bool.and_eq_true, decide_eq_true_eq, Bool.not_eq_true', decide_true, Bool.true_eq_false, false_or, Bool.not_true, Bool.false_eq_true] at z
    exact z.1
  · have z := h3 y hy
    simp only [e, Bool.or_eq_true, Bool.and_eq_true, decide_eq_true_eq, Bool.not_eq_true', decide_true, Bool.true_eq_false, false_or, Bool.not_true, Bool.false_eq_true] at z
    rw [hf0, o.hsc]
    exact z.2
  · have h4 : (dfltOf p).isSome = true := h4
    show DfE X.env ⟨p, body, scope, _, (dfltOf p).getD none, _⟩
    unfold DfE
    dsimp only
    cases q : dfltOf p with
    | none => rw [q] at h4; cases h4
    | some d =>
      cases d with
      | none => exact dflt_none q
      | some i => exact dflt_some q
end
end Mi
set_option linter.all false
set_option maxRecDepth 100000
set_option maxHeartbeats 8000000
/-! Mi28: every expression that the checker passes. -/
namespace Mi
open PySem PySem.Spec PyProof.Rows L2
theorem pe_un' {C : Ctx} {X : Cx} {W : XK} {e : Expr} : PB C X W e .un := ⟨⟨fun pins s σ H Q I ⟨env, S, ρ, rs, re, h⟩ => h.elim⟩, ⟨fun pins s σ H Q I ⟨env, S, ρ, rs, re, h⟩ => h.elim⟩⟩
section
variable {nm : Nm} {lvl : Nat} {N : List Str}
mutual
/-- where lambdas are not allowed, there are none -/
theorem lamsE_off' : ∀ (x : Mi.E) (e : Expr) {sc : Scope}, chkE nm N false sc x e = true → lamsE N x e = []
  | .var _, _, _, _ => rfl
  | .non, _, _, _ => rfl
  | .bl _, _, _, _ => rfl
  | .int _, _, _, _ => rfl
  | .str _, _, _, _ => rfl
  | .gl _, _, _, _ => rfl
  | .dic, _, _, _ => rfl
  | .bin _ _ _ _, _, _, _ => rfl
  | .neg _, _, _, _ => rfl
  | .cmp _ _ _, _, _, _ => rfl
  | .chn _ _ _ _ _, _, _, _ => rfl
  | .ife _ _ _, _, _, _ => rfl
  | .idx _ _, _, _, _ => rfl
  | .sl _ _ _ _, _, _, _ => rfl
  | .rev _ _, _, _, _ => rfl
  | .isi _ _, _, _, _ => rfl
  | .blt _ _ _, _, _, _ => rfl
  | .mth _ _ _, _, _, _ => rfl
  | .comp _ _ _ _ _ _ _, _, _, _ => rfl
  | .cv _, _, _, _ => rfl
  | .un, _, _, _ => rfl
  | .tup es, e, sc, h => by
    cases e <;> simp only [chkE] at h <;> try (cases h; done)
    simp only [lamsE]
    exact lamsEs_off' es _ (andB h).1
  | .lst mu es, e, sc, h => by
    cases e <;> simp only [chkE] at h <;> try (cases h; done)
    simp only [lamsE]
    exact lamsEs_off' es _ (andB h).1
  | .and es, e, sc, h => by
    simp only [chkE] at h
    split at h
    · simp only [lamsE]
      exact lamsEs_off' es _ (andB h).1
    · cases h
  | .or es, e, sc, h => by
    simp only [chkE] at h
    split at h
    · simp only [lamsE]
      exact lamsEs_off' es _ (andB h).1
    · cases h
  | .not a, e, sc, h => by
    simp only [chkE] at h
    split at h
    · simp only [lamsE]
      exact lamsE_off' a _ h
    · cases h
  | .call f as ks, e, sc, h => by
    simp only [chkE] at h
    split at h
    · split at h
      · simp only [lamsE]
        exact lamsEs_off' as _ (andB (andB (andB (andB h).1).1).1).2
      · cases h
    · cases h
  | .lam k sl, e, sc, h => by
    cases e <;> simp only [chkE] at h <;> try (cases h; done)
theorem lamsEs_off' : ∀ (xs : List Mi.E) (es : List Expr) {sc : Scope}, chkEs nm N false sc xs es = true → lamsEs N xs es = []
  | [], es, sc, h => by simp [lamsEs]
  | x :: xs, es, sc, h => by
    cases es with
    | nil => cases h
    | cons e es =>
      simp only [chkEs] at h
      obtain ⟨h1, h2⟩ := andB h
      simp only [lamsEs]
      rw [lamsE_off' x e h1, lamsEs_off' xs es h2]
      rfl
end
theorem lamsE_off {x : Mi.E} {e : Expr} {sc : Scope} {LI : LamT} (h : chkE nm N false sc x e = true) : ∀ p ∈ lamsE N x e, LI p.1 = some p.2 := by
  rw [lamsE_off' x e h]; simp
theorem lamsEs_off {x : List Mi.E} {e : List Expr} {sc : Scope} {LI : LamT} (h : chkEs nm N false sc x e = true) : ∀ p ∈ lamsEs N x e, LI p.1 = some p.2 := by
  rw [lamsEs_off' x e h]; simp
mutual
theorem pb_all : ∀ (x : Mi.E) (e : Expr) {C : Ctx} {X : Cx} {W : XK} {la fa : Bool} {sc : Scope}, EOk C X W nm lvl N la fa sc → (∀ p ∈ lamsE N x e, C.g.LI p.1 = some p.2) → chkE nm N la sc x e = true → PB C X W e x
  | .var i, e, C, X, W, la, fa, sc, o, hl, h => by
    cases e <;> simp only [chkE] at h <;> try (cases h; done)
    rename_i x pos
    obtain ⟨h12, h3⟩ := andB h
    obtain ⟨h1, h2⟩ := andB h12
    obtain ⟨d1, d2⟩ := okN_ok h3
    exact PB.val (pe_v (by rw [o.hN]; exact of_decide_eq_true h1) (by rw [o.hsc]; exact visB_ok h2) d1 d2) fun _ => rfl
  | .non, e, C, X, W, la, fa, sc, o, hl, h => by
    simp only [chkE] at h
    split at h
    · exact PB.val (pe_const (d := .non) pe_non (fun _ _ => rfl) fun _ _ => rfl) fun _ => rfl
    · cases h
  | .bl b, e, C, X, W, la, fa, sc, o, hl, h => by
    simp only [chkE] at h
    split at h
    · have h := eq_of_beq h
      subst h
      exact PB.val (pe_const (d := .bl b) pe_bl (fun _ _ => rfl) fun _ _ => rfl) fun _ => rfl
    · cases h
  | .int i, e, C, X, W, la, fa, sc, o, hl, h => by
    simp only [chkE] at h
    split at h
    · have h := eq_of_beq h
      subst h
      exact PB.val (pe_const (d := .int i) pe_int (fun _ _ => rfl) fun _ _ => rfl) fun _ => rfl
    · cases h
  | .str z, e, C, X, W, la, fa, sc, o, hl, h => by
    simp only [chkE] at h
    split at h
    · rename_i x _ _
      have h := of_decide_eq_true h
      have hx : x = toS z := by rw [← h]
      subst hx
      exact PB.val (pe_const (d := .str z) pe_str (fun _ _ => rfl) fun _ _ => rfl) fun _ => rfl
    · cases h
  | .gl k, e, C, X, W, la, fa, sc, o, hl, h => by
    cases e <;> simp only [chkE] at h <;> try (cases h; done)
    rename_i x pos
    obtain ⟨h12, h3⟩ := andB h
    obtain ⟨h1, h2⟩ := andB h12
    obtain ⟨d1, d2⟩ := okN_ok h3
    obtain ⟨d, u, v, e1, e2, e3, e4⟩ := o.md.gls k x (of_decide_eq_true h1)
    exact PB.val (pe_const (d := d) (pe_glob (o.gl' h2) e2 e3 d1) (fun env S => by simp only [evE, e1]; rfl) e4) fun _ => rfl
  | .tup es, e, C, X, W, la, fa, sc, o, hl, h => by
    cases e <;> simp only [chkE] at h <;> try (cases h; done)
    obtain ⟨h1, h2⟩ := andB h
    simp only [lamsE] at hl
    exact PB.val (pe_tp (pa_s (pbs_all es _ o hl h1) h2)) fun _ => rfl
  | .lst mu es, e, C, X, W, la, fa, sc, o, hl, h => by
    cases e <;> simp only [chkE] at h <;> try (cases h; done)
    obtain ⟨h1, h2⟩ := andB h
    simp only [lamsE] at hl
    exact PB.val (pe_ls (pa_s (pbs_all es _ o hl h1) h2)) fun _ => rfl
  | .dic, e, C, X, W, la, fa, sc, o, hl, h => by
    simp only [chkE] at h
    split at h
    · exact PB.val pe_dc fun _ => rfl
    · cases h
  | .bin op mu a b, e, C, X, W, la, fa, sc, o, hl, h => by
    cases e <;> simp only [chkE] at h <;> try (cases h; done)
    obtain ⟨h12, h3⟩ := andB h
    obtain ⟨h1, h2⟩ := andB h12
    have h1 := of_decide_eq_true h1
    subst h1
    have pa := (pb_all a _ o.nola (lamsE_off h2) h2).pe
    have pb := (pb_all b _ o.nola (lamsE_off h3) h3).pe
    refine PB.val (pe_b ?_ pa pb) fun _ => rfl
    cases op with
    | add => exact opr_add o.fo.K mu
    | sub => exact opr_sub
    | mul => exact opr_mul o.fo.K mu
    | fdiv => exact opr_fdiv
    | mod => exact opr_mod
    | pow => exact opr_pow
  | .neg a, e, C, X, W, la, fa, sc, o, hl, h => by
    simp only [chkE] at h
    split at h
    · exact PB.val (pe_ng (pb_all a _ o.nola (lamsE_off h) h).pe) fun _ => rfl
    · cases h
  | .cmp op a b, e, C, X, W, la, fa, sc, o, hl, h => by
    simp only [chkE] at h
    split at h
    · rename_i a' o' b' pos
      obtain ⟨h123, h4⟩ := andB h
      obtain ⟨h12, h3⟩ := andB h123
      obtain ⟨h1, h2⟩ := andB h12
      have h1 := of_decide_eq_true h1
      subst h1
      have pa := (pb_all a _ o.nola (lamsE_off h2) h2).pe
      have pb := (pb_all b _ o.nola (lamsE_off h3) h3).pe
      have hm : behindInMarks (cop op) b' = false := by simpa using h4
      exact ⟨pe_cm (opc o.fo.un o.fo.K op) pa pb hm, pt_cm (opc o.fo.un o.fo.K op) pa pb hm⟩
    · cases h
  | .chn op q a b c, e, C, X, W, la, fa, sc, o, hl, h => by
    simp only [chkE] at h
    split at h
    · rename_i a' o' p' b' c' pos
      obtain ⟨h12345, h6⟩ := andB h
      obtain ⟨h1234, h5⟩ := andB h12345
      obtain ⟨h123, h4⟩ := andB h1234
      obtain ⟨h12, h3⟩ := andB h123
      obtain ⟨h1, h2⟩ := andB h12
      have h1 := of_decide_eq_true h1
      have h2 := of_decide_eq_true h2
      subst h1 h2
      have pa := (pb_all a _ o.nola (lamsE_off h3) h3).pe
      have pb := (pb_all b _ o.nola (lamsE_off h4) h4).pe
      have pc := (pb_all c _ o.nola (lamsE_off h5) h5).pe
      have hm : lastMarks [cop op, cop q] [b', c'] = false := by simpa using h6
      exact ⟨pe_ch o.fo.un o.fo.K pa pb pc hm, pt_ch o.fo.un o.fo.K pa pb pc hm⟩
    · cases h
  | .and es, e, C, X, W, la, fa, sc, o, hl, h => by
    simp only [chkE] at h
    split at h
    · obtain ⟨h1, h2⟩ := andB h
      simp only [lamsE] at hl
      have p := pbs_all es _ o hl h1
      have n : es ≠ [] := by intro z; subst z; simp at h2
      exact ⟨pe_ands p n, (pw_ands p n).pt⟩
    · cases h
  | .or es, e, C, X, W, la, fa, sc, o, hl, h => by
    simp only [chkE] at h
    split at h
    · obtain ⟨h1, h2⟩ := andB h
      simp only [lamsE] at hl
      have p := pbs_all es _ o hl h1
      have n : es ≠ [] := by intro z; subst z; simp at h2
      exact ⟨pe_ors p n, (pw_ors p n).pt⟩
    · cases h
  | .not a, e, C, X, W, la, fa, sc, o, hl, h => by
    simp only [chkE] at h
    split at h
    · simp only [lamsE] at hl
      have p := pb_all a _ o hl h
      exact ⟨pe_nt p.pe, pt_nt p.pt⟩
    · cases h
  | .ife c a b, e, C, X, W, la, fa, sc, o, hl, h => by
    cases e <;> simp only [chkE] at h <;> try (cases h; done)
    obtain ⟨h12, h3⟩ := andB h
    obtain ⟨h1, h2⟩ := andB h12
    have pc := pb_all c _ o.nola (lamsE_off h1) h1
    have pa := pb_all a _ o.nola (lamsE_off h2) h2
    have pb := pb_all b _ o.nola (lamsE_off h3) h3
    exact ⟨pe_if pc.pt pa.pe pb.pe, pt_if pc.pt pa.pt pb.pt⟩
  | .idx a i, e, C, X, W, la, fa, sc, o, hl, h => by
    cases e <;> simp only [chkE] at h <;> try (cases h; done)
    obtain ⟨h12, h3⟩ := andB h
    obtain ⟨h1, h2⟩ := andB h12
    exact PB.val (pe_x o.fo.K (pb_all a _ o.nola (lamsE_off h1) h1).pe (pb_all i _ o.nola (lamsE_off h2) h2).pe (plainIx_of h3)) fun _ => rfl
  | .sl mu a lo hi, e, C, X, W, la, fa, sc, o, hl, h => by
    simp only [chkE] at h
    split at h
    · obtain ⟨h12, h3⟩ := andB h
      obtain ⟨h1, h2⟩ := andB h12
      exact PB.val (pe_s o.fo.K (pb_all a _ o.nola (lamsE_off h1) h1).pe (plo_of (pbs_all lo _ o.nola (lamsEs_off h2) h2)) (plo_of (pbs_all hi _ o.nola (lamsEs_off h3) h3))) fun _ => rfl
    · cases h
  | .rev mu a, e, C, X, W, la, fa, sc, o, hl, h => by
    simp only [chkE] at h
    split at h
    · exact PB.val (pe_rv o.fo.K (pb_all a _ o.nola (lamsE_off h) h).pe) fun _ => rfl
    · cases h
  | .isi a t, e, C, X, W, la, fa, sc, o, hl, h => by
    simp only [chkE] at h
    split at h
    · obtain ⟨h12345, h6⟩ := andB h
      obtain ⟨h1234, h5⟩ := andB h12345
      obtain ⟨h123, h4⟩ := andB h1234
      obtain ⟨h12, h3⟩ := andB h123
      obtain ⟨h1, h2⟩ := andB h12
      have h1 := of_decide_eq_true h1
      have h2 := of_decide_eq_true h2
      subst h1 h2
      exact PB.val (pe_is (o.gl' h3) (o.md.blt _ (by simp [bltNames])) (o.gl' h4) (o.md.blt _ (by cases t <;> simp [bltNames, tyN])) o.fo.K (pb_all a _ o.nola (lamsE_off h5) h5).pe h6) fun _ => rfl
    · cases h
  | .call f as ks, e, C, X, W, la, fa, sc, o, hl, h => by
    simp only [chkE] at h
    split at h
    · rename_i x p1 as' kws p2
      split at h
      · rename_i y ps e1
        obtain ⟨h123456, h7⟩ := andB h
        obtain ⟨h12345, h6⟩ := andB h123456
        obtain ⟨h1234, h5⟩ := andB h12345
        obtain ⟨h123, h4⟩ := andB h1234
        obtain ⟨h12, h3⟩ := andB h123
        obtain ⟨h1, h2⟩ := andB h12
        have h1 := of_decide_eq_true h1
        subst h1
        simp only [lamsE] at hl
        obtain ⟨d1, d2⟩ := okN_ok h3
        exact PB.val (pe_fn o.fo o.md.res o.ch.call (o.md.fns f x ps e1) (o.gl' h2) d1 (pbs_all as _ o hl h4) (pks_of (pbs_all ks _ o.nola (lamsEs_off h5) h5)) h6 (of_decide_eq_true h7)) fun _ => rfl
      · cases h
    · cases h
  | .blt b mu as, e, C, X, W, la, fa, sc, o, hl, h => by
    simp only [chkE] at h
    split at h
    · rename_i x p1 a as' p2
      obtain ⟨h12345, h6⟩ := andB h
      obtain ⟨h1234, h5⟩ := andB h12345
      obtain ⟨h123, h4⟩ := andB h1234
      obtain ⟨h12, h3⟩ := andB h123
      obtain ⟨h1, h2⟩ := andB h12
      have h1 := of_decide_eq_true h1
      subst h1
      have h5 := of_decide_eq_true h5
      have h6 := of_decide_eq_true h6
      have hu : X.A.units + 64 < cLine := by have := o.fo.un; omega
      refine PB.val (pe_bl2 o.fo.calm hu o.fo.K (o.gl' h2) (o.md.blt _ ?_) (pa_s (pbs_all as _ o.nola (lamsEs_off h3) h3) h4) h4 ⟨h5, h6⟩) fun _ => rfl
      cases b <;> first | exact absurd rfl h5 | exact absurd rfl h6 | simp [bltNames, bltN]
    · cases h
  | .mth m ob as, e, C, X, W, la, fa, sc, o, hl, h => by
    simp only [chkE] at h
    split at h
    · rename_i o' n apos as' cpos
      obtain ⟨h1234567, h8⟩ := andB h
      obtain ⟨h123456, h7⟩ := andB h1234567
      obtain ⟨h12345, h6⟩ := andB h123456
      obtain ⟨h1234, h5⟩ := andB h12345
      obtain ⟨h123, h4⟩ := andB h1234
      obtain ⟨h12, h3⟩ := andB h123
      obtain ⟨h1, h2⟩ := andB h12
      have h1 := of_decide_eq_true h1
      subst h1
      have po := (pb_all ob _ o.nola (lamsE_off h2) h2).pe
      have pas := pbs_all as _ o.nola (lamsEs_off h3) h3
      cases as' with
      | nil =>
        cases as with
        | nil => exact PB.val (pe_mt0 po h5 h7 (of_decide_eq_true h8)) fun _ => rfl
        | cons _ _ => exact pas.elim
      | cons a as' => exact PB.val (pe_mt o.fo.K po (pa_s pas h4) h4 h5 (of_decide_eq_true h6) h7 (of_decide_eq_true h8)) fun _ => rfl
    · cases h
  | .comp mu own t k src cond x, e, C, X, W, la, fa, sc, o, hl, h => by
    simp only [chkE] at h
    split at h
    · rename_i elt tg iter ifs scope pos
      split at h
      · rename_i as e1
        obtain ⟨h12345678, h9⟩ := andB h
        obtain ⟨h1234567, h8⟩ := andB h12345678
        obtain ⟨h123456, h7⟩ := andB h1234567
        obtain ⟨h12345, h6⟩ := andB h123456
        obtain ⟨h1234, h5⟩ := andB h12345
        obtain ⟨h123, h4⟩ := andB h1234
        obtain ⟨h12, h3⟩ := andB h123
        obtain ⟨h1, h2⟩ := andB h12
        have hown := of_decide_eq_true h3
        have ps := pbs_all src _ o.nola (lamsEs_off h1) h1
        have ok : BlkOk X.N X.env.scope scope (ownP N own) := by rw [o.hN, o.hsc]; exact blkOk_by h2
        have main := pe_cp (mu := mu) (t := t) (k := k) (src := src) (cond := cond) (e := x) (elt := elt) (tg := tg) (iter := iter) (ifs := ifs) (pos := pos) o.fo o.ch (pi_all o e1 ps) ok (folded_plain h9 _) (fun j hj => by
          rw [List.all_eq_true] at h4
          have z := h4 j hj
          rw [hown]
          simpa using z) (fun s H ce fp xe q1 q2 q3 => by
          have o' := o.blk q1 q2 q3
          exact ⟨pg_all o' t tg h5, pcd_of (pbs_all cond _ o' (lamsEs_off h6) h6) (of_decide_eq_true h7), (pb_all x _ o' (lamsE_off h8) h8).pe⟩)
        rw [hown] at main
        exact PB.val main fun _ => rfl
      · cases h
    · cases h
  | .lam k sl, e, C, X, W, la, fa, sc, o, hl, h => by
    cases e <;> simp only [chkE] at h <;> try (cases h; done)
    rename_i p body scope pos
    obtain ⟨h1, h2⟩ := andB h
    obtain ⟨lx, f0, hf⟩ := o.la h1
    obtain ⟨fits, df⟩ := lam_fits o hf h2
    have hk := hl _ (by simp only [lamsE]; exact List.mem_singleton.mpr rfl)
    exact PB.val (pe_lm (li := lamOf N sl p body scope) o.fo hf hk fits lx df) fun _ => rfl
  | .cv i, e, C, X, W, la, fa, sc, o, hl, h => by
    simp only [chkE] at h
    split at h
    · obtain ⟨h123, h4⟩ := andB h
      obtain ⟨h12, h3⟩ := andB h123
      obtain ⟨h1, h2⟩ := andB h12
      obtain ⟨d1, d2⟩ := okN_ok h3
      exact PB.val (pe_cv o.md.res o.ch.call (o.md.clo h4) o.md.room (by rw [o.hN]; exact of_decide_eq_true h1) (by rw [o.hsc]; exact visB_ok h2) d1 d2) fun _ => rfl
    · cases h
  | .un, e, C, X, W, la, fa, sc, o, hl, h => pe_un'
theorem pbs_all : ∀ (xs : List Mi.E) (es : List Expr) {C : Ctx} {X : Cx} {W : XK} {la fa : Bool} {sc : Scope}, EOk C X W nm lvl N la fa sc → (∀ p ∈ lamsEs N xs es, C.g.LI p.1 = some p.2) → chkEs nm N la sc xs es = true → PBs C X W es xs
  | [], es, C, X, W, la, fa, sc, o, hl, h => by
    cases es with
    | nil => trivial
    | cons _ _ => cases h
  | x :: xs, es, C, X, W, la, fa, sc, o, hl, h => by
    cases es with
    | nil => cases h
    | cons e es =>
      simp only [chkEs] at h
      obtain ⟨h1, h2⟩ := andB h
      simp only [lamsEs] at hl
      exact ⟨pb_all x e o (fun p hp => hl p (List.mem_append_left _ hp)) h1, pbs_all xs es o (fun p hp => hl p (List.mem_append_right _ hp)) h2⟩
end
end
end Mi
set_option linter.all false
set_option maxRecDepth 100000
set_option maxHeartbeats 2000000
/-! Mi29: statements. -/
namespace Mi
open PySem PySem.Spec PyProof.Rows L2
/-- a wish at every state of the frame's slots -/
def EW (n : Nat) (W : WX) : XK := fun cls d H => ∀ σ : L2.St, σ.length = n → W cls d σ H
/-- behind a statement -/
def PoF (C : Ctx) (E : XK) (D : Ends) (ρ : List Addr) (H : Hp) : Fl → Prop
  | .nx env S => ∀ σ' H' ρ', Ext ρ H ρ' H' → C.RS ρ' H' S → REnv C ρ' H' env σ' → D.nx σ' H'
  | .rt v S => ∀ x H' ρ', Ext ρ H ρ' H' → C.RS ρ' H' S → C.RV ρ' H' v x → D.rt x H'
  | .bk env S => ∀ σ' H' ρ', Ext ρ H ρ' H' → C.RS ρ' H' S → REnv C ρ' H' env σ' → D.bk σ' H'
  | .ct env S => ∀ σ' H' ρ', Ext ρ H ρ' H' → C.RS ρ' H' S → REnv C ρ' H' env σ' → D.ct σ' H'
  | .ex c d _ S => ∀ cls dx H' ρ', Ext ρ H ρ' H' → C.RS ρ' H' S → RX C.g ρ' H' c d cls dx → E cls dx H'
  | .bad => False
theorem PoF.mono {C : Ctx} {E : XK} {D : Ends} {ρ ρ' : List Addr} {H H' : Hp} {f : Fl} (e : Ext ρ H ρ' H') (h : PoF C E D ρ H f) : PoF C E D ρ' H' f := by
  cases f with
  | nx env S => exact fun σ H2 ρ2 e2 => h σ H2 ρ2 (e.trans e2)
  | rt v S => exact fun x H2 ρ2 e2 => h x H2 ρ2 (e.trans e2)
  | bk env S => exact fun σ H2 ρ2 e2 => h σ H2 ρ2 (e.trans e2)
  | ct env S => exact fun σ H2 ρ2 e2 => h σ H2 ρ2 (e.trans e2)
  | ex c d env S => exact fun cls dx H2 ρ2 e2 => h cls dx H2 ρ2 (e.trans e2)
  | bad => exact h
def tS (C : Ctx) (n : Nat) (W : WX) (st : Mi.St) : TS := fun D σ H => ∃ env S ρ, C.RS ρ H S ∧ REnv C ρ H env σ ∧ PoF C (EW n W) D ρ H (exS C.P C.F st env S)
def tSs (C : Ctx) (n : Nat) (W : WX) (sts : List Mi.St) : TS := fun D σ H => ∃ env S ρ, C.RS ρ H S ∧ REnv C ρ H env σ ∧ PoF C (EW n W) D ρ H (exSs C.P C.F sts env S)
theorem PS.imp {X : Cx} {e : Stmt} {t t' : TS} (h : PS X e t) (i : ∀ D σ H, t' D σ H → t D σ H) : PS X e t' := ⟨fun pins s σ H D I q => h.run pins s σ H D I (i _ _ _ q)⟩
theorem PSs.imp {X : Cx} {e : List Stmt} {t t' : TS} (h : PSs X e t) (i : ∀ D σ H, t' D σ H → t D σ H) : PSs X e t' := ⟨fun pins s σ H D I q => h.run pins s σ H D I (i _ _ _ q)⟩
section
variable {C : Ctx} {X : Cx} {n : Nat} {W : WX}
theorem PSs.nil : PSs X [] (tSs C n W []) := PSs.imp pss_nil fun D σ H ⟨env, S, ρ, rs, re, h⟩ => h σ H ρ (Ext.refl _ _) rs re
theorem PSs.cons {st : Stmt} {sts : List Stmt} {x : Mi.St} {xs : List Mi.St} (h1 : PS X st (tS C n W x)) (h2 : PSs X sts (tSs C n W xs)) : PSs X (st :: sts) (tSs C n W (x :: xs)) :=
  PSs.imp (pss_cons h1 h2) fun D σ H ⟨env, S, ρ, rs, re, h⟩ => by
    rw [exSs] at h
    refine ⟨env, S, ρ, rs, re, ?_⟩
    cases q : exS C.P C.F x env S with
    | nx env1 S1 =>
      rw [q] at h
      exact fun σ' H' ρ' e s r => ⟨env1, S1, ρ', s, r, PoF.mono e h⟩
    | rt v S1 => rw [q] at h; exact h
    | bk env1 S1 => rw [q] at h; exact h
    | ct env1 S1 => rw [q] at h; exact h
    | ex c d env1 S1 => rw [q] at h; exact h
    | bad => rw [q] at h; exact h
/-- a value, then something -/
theorem valS {x : Mi.E} {σ : L2.St} {H : Hp} {D : Ends} {env : Env} {S : Store} {ρ : List Addr} {k : Vl → Store → Fl} {R : V → Hp → Prop} (rs : C.RS ρ H S) (re : REnv C ρ H env σ)
    (h : PoF C (EW n W) D ρ H (match evE C.P C.F x env S with
      | .ok v S1 => k v S1
      | .exc c d S1 => .ex c d env S1
      | .bad => .bad))
    (hR : ∀ v S1 w H1 ρ1, Ext ρ H ρ1 H1 → C.RS ρ1 H1 S1 → C.RV ρ1 H1 v w → REnv C ρ1 H1 env σ → PoF C (EW n W) D ρ1 H1 (k v S1) → R w H1) : tE C (EW n W) x σ H R := by
  refine ⟨env, S, ρ, rs, re, ?_⟩
  cases q : evE C.P C.F x env S with
  | bad => rw [q] at h; exact h
  | exc c d S1 => rw [q] at h; exact h
  | ok v S1 =>
    rw [q] at h
    exact fun w H1 ρ1 e s r => hR v S1 w H1 ρ1 e s r (re.ext e) (PoF.mono e h)
theorem ps_as {tg e : Expr} {t : T} {x : Mi.E} {pos : Pos} (he : PE X e (tE C (EW n W) x)) (hg : PG X tg (gT C t)) (hs : swapsWithSole [tg] e pos.line X.env = pure false) (hw : swappedStores [tg] e X.env = pure none) (h1 : (assignEach [tg] X.env).map (·.2) = [assign tg X.env]) :
    PS X (.Assign [tg] e pos) (tS C n W (.asg t x)) := PS.imp (ps_asg he hg hs hw h1) fun D σ H ⟨env, S, ρ, rs, re, h⟩ => by
    simp only [exS] at h
    refine valS rs re (k := fun v S1 => match T.put t v env with
      | some env1 => .nx env1 S1
      | none => .bad) h fun v S1 w H1 ρ1 e s r re1 h1 => ?_
    cases q : T.put t v env with
    | none => simp only [q] at h1; exact h1.elim
    | some env1 =>
      simp only [q] at h1
      exact ⟨env, S1, ρ1, v, env1, s, re1, r, q, fun σ' r' _ => h1 σ' H1 ρ1 (Ext.refl _ _) s r'⟩
theorem ps_ex {e : Expr} {x : Mi.E} {pos : Pos} (he : PE X e (tE C (EW n W) x)) (hs : swapsWith e none pos.line X.env = pure false) : PS X (.Expr e pos) (tS C n W (.ex x)) :=
  PS.imp (ps_expr he hs) fun D σ H ⟨env, S, ρ, rs, re, h⟩ => by
    simp only [exS] at h
    exact valS rs re (k := fun v S1 => .nx env S1) h fun v S1 w H1 ρ1 e s r re1 h1 => h1 σ H1 ρ1 (Ext.refl _ _) s re1
theorem ps_rt {e : Expr} {x : Mi.E} {pos : Pos} (he : PE X e (tE C (EW n W) x)) : PS X (.Return (some e) pos) (tS C n W (.ret x)) :=
  PS.imp (ps_ret he) fun D σ H ⟨env, S, ρ, rs, re, h⟩ => by
    simp only [exS] at h
    exact valS rs re (k := fun v S1 => .rt v S1) h fun v S1 w H1 ρ1 e s r re1 h1 => h1 w H1 ρ1 (Ext.refl _ _) s r
theorem ps_rn {pos : Pos} : PS X (.Return none pos) (tS C n W .retn) := PS.imp ps_retN fun D σ H ⟨env, S, ρ, rs, re, h⟩ => h .non H ρ (Ext.refl _ _) rs rfl
theorem ps_pa {pos : Pos} : PS X (.Pass pos) (tS C n W .pas) := PS.imp ps_pass fun D σ H ⟨env, S, ρ, rs, re, h⟩ => h σ H ρ (Ext.refl _ _) rs re
theorem ps_bk {pos : Pos} : PS X (.Break pos) (tS C n W .brk) := PS.imp ps_break fun D σ H ⟨env, S, ρ, rs, re, h⟩ => h σ H ρ (Ext.refl _ _) rs re
theorem ps_ct {pos : Pos} : PS X (.Continue pos) (tS C n W .cnt) := PS.imp ps_continue fun D σ H ⟨env, S, ρ, rs, re, h⟩ => h σ H ρ (Ext.refl _ _) rs re
theorem ps_un {st : Stmt} : PS X st (tS C n W .un) := ⟨fun pins s σ H D I ⟨env, S, ρ, rs, re, h⟩ => h.elim⟩
theorem pss_un {st : List Stmt} {xs : List Mi.St} : PSs X st (tSs C n W (.un :: xs)) := ⟨fun pins s σ H D I ⟨env, S, ρ, rs, re, h⟩ => by rw [exSs] at h; exact h.elim⟩
theorem ps_ifs {c : Expr} {a b : List Stmt} {x : Mi.E} {y z : List Mi.St} {pos : Pos} (hc : PT X c (tT C (EW n W) x)) (ha : PSs X a (tSs C n W y)) (hb : PSs X b (tSs C n W z)) : PS X (.If c a b pos) (tS C n W (.iff x y z)) :=
  PS.imp (ps_if hc ha hb) fun D σ H ⟨env, S, ρ, rs, re, h⟩ => by
    simp only [exS] at h
    refine ⟨env, S, ρ, rs, re, ?_⟩
    cases q : asB (evE C.P C.F x env S) with
    | bad => rw [q] at h; exact h
    | exc c d S1 => rw [q] at h; exact h
    | ok v S1 =>
      rw [q] at h
      intro H' ρ' e s
      cases v with
      | true => rw [if_pos rfl]; exact ⟨env, S1, ρ', s, re.ext e, PoF.mono e h⟩
      | false => rw [if_neg Bool.false_ne_true]; exact ⟨env, S1, ρ', s, re.ext e, PoF.mono e h⟩
/-- a turn's body, with what is wanted behind it -/
theorem bodyF {E : XK} {D : Ends} {N : L2.St → Hp → Prop} {ρ : List Addr} {H : Hp} {f : Fl} {again : Env → Store → Fl} (h : PoF C E D ρ H (match f with
      | .nx env2 S2 => again env2 S2
      | .ct env2 S2 => again env2 S2
      | .bk env2 S2 => .nx env2 S2
      | f => f))
    (hN : ∀ env S σ' H' ρ', Ext ρ H ρ' H' → C.RS ρ' H' S → REnv C ρ' H' env σ' → PoF C E D ρ' H' (again env S) → N σ' H') : PoF C E { D with nx := N, ct := N, bk := D.nx } ρ H f := by
  cases f with
  | nx env S => exact fun σ' H' ρ' e s r => hN env S σ' H' ρ' e s r (PoF.mono e h)
  | ct env S => exact fun σ' H' ρ' e s r => hN env S σ' H' ρ' e s r (PoF.mono e h)
  | bk env S => exact h
  | rt v S => exact h
  | ex c d env S => exact h
  | bad => exact h
theorem ps_fr {tg iter : Expr} {body : List Stmt} {t : T} {k : Sk} {src : List Mi.E} {b : List Mi.St} {pos : Pos} (hp : PassesOwn (model X.prog X.w) X.A X.env X.xe) (hc : X.calm = true) (hi : PI X tg iter (tSrc C (EW n W) k src)) (hg : PG X tg (gT C t)) (hb : PSs X body (tSs C n W b))
    (hs : ∀ x, foldedSetIterable iter X.env x = pure x) : PS X (.For tg iter body [] pos) (tS C n W (.for_ t k src b)) :=
  PS.imp (ps_for hp hc hi hg hb hs) fun D σ H ⟨env, S, ρ, rs, re, h⟩ => by
    simp only [exS] at h
    refine ⟨env, S, ρ, rs, re, ?_⟩
    cases q : evEs C.P C.F src env S with
    | bad => rw [q] at h; exact h
    | exc c d S1 => rw [q] at h; exact h
    | ok vs S1 =>
      simp only [q] at h
      dsimp only
      cases q2 : items k vs S1 with
      | none => simp only [q2] at h; exact h.elim
      | some xs =>
        simp only [q2] at h
        refine ⟨xs, rfl, fun J H' ρ' e s sj => ?_⟩
        refine ⟨fun i m σ H => m = xs.length - i ∧ i ≤ xs.length ∧ ∃ env S ρ, C.RS ρ H S ∧ REnv C ρ H env σ ∧ SrcOk C J ρ H xs ∧ PoF C (EW n W) D ρ H (forL t (fun env' S' => exSs C.P C.F b env' S') (xs.drop i) env S), ⟨_, rfl, Nat.zero_le _, env, S1, ρ', s, re.ext e, sj, by rw [List.drop_zero]; exact PoF.mono e h⟩, fun i m σ1 H1 => ?_⟩
        rintro ⟨rfl, hi1, env1, S2, ρ1, rs1, re1, sj1, po1⟩
        by_cases hlt : i < xs.length
        · refine .inr ⟨sj1.go i H1 ρ1 (Ext.refl _ _) hlt, fun σ' H' => ∃ env S ρ, C.RS ρ H' S ∧ REnv C ρ H' env σ' ∧ SrcOk C J ρ H' xs ∧ PoF C (EW n W) D ρ H' (forL t (fun env' S' => exSs C.P C.F b env' S') (xs.drop (i + 1)) env S), fun σ' H' nq => ⟨xs.length - (i + 1), by omega, rfl, hlt, nq⟩, fun x H2 y2 => ?_⟩
          obtain ⟨e2, rs2, rv2⟩ := sj1.yld i xs[i] H1 ρ1 x H2 S2 (Ext.refl _ _) rs1 (by simp [hlt]) y2
          have hdrop : xs.drop i = xs[i] :: xs.drop (i + 1) := List.drop_eq_getElem_cons hlt
          rw [hdrop, forL] at po1
          cases q3 : T.put t xs[i] env1 with
          | none => simp only [q3] at po1; exact po1.elim
          | some env2 =>
            simp only [q3] at po1
            refine ⟨env1, S2, ρ1, xs[i], env2, rs2, re1.ext e2, rv2, q3, fun σ' r' _ => ⟨env2, S2, ρ1, rs2, r', ?_⟩⟩
            exact bodyF (again := fun env2 S2 => forL t (fun env' S' => exSs C.P C.F b env' S') (xs.drop (i + 1)) env2 S2) (PoF.mono e2 po1) fun env S σ' H' ρ' e' s' r' po' => ⟨env, S, ρ', s', r', sj1.ext (e2.trans e'), po'⟩
        · have hd : xs.drop i = [] := List.drop_eq_nil_of_le (by omega)
          rw [hd, forL] at po1
          have hil : i = xs.length := by omega
          exact .inl ⟨by rw [hil]; exact sj1.stop H1 ρ1 (Ext.refl _ _), po1 σ1 H1 ρ1 (Ext.refl _ _) rs1 re1⟩
theorem ps_wh {c : Expr} {body : List Stmt} {x : Mi.E} {b : List Mi.St} {pos : Pos} (hp : PassesOwn (model X.prog X.w) X.A X.env X.xe) (hc : PT X c (tT C (EW n W) x)) (hb : PSs X body (tSs C n W b)) : PS X (.While c body [] pos) (tS C n W (.whl x b)) :=
  PS.imp (ps_while hp hc hb) fun D σ H ⟨env, S, ρ, rs, re, h⟩ => by
    simp only [exS] at h
    refine ⟨fun m σ H => ∃ env S ρ, C.RS ρ H S ∧ REnv C ρ H env σ ∧ PoF C (EW n W) D ρ H (whlL (fun env' S' => asB (evE C.P C.F x env' S')) (fun env' S' => exSs C.P C.F b env' S') m env S), ⟨_, env, S, ρ, rs, re, h⟩, fun m σ1 H1 => ?_⟩
    rintro ⟨env1, S1, ρ1, rs1, re1, po1⟩
    cases m with
    | zero => exact po1.elim
    | succ m =>
      rw [whlL] at po1
      refine ⟨env1, S1, ρ1, rs1, re1, ?_⟩
      cases q : asB (evE C.P C.F x env1 S1) with
      | bad => rw [q] at po1; exact po1
      | exc c d S2 => rw [q] at po1; exact po1
      | ok v S2 =>
        rw [q] at po1
        intro H' ρ' e s
        cases v with
        | false => rw [if_neg Bool.false_ne_true]; exact po1 σ1 H' ρ' e s (re1.ext e)
        | true =>
          rw [if_pos rfl]
          refine ⟨fun σ' H' => ∃ env S ρ, C.RS ρ H' S ∧ REnv C ρ H' env σ' ∧ PoF C (EW n W) D ρ H' (whlL (fun env' S' => asB (evE C.P C.F x env' S')) (fun env' S' => exSs C.P C.F b env' S') m env S), fun σ' H' nq => ⟨m, Nat.lt_succ_self _, nq⟩, env1, S2, ρ', s, re1.ext e, ?_⟩
          exact bodyF (again := fun env2 S2 => whlL (fun env' S' => asB (evE C.P C.F x env' S')) (fun env' S' => exSs C.P C.F b env' S') m env2 S2) (PoF.mono e po1) fun env S σ' H' ρ' e' s' r' po' => ⟨env, S, ρ', s', r', po'⟩
/-- a, b = x, y of plain names -/
theorem ps_p2 {i j : Nat} {x y : Str} {a b : Expr} {es : List Mi.E} {px py pt pos : Pos} {kt k2 pt2} (hc : X.calm = true) (hN : X.N.Nodup) (hi : X.N[i]? = some x) (hj : X.N[j]? = some y) (hij : i ≠ j)
    (hx : X.env.scope.names.lookup x = some .local) (hy : X.env.scope.names.lookup y = some .local) (ha : PA X [a, b] (tA C (EW n W) es))
    (hw : swappedStores [.Tuple [.Name x px, .Name y py] kt pt] (.Tuple [a, b] k2 pt2) X.env = pure (some [x, y])) :
    PS X (.Assign [.Tuple [.Name x px, .Name y py] kt pt] (.Tuple [a, b] k2 pt2) pos) (tS C n W (.par [i, j] es)) :=
  PS.imp (ps_par hc hN hi hj hij hx hy ha hw) fun D σ H ⟨env, S, ρ, rs, re, h⟩ => by
    simp only [exS] at h
    refine ⟨env, S, ρ, rs, re, ?_⟩
    cases q : evEs C.P C.F es env S with
    | bad => rw [q] at h; exact h
    | exc c d S1 => rw [q] at h; exact h
    | ok vs S1 =>
      rw [q] at h
      intro us H' ρ' e s r
      have re' := re.ext e
      match vs, us, r, h with
      | [], _, r, h => exact h.elim
      | [v], _, r, h =>
        have z : setAll env [i, j] [v] = none := by simp [setAll]
        simp only [z] at h
        exact h.elim
      | [v, w], [v', w'], r, h =>
        refine ⟨v', w', rfl, ?_⟩
        simp only [setAll] at h
        by_cases h1 : i < env.length
        · rw [if_pos h1] at h
          by_cases h2 : j < (env.set i (some v)).length
          · rw [if_pos h2] at h
            exact h _ H' ρ' e s ((re'.set h1 r.1).set h2 r.2.1)
          · rw [if_neg h2] at h; exact h.elim
        · rw [if_neg h1] at h; exact h.elim
      | [_, _], [], r, h => exact r.elim
      | [_, _], [_], r, h => exact r.2.elim
      | [_, _], _ :: _ :: _ :: _, r, h => exact r.2.2.elim
      | v :: w :: u :: vs, us, r, h =>
        have z : setAll env [i, j] (v :: w :: u :: vs) = none := by simp [setAll]
        simp only [z] at h
        exact h.elim
end
end Mi
set_option linter.all false
set_option maxRecDepth 100000
set_option maxHeartbeats 2000000
/-! Mi30: three at once; when stores are swapped. -/
namespace Mi
open PySem PySem.Spec PyProof.Rows L2
section
variable {C : Ctx} {X : Cx} {n : Nat} {W : WX}
theorem ps_p3 {i j l : Nat} {x y z : Str} {a b c : Expr} {es : List Mi.E} {px py pz pt pos : Pos} {kt k2 pt2} (hc : X.calm = true) (hN : X.N.Nodup) (hi : X.N[i]? = some x) (hj : X.N[j]? = some y) (hl : X.N[l]? = some z) (hij : i ≠ j) (hil : i ≠ l) (hjl : j ≠ l)
    (hx : X.env.scope.names.lookup x = some .local) (hy : X.env.scope.names.lookup y = some .local) (hz : X.env.scope.names.lookup z = some .local) (ha : PA X [a, b, c] (tA C (EW n W) es))
    (hw : swappedStores [.Tuple [.Name x px, .Name y py, .Name z pz] kt pt] (.Tuple [a, b, c] k2 pt2) X.env = pure (some [x, y, z])) :
    PS X (.Assign [.Tuple [.Name x px, .Name y py, .Name z pz] kt pt] (.Tuple [a, b, c] k2 pt2) pos) (tS C n W (.par [i, j, l] es)) :=
  PS.imp (L2.ps_par3 hc hN hi hj hl hij hil hjl hx hy hz ha hw) fun D σ H ⟨env, S, ρ, rs, re, h⟩ => by
    simp only [exS] at h
    refine ⟨env, S, ρ, rs, re, ?_⟩
    cases q : evEs C.P C.F es env S with
    | bad => rw [q] at h; exact h
    | exc c d S1 => rw [q] at h; exact h
    | ok vs S1 =>
      rw [q] at h
      intro us H' ρ' e s r
      have re' := re.ext e
      match vs, us, r, h with
      | [], _, r, h => exact h.elim
      | [v], _, r, h =>
        have z : setAll env [i, j, l] [v] = none := by simp [setAll]
        simp only [z] at h
        exact h.elim
      | [v, w], _, r, h =>
        have z : setAll env [i, j, l] [v, w] = none := by simp [setAll]
        simp only [z] at h
        exact h.elim
      | [v, w, u], [v', w', u'], r, h =>
        refine ⟨v', w', u', rfl, ?_⟩
        simp only [setAll] at h
        by_cases h1 : i < env.length
        · rw [if_pos h1] at h
          by_cases h2 : j < (env.set i (some v)).length
          · rw [if_pos h2] at h
            by_cases h3 : l < ((env.set i (some v)).set j (some w)).length
            · rw [if_pos h3] at h
              exact h _ H' ρ' e s (((re'.set h1 r.1).set h2 r.2.1).set h3 r.2.2.1)
            · rw [if_neg h3] at h; exact h.elim
          · rw [if_neg h2] at h; exact h.elim
        · rw [if_neg h1] at h; exact h.elim
      | [_, _, _], [], r, h => exact r.elim
      | [_, _, _], [_], r, h => exact r.2.elim
      | [_, _, _], [_, _], r, h => exact r.2.2.elim
      | [_, _, _], _ :: _ :: _ :: _ :: _, r, h => exact r.2.2.2.elim
      | v :: w :: u :: t :: vs, us, r, h =>
        have z : setAll env [i, j, l] (v :: w :: u :: t :: vs) = none := by simp [setAll]
        simp only [z] at h
        exact h.elim
end
/-! ### swaps -/
def notComp : Expr → Bool
  | .ListComp _ _ _ _ => false | .SetComp _ _ _ _ => false | .DictComp _ _ _ _ _ => false | _ => true
theorem swapsWith_plain {e : Expr} (h : notComp e = true) (t : Option Expr) (line : Nat) (env : PySem.Env) : swapsWith e t line env = pure false := by
  cases e <;> first | rfl | cases h
def isTupE : Expr → Bool
  | .Tuple _ _ _ => true | _ => false
theorem swapsWith_tup {t : Expr} (h : isTupE t = true) (e : Expr) (line : Nat) (env : PySem.Env) : swapsWith e (some t) line env = pure false := by
  cases t <;> first | (cases h; done) | skip
  cases e <;> rfl
def isTL : Expr → Bool
  | .Tuple _ _ _ => true | .List _ _ => true | _ => false
/-- no swap of stores: the target is no display, or the value is none, or a name is not local -/
def noSwap (sc : Scope) (tg e : Expr) : Bool :=
  !isTL tg || !isTupE e || (match tg with
    | .Tuple ts _ _ => ts.any fun t => match t with
      | .Name x _ => !decide (sc.names.lookup x = some .local)
      | _ => true
    | _ => false)
theorem filterMap_lt {α β : Type} {f : α → Option β} : ∀ {l : List α}, (∃ a ∈ l, f a = none) → (l.filterMap f).length ≠ l.length
  | [], h => by obtain ⟨a, h, _⟩ := h; cases h
  | a :: l, h => by
    have hle : (l.filterMap f).length ≤ l.length := List.length_filterMap_le f l
    rw [List.filterMap_cons]
    cases q : f a with
    | none => simp only [List.length_cons]; omega
    | some b =>
      obtain ⟨c, hc, e⟩ := h
      rcases List.mem_cons.mp hc with z | z
      · rw [z, q] at e; cases e
      · have := filterMap_lt ⟨c, z, e⟩
        simp only [List.length_cons]
        omega
theorem noSwap_ok {sc : Scope} {tg e : Expr} {env : PySem.Env} (h : noSwap sc tg e = true) (hs : env.scope = sc) : swappedStores [tg] e env = pure none := by
  unfold noSwap at h
  rw [Bool.or_eq_true, Bool.or_eq_true] at h
  rcases h with (h | h) | h
  · cases tg <;> first | rfl | (simp [isTL] at h; done) | (cases e <;> rfl)
  · cases tg <;> cases e <;> first | rfl | (simp [isTupE] at h; done)
  · cases tg with
    | Tuple ts k p =>
      cases e with
      | Tuple vs k2 p2 =>
        rw [List.any_eq_true] at h
        obtain ⟨t, ht, hn⟩ := h
        unfold swappedStores
        dsimp only
        split
        · rfl
        · split
          · rfl
          · rename_i h1 h2
            rw [if_pos]
            rw [Bool.or_eq_true]
            refine .inl ?_
            rw [bne_iff_ne]
            refine filterMap_lt ⟨t, ht, ?_⟩
            cases t with
            | Name x pp =>
              have hn : (!decide (sc.names.lookup x = some .local)) = true := hn
              have z : (env.kindOf x == some .local) = false := by
                unfold Env.kindOf
                rw [hs]
                have := (Bool.not_eq_true' _).mp hn
                have := of_decide_eq_false this
                simpa using this
              simp [z]
            | _ => rfl
      | _ => rfl
    | _ => cases h
/-- two, three plain local names: their stores are swapped -/
def parB (ts vs : List Expr) : Bool :=
  (match ts.head? with
  | some t => ts.all fun u => u.pos.line == t.pos.line
  | none => false) && !vs.all (foldedForSure 8) && !vs.all (constantsAlone 8) && vs.all nstar
theorem swap2 {x y : Str} {px py pt p2 : Pos} {a b : Expr} {kt k2 : Nat} {env : PySem.Env} (hk : env.scope.kind = .function) (hx : env.scope.names.lookup x = some .local) (hy : env.scope.names.lookup y = some .local) (hxy : x ≠ y) (h : parB [.Name x px, .Name y py] [a, b] = true) :
    swappedStores [.Tuple [.Name x px, .Name y py] kt pt] (.Tuple [a, b] k2 p2) env = pure (some [x, y]) := by
  unfold parB at h
  simp only [Bool.and_eq_true, List.head?_cons] at h
  obtain ⟨⟨⟨h1, h2⟩, h3⟩, h4⟩ := h
  have hb : env.blockKind = .function := by unfold Env.blockKind; rw [hk]; rfl
  have e1 : (py.line == px.line) = true := by
    simp only [List.all_cons, Bool.and_eq_true] at h1
    exact h1.2.1
  have e2 : py.line = px.line := eq_of_beq e1
  have kx : env.kindOf x = some .local := hx
  have ky : env.kindOf y = some .local := hy
  have h2 : ([a, b].all (foldedForSure 8)) = false := (Bool.not_eq_true' _).mp h2
  have h3 : ([a, b].all (constantsAlone 8)) = false := (Bool.not_eq_true' _).mp h3
  have hne : (y == x) = false := by simpa using (Ne.symm hxy)
  have hne' : (x == y) = false := by simpa using hxy
  unfold swappedStores
  dsimp only
  rw [if_neg (by simp [hb]), if_neg (by
    intro hh
    rw [List.any_eq_true] at hh
    obtain ⟨v, hv, e⟩ := hh
    have z := List.all_eq_true.mp h4 v hv
    cases v <;> first | (simp [nstar] at z; done) | (cases e; done)), if_neg (by simp [kx, ky, e2, Expr.pos, List.eraseDups_cons, hne, hne', hxy, Ne.symm hxy]), if_neg (by rw [h2]; decide), if_neg (by rw [h3]; decide)]
  simp [kx, ky, e2, Expr.pos]
theorem swap3 {x y z : Str} {px py pz pt p2 : Pos} {a b c : Expr} {kt k2 : Nat} {env : PySem.Env} (hk : env.scope.kind = .function) (hx : env.scope.names.lookup x = some .local) (hy : env.scope.names.lookup y = some .local) (hz : env.scope.names.lookup z = some .local) (hxy : x ≠ y) (hxz : x ≠ z) (hyz : y ≠ z) (h : parB [.Name x px, .Name y py, .Name z pz] [a, b, c] = true) :
    swappedStores [.Tuple [.Name x px, .Name y py, .Name z pz] kt pt] (.Tuple [a, b, c] k2 p2) env = pure (some [x, y, z]) := by
  unfold parB at h
  simp only [Bool.and_eq_true, List.head?_cons] at h
  obtain ⟨⟨⟨h1, h2⟩, h3⟩, h4⟩ := h
  have hb : env.blockKind = .function := by unfold Env.blockKind; rw [hk]; rfl
  simp only [List.all_cons, Bool.and_eq_true] at h1
  have e2 : py.line = px.line := eq_of_beq h1.2.1
  have e3 : pz.line = px.line := eq_of_beq h1.2.2.1
  have kx : env.kindOf x = some .local := hx
  have ky : env.kindOf y = some .local := hy
  have kz : env.kindOf z = some .local := hz
  have h2 : ([a, b, c].all (foldedForSure 8)) = false := (Bool.not_eq_true' _).mp h2
  have h3 : ([a, b, c].all (constantsAlone 8)) = false := (Bool.not_eq_true' _).mp h3
  have hne : (y == x) = false := by simpa using (Ne.symm hxy)
  have hne2 : (z == x) = false := by simpa using (Ne.symm hxz)
  have hne3 : (z == y) = false := by simpa using (Ne.symm hyz)
  unfold swappedStores
  dsimp only
  rw [if_neg (by simp [hb]), if_neg (by
    intro hh
    rw [List.any_eq_true] at hh
    obtain ⟨v, hv, e⟩ := hh
    have z := List.all_eq_true.mp h4 v hv
    cases v <;> first | (simp [nstar] at z; done) | (cases e; done)), if_neg (by simp [kx, ky, kz, e2, e3, Expr.pos, List.eraseDups_cons, hne, hne2, hne3, Ne.symm hxy, Ne.symm hxz, Ne.symm hyz]), if_neg (by rw [h2]; decide), if_neg (by rw [h3]; decide)]
  simp [kx, ky, kz, e2, e3, Expr.pos]
end Mi
set_option linter.all false
set_option maxRecDepth 100000
set_option maxHeartbeats 2000000
/-! Mi31: an error is made. -/
namespace Mi
open PySem PySem.Spec PyProof.Rows L2 L2H
/-- what the __init__ of an error class does: it keeps its argument in the field fl -/
def InitP (P : Program) (w : World) (K : PySem.W.Frag) (mg : Str → Option Value) (base : Heap) (C fI : Addr) (fl : Str) (lvl : Nat) : Prop :=
  ∀ (A : Around) (outer : List PySem.Env) (s : Shared) (H : Hp) (a : Addr) (v : V) (u : Value) (Q : VK), RoomH lvl A → Env0 P w K mg base A outer s H → H a = some (exo a C none) → RelV v u →
    (∀ dx, H dx = none → dx ≠ a → Q .non (upd (upd H dx (exd dx [(fl, v)])) a (exo a C (some dx)))) → codeAny (model P w) A (.call (.ref fI) ⟨[.ref a, u], []⟩) (CR (fun _ _ _ _ _ _ => False) outer P w H s Q (fun _ _ _ => False)) s
def tMk (C : Addr) (fl : Str) (te : TE) : L2.St → Hp → XK → Prop := fun σ H Q => te σ H fun v H1 => ∀ dd, H1 dd = none → Q (.ref C) (some dd) (upd H1 dd (.xd [(fl, v)]))
theorem pmk5_c {X : Cx} {x : Str} {e : Expr} {te : TE} {p pos : Pos} {C fI : Addr} {fl : Str} {k : Nat} (T : OexC X.K C) (iC : PySem.W.findIn X.K (.ref C) "__init__" = some (some (.ref fI))) (tI : PySem.W.typeIn X.K (.ref fI) = some (.type "function"))
    (F1 : InitP X.prog X.w X.K X.mg X.base C fI fl k) (hr : RoomH (k + 1) X.A) (hg : Gl X x) (hm : X.mg x = some (.ref C)) (ha : PE X e te) (hs : nstar e = true) (hdb : (x == ("__debug__" : Str)) = false) :
    PMk5 X (.Call (.Name x p) [e] [] pos) (tMk C fl te) := by
  intro pins s σ H Q I h
  obtain ⟨nm, q, N, bs, bm, sn, sub, ab, col, dd, k0, k1, k2, k3, k5, hC, hbm⟩ := T.cls
  have he := nstar_each hs [] X.env
  have hpl : (backTo pos (starEach [] X.env)).any (·.1) = false := rfl
  have hpa : PA X [e] (tCons te tNil) := pa_cons ha pa_nil he
  have h' : tCons te tNil σ H (fun vs H1 => ∃ v, vs = [v] ∧ ∀ dd, H1 dd = none → Q (.ref C) (some dd) (upd H1 dd (.xd [(fl, v)]))) := by
    show te σ H fun x H1 => ∃ v, [x] = [v] ∧ ∀ dd, H1 dd = none → Q (.ref C) (some dd) (upd H1 dd (.xd [(fl, v)]))
    have eq : (fun (x : V) (H1 : Hp) => ∃ v, [x] = [v] ∧ ∀ dd, H1 dd = none → Q (.ref C) (some dd) (upd H1 dd (.xd [(fl, v)]))) = fun x H1 => ∀ dd, H1 dd = none → Q (.ref C) (some dd) (upd H1 dd (.xd [(fl, x)])) := by
      funext x H1
      refine propext ⟨fun ⟨v, e, q⟩ => ?_, fun q => ⟨x, rfl, q⟩⟩
      cases e
      exact q
    rw [eq]
    exact h
  refine wpAny_Call_Name_kw (ld_glob I hg hm ?_ hdb)
  refine PySem.W.callWith_K (h₀ := X.base) I.ok.mod.kin T.kC (thn (hpa.run pos pins s σ H (fun vs H1 => ∃ v, vs = [v] ∧ ∀ dd, H1 dd = none → Q (.ref C) (some dd) (upd H1 dd (.xd [(fl, v)]))) I h') fun us s1 ⟨vs, H1, I1, r1, v, ev, q1⟩ => ⟨I1.kIn, ?_⟩) he hpl
  show wpAny _ _ (call (.ref C) us) _ _ _
  obtain ⟨hp, g, dr, tk, os⟩ := s1
  have hsz : hp.objs.size ≤ hp.objs.size + 1 := Nat.le_succ _
  have hn : H1 (hp.objs.size + 1) = none := I1.hok.fresh hsz
  have kk : ∀ b o, hp.get? b = some o → ((hp.push (PySem.W.kdv_tup us)).push (PySem.HandSPX.excO C hp.objs.size)).get? b = some o := fun b o e => Heap.get?_push_of_some _ (Heap.get?_push_of_some _ e)
  have hget : ((hp.push (PySem.W.kdv_tup us)).push (PySem.HandSPX.excO C hp.objs.size)).get? (hp.objs.size + 1) = some (PySem.HandSPX.excO C hp.objs.size) := by heap_get
  have I2 : Inv X pins σ (upd H1 (hp.objs.size + 1) (exo (hp.objs.size + 1) C none)) ⟨(hp.push (PySem.W.kdv_tup us)).push (PySem.HandSPX.excO C hp.objs.size), g, dr, tk, os⟩ :=
    I1.laid (t' := tk) (a := hp.objs.size + 1) (o := exo (hp.objs.size + 1) C none) (h' := (hp.push (PySem.W.kdv_tup us)).push (PySem.HandSPX.excO C hp.objs.size)) kk hsz (exo_ok hget)
  subst ev
  obtain ⟨u, rfl, rv⟩ : ∃ u, us = [u] ∧ RelV v u := by
    cases r1 with
    | cons a b =>
      cases b
      exact ⟨_, rfl, a⟩
  have main := F1 (X.A.under (.builtin "type.__call__" ⟨.ref C :: [u], []⟩)) X.stack _ _ (hp.objs.size + 1) v u (fun y H2 => y = .non ∧ ∃ d, H2 (hp.objs.size + 1) = some (exo (hp.objs.size + 1) C (some d)) ∧ H2 d = some (exd d [(fl, v)]) ∧ H1 d = none ∧ Q (.ref C) (some d) (upd (del H2 (hp.objs.size + 1)) d (.xd [(fl, v)]))) (hr.make C [u] []) (I2.env0.make C [u] []) upd_same rv (fun dx hd hne => by
    have hd1 : H1 dx = none := by rw [upd_ne hne] at hd; exact hd
    refine ⟨rfl, dx, upd_same, by rw [upd_ne hne, upd_same], hd1, ?_⟩
    have eq : upd (del (upd (upd (upd H1 (hp.objs.size + 1) (exo (hp.objs.size + 1) C none)) dx (exd dx [(fl, v)])) (hp.objs.size + 1) (exo (hp.objs.size + 1) C (some dx))) (hp.objs.size + 1)) dx (.xd [(fl, v)]) = upd H1 dx (.xd [(fl, v)]) := by
      funext b
      by_cases h1 : b = dx
      · rw [h1, upd_same, upd_same]
      · rw [upd_ne h1, upd_ne h1]
        by_cases h2 : b = hp.objs.size + 1
        · rw [h2, del_same, hn]
        · rw [del_ne h2, upd_ne h2, upd_ne h1, upd_ne h2]
    rw [eq]
    exact q1 dx hd1)
  refine wpAny_call (PySem.HandSPX.call_own F.excBase_ValueError (fun Y => PySem.HandSPX.refsVE_contains Y bm hbm) (I1.kIn _ _ hC) (PySem.W.looks_findIn I1.kIn iC) (fun self => PySem.W.bind_fn I1.kIn self tI) (by show 1 ≤ sizeLine; decide)
    (codeAny_mono main fun r s' hq' => ?_))
  cases r with
  | error er => exact (show False from hq').elim
  | ok fl' =>
    cases fl' with
    | ret u' =>
      obtain ⟨y, H2, os2, bare2, un2, hok2, ry, ey, d, ea, ed, hd1, q2⟩ := hq'
      subst ey
      obtain ⟨h2, g2, d2, t2, os'⟩ := s'
      obtain ⟨t0, G, J, kG, ge, hoe, na⟩ := mk_end0 (d2 := d2) (t2 := t2) I1 hsz kk un2 hok2 os2 bare2 ea ed hd1
      refine ⟨ry, ⟨hp.objs.size + 1, _, _, ⟨G, g2, d2, t2, os'⟩, _, .ref C, some d, rfl, J, kG, ge, hoe, ⟨rfl, rfl, fun vs hv => ?_⟩, rfl, rfl, na, rfl, bare2, raises_own T.exC T.tyC, q2⟩, fun a oe vs ea2 hg2 hd2 => ?_⟩
      · cases hv
        rfl
      · cases ea2
        have hg3 : h2.get? (hp.objs.size + 1) = some oe := hg2
        rw [hoe] at hg3
        cases hg3
        cases hd2
        show (4 : Nat) < 6
        decide
    | next => exact False.elim hq'
    | brk => exact False.elim hq'
    | cont => exact False.elim hq'
end Mi
set_option linter.all false
set_option maxRecDepth 100000
set_option maxHeartbeats 2000000
/-! Mi32: raise, try. -/
namespace Mi
open PySem PySem.Spec PyProof.Rows L2 L2H
/-- an error class -/
structure ClX (g : Gi) (X : Cx) (c : Nat) (x fl : Str) (lvl : Nat) : Prop where
  ex : ∃ (Ca fI : Addr), g.CI c = some (Ca, fl) ∧ X.mg x = some (.ref Ca) ∧ OexC X.K Ca ∧ PySem.W.findIn X.K (.ref Ca) "__init__" = some (some (.ref fI)) ∧ PySem.W.typeIn X.K (.ref fI) = some (.type "function") ∧
    InitP X.prog X.w X.K X.mg X.base Ca fI fl lvl
/-- the error classes of the module; fl: the field that their __init__ fills -/
structure CsOk (C : Ctx) (X : Cx) (cl : Nat → Option Str) (fl : Str) (lvl : Nat) : Prop where
  mks : ∀ c x, cl c = some x → ClX C.g X c x fl lvl
  ca : ∀ c c' x Cc Cc' f f', cl c' = some x → C.g.CI c = some (Cc, f) → C.g.CI c' = some (Cc', f') → PySem.W.exmOne X.K (.ref Cc) (.ref Cc') = some (C.P.sub c c')
  fd : ∀ c Cc f, C.g.CI c = some (Cc, f) → f = fl ∧ PySem.W.findIn X.K (.ref Cc) fl = some none ∧ XfC X.K Cc
section
variable {C : Ctx} {X : Cx} {n : Nat} {W : WX}
theorem Mkp2 {X : Cx} {pins : List (Addr × Obj)} {σ : L2.St} {Q : XK} {u : Value} {s' : Shared} (h : L2N.MkP X pins σ Q u s') : L2.MkP X pins σ Q u s' := by
  obtain ⟨a, oe, vs, sI, H', cls, d, e, J, k, hne, ha, hz, r⟩ := h
  exact ⟨a, oe, vs, sI, H', cls, d, e, J, k, hne, ha, hz.zc, r⟩
theorem pmk2 {X : Cx} {e : Expr} {t : L2.St → Hp → XK → Prop} (h : L2N.PMk X e t) : L2.PMk X e t := fun pins s σ H Q I q => thn (h pins s σ H Q I q) fun _ _ x => Mkp2 x
theorem ps_raiseM {m : Bool} {e : Expr} {t : L2.St → Hp → XK → Prop} {pos : Pos} (hc : X.calm = true) (tk : TakesM m X W) (he : L2N.PMk X e t) : PS X (.Raise (some e) none pos) (fun _ σ H => t σ H fun cls d H' => W cls d σ H') := by
  cases m with
  | false => exact L2.ps_raise hc tk (pmk2 he)
  | true => exact L2N.ps_raise hc tk he
/-- what is raised, seen by the wish -/
theorem rx_new {ρ : List Addr} {H : Hp} {S : Store} {c : Nat} {Ca : Addr} {fl : Str} {y : D} {v : V} {dd : Addr} (hc : C.g.CI c = some (Ca, fl)) (rs : C.RS ρ H S) (rd : RD C.g.K ρ H y v) (hd : H dd = none) :
    Ext ρ H ρ (upd H dd (.xd [(fl, v)])) ∧ C.RS ρ (upd H dd (.xd [(fl, v)])) S ∧ RX C.g ρ (upd H dd (.xd [(fl, v)])) c y (.ref Ca) (some dd) :=
  ⟨Ext.new hd, rs.new hd, Ca, fl, dd, v, hc, rfl, rfl, upd_same, rs.free hd, RD.ext (Ext.new hd) y v rd⟩
theorem ps_rs {c k : Nat} {x fl : Str} {e : Expr} {y : Mi.E} {p p2 pos : Pos} (hn : X.N.length = n) (hc : X.calm = true) (tk : TakesM C.md X W) (cx : ClX C.g X c x fl k) (hr : RoomH (k + 1) X.A) (hg : Gl X x) (hdb : (x == ("__debug__" : Str)) = false) (he : PE X e (tE C (EW n W) y)) (hs : nstar e = true) :
    PS X (.Raise (some (.Call (.Name x p) [e] [] p2)) none pos) (tS C n W (.rse c y)) := by
  obtain ⟨Ca, fI, h1, h2, T, iC, tI, ip⟩ := cx.ex
  refine ⟨fun pins s σ H D I h => (ps_raiseM hc tk (pmk5_c T iC tI ip hr hg h2 he hs hdb).pmk).run pins s σ H D I ?_⟩
  obtain ⟨env, S, ρ, rs, re, h⟩ := h
  simp only [exS] at h
  refine valS rs re (k := fun v S1 => match v with
    | .d x => .ex c x env S1
    | _ => .bad) (by
      cases q : evE C.P C.F y env S with
      | bad => rw [q] at h; exact h
      | exc c d S1 => rw [q] at h; exact h
      | ok v S1 => rw [q] at h; cases v <;> exact h) fun v S1 w H1 ρ1 e1 s1 r1 re1 h1' => ?_
  cases v with
  | d y =>
    intro dd hd
    obtain ⟨a1, a2, a3⟩ := rx_new h1 s1 r1 hd
    exact h1' _ _ _ _ a1 a2 a3 σ (by rw [← hn]; exact I.len)
  | _ => exact h1'.elim
/-- the try's reading, given the clause -/
theorem tryF {b : List Mi.St} {hd : Hd} {c : Nat} {D : Ends} {σ : L2.St} {H : Hp} {Wt : WX} (hcls : hd.cls = [c]) (h : tS C n W (.try_ b [hd]) D σ H)
    (hW : ∀ c' d S1 cls dx H' ρ', C.RS ρ' H' S1 → RX C.g ρ' H' c' d cls dx →
      (C.P.sub c' c = true → PoF C (EW n W) D ρ' H' (match hd.su with
        | .rt tag => .rt (.d (.tup [.str tag, d])) S1
        | .rs k v => .ex k v [] S1)) → (C.P.sub c' c = false → EW n W cls dx H') → EW n Wt cls dx H') : tSs C n Wt b D σ H := by
  obtain ⟨env, S, ρ, rs, re, h⟩ := h
  simp only [exS] at h
  refine ⟨env, S, ρ, rs, re, ?_⟩
  cases q : exSs C.P C.F b env S with
  | nx env1 S1 => rw [q] at h; exact h
  | rt v S1 => rw [q] at h; exact h
  | bk env1 S1 => rw [q] at h; exact h
  | ct env1 S1 => rw [q] at h; exact h
  | bad => rw [q] at h; exact h
  | ex c' d env1 S1 =>
    rw [q] at h
    intro cls dx H' ρ' e s r
    refine hW c' d S1 cls dx H' ρ' s r (fun hs => ?_) fun hs => ?_
    · have z : pickH C.P c' [hd] = some hd := by simp [pickH, hcls, hs]
      simp only [z] at h
      cases hsu : hd.su with
      | rt tag => simp only [hsu] at h ⊢; exact PoF.mono e h
      | rs k v => simp only [hsu] at h ⊢; exact PoF.mono e h
    · have z : pickH C.P c' [hd] = none := by simp [pickH, hcls, hs]
      simp only [z] at h
      exact h cls dx H' ρ' e s r
/-- except X as n: return ("tag", n.fl) -/
theorem ps_tr {b : List Mi.St} {c i : Nat} {cl : Nat → Option Str} {x nme fl tagS : Str} {tag : List Nat} {lvl : Nat} {body : List Stmt} {np np2 p1 p2 p3 p4 pos' pos : Pos} {j k2 : Nat} (hmd : C.md = false) (hn : X.N.length = n) (hs : X.stack = X.env :: X.outer) (hf : X.env.frame = some X.env.locals) (hN : X.N.Nodup)
    (cs : CsOk C X cl fl lvl) (hcl : cl c = some x) (hg : Gl X x) (hdb : (x == ("__debug__" : Str)) = false) (hi : X.N[i]? = some nme) (hln : X.env.scope.names.lookup nme = some .local) (hd1 : (nme == ("__debug__" : Str)) = false) (hd2 : (nme == ("__classdict__" : Str)) = false) (htag : tagS = toS tag) (tk : Takes X W)
    (hb : ∀ (W' : WX) (pn : List (Addr × Obj)) (xe : Value → Shared → Prop), Takes (X.tr pn xe) W' → PassesOwn (model X.prog X.w) X.A X.env xe → PSs (X.tr pn xe) body (tSs C n W' b)) :
    PS X (.Try body [.ExceptHandler (some (.Name x np)) (some nme) [.Return (some (.Tuple [.Constant (.str tagS) j p1, .Attribute (.Name nme p2) fl p3] k2 p4)) np2] pos'] [] [] pos) (tS C n W (.try_ b [⟨[c], some i, .rt tag⟩])) := by
  obtain ⟨Ca, fI, h1, h2, _⟩ := (cs.mks c x hcl).ex
  have hc : Names X x (.ref Ca) := ⟨hg, hdb, .inl h2⟩
  have main := ps_try_as (pos := pos) (pos' := pos') (np := np) (b₀ := .Return (some (.Tuple [.Constant (.str tagS) j p1, .Attribute (.Name nme p2) fl p3] k2 p4)) np2) (suite := [])
    (ts := fun a cls d => fun D σ H => ∃ Cc, cls = .ref Cc ∧ XfC X.K Cc ∧ PySem.W.findIn X.K (.ref Cc) fl = some none ∧ tRet (tTup (tCons (tC (.str tagS)) (tCons (tXf a cls d Cc fl (tVar i)) tNil))) D σ H) hs hf hN hi hln hc tk hb
    (fun a oe cls d pn hz hfd => ⟨fun pins s σ H D I ⟨Cc, e1, T, hno, h⟩ => (pss_one (ps_ret (pe_tup (pa_cons (X := X.suite a ((a, oe) :: pn)) pe_str (pa_cons (pe_xf T hno hz hfd (pe_var (X := X.suite a ((a, oe) :: pn)) hi (.inl hln) hd1 hd2) rfl) pa_nil rfl) rfl)))).run pins s σ H D I h⟩)
  refine ⟨fun pins s σ H D I h => main.run pins s σ H D I ?_⟩
  refine tryF rfl h fun c' d S1 cls dx H' ρ' s1 rx hyes hno σ' hl => ?_
  obtain ⟨Cc, f, dd, v, e1, e2, e3, e4, e5, e6⟩ := id rx
  obtain ⟨rfl, f2, f3⟩ := cs.fd c' Cc f e1
  refine ⟨C.P.sub c' c, by rw [e2]; exact cs.ca c' c x Cc Ca _ _ hcl e1 h1, fun hb1 a na => ?_, fun hb1 => hno hb1 σ' hl⟩
  have po := hyes hb1
  have hil : i < σ'.length := by rw [hl, ← hn]; exact (List.getElem?_eq_some_iff.mp hi).1
  refine ⟨Cc, e2, f3, f2, .ref a, List.getElem?_set_self hil, rfl, e2, dd, _, v, e3, e4, by simp [List.lookup], (by show 2 ≤ sizeLine; decide), fun p hp => ?_⟩
  exact po _ _ ρ' (Ext.new hp) (s1.new hp) ⟨p, _, rfl, .inl ⟨upd_same, s1.free hp⟩, by rw [htag]; rfl, RD.ext (Ext.new hp) d v e6, trivial⟩
/-- the same reading, whatever the errors' context -/
theorem tSs_md {W : WX} {b : List Mi.St} {D : Ends} {σ : L2.St} {H : Hp} {m : Bool} (h : tSs C n W b D σ H) : tSs { C with md := m } n W b D σ H := by
  obtain ⟨env, S, ρ, rs, re, h⟩ := h
  refine ⟨env, S, ρ, rs, ⟨re.len, re.at_⟩, ?_⟩
  have re' : ∀ {ρ H env σ}, REnv { C with md := m } ρ H env σ → REnv C ρ H env σ := fun r => ⟨r.len, r.at_⟩
  show PoF { C with md := m } _ _ _ _ (exSs C.P C.F b env S)
  cases q : exSs C.P C.F b env S with
  | nx env1 S1 => rw [q] at h; exact fun σ' H' ρ' e s r => h σ' H' ρ' e s (re' r)
  | rt v S1 => rw [q] at h; exact h
  | bk env1 S1 => rw [q] at h; exact fun σ' H' ρ' e s r => h σ' H' ρ' e s (re' r)
  | ct env1 S1 => rw [q] at h; exact fun σ' H' ρ' e s r => h σ' H' ρ' e s (re' r)
  | ex c d env1 S1 => rw [q] at h; exact h
  | bad => rw [q] at h; exact h
/-- except X: raise Y(None) from None -/
theorem ps_tx {b : List Mi.St} {c c2 : Nat} {cl : Nat → Option Str} {x y fl : Str} {lvl : Nat} {body : List Stmt} {np p1 p2 p3 p4 p5 pos' pos : Pos} {j j2 : Nat} (hmd : C.md = false) (hn : X.N.length = n) (hs : X.stack = X.env :: X.outer) (hf : X.env.frame = some X.env.locals)
    (cs : CsOk C X cl fl lvl) (hcl : cl c = some x) (hcl2 : cl c2 = some y) (hg : Gl X x) (hdb : (x == ("__debug__" : Str)) = false) (hg2 : Gl X y) (hdb2 : (y == ("__debug__" : Str)) = false) (hr : RoomH (lvl + 1) X.A) (hpa : ∀ hd : Option Value, PassesOwnAt (model X.prog X.w) (X.A.mark hd) X.A X.env X.xe) (tk : Takes X W)
    (hb : ∀ (W' : WX) (pn : List (Addr × Obj)) (xe : Value → Shared → Prop), L2N.Takes (X.tr pn xe) W' → PassesOwn (model X.prog X.w) X.A X.env xe → PSs (X.tr pn xe) body (tSs { C with md := true } n W' b)) :
    PS X (.Try body [.ExceptHandler (some (.Name x np)) none [.Raise (some (.Call (.Name y p1) [.Constant .none j p2] [] p3)) (some (.Constant .none j2 p4)) p5] pos'] [] [] pos) (tS C n W (.try_ b [⟨[c], none, .rs c2 .non⟩])) := by
  obtain ⟨Ca, fI, h1, h2, _⟩ := (cs.mks c x hcl).ex
  obtain ⟨Cb, gI, k1, k2, T, iC, tI, ip⟩ := (cs.mks c2 y hcl2).ex
  have hc : Names X x (.ref Ca) := ⟨hg, hdb, .inl h2⟩
  have main := ps_try_onlyX (pos := pos) (pos' := pos') (np := np) (b₀ := .Raise (some (.Call (.Name y p1) [.Constant .none j p2] [] p3)) (some (.Constant .none j2 p4)) p5) (suite := [])
    (ts := fun a cls d => fun D σ H => tMk Cb fl (tC .non) σ H fun cls d H' => W cls d σ H') hs hf hc hpa tk (fun W' pn xe t1 t2 po => hb W' pn xe t1 po)
    (fun a oe cls d pn hz hfd t1 hot => pss_one (ps_raiseHN hot t1 (pmk5_c (X := suiteX X a ((a, oe) :: pn)) (e := .Constant .none j p2) T iC tI ip ⟨hr.dp, hr.un⟩ hg2 k2 pe_non rfl hdb2)))
  refine ⟨fun pins s σ H D I h => main.run pins s σ H D I ?_⟩
  refine tSs_md (tryF rfl h fun c' d S1 cls dx H' ρ' s1 rx hyes hno σ' hl => ?_)
  obtain ⟨Cc, f, dd, v, e1, e2, e3, e4, e5, e6⟩ := id rx
  obtain ⟨rfl, f2, f3⟩ := cs.fd c' Cc f e1
  refine ⟨C.P.sub c' c, by rw [e2]; exact cs.ca c' c x Cc Ca _ _ hcl e1 h1, fun hb1 a na => ?_, fun hb1 => hno hb1 σ' hl⟩
  have po := hyes hb1
  intro d2 hd2
  obtain ⟨a1, a2, a3⟩ := rx_new (v := .non) (y := .non) k1 s1 rfl hd2
  exact po _ _ _ _ a1 a2 a3 σ' hl
end
end Mi
set_option linter.all false
set_option maxRecDepth 100000
set_option maxHeartbeats 4000000
/-! Mi33: the checker of statements, and what it gives. -/
namespace Mi
open PySem PySem.Spec PyProof.Rows L2 L2H
/-- the module for the checker: nmN the functions whose errors have context None -/
structure Cf where
  nm : Nm
  nmN : Nm
  cl : Nat → Option Str
  fl : Str
def isIt : Sk → Bool
  | .it => true | _ => false
def Cf.of (cf : Cf) (md : Bool) : Nm := if md then cf.nmN else cf.nm
section
variable (cf : Cf) (N : List Str)
def parOk (sc : Scope) (is : List Nat) (ts vs : List Expr) : Bool :=
  match is, ts, vs with
  | [i, j], [.Name x _, .Name y _], [_, _] => decide (N[i]? = some x) && decide (N[j]? = some y) && decide (i ≠ j) && decide (x ≠ y) && decide (sc.names.lookup x = some .local) && decide (sc.names.lookup y = some .local) && parB ts vs
  | [i, j, l], [.Name x _, .Name y _, .Name z _], [_, _, _] => decide (N[i]? = some x) && decide (N[j]? = some y) && decide (N[l]? = some z) && (decide (i ≠ j) && decide (i ≠ l) && decide (j ≠ l)) && (decide (x ≠ y) && decide (x ≠ z) && decide (y ≠ z)) &&
      (decide (sc.names.lookup x = some .local) && decide (sc.names.lookup y = some .local) && decide (sc.names.lookup z = some .local)) && parB ts vs
  | _, _, _ => false
mutual
def chkS (sc : Scope) (la md tx : Bool) : Mi.St → Stmt → Bool
  | .asg t e, s => match s with
    | .Assign [tg] v _ => chkT N true sc t tg && chkE (cf.of md) N la sc e v && (notComp v || isTupE tg) && noSwap sc tg v && nstar tg
    | _ => false
  | .par is es, s => match s with
    | .Assign [.Tuple ts _ _] (.Tuple vs _ _) _ => parOk N sc is ts vs && chkEs (cf.of md) N la sc es vs && vs.all nstar
    | _ => false
  | .ex e, s => match s with
    | .Expr v _ => chkE (cf.of md) N la sc e v && notComp v
    | _ => false
  | .iff c a b, s => match s with
    | .If c' a' b' _ => chkE (cf.of md) N la sc c c' && chkSs sc la md tx a a' && chkSs sc la md tx b b'
    | _ => false
  | .for_ t k src b, s => match s with
    | .For tg iter body [] _ => match srcArgs sc k tg iter with
      | some as => chkEs (cf.of md) N (la && isIt k) sc src as && chkT N true sc t tg && chkSs sc la md tx b body && notSetE iter
      | none => false
    | _ => false
  | .whl c b, s => match s with
    | .While c' body [] _ => chkE (cf.of md) N la sc c c' && chkSs sc la md tx b body
    | _ => false
  | .ret e, s => match s with
    | .Return (some v) _ => chkE (cf.of md) N la sc e v
    | _ => false
  | .retn, s => match s with
    | .Return none _ => true
    | _ => false
  | .brk, s => match s with
    | .Break _ => true
    | _ => false
  | .cnt, s => match s with
    | .Continue _ => true
    | _ => false
  | .pas, s => match s with
    | .Pass _ => true
    | _ => false
  | .rse c e, s => match s with
    | .Raise (some (.Call (.Name x _) [v] [] _)) none _ => decide (cf.cl c = some x) && glB sc x && okN x && chkE (cf.of md) N false sc e v && nstar v
    | _ => false
  | .try_ b hs, s => match hs with
    | [⟨[c], some i, .rt tag⟩] => match s with
      | .Try body [.ExceptHandler (some (.Name x _)) (some nme) [.Return (some (.Tuple [.Constant (.str tagS) _ _, .Attribute (.Name nme2 _) fl _] _ _)) _] _] [] [] _ =>
          !md && decide (cf.cl c = some x) && glB sc x && okN x && okN nme && decide (N[i]? = some nme) && decide (sc.names.lookup nme = some .local) && decide (tagS.cps.toList = tag) && decide (nme2 = nme) && decide (fl = cf.fl) && chkSs sc la md false b body
      | _ => false
    | [⟨[c], none, .rs c2 .non⟩] => match s with
      | .Try body [.ExceptHandler (some (.Name x _)) none [.Raise (some (.Call (.Name y _) [.Constant .none _ _] [] _)) (some (.Constant .none _ _)) _] _] [] [] _ =>
          !md && tx && decide (cf.cl c = some x) && decide (cf.cl c2 = some y) && glB sc x && okN x && glB sc y && okN y && chkSs sc false true false b body
      | _ => false
    | _ => false
  | .un, _ => true
def chkSs (sc : Scope) (la md tx : Bool) : List Mi.St → List Stmt → Bool
  | [], ss => ss.isEmpty
  | x :: xs, ss => match ss with
    | s :: ss => chkS sc la md tx x s && chkSs sc la md tx xs ss
    | [] => false
end
def lam1 (src : List Mi.E) (iter : Expr) : List (Nat × LamI) := match src with
  | [x] => lamsE N x iter
  | _ => []
mutual
def lamsS : Mi.St → Stmt → List (Nat × LamI)
  | .asg _ e, s => match s with
    | .Assign _ v _ => lamsE N e v
    | _ => []
  | .par _ es, s => match s with
    | .Assign _ (.Tuple vs _ _) _ => lamsEs N es vs
    | _ => []
  | .ex e, s => match s with
    | .Expr v _ => lamsE N e v
    | _ => []
  | .iff c a b, s => match s with
    | .If c' a' b' _ => lamsE N c c' ++ lamsSs a a' ++ lamsSs b b'
    | _ => []
  | .for_ _ _ src b, s => match s with
    | .For _ iter body _ _ => lam1 N src iter ++ lamsSs b body
    | _ => []
  | .whl c b, s => match s with
    | .While c' body _ _ => lamsE N c c' ++ lamsSs b body
    | _ => []
  | .ret e, s => match s with
    | .Return (some v) _ => lamsE N e v
    | _ => []
  | .try_ b _, s => match s with
    | .Try body _ _ _ _ => lamsSs b body
    | _ => []
  | _, _ => []
def lamsSs : List Mi.St → List Stmt → List (Nat × LamI)
  | [], _ => []
  | x :: xs, ss => match ss with
    | s :: ss => lamsS x s ++ lamsSs xs ss
    | [] => []
end
end
/-- all that a def's statements lean on -/
structure SOk (C : Ctx) (X : Cx) (W : WX) (cf : Cf) (lvl k : Nat) (N : List Str) (la tx : Bool) (sc : Scope) : Prop where
  hs : X.stack = X.env :: X.outer
  hf : X.env.frame = some X.env.locals
  tk : TakesM C.md X W
  po : PassesOwn (model X.prog X.w) X.A X.env X.xe
  pa : tx = true → ∀ hd : Option Value, PassesOwnAt (model X.prog X.w) (X.A.mark hd) X.A X.env X.xe
  fo : FrOk C X
  md : MdOk C X (cf.of C.md) lvl
  mdN : C.md = false → MdOk { C with md := true } X cf.nmN lvl
  cs : CsOk C X cf.cl cf.fl k
  hr : RoomH (k + 1) X.A
  hN : X.N = N
  hsc : X.env.scope = sc
  kind : sc.kind = .function
  la : la = true → LamX' C X ∧ ∃ f0, C.fr = some f0
  fa : ∀ x, X.fn x = true
section
variable {C : Ctx} {X : Cx} {W : WX} {cf : Cf} {lvl k : Nat} {N : List Str} {la tx : Bool} {sc : Scope}
theorem SOk.eok (o : SOk C X W cf lvl k N la tx sc) : EOk C X (EW N.length W) (cf.of C.md) lvl N la true sc :=
  ⟨o.fo, XCh.of o.hs o.hf o.tk (fun cls d σ H hl h => h σ (by rw [hl, o.hN])), o.md, o.hN, o.hsc, o.la, fun _ => o.fa⟩
theorem lamsE_one {src : List Mi.E} {as : List Expr} {kd : Sk} {tg iter : Expr} {nm : Nm} {LI : LamT} (hl : ∀ p ∈ lam1 N src iter, LI p.1 = some p.2) (h : srcArgs sc kd tg iter = some as) (hc : chkEs nm N (la && isIt kd) sc src as = true) : ∀ p ∈ lamsEs N src as, LI p.1 = some p.2 := by
  cases kd with
  | it =>
    simp only [srcArgs] at h
    split at h
    · cases h
      cases src with
      | nil => cases hc
      | cons x xs =>
        cases xs with
        | nil => simpa [lamsEs, lam1] using hl
        | cons y ys => simp [chkEs] at hc
    · cases h
  | rng1 => exact lamsEs_off (nm := nm) (sc := sc) (by rw [show (la && isIt .rng1) = false from Bool.and_false la] at hc; exact hc)
  | rng2 => exact lamsEs_off (nm := nm) (sc := sc) (by rw [show (la && isIt .rng2) = false from Bool.and_false la] at hc; exact hc)
  | enum => exact lamsEs_off (nm := nm) (sc := sc) (by rw [show (la && isIt .enum) = false from Bool.and_false la] at hc; exact hc)
  | zip => exact lamsEs_off (nm := nm) (sc := sc) (by rw [show (la && isIt .zip) = false from Bool.and_false la] at hc; exact hc)
/-- in a try's body -/
theorem SOk.tr (o : SOk C X W cf lvl k N la tx sc) {W' : WX} {pn : List (Addr × Obj)} {xe : Value → Shared → Prop} (t : TakesM C.md (X.tr pn xe) W') (p : PassesOwn (model X.prog X.w) X.A X.env xe) : SOk C (X.tr pn xe) W' cf lvl k N la false sc where
  hs := o.hs
  hf := o.hf
  tk := t
  po := p
  pa := fun z => nomatch z
  fo := ⟨o.fo.K, o.fo.calm, o.fo.nd, o.fo.un, o.fo.fr⟩
  md := ⟨o.md.res, fun f x ps h => let ⟨a, b⟩ := o.md.fns f x ps h; ⟨a, b⟩, o.md.gls, o.md.blt, o.md.clo, o.md.room⟩
  mdN := fun z => let m := o.mdN z; ⟨m.res, fun f x ps h => let ⟨a, b⟩ := m.fns f x ps h; ⟨a, b⟩, m.gls, m.blt, m.clo, m.room⟩
  cs := ⟨fun c x h => let ⟨a⟩ := o.cs.mks c x h; ⟨a⟩, o.cs.ca, o.cs.fd⟩
  hr := o.hr
  hN := o.hN
  hsc := o.hsc
  kind := o.kind
  la := fun z => let ⟨⟨a⟩, b⟩ := o.la z; ⟨⟨a⟩, b⟩
  fa := o.fa
/-- .. whose errors have context None -/
theorem SOk.trN (o : SOk C X W cf lvl k N la tx sc) (hmd : C.md = false) {W' : WX} {pn : List (Addr × Obj)} {xe : Value → Shared → Prop} (t : L2N.Takes (X.tr pn xe) W') (p : PassesOwn (model X.prog X.w) X.A X.env xe) : SOk { C with md := true } (X.tr pn xe) W' cf lvl k N false false sc where
  hs := o.hs
  hf := o.hf
  tk := t
  po := p
  pa := fun z => nomatch z
  fo := ⟨o.fo.K, o.fo.calm, o.fo.nd, o.fo.un, o.fo.fr⟩
  md := let m := o.mdN hmd; ⟨m.res, fun f x ps h => let ⟨a, b⟩ := m.fns f x ps h; ⟨a, b⟩, m.gls, m.blt, m.clo, m.room⟩
  mdN := fun z => nomatch z
  cs := ⟨fun c x h => let ⟨a⟩ := o.cs.mks c x h; ⟨a⟩, o.cs.ca, o.cs.fd⟩
  hr := o.hr
  hN := o.hN
  hsc := o.hsc
  kind := o.kind
  la := fun z => nomatch z
  fa := o.fa
end
end Mi
set_option linter.all false
set_option maxRecDepth 100000
set_option maxHeartbeats 8000000
/-! Mi34: every statement that the checker passes. -/
namespace Mi
open PySem PySem.Spec PyProof.Rows L2 L2H
section
variable {cf : Cf} {lvl k : Nat} {N : List Str}
theorem pbs2 {C : Ctx} {X : Cx} {W : XK} {a b : Expr} {es : List Mi.E} (h : PBs C X W [a, b] es) (hs : [a, b].all nstar = true) : PA X [a, b] (tA C W es) := pa_s h hs
mutual
theorem ps_all : ∀ (x : Mi.St) (st : Stmt) {C : Ctx} {X : Cx} {W : WX} {la tx : Bool} {sc : Scope}, SOk C X W cf lvl k N la tx sc → (∀ p ∈ lamsS N x st, C.g.LI p.1 = some p.2) → chkS cf N sc la C.md tx x st = true → PS X st (tS C N.length W x)
  | .asg t e, st, C, X, W, la, tx, sc, o, hl, h => by
    simp only [chkS] at h
    split at h
    · rename_i tg v pos
      obtain ⟨h1234, h5⟩ := andB h
      obtain ⟨h123, h4⟩ := andB h1234
      obtain ⟨h12, h3⟩ := andB h123
      obtain ⟨h1, h2⟩ := andB h12
      have eo := o.eok
      simp only [lamsS] at hl
      refine ps_as (pb_all e v eo hl h2).pe (pg_all eo t tg h1) ?_ (noSwap_ok h4 o.hsc) ((assign_map X.env []).resolve_right (by rw [h5]; decide))
      show swapsWith v (some tg) pos.line X.env = pure false
      rcases (Bool.or_eq_true _ _).mp h3 with z | z
      · exact swapsWith_plain z _ _ _
      · exact swapsWith_tup z _ _ _
    · cases h
  | .par is es, st, C, X, W, la, tx, sc, o, hl, h => by
    simp only [chkS] at h
    split at h
    · rename_i ts kt pt vs k2 p2 pos
      obtain ⟨h12, h3⟩ := andB h
      obtain ⟨h1, h2⟩ := andB h12
      have eo := o.eok
      simp only [lamsS] at hl
      have ps := pbs_all es vs eo hl h2
      have hk : X.env.scope.kind = .function := by rw [o.hsc]; exact o.kind
      unfold parOk at h1
      split at h1
      · rename_i i j x px y py a b
        obtain ⟨q123456, q7⟩ := andB h1
        obtain ⟨q12345, q6⟩ := andB q123456
        obtain ⟨q1234, q5⟩ := andB q12345
        obtain ⟨q123, q4⟩ := andB q1234
        obtain ⟨q12, q3⟩ := andB q123
        obtain ⟨q1, q2⟩ := andB q12
        have z5 : X.env.scope.names.lookup x = some .local := by rw [o.hsc]; exact of_decide_eq_true q5
        have z6 : X.env.scope.names.lookup y = some .local := by rw [o.hsc]; exact of_decide_eq_true q6
        exact ps_p2 o.fo.calm o.fo.nd (by rw [o.hN]; exact of_decide_eq_true q1) (by rw [o.hN]; exact of_decide_eq_true q2) (of_decide_eq_true q3) z5 z6 (pa_s ps h3) (swap2 hk z5 z6 (of_decide_eq_true q4) q7)
      · rename_i i j l x px y py z pz a b c
        obtain ⟨q123456, q7⟩ := andB h1
        obtain ⟨q12345, q6⟩ := andB q123456
        obtain ⟨q1234, q5⟩ := andB q12345
        obtain ⟨q123, q4⟩ := andB q1234
        obtain ⟨q12, q3⟩ := andB q123
        obtain ⟨q1, q2⟩ := andB q12
        obtain ⟨r12, r3⟩ := andB q4
        obtain ⟨r1, r2⟩ := andB r12
        obtain ⟨s12, s3⟩ := andB q5
        obtain ⟨s1, s2⟩ := andB s12
        obtain ⟨t12, t3⟩ := andB q6
        obtain ⟨t1, t2⟩ := andB t12
        have z1 : X.env.scope.names.lookup x = some .local := by rw [o.hsc]; exact of_decide_eq_true t1
        have z2 : X.env.scope.names.lookup y = some .local := by rw [o.hsc]; exact of_decide_eq_true t2
        have z3 : X.env.scope.names.lookup z = some .local := by rw [o.hsc]; exact of_decide_eq_true t3
        exact ps_p3 o.fo.calm o.fo.nd (by rw [o.hN]; exact of_decide_eq_true q1) (by rw [o.hN]; exact of_decide_eq_true q2) (by rw [o.hN]; exact of_decide_eq_true q3) (of_decide_eq_true r1) (of_decide_eq_true r2) (of_decide_eq_true r3) z1 z2 z3 (pa_s ps h3)
          (swap3 hk z1 z2 z3 (of_decide_eq_true s1) (of_decide_eq_true s2) (of_decide_eq_true s3) q7)
      · cases h1
    · cases h
  | .ex e, st, C, X, W, la, tx, sc, o, hl, h => by
    cases st <;> simp only [chkS] at h <;> try (cases h; done)
    obtain ⟨h1, h2⟩ := andB h
    simp only [lamsS] at hl
    exact ps_ex (pb_all e _ o.eok hl h1).pe (swapsWith_plain h2 _ _ _)
  | .iff c a b, st, C, X, W, la, tx, sc, o, hl, h => by
    cases st <;> simp only [chkS] at h <;> try (cases h; done)
    obtain ⟨h12, h3⟩ := andB h
    obtain ⟨h1, h2⟩ := andB h12
    simp only [lamsS] at hl
    exact ps_ifs (pb_all c _ o.eok (fun p hp => hl p (List.mem_append_left _ (List.mem_append_left _ hp))) h1).pt (pss_all a _ o (fun p hp => hl p (List.mem_append_left _ (List.mem_append_right _ hp))) h2) (pss_all b _ o (fun p hp => hl p (List.mem_append_right _ hp)) h3)
  | .for_ t kd src b, st, C, X, W, la, tx, sc, o, hl, h => by
    simp only [chkS] at h
    split at h
    · rename_i tg iter body pos
      split at h
      · rename_i as e1
        obtain ⟨h123, h4⟩ := andB h
        obtain ⟨h12, h3⟩ := andB h123
        obtain ⟨h1, h2⟩ := andB h12
        have eo := o.eok
        simp only [lamsS] at hl
        have eo' : EOk C X (EW N.length W) (cf.of C.md) lvl N (la && isIt kd) true sc := ⟨eo.fo, eo.ch, eo.md, eo.hN, eo.hsc, fun z => eo.la (andB z).1, eo.fa⟩
        have ps := pbs_all src as eo' (lamsE_one (fun p hp => hl p (List.mem_append_left _ hp)) e1 h1) h1
        exact ps_fr o.po o.fo.calm (pi_all eo e1 ps) (pg_all eo t tg h2) (pss_all b body o (fun p hp => hl p (List.mem_append_right _ hp)) h3) (folded_plain h4 _)
      · cases h
    · cases h
  | .whl c b, st, C, X, W, la, tx, sc, o, hl, h => by
    simp only [chkS] at h
    split at h
    · obtain ⟨h1, h2⟩ := andB h
      simp only [lamsS] at hl
      exact ps_wh o.po (pb_all c _ o.eok (fun p hp => hl p (List.mem_append_left _ hp)) h1).pt (pss_all b _ o (fun p hp => hl p (List.mem_append_right _ hp)) h2)
    · cases h
  | .ret e, st, C, X, W, la, tx, sc, o, hl, h => by
    simp only [chkS] at h
    split at h
    · simp only [lamsS] at hl
      exact ps_rt (pb_all e _ o.eok hl h).pe
    · cases h
  | .retn, st, C, X, W, la, tx, sc, o, hl, h => by
    simp only [chkS] at h
    split at h
    · exact ps_rn
    · cases h
  | .brk, st, C, X, W, la, tx, sc, o, hl, h => by
    cases st <;> simp only [chkS] at h <;> try (cases h; done)
    exact ps_bk
  | .cnt, st, C, X, W, la, tx, sc, o, hl, h => by
    cases st <;> simp only [chkS] at h <;> try (cases h; done)
    exact ps_ct
  | .pas, st, C, X, W, la, tx, sc, o, hl, h => by
    cases st <;> simp only [chkS] at h <;> try (cases h; done)
    exact ps_pa
  | .rse c e, st, C, X, W, la, tx, sc, o, hl, h => by
    simp only [chkS] at h
    split at h
    · rename_i x p v p2 pos
      obtain ⟨h1234, h5⟩ := andB h
      obtain ⟨h123, h4⟩ := andB h1234
      obtain ⟨h12, h3⟩ := andB h123
      obtain ⟨h1, h2⟩ := andB h12
      obtain ⟨d1, d2⟩ := okN_ok h3
      have eo := o.eok
      exact ps_rs (by rw [o.hN]) o.fo.calm o.tk (o.cs.mks c x (of_decide_eq_true h1)) o.hr (eo.gl' h2) d1 (pb_all e v eo.nola (lamsE_off h4) h4).pe h5
    · cases h
  | .try_ b hs, st, C, X, W, la, tx, sc, o, hl, h => by
    simp only [chkS] at h
    split at h
    · rename_i c i tag
      split at h
      · rename_i body x np nme tagS j p1 nme2 p2 fl p3 k2 p4 np2 pos' pos
        obtain ⟨h10, g11⟩ := andB h
        obtain ⟨h9, g10⟩ := andB h10
        obtain ⟨h8, g9⟩ := andB h9
        obtain ⟨h7, g8⟩ := andB h8
        obtain ⟨h6, g7⟩ := andB h7
        obtain ⟨h5, g6⟩ := andB h6
        obtain ⟨h4, g5⟩ := andB h5
        obtain ⟨h3, g4⟩ := andB h4
        obtain ⟨h2, g3⟩ := andB h3
        obtain ⟨g1, g2⟩ := andB h2
        have hmd : C.md = false := by simpa using g1
        have e9 := of_decide_eq_true g9
        have e10 := of_decide_eq_true g10
        subst e9 e10
        obtain ⟨d1, d2⟩ := okN_ok g4
        obtain ⟨d3, d4⟩ := okN_ok g5
        have tk := o.tk
        rw [hmd] at tk
        simp only [lamsS] at hl
        refine ps_tr hmd (by rw [o.hN]) o.hs o.hf o.fo.nd o.cs (of_decide_eq_true g2) (o.eok.gl' g3) d1 (by rw [o.hN]; exact of_decide_eq_true g6) (by rw [o.hsc]; exact of_decide_eq_true g7) d3 d4 ?_ tk fun W' pn xe t p => ?_
        · rw [← of_decide_eq_true g8]
        · exact pss_all b body (o.tr (by rw [hmd]; exact t) p) hl g11
      · cases h
    · rename_i c c2
      split at h
      · rename_i body x np y p1 j p2 p3 j2 p4 p5 pos' pos
        obtain ⟨h8, g9⟩ := andB h
        obtain ⟨h7, g8⟩ := andB h8
        obtain ⟨h6, g7⟩ := andB h7
        obtain ⟨h5, g6⟩ := andB h6
        obtain ⟨h4, g5⟩ := andB h5
        obtain ⟨h3, g4⟩ := andB h4
        obtain ⟨h2, g3⟩ := andB h3
        obtain ⟨g1, g2⟩ := andB h2
        have hmd : C.md = false := by simpa using g1
        obtain ⟨d1, d2⟩ := okN_ok g6
        obtain ⟨d3, d4⟩ := okN_ok g8
        have tk := o.tk
        rw [hmd] at tk
        simp only [lamsS] at hl
        exact ps_tx hmd (by rw [o.hN]) o.hs o.hf o.cs (of_decide_eq_true g3) (of_decide_eq_true g4) (o.eok.gl' g5) d1 (o.eok.gl' g7) d3 o.hr (o.pa g2) tk fun W' pn xe t p => pss_all b body (C := { C with md := true }) (o.trN hmd t p) hl g9
      · cases h
    · cases h
  | .un, st, C, X, W, la, tx, sc, o, hl, h => ps_un
theorem pss_all : ∀ (xs : List Mi.St) (sts : List Stmt) {C : Ctx} {X : Cx} {W : WX} {la tx : Bool} {sc : Scope}, SOk C X W cf lvl k N la tx sc → (∀ p ∈ lamsSs N xs sts, C.g.LI p.1 = some p.2) → chkSs cf N sc la C.md tx xs sts = true → PSs X sts (tSs C N.length W xs)
  | [], sts, C, X, W, la, tx, sc, o, hl, h => by
    cases sts with
    | nil => exact PSs.nil
    | cons _ _ => cases h
  | x :: xs, sts, C, X, W, la, tx, sc, o, hl, h => by
    cases sts with
    | nil => cases h
    | cons s ss =>
      simp only [chkSs] at h
      obtain ⟨h1, h2⟩ := andB h
      simp only [lamsSs] at hl
      exact PSs.cons (ps_all x s o (fun p hp => hl p (List.mem_append_left _ hp)) h1) (pss_all xs ss o (fun p hp => hl p (List.mem_append_right _ hp)) h2)
end
end
end Mi
set_option linter.all false
set_option maxRecDepth 100000
set_option maxHeartbeats 2000000
/-! Mi35: a call's end; a def keeps its promise. -/
namespace Mi
open PySem PySem.Spec PyProof.Rows L2 L2H
section
variable {C : Ctx} {Q : VK} {E : XK} {ρ : List Addr} {H : Hp} {S : Store} {W : WX} {n : Nat}
/-- a call's end -/
theorem finishF {keep : Bool} {f : Fl} (rs : C.RS ρ H S) (hW : ∀ cls d H', E cls d H' → EW n W cls d H') (h : PoE C.g none E Q ρ H (finish keep S.length f)) : PoF C (EW n W) { nx := fun _ H' => Q .non H', rt := Q } ρ H f := by
  cases f with
  | nx env S' => exact fun σ' H' ρ' e s r => h .non H' ρ e.cut (RS.take rs s e) rfl
  | rt v S' =>
    intro x H' ρ' e s r
    cases v with
    | d x' => exact h x H' ρ e.cut (RS.take rs s e) (RD.sub e.subs _ _ r)
    | loc l =>
      obtain ⟨a, rfl, ha⟩ := r
      simp only [finish] at h
      obtain ⟨more, hmore, hfree⟩ := id e.pre
      by_cases hl : l < S.length
      · rw [if_pos hl] at h
        refine h _ H' ρ e.cut (RS.take rs s e) ⟨a, rfl, ?_⟩
        rw [hmore, List.getElem?_append_left (by rw [rs.len]; exact hl)] at ha
        exact ha
      · rw [if_neg hl] at h
        cases q : S'[l]? with
        | none => rw [q] at h; exact h.elim
        | some o =>
          cases o with
          | lst ds =>
            simp only [q] at h
            obtain ⟨xs, h1, h2⟩ := s.obj l a _ ha q
            have ham : a ∈ more := by
              rw [hmore, List.getElem?_append_right (by rw [rs.len]; omega)] at ha
              exact List.mem_of_getElem? ha
            have hna : H a = none := hfree a ham
            have haρ : a ∉ ρ := rs.free hna
            have hsub : ∀ b ∈ ρ ++ [a], b ∈ ρ' := fun b hb => by
              rw [hmore]
              rcases List.mem_append.mp hb with z | z
              · exact List.mem_append_left _ z
              · rw [List.mem_singleton.mp z]; exact List.mem_append_right _ ham
            have rt := RS.take rs s e
            cases keep with
            | false =>
              rw [if_neg Bool.false_ne_true] at h
              exact h _ H' ρ e.cut rt ⟨a, xs, rfl, ⟨h1, haρ⟩, RDs.sub e.subs _ _ h2⟩
            | true =>
              rw [if_pos rfl] at h
              have hlen : ρ.length = (S'.take S.length).length := rt.len
              refine h _ H' (ρ ++ [a]) ⟨⟨[a], rfl, fun b hb => by rw [List.mem_singleton.mp hb]; exact hna⟩, e.keep, e.dom⟩ ⟨by simp [hlen], ?_, fun m b o z1 z2 => ?_, rt.tab⟩ ⟨a, rfl, ?_⟩
              · rw [List.nodup_append]
                refine ⟨rt.nd, by simp, fun b hb c hc ee => ?_⟩
                rw [List.mem_singleton.mp hc] at ee
                exact haρ (ee ▸ hb)
              · by_cases hm : m < ρ.length
                · rw [List.getElem?_append_left hm] at z1
                  rw [List.getElem?_append_left (by rw [← hlen]; exact hm)] at z2
                  have z2' : S'[m]? = some o := by
                    rw [List.getElem?_take] at z2
                    split at z2
                    · exact z2
                    · cases z2
                  have hb : ρ'[m]? = some b := by rw [hmore, List.getElem?_append_left hm]; exact z1
                  have zz := s.obj m b o hb z2'
                  cases o with
                  | lst es =>
                    obtain ⟨ys, y1, y2⟩ := zz
                    exact ⟨ys, y1, RDs.sub hsub _ _ y2⟩
                · have em : m = ρ.length := by
                    have := (List.getElem?_eq_some_iff.mp z1).1
                    simp at this
                    omega
                  subst em
                  rw [List.getElem?_append_right (Nat.le_refl _)] at z1
                  rw [hlen, List.getElem?_append_right (Nat.le_refl _)] at z2
                  simp at z1 z2
                  subst z1 z2
                  exact ⟨xs, h1, RDs.sub hsub _ _ h2⟩
              · rw [← rs.len, List.getElem?_append_right (Nat.le_refl _)]; simp
    | _ => exact h.elim
  | bk env S' => exact h.elim
  | ct env S' => exact h.elim
  | ex c d env S' => exact fun cls dx H' ρ' e s r => hW _ _ _ (h cls dx H' ρ e.cut (RS.take rs s e) (RX.sub e.subs r))
  | bad => exact h.elim
end
/-- what the functions hand back -/
theorem res_callF (Pg : Mi.Pg) : ∀ n, FRes (callF Pg n)
  | 0 => fun f ws S x S' h => by cases h
  | n + 1 => fun f ws S x S' h => by
    unfold callF at h
    split at h
    · split at h
      · rename_i np ns keep b hf hlen
        generalize exSs Pg (callF Pg n) b (ws.map some ++ List.replicate (ns - np) none) S = fl at h
        cases fl with
        | nx env S1 => cases h; rfl
        | rt v S1 =>
          cases v with
          | d y => cases h; rfl
          | loc l =>
            simp only [finish] at h
            split at h
            · cases h; rfl
            · split at h
              · split at h <;> (cases h; rfl)
              · cases h
          | _ => cases h
        | bk env S1 => cases h
        | ct env S1 => cases h
        | ex c d env S1 => cases h
        | bad => cases h
      · cases h
    · split at h
      · rename_i np pad e hf hlen
        generalize evE Pg (callF Pg n) e (List.replicate pad none ++ ws.map some) S = r at h
        cases r with
        | ok v S1 =>
          cases v with
          | d y => cases h; rfl
          | _ => cases h
        | exc c d S1 => cases h
        | bad => cases h
      · cases h
    · cases h
end Mi
set_option linter.all false
set_option maxRecDepth 100000
set_option maxHeartbeats 2000000
/-! Mi37: str.replace with a count of one; texts with tokens. -/
namespace Mi
open PySem PySem.Spec PyProof.Rows L2 L2H
open PySem.Builtin PySem.Builtin.Str
/-- the first place alone -/
def rep1 (x y z : Str) : Str :=
  if ((occurrences x y 0 x.length 1).isEmpty || (y.length == 0 && z.length == 0)) = true then x
  else glued z (partsBetween x (occurrences x y 0 x.length 1) y.length)
theorem gives_replace1 (x y z : Str) (t u v tc : Tok)
    (hf : ((occurrences x y 0 x.length 1).isEmpty || (y.length == 0 && z.length == 0)) = false →
      (u == 0 || v == 0) = false ∧ (u == v) = false ∧ (y == z) = false ∧ tooLong (x.length + (occurrences x y 0 x.length 1).length * z.length) = false) :
    Gives («str.replace» ⟨[.str x t, .str y u, .str z v, .int 1 tc], []⟩) (if ((occurrences x y 0 x.length 1).isEmpty || (y.length == 0 && z.length == 0)) = true then .val (.str x t) else .str (glued z (partsBetween x (occurrences x y 0 x.length 1) y.length))) := by
  show Gives (if ((occurrences x y 0 x.length 1).isEmpty || (y.length == 0 && z.length == 0)) = true then (do rule "str.replace.nothing"; ret (.str x t)) else
          (do let same ← isSame (.str y u) (.str z v)
              if same = true then (do rule "str.replace.old-is-new"; ret (.str x t)) else
              if tooLong (x.length + (occurrences x y 0 x.length 1).length * z.length) = true then unsupported "str.replace:memory" else
              retStr (glued z (partsBetween x (occurrences x y 0 x.length 1) y.length)))) _
  cases hc : ((occurrences x y 0 x.length 1).isEmpty || (y.length == 0 && z.length == 0))
  · obtain ⟨h0, huv, hyz, hl⟩ := hf hc
    rw [isSame_str_other y z u v h0 huv hyz, hl]
    exact .of_eq rfl
  · exact .rule (.of_eq rfl)
theorem rep1_list {x y z : Str} (hy : y.cps.toList ≠ []) : (rep1 x y z).cps.toList = repl1 y.cps.toList z.cps.toList x.cps.toList := by
  have h := TL.partition_par x y hy
  have hlen : y.length ≠ 0 := fun e => hy (by
    have : y.cps.size = 0 := e
    exact List.length_eq_zero_iff.mp (by rw [Array.length_toList]; exact this))
  have hne : y ≠ Str.empty := fun e => hlen (by rw [e]; rfl)
  have h1 := StrLaws.occ_length_le x y 0 x.length 1
  unfold Txt.partition at h
  unfold rep1 repl1
  cases ho : occurrences x y 0 x.length 1 with
  | nil =>
    rw [ho] at h
    cases q : TL.par y.cps.toList [] x.cps.toList with
    | none => simp
    | some ab =>
      obtain ⟨a, b⟩ := ab
      have q' : TL.par (TL.tl y) [] (TL.tl x) = some (a, b) := q
      rw [q'] at h
      injection h with _ h2
      injection h2 with h3 _
      exact absurd h3.symm hne
  | cons i r =>
    rw [ho] at h h1
    have hr : r = [] := List.length_eq_zero_iff.mp (by simp only [List.length_cons] at h1; omega)
    subst hr
    cases q : TL.par y.cps.toList [] x.cps.toList with
    | none =>
      have q' : TL.par (TL.tl y) [] (TL.tl x) = none := q
      rw [q'] at h
      injection h with _ h2
      injection h2 with h3 _
      exact absurd h3 hne
    | some ab =>
      obtain ⟨a, b⟩ := ab
      have q' : TL.par (TL.tl y) [] (TL.tl x) = some (a, b) := q
      rw [q'] at h
      injection h with e1 h2
      injection h2 with _ e2
      have hc : (([i] : List Nat).isEmpty || (y.length == 0 && z.length == 0)) = false := by simp [hlen]
      rw [hc]
      simp [partsBetween, glued, e1, e2]
theorem rep1_fits {x z : Str} (y : Str) (hb : x.length + (x.length + 1) * z.length ≤ 16777216) :
    (glued z (partsBetween x (occurrences x y 0 x.length 1) y.length)).length ≤ sizeLine := by
  have h1 := StrLaws.occ_length_le_len x y 0 x.length 1
  have hy : (glued y (partsBetween x (occurrences x y 0 x.length 1) y.length)).length = x.length := by rw [StrLaws.glued_between_self]
  rw [size_glued, length_partsBetween, Nat.add_sub_cancel] at hy
  rw [size_glued, length_partsBetween, Nat.add_sub_cancel, sizeLine_eq]
  have h2 : (occurrences x y 0 x.length 1).length * z.length ≤ (x.length + 1) * z.length := Nat.mul_le_mul_right _ (by omega)
  omega
theorem sc_replace1 {prog : Program} {w : World} {A : Around} {E : Value → Shared → Prop} {s : Shared} {x y z : Str} {t u v tc : Tok} {Q : Value → Shared → Prop}
    (hu : u ≠ 0) (hv : v ≠ 0) (huv : u ≠ v) (hyz : (y == z) = false) (hb : x.length + (x.length + 1) * z.length ≤ 16777216)
    (hq : ∀ t' k, Q (.str (rep1 x y z) t') { s with toks := k }) : wpAny (model prog w) A (call (.builtin "str.replace") [.str x t, .str y u, .str z v, .int 1 tc]) Q E s := by
  have hl : tooLong (x.length + (occurrences x y 0 x.length 1).length * z.length) = false := by
    have h1 := StrLaws.occ_length_le_len x y 0 x.length 1
    have h2 : (occurrences x y 0 x.length 1).length * z.length ≤ (x.length + 1) * z.length := Nat.mul_le_mul_right _ (by omega)
    unfold tooLong sizeLine
    exact decide_eq_false (by omega)
  refine call_gives F.slot_str_replace (typeIs_str _ _ _) F.entry_str_replace (F.args_str_replace_4 _ _ _ _)
    (gives_replace1 x y z t u v tc fun _ => ⟨by simp [hu, hv], by simp [huv], hyz, hl⟩) ?_
  have hq' := hq
  unfold rep1 at hq'
  cases hc : ((occurrences x y 0 x.length 1).isEmpty || (y.length == 0 && z.length == 0))
  · rw [hc] at hq'
    simp only [Bool.false_eq_true, if_false] at hq' ⊢
    exact ⟨rep1_fits y hb, hq' _ _⟩
  · rw [hc] at hq'
    simp only [if_true] at hq' ⊢
    exact hq' t s.toks
end Mi
set_option linter.all false
set_option maxRecDepth 100000
set_option maxHeartbeats 4000000
/-! Mi38: expressions that want a token: str.replace of written texts; statements and a def's body with them. -/
namespace Mi
open PySem PySem.Spec PyProof.Rows L2 L2H CwR
theorem spl_ne38 {S : List Nat} : ∀ (k : Nat) (acc l : List Nat), TL.spl S k acc l ≠ []
  | k, acc, [] => by rw [TL.spl_nil]; simp
  | 0, acc, c :: r => by
    rw [TL.spl]; split
    · simp
    · exact spl_ne38 0 _ r
  | k + 1, acc, c :: r => by rw [TL.spl]; exact spl_ne38 k acc r
theorem join_replS (y z : List Nat) : ∀ (k : Nat) (acc l : List Nat), TL.joinL z (TL.spl y k acc l) = acc ++ StrLaws.replS y z k l
  | k, acc, [] => by rw [TL.spl_nil]; cases k <;> simp [TL.joinL, StrLaws.replS]
  | 0, acc, c :: r => by
    by_cases h : (c :: r).take y.length = y
    · rw [TL.spl_hit (by unfold TL.pre; rw [h]; exact beq_self_eq_true y), StrLaws.replS, if_pos h]
      have ih := join_replS y z (y.length - 1) [] r
      have hne := spl_ne38 (S := y) (y.length - 1) [] r
      revert ih hne
      cases TL.spl y (y.length - 1) [] r with
      | nil => intro _ h; exact absurd rfl h
      | cons p q => intro ih _; rw [TL.joinL, ih, List.nil_append]
    · rw [TL.spl_miss (by unfold TL.pre; exact beq_eq_false_iff_ne.mpr h), StrLaws.replS, if_neg h, join_replS y z 0 (acc ++ [c]) r]
      simp
  | k + 1, acc, c :: r => by rw [TL.spl, StrLaws.replS]; exact join_replS y z k acc r
theorem toS_list (x : List Nat) : (toS x).cps.toList = x := by simp
theorem repl_eq {x y z : List Nat} (hy : y ≠ []) : Txt.replace (toS x) (toS y) (toS z) = toS (replL y z x) := by
  refine TL.ext_tl ?_
  have hl : 1 ≤ (toS y).length := by
    have : 0 < y.length := List.length_pos_iff.mpr hy
    simp [Str.length]; omega
  have := StrLaws.replace_list (x := toS x) (y := toS y) (z := toS z) hl
  show (Txt.replace (toS x) (toS y) (toS z)).cps.toList = (toS (replL y z x)).cps.toList
  rw [this, toS_list, toS_list, toS_list, toS_list]
  unfold replL
  rw [join_replS, List.nil_append]; rfl
theorem repl1_eq {x y z : List Nat} (hy : y ≠ []) : rep1 (toS x) (toS y) (toS z) = toS (repl1 y z x) := by
  refine TL.ext_tl ?_
  show (rep1 (toS x) (toS y) (toS z)).cps.toList = (toS (repl1 y z x)).cps.toList
  rw [rep1_list (by simpa using hy), toS_list, toS_list, toS_list, toS_list]
theorem toS_ne {y z : List Nat} (h : (y == z) = false) : (toS y == toS z) = false := by
  refine beq_eq_false_iff_ne.mpr fun e => ?_
  have := congrArg (fun s : Str => s.cps.toList) e
  simp at this
  rw [this] at h; simp at h
theorem toS_length (y : List Nat) : (toS y).length = y.length := by simp [Str.length]
section
variable {C : Ctx} {X : Cx} {W : XK}
theorem PET.imp {e : Expr} {t t' : TE} (h : PET X e t) (i : ∀ σ H Q, t' σ H Q → t σ H Q) : PET X e t' := fun pins s σ H Q h0 I q => h pins s σ H Q h0 I (i _ _ _ q)
theorem PAT.imp {e : List Expr} {t t' : TA} (h : PAT X e t) (i : ∀ σ H Q, t' σ H Q → t σ H Q) : PAT X e t' := fun pos pins s σ H Q h0 I q => h pos pins s σ H Q h0 I (i _ _ _ q)
theorem Call_method3 {prog : Program} {w : World} {A : Around} {E : Value → Shared → Prop} {s : Shared} {env : PySem.Env} {o e1 e2 e3 : Expr} {name : Str} {apos pos : Pos} {Q : Value → Shared → Prop}
    (hbase : attributeBase o name env (eval o env) = eval o env) (hs : starEach [e1, e2, e3] env = [(false, eval e1 env), (false, eval e2 env), (false, eval e3 env)]) (hline : (apos.endLine == pos.line) = true)
    (h : wpAny (model prog w) A (eval o env) (fun ov s₁ => MethodOnS prog w A E name ov pos [(false, eval e1 env), (false, eval e2 env), (false, eval e3 env)] Q s₁) E s) :
    wpAny (model prog w) A (eval (.Call (.Attribute o name apos) [e1, e2, e3] [] pos) env) Q E s := by
  refine wpAny_Call_method_lateS hbase (by rw [hs]; rfl) hline ?_
  rw [hs]; exact h
/-- text.replace(y, z, 1) -/
def tRep1 (to : TE) (y z : Str) : TE := fun σ H Q => to σ H fun v H1 => ∃ x, v = .str x ∧ x.length + (x.length + 1) * z.length ≤ 16777216 ∧ Q (.str (rep1 x y z)) H1
theorem pet_rep1 {o : Expr} {to : TE} {y z : Str} {j k l : Nat} {c0 c1 c2 apos pos : Pos} (ho : PE X o to) (hyz : (y == z) = false)
    (hst : starEach [.Constant (.str y) j c0, .Constant (.str z) k c1, .Constant (.int 1) l c2] X.env = [(false, eval (.Constant (.str y) j c0) X.env), (false, eval (.Constant (.str z) k c1) X.env), (false, eval (.Constant (.int 1) l c2) X.env)] := by rfl)
    (hbase : attributeBase o "replace" X.env (eval o X.env) = eval o X.env) (hline : (apos.endLine == pos.line) = true) :
    PET X (.Call (.Attribute o "replace" apos) [.Constant (.str y) j c0, .Constant (.str z) k c1, .Constant (.int 1) l c2] [] pos) (tRep1 to y z) := by
  intro pins s σ H Q h0 I h
  refine Call_method3 hbase hst hline (wpAny_mono (PySem.wpAny_toks (ho.run pins s σ H _ I h)) (fun v s1 q => ?_) fun _ _ z => z.2)
  obtain ⟨hk, v', H1, I1, r1, x, e1, hb, q⟩ := q
  subst e1
  obtain ⟨tx, e2⟩ := r1
  subst e2
  refine ⟨"str", _, PySem.F.plainAttrs_str, PySem.F.slot_str_replace, PySem.F.type_str_replace, typeIs_str _ _ _, (fun _ e => nomatch e), Calls.callWith_builtin rfl (Calls.evalArgs_plain (Calls.spliced_cons ?_))⟩
  refine Calls.Constant_str (Calls.spliced_cons (Calls.Constant_str (Calls.spliced_cons ?_)))
  refine wpAny_Constant_int (Calls.spliced_nil ?_)
  exact sc_replace1 (by show s1.toks ≠ 0; omega) (by show s1.toks + 1 ≠ 0; omega) (by show s1.toks ≠ s1.toks + 1; omega) hyz hb fun t' k => ⟨.str (rep1 x y z), H1, I1.tok k, ⟨t', rfl⟩, q⟩
theorem te_repl {o : Mi.E} {y z : List Nat} {σ : L2.St} {H : Hp} {Q : VK} (h : tE C W (.mth .replace o [.str y, .str z]) σ H Q) : tReplC (tE C W o) (toS y) (toS z) σ H Q := by
  obtain ⟨env, S, ρ, rs, re, w⟩ := h
  simp only [evE] at w
  refine one rs re (k := fun x S1 => if mthO .replace x then (match evEs C.P C.F [.str y, .str z] env S1 with
      | .ok vs S2 => mthD .replace x vs S2
      | .exc c d S2 => .exc c d S2
      | .bad => .bad) else .bad) w fun x1 S1 v H1 ρ1 s1 r1 re1 x1e w1 => ?_
  split at w1
  · simp only [evEs, evE, mthD] at w1
    cases x1 with
    | d x =>
      cases x with
      | str a =>
        simp only [replD] at w1
        split at w1
        · rename_i hc
          obtain ⟨h1, h2, h3⟩ := hc
          have hr : v = V.str (toS a) := r1
          refine ⟨toS a, hr, by rw [toS_length, toS_length]; exact h3, w1 _ H1 ρ1 (Ext.refl _ _) s1 ?_⟩
          show V.str (Txt.replace (toS a) (toS y) (toS z)) = V.str (toS (replL y z a))
          rw [repl_eq h1]
        · exact w1.elim
      | _ => exact w1.elim
    | _ => exact w1.elim
  · exact w1.elim
theorem te_rep1 {o : Mi.E} {y z : List Nat} {σ : L2.St} {H : Hp} {Q : VK} (h : tE C W (.mth .replace o [.str y, .str z, .int 1]) σ H Q) : tRep1 (tE C W o) (toS y) (toS z) σ H Q := by
  obtain ⟨env, S, ρ, rs, re, w⟩ := h
  simp only [evE] at w
  refine one rs re (k := fun x S1 => if mthO .replace x then (match evEs C.P C.F [.str y, .str z, .int 1] env S1 with
      | .ok vs S2 => mthD .replace x vs S2
      | .exc c d S2 => .exc c d S2
      | .bad => .bad) else .bad) w fun x1 S1 v H1 ρ1 s1 r1 re1 x1e w1 => ?_
  split at w1
  · simp only [evEs, evE, mthD] at w1
    cases x1 with
    | d x =>
      cases x with
      | str a =>
        have w2 : PoE C.g C.fr W Q ρ1 H1 (if y ≠ [] ∧ (y == z) = false ∧ a.length + (a.length + 1) * z.length ≤ line then .ok (.d (.str (repl1 y z a))) S1 else .bad) := w1
        split at w2
        · rename_i hc
          obtain ⟨h1, h2, h3⟩ := hc
          have hr : v = V.str (toS a) := r1
          refine ⟨toS a, hr, by rw [toS_length, toS_length]; exact h3, w2 _ H1 ρ1 (Ext.refl _ _) s1 ?_⟩
          show V.str (rep1 (toS a) (toS y) (toS z)) = V.str (toS (repl1 y z a))
          rw [repl1_eq h1]
        · exact w2.elim
      | _ => exact w1.elim
    | _ => exact w1.elim
  · exact w1.elim
theorem pet_b {o : Bop} {mu : Bool} {a b : Expr} {x y : Mi.E} {pos : Pos} (ho : OpR X (binaryOp (opO o)) (r2 C.g C.fr (binD o mu))) (ha : PET X a (tE C W x)) (hb : PET X b (tE C W y)) : PET X (.BinOp a (opO o) b pos) (tE C W (.bin o mu x y)) :=
  PET.imp (pet_op ho ha hb) fun σ H Q ⟨env, S, ρ, rs, re, h⟩ => by
    simp only [evE] at h
    exact two (k := binD o mu) rs re h fun x y S2 v u H2 ρ2 s2 r1 r2 _ h2 => ⟨x, y, S2, ρ2, s2, r1, r2, h2.toR binD_noexc⟩
theorem pat_n : PAT X [] (tA C W []) := PAT.imp pat_nil fun σ H Q ⟨env, S, ρ, rs, re, h⟩ => by
  simp only [evEs] at h
  exact h [] H ρ (Ext.refl _ _) rs trivial
theorem pat_c {e : Expr} {es : List Expr} {x : Mi.E} {xs : List Mi.E} (h1 : PET X e (tE C W x)) (h2 : PAT X es (tA C W xs)) (hs : starEach (e :: es) X.env = (false, eval e X.env) :: starEach es X.env) : PAT X (e :: es) (tA C W (x :: xs)) :=
  PAT.imp (pat_cons h1 h2 hs) fun σ H Q ⟨env, S, ρ, rs, re, h⟩ => by
    simp only [evEs] at h
    refine ⟨env, S, ρ, rs, re, PoE.of (Q := fun _ _ => True) (fun x1 S1 e v H1 ρ1 x1' s1 r1 => ?_) (fun c d S1 e => by rw [e] at h; exact h) (fun e => by rw [e] at h; exact h)⟩
    simp only [e] at h
    refine ⟨env, S1, ρ1, s1, re.ext x1', PoEs.of (Q := fun _ _ => True) (fun x2 S2 e2 v2 H2 ρ2 x2' s2 r2 => ?_) (fun c d S2 e2 => ?_) (fun e2 => by rw [e2] at h; exact h)⟩
    · simp only [e2] at h
      exact h (v :: v2) H2 ρ2 (x1'.trans x2') s2 ⟨RVl.ext x2' _ _ _ r1, r2⟩
    · simp only [e2] at h
      exact PoE.mono x1' (r := .exc c d S2) h
theorem pet_ls {es : List Expr} {xs : List Mi.E} {mu : Bool} {pos : Pos} (h : PAT X es (tA C W xs)) : PET X (.List es pos) (tE C W (.lst mu xs)) :=
  PET.imp (pet_lst h) fun σ H Q ⟨env, S, ρ, rs, re, w⟩ => by
    simp only [evE] at w
    refine many rs re (k := fun vs S1 => if vs.all isLam && !vs.isEmpty && decide (vs.length ≤ line) then .ok (.seq vs) S1 else (match datas vs with
      | some ds => newL mu ds S1
      | none => .bad)) w fun x1 S1 v H1 ρ1 s1 r1 re1 x1e w1 => ?_
    split at w1
    · rename_i ok
      rw [Bool.and_eq_true, Bool.and_eq_true] at ok
      exact ⟨by rw [← r1.length, ← line_eq]; exact of_decide_eq_true ok.2, fun p hp => w1.seq s1 r1 hp (.inr rfl)⟩
    · split at w1
      · rename_i ds e
        have hd := r1.datas e
        have w2 := w1.toR newL_noexc
        exact ⟨by rw [← hd.length]; exact w2.lst_len, fun p hp => w2.lst s1 hd hp⟩
      · exact w1.elim
end
/-! ### the checker -/
section
variable (nm : Nm) (N : List Str) (sc : Scope)
mutual
/-- expressions that may replace -/
def chkR : Mi.E → Expr → Bool
  | .mth .replace o as, e => match e with
    | .Call (.Attribute o' n apos) [.Constant (.str y') _ _, .Constant (.str z') _ _] [] pos => match as with
      | [.str y, .str z] => decide (n = "replace") && decide (y' = toS y) && decide (z' = toS z) && (!(y == z)) && chkE nm N false sc o o' && plainO o' && (apos.endLine == pos.line)
      | _ => false
    | .Call (.Attribute o' n apos) [.Constant (.str y') _ _, .Constant (.str z') _ _, .Constant (.int 1) _ _] [] pos => match as with
      | [.str y, .str z, .int 1] => decide (n = "replace") && decide (y' = toS y) && decide (z' = toS z) && (!(y == z)) && chkE nm N false sc o o' && plainO o' && (apos.endLine == pos.line)
      | _ => false
    | _ => false
  | .lst mu es, e => chkE nm N false sc (.lst mu es) e || (match e with
    | .List es' _ => chkRs es es' && es'.all nstar
    | _ => false)
  | .bin o mu a b, e => chkE nm N false sc (.bin o mu a b) e || (match e with
    | .BinOp a' o' b' _ => decide (o' = opO o) && chkR a a' && chkR b b'
    | _ => false)
  | x, e => chkE nm N false sc x e
def chkRs : List Mi.E → List Expr → Bool
  | [], [] => true
  | x :: xs, e :: es => chkR x e && chkRs xs es
  | _, _ => false
end
end
end Mi
set_option linter.all false
set_option maxRecDepth 100000
set_option maxHeartbeats 4000000
/-! Mi39: what the checker of replacing passes. -/
namespace Mi
open PySem PySem.Spec PyProof.Rows L2 L2H CwR
section
variable {nm : Nm} {lvl : Nat} {N : List Str}
theorem PB.pet {C : Ctx} {X : Cx} {W : XK} {e : Expr} {x : Mi.E} (h : PB C X W e x) : PET X e (tE C W x) := PET.of h.pe
mutual
theorem pbt_all : ∀ (x : Mi.E) (e : Expr) {C : Ctx} {X : Cx} {W : XK} {fa : Bool} {sc : Scope}, EOk C X W nm lvl N false fa sc → chkR nm N sc x e = true → PET X e (tE C W x)
  | .var i, e, C, X, W, fa, sc, o, h => (pb_all (.var i) e o (lamsE_off (by simpa [chkR] using h)) (by simpa [chkR] using h)).pet
  | .non, e, C, X, W, fa, sc, o, h => (pb_all .non e o (lamsE_off (by simpa [chkR] using h)) (by simpa [chkR] using h)).pet
  | .bl i, e, C, X, W, fa, sc, o, h => (pb_all (.bl i) e o (lamsE_off (by simpa [chkR] using h)) (by simpa [chkR] using h)).pet
  | .int i, e, C, X, W, fa, sc, o, h => (pb_all (.int i) e o (lamsE_off (by simpa [chkR] using h)) (by simpa [chkR] using h)).pet
  | .str i, e, C, X, W, fa, sc, o, h => (pb_all (.str i) e o (lamsE_off (by simpa [chkR] using h)) (by simpa [chkR] using h)).pet
  | .gl i, e, C, X, W, fa, sc, o, h => (pb_all (.gl i) e o (lamsE_off (by simpa [chkR] using h)) (by simpa [chkR] using h)).pet
  | .tup i, e, C, X, W, fa, sc, o, h => (pb_all (.tup i) e o (lamsE_off (by simpa [chkR] using h)) (by simpa [chkR] using h)).pet
  | .dic, e, C, X, W, fa, sc, o, h => (pb_all .dic e o (lamsE_off (by simpa [chkR] using h)) (by simpa [chkR] using h)).pet
  | .neg i, e, C, X, W, fa, sc, o, h => (pb_all (.neg i) e o (lamsE_off (by simpa [chkR] using h)) (by simpa [chkR] using h)).pet
  | .cmp i j k, e, C, X, W, fa, sc, o, h => (pb_all (.cmp i j k) e o (lamsE_off (by simpa [chkR] using h)) (by simpa [chkR] using h)).pet
  | .chn i j k l m, e, C, X, W, fa, sc, o, h => (pb_all (.chn i j k l m) e o (lamsE_off (by simpa [chkR] using h)) (by simpa [chkR] using h)).pet
  | .and i, e, C, X, W, fa, sc, o, h => (pb_all (.and i) e o (lamsE_off (by simpa [chkR] using h)) (by simpa [chkR] using h)).pet
  | .or i, e, C, X, W, fa, sc, o, h => (pb_all (.or i) e o (lamsE_off (by simpa [chkR] using h)) (by simpa [chkR] using h)).pet
  | .not i, e, C, X, W, fa, sc, o, h => (pb_all (.not i) e o (lamsE_off (by simpa [chkR] using h)) (by simpa [chkR] using h)).pet
  | .ife i j k, e, C, X, W, fa, sc, o, h => (pb_all (.ife i j k) e o (lamsE_off (by simpa [chkR] using h)) (by simpa [chkR] using h)).pet
  | .idx i j, e, C, X, W, fa, sc, o, h => (pb_all (.idx i j) e o (lamsE_off (by simpa [chkR] using h)) (by simpa [chkR] using h)).pet
  | .sl i j k l, e, C, X, W, fa, sc, o, h => (pb_all (.sl i j k l) e o (lamsE_off (by simpa [chkR] using h)) (by simpa [chkR] using h)).pet
  | .rev i j, e, C, X, W, fa, sc, o, h => (pb_all (.rev i j) e o (lamsE_off (by simpa [chkR] using h)) (by simpa [chkR] using h)).pet
  | .isi i j, e, C, X, W, fa, sc, o, h => (pb_all (.isi i j) e o (lamsE_off (by simpa [chkR] using h)) (by simpa [chkR] using h)).pet
  | .call i j k, e, C, X, W, fa, sc, o, h => (pb_all (.call i j k) e o (lamsE_off (by simpa [chkR] using h)) (by simpa [chkR] using h)).pet
  | .blt i j k, e, C, X, W, fa, sc, o, h => (pb_all (.blt i j k) e o (lamsE_off (by simpa [chkR] using h)) (by simpa [chkR] using h)).pet
  | .comp i j k l m n q, e, C, X, W, fa, sc, o, h => (pb_all (.comp i j k l m n q) e o (lamsE_off (by simpa [chkR] using h)) (by simpa [chkR] using h)).pet
  | .lam i j, e, C, X, W, fa, sc, o, h => (pb_all (.lam i j) e o (lamsE_off (by simpa [chkR] using h)) (by simpa [chkR] using h)).pet
  | .cv i, e, C, X, W, fa, sc, o, h => (pb_all (.cv i) e o (lamsE_off (by simpa [chkR] using h)) (by simpa [chkR] using h)).pet
  | .un, e, C, X, W, fa, sc, o, h => pe_un'.pet
  | .mth m x as, e, C, X, W, fa, sc, o, h => by
    by_cases hm : m = .replace
    · subst hm
      simp only [chkR] at h
      split at h
      · rename_i o' n apos y' j0 c0 z' j1 c1 pos
        split at h
        · rename_i y z
          obtain ⟨h6, g7⟩ := andB h
          obtain ⟨h5, g6⟩ := andB h6
          obtain ⟨h4, g5⟩ := andB h5
          obtain ⟨h3, g4⟩ := andB h4
          obtain ⟨h2, g3⟩ := andB h3
          obtain ⟨g1, g2⟩ := andB h2
          have g1 := of_decide_eq_true g1
          have g2 := of_decide_eq_true g2
          have g3 := of_decide_eq_true g3
          subst g1 g2 g3
          have po := (pb_all x o' o (lamsE_off g5) g5).pe
          exact PET.imp (pet_replC po (toS_ne (by simpa using g4)) rfl (plainO_ok g6 _ X.env (eval o' X.env)) g7) fun σ H Q h => te_repl h
        · cases h
      · rename_i o' n apos y' j0 c0 z' j1 c1 j2 c2 pos
        split at h
        · rename_i y z
          obtain ⟨h6, g7⟩ := andB h
          obtain ⟨h5, g6⟩ := andB h6
          obtain ⟨h4, g5⟩ := andB h5
          obtain ⟨h3, g4⟩ := andB h4
          obtain ⟨h2, g3⟩ := andB h3
          obtain ⟨g1, g2⟩ := andB h2
          have g1 := of_decide_eq_true g1
          have g2 := of_decide_eq_true g2
          have g3 := of_decide_eq_true g3
          subst g1 g2 g3
          have po := (pb_all x o' o (lamsE_off g5) g5).pe
          exact PET.imp (pet_rep1 po (toS_ne (by simpa using g4)) rfl (plainO_ok g6 _ X.env (eval o' X.env)) g7) fun σ H Q h => te_rep1 h
        · cases h
      · cases h
    · have h' : chkE nm N false sc (.mth m x as) e = true := by
        cases m <;> first | exact absurd rfl hm | (simpa [chkR] using h)
      exact (pb_all (.mth m x as) e o (lamsE_off h') h').pet
  | .lst mu es, e, C, X, W, fa, sc, o, h => by
    simp only [chkR] at h
    rcases (Bool.or_eq_true _ _).mp h with h | h
    · exact (pb_all (.lst mu es) e o (lamsE_off h) h).pet
    · split at h
      · obtain ⟨h1, h2⟩ := andB h
        exact pet_ls (pbts_all es _ o h1 h2)
      · cases h
  | .bin op mu a b, e, C, X, W, fa, sc, o, h => by
    simp only [chkR] at h
    rcases (Bool.or_eq_true _ _).mp h with h | h
    · exact (pb_all (.bin op mu a b) e o (lamsE_off h) h).pet
    · split at h
      · rename_i a' o' b' pos
        obtain ⟨h12, h3⟩ := andB h
        obtain ⟨h1, h2⟩ := andB h12
        have h1 := of_decide_eq_true h1
        subst h1
        refine pet_b ?_ (pbt_all a _ o h2) (pbt_all b _ o h3)
        cases op with
        | add => exact opr_add o.fo.K mu
        | sub => exact opr_sub
        | mul => exact opr_mul o.fo.K mu
        | fdiv => exact opr_fdiv
        | mod => exact opr_mod
        | pow => exact opr_pow
      · cases h
theorem pbts_all : ∀ (xs : List Mi.E) (es : List Expr) {C : Ctx} {X : Cx} {W : XK} {fa : Bool} {sc : Scope}, EOk C X W nm lvl N false fa sc → chkRs nm N sc xs es = true → es.all nstar = true → PAT X es (tA C W xs)
  | [], [], C, X, W, fa, sc, o, h, hs => pat_n
  | x :: xs, e :: es, C, X, W, fa, sc, o, h, hs => by
    simp only [chkRs] at h
    obtain ⟨h1, h2⟩ := andB h
    rw [List.all_cons, Bool.and_eq_true] at hs
    exact pat_c (pbt_all x e o h1) (pbts_all xs es o h2 hs.2) (nstar_each hs.1 _ _)
  | [], _ :: _, C, X, W, fa, sc, o, h, hs => by simp [chkRs] at h
  | _ :: _, [], C, X, W, fa, sc, o, h, hs => by simp [chkRs] at h
end
end
/-! ### statements -/
section
variable {C : Ctx} {X : Cx} {n : Nat} {W : WX}
theorem PST.imp {e : Stmt} {t t' : TS} (h : PST X e t) (i : ∀ D σ H, t' D σ H → t D σ H) : PST X e t' := fun pins s σ H D h0 I q => h pins s σ H D h0 I (i _ _ _ q)
theorem PSsT.imp {e : List Stmt} {t t' : TS} (h : PSsT X e t) (i : ∀ D σ H, t' D σ H → t D σ H) : PSsT X e t' := fun pins s σ H D h0 I q => h pins s σ H D h0 I (i _ _ _ q)
theorem pst_asg {tg e : Expr} {te : TE} {g : TG} {pos : Pos} (he : PET X e te) (hg : PG X tg g) (hs : swapsWithSole [tg] e pos.line X.env = pure false) (hw : swappedStores [tg] e X.env = pure none)
    (h1 : (assignEach [tg] X.env).map (·.2) = [assign tg X.env]) : PST X (.Assign [tg] e pos) (tAsg te g) := by
  intro pins s σ H D h0 I h
  refine wpAny_Assign_stores (thn (he pins s σ H _ h0 I h) fun v s1 ⟨x, H1, I1, r1, q1⟩ => ?_) hs hw
  rw [h1]
  exact thn (hg.run pins s1 σ H1 x v _ I1 r1 q1) fun _ s2 q => q
theorem pst_as {tg e : Expr} {t : T} {x : Mi.E} {pos : Pos} (he : PET X e (tE C (EW n W) x)) (hg : PG X tg (gT C t)) (hs : swapsWithSole [tg] e pos.line X.env = pure false) (hw : swappedStores [tg] e X.env = pure none) (h1 : (assignEach [tg] X.env).map (·.2) = [assign tg X.env]) :
    PST X (.Assign [tg] e pos) (tS C n W (.asg t x)) := PST.imp (pst_asg he hg hs hw h1) fun D σ H ⟨env, S, ρ, rs, re, h⟩ => by
    simp only [exS] at h
    refine valS rs re (k := fun v S1 => match T.put t v env with
      | some env1 => .nx env1 S1
      | none => .bad) h fun v S1 w H1 ρ1 e s r re1 h1 => ?_
    cases q : T.put t v env with
    | none => simp only [q] at h1; exact h1.elim
    | some env1 =>
      simp only [q] at h1
      exact ⟨env, S1, ρ1, v, env1, s, re1, r, q, fun σ' r' _ => h1 σ' H1 ρ1 (Ext.refl _ _) s r'⟩
theorem PSsT.nil : PSsT X [] (tSs C n W []) := PSsT.of PSs.nil
theorem PSsT.cons {st : Stmt} {sts : List Stmt} {x : Mi.St} {xs : List Mi.St} (h1 : PST X st (tS C n W x)) (h2 : PSsT X sts (tSs C n W xs)) : PSsT X (st :: sts) (tSs C n W (x :: xs)) :=
  PSsT.imp (psst_cons h1 h2) fun D σ H ⟨env, S, ρ, rs, re, h⟩ => by
    rw [exSs] at h
    refine ⟨env, S, ρ, rs, re, ?_⟩
    cases q : exS C.P C.F x env S with
    | nx env1 S1 =>
      rw [q] at h
      exact fun σ' H' ρ' e s r => ⟨env1, S1, ρ', s, r, PoF.mono e h⟩
    | rt v S1 => rw [q] at h; exact h
    | bk env1 S1 => rw [q] at h; exact h
    | ct env1 S1 => rw [q] at h; exact h
    | ex c d env1 S1 => rw [q] at h; exact h
    | bad => rw [q] at h; exact h
end
section
variable (cf : Cf) (N : List Str)
/-- a def's rows, one by one; an assignment may replace -/
def chkRS (sc : Scope) (md : Bool) (x : Mi.St) (s : Stmt) : Bool := chkS cf N sc false md false x s || (match x, s with
  | .asg t e, .Assign [tg] v _ => chkT N true sc t tg && chkR (cf.of md) N sc e v && (notComp v || isTupE tg) && noSwap sc tg v && nstar tg
  | _, _ => false)
def chkRSs (sc : Scope) (md : Bool) : List Mi.St → List Stmt → Bool
  | [], [] => true
  | x :: xs, s :: ss => chkRS cf N sc md x s && chkRSs sc md xs ss
  | _, _ => false
end
section
variable {cf : Cf} {lvl k : Nat} {N : List Str}
theorem pst_all {x : Mi.St} {st : Stmt} {C : Ctx} {X : Cx} {W : WX} {sc : Scope} (o : SOk C X W cf lvl k N false false sc) (hl : ∀ p ∈ lamsS N x st, C.g.LI p.1 = some p.2) (h : chkRS cf N sc C.md x st = true) : PST X st (tS C N.length W x) := by
  unfold chkRS at h
  rcases (Bool.or_eq_true _ _).mp h with h | h
  · exact PST.of (ps_all x st o hl h)
  · split at h
    · rename_i t e tg v pos _
      obtain ⟨h1234, h5⟩ := andB h
      obtain ⟨h123, h4⟩ := andB h1234
      obtain ⟨h12, h3⟩ := andB h123
      obtain ⟨h1, h2⟩ := andB h12
      have eo := o.eok
      refine pst_as (pbt_all e v eo h2) (pg_all eo t tg h1) ?_ (noSwap_ok h4 o.hsc) ((assign_map X.env []).resolve_right (by rw [h5]; decide))
      show swapsWith v (some tg) pos.line X.env = pure false
      rcases (Bool.or_eq_true _ _).mp h3 with z | z
      · exact swapsWith_plain z _ _ _
      · exact swapsWith_tup z _ _ _
    · cases h
theorem psst_all : ∀ (xs : List Mi.St) (ss : List Stmt) {C : Ctx} {X : Cx} {W : WX} {sc : Scope}, SOk C X W cf lvl k N false false sc → (∀ p ∈ lamsSs N xs ss, C.g.LI p.1 = some p.2) → chkRSs cf N sc C.md xs ss = true → PSsT X ss (tSs C N.length W xs)
  | [], [], C, X, W, sc, o, hl, h => PSsT.nil
  | x :: xs, s :: ss, C, X, W, sc, o, hl, h => by
    unfold chkRSs at h
    obtain ⟨h1, h2⟩ := andB h
    simp only [lamsSs] at hl
    exact PSsT.cons (pst_all o (fun p hp => hl p (List.mem_append_left _ hp)) h1) (psst_all xs ss o (fun p hp => hl p (List.mem_append_right _ hp)) h2)
  | [], _ :: _, C, X, W, sc, o, hl, h => by simp [chkRSs] at h
  | _ :: _, [], C, X, W, sc, o, hl, h => by simp [chkRSs] at h
end
end Mi
set_option linter.all false
set_option maxRecDepth 100000
set_option maxHeartbeats 2000000
/-! Mi36: every def of the text keeps its promise, every lambda runs: by induction on the level. -/
namespace Mi
open PySem PySem.Spec PyProof.Rows L2 L2H
/-- a def of the text -/
structure FnD where
  f : Addr
  name : Str
  qual : Str
  params : Arguments
  body : List Stmt
  scope : Scope
  dV : Value
  kV : Value
  doc : Value
  pm : Value
  cdv : Value
  ct : Value
  oc : Value
  an : Option Addr
  od : Option Addr
  osl : Array (Option Value)
  N : List Str
  keep : Bool
  b : List St
  la : Bool
  tx : Bool
abbrev FnD.fd (d : FnD) : FuncData := PySem.W.fnOf d.name d.qual d.params d.body d.scope d.dV d.kV d.doc d.pm d.an d.cdv d.ct
/-- what is asked of it; m: its errors' context is None -/
structure FnGood (K : PySem.W.Frag) (mg : Str → Option Value) (base : Heap) (g : Gi) (Pg : Mi.Pg) (cf : Cf) (m : Bool) (d : FnD) (fi : Nat) (x : Str) (ps : List Str) : Prop where
  lk : K.lookup d.f = some ⟨d.oc, d.od, .func d.fd, d.osl⟩
  cd : PySem.W.codeIn K d.cdv d.qual = true
  sc : FnScope d.N ps d.scope
  mgx : mg x = some (.ref d.f)
  kp : PySem.W.keepIn K (.ref d.f) = true
  bd : ∀ (s : Shared) (us ws : List Value), K.In s.heap → (us ++ ws).length = ps.length → BindsTo s d.fd ⟨us, (ps.drop us.length).zip ws⟩ (ps.zip (us ++ ws))
  ir : Pg.fns[fi]? = some (.usr ps.length d.N.length d.keep d.b)
  ck : chkSs cf d.N d.scope d.la m d.tx d.b d.body = true ∨ (d.scope.names.all (fun y => decide (y.2 ≠ .cell)) = true ∧ 1 ≤ ps.length ∧ d.la = false ∧ d.tx = false ∧ chkRSs cf d.N d.scope m d.b d.body = true)
  li : ∀ p ∈ lamsSs d.N d.b d.body, g.LI p.1 = some p.2
  la : d.la = true → ∃ c P, LamX.TabB base mg c P ∧ d.cdv = .ref c ∧ (P, (d.qual ++ ".<locals>.") ++ "<lambda>") ∈ g.T ∧ ∀ p ∈ g.T, p.1 = P → p.2 = (d.qual ++ ".<locals>.") ++ "<lambda>"
/-- the module: all that stays -/
structure WOk (P : Program) (w : World) (K : PySem.W.Frag) (mg : Str → Option Value) (base : Heap) (g : Gi) (Pg : Mi.Pg) (cf : Cf) : Prop where
  gK : g.K = K
  fns : ∀ m fi x ps, (cf.of m).fn fi = some (x, ps) → ∃ d, FnGood K mg base g Pg cf m d fi x ps
  sub : ∀ fi x ps, cf.nmN.fn fi = some (x, ps) → cf.nm.fn fi = some (x, ps)
  gls : ∀ m k x, (cf.of m).gl k = some x → ∃ d u v, Pg.gls[k]? = some d ∧ mg x = some u ∧ RelV v u ∧ ∀ ρ H, RD g.K ρ H d v
  blt : ∀ x ∈ bltNames, mg x = none
  cvN : cf.nmN.cv = false
  mks : ∀ c x, cf.cl c = some x → ∃ (Ca fI : Addr), g.CI c = some (Ca, cf.fl) ∧ mg x = some (.ref Ca) ∧ OexC K Ca ∧ PySem.W.findIn K (.ref Ca) "__init__" = some (some (.ref fI)) ∧ PySem.W.typeIn K (.ref fI) = some (.type "function") ∧ InitP P w K mg base Ca fI cf.fl 4
  ca : ∀ c c' x Cc Cc' f f', cf.cl c' = some x → g.CI c = some (Cc, f) → g.CI c' = some (Cc', f') → PySem.W.exmOne K (.ref Cc) (.ref Cc') = some (Pg.sub c c')
  fd : ∀ c Cc f, g.CI c = some (Cc, f) → f = cf.fl ∧ PySem.W.findIn K (.ref Cc) cf.fl = some none ∧ XfC K Cc
  lam : ∀ k li, g.LI k = some li → LamOk li ∧ ∃ e, Pg.fns[k]? = some (.lam li.caps.length li.ps.length e) ∧ chkE cf.nm (li.ps ++ li.caps) false li.scope e li.body = true ∧ ∀ p ∈ lamsE (li.ps ++ li.caps) e li.body, g.LI p.1 = some p.2
section
variable {P : Program} {w : World} {K : PySem.W.Frag} {mg : Str → Option Value} {base : Heap} {g : Gi} {Pg : Mi.Pg} {cf : Cf}
/-- room for all that a level does -/
abbrev lv (n : Nat) : Nat := n + 8
def ModP (P : Program) (w : World) (K : PySem.W.Frag) (mg : Str → Option Value) (base : Heap) (g : Gi) (Pg : Mi.Pg) (cf : Cf) (m : Bool) (n : Nat) : Prop :=
  ∀ fi x ps, (cf.of m).fn fi = some (x, ps) → ∃ d, FnGood K mg base g Pg cf m d fi x ps ∧ FnOk P w K mg base (CXm m P w) (lv n) d.f d.fd ps (spI g (callF Pg n) fi ps.length)
theorem callF_len {fi np ns n : Nat} {keep : Bool} {b : List St} (h : Pg.fns[fi]? = some (.usr np ns keep b)) {ws : List Vl} {S : Store} (hb : callF Pg n fi ws S ≠ .bad) : ws.length = np := by
  cases n with
  | zero => exact absurd rfl hb
  | succ n =>
    unfold callF at hb
    rw [h] at hb
    dsimp only at hb
    by_cases hl : ws.length = np
    · exact hl
    · rw [if_neg hl] at hb; exact absurd rfl hb
/-- the module's facts in a frame -/
theorem md_of {C : Ctx} {X : Cx} {n : Nat} (W : WOk P w K mg base g Pg cf) (hg : C.g = g) (hP : C.P = Pg) (hF : C.F = callF Pg n) (hX : X.prog = P ∧ X.w = w ∧ X.K = K ∧ X.mg = mg ∧ X.base = base) (hr : Room (lv n) X.A) (mp : ModP P w K mg base g Pg cf C.md n) (ck : (cf.of C.md).cv = true → CloOk C.md P w K mg base g (lv n) (callF Pg n)) :
    MdOk C X (cf.of C.md) (lv n) := by
  obtain ⟨g', fr, Pg', F, md⟩ := C
  obtain ⟨h1, h2, h3, h4, h5⟩ := hX
  dsimp only at hg hP hF mp ck ⊢
  subst hg hP hF
  refine ⟨res_callF _ _, fun f x ps h => ?_, fun k x h => ?_, fun x h => ?_, fun h => ?_, hr⟩
  · obtain ⟨d, G, F⟩ := mp f x ps h
    refine ⟨⟨d.f, d.fd, lv n, by rw [h4]; exact G.mgx, by rw [h3]; exact G.kp, hr, fun s us ws hk hl => G.bd s us ws (by rw [← h3]; exact hk) hl, ?_⟩, fun ws S hb => callF_len G.ir hb⟩
    rw [h1, h2, h3, h4, h5]
    exact F
  · obtain ⟨d, u, v, a, b, c⟩ := W.gls md k x h
    exact ⟨d, u, v, a, by rw [h4]; exact b, c⟩
  · rw [h4]; exact W.blt x h
  · rw [h1, h2, h3, h4, h5]; exact ck h
theorem RVl.up {K : PySem.W.Frag} {LI : LamT} {fr : Option Fr0} {ρ : List Addr} {H : Hp} : ∀ {x : Vl} {v : V}, RVl K LI none ρ H x v → RVl K LI fr ρ H x v
  | .d _, _, h => h
  | .ro _, _, h => h
  | .loc _, _, h => h
  | .lam _ _, _, h => by obtain ⟨_, _, _, _, h, _⟩ := h; cases h
  | .clo _ _, _, h => h
  | .seq vs, _, ⟨a, xs, h1, h2, h3, h4⟩ => ⟨a, xs, h1, h2, h3, ups vs xs h4⟩
where ups {K : PySem.W.Frag} {LI : LamT} {fr : Option Fr0} {ρ : List Addr} {H : Hp} : ∀ (xs : List Vl) (vs : List V), RVls K LI none ρ H xs vs → RVls K LI fr ρ H xs vs
  | [], [], _ => trivial
  | x :: xs, v :: vs, h => ⟨RVl.up h.1, ups xs vs h.2⟩
  | [], _ :: _, h => h.elim
  | _ :: _, [], h => h.elim
theorem RVls.get {K : PySem.W.Frag} {LI : LamT} {fr : Option Fr0} {ρ : List Addr} {H : Hp} : ∀ {xs : List Vl} {vs : List V} {j : Nat} {x : Vl}, RVls K LI fr ρ H xs vs → xs[j]? = some x → ∃ v, vs[j]? = some v ∧ RVl K LI fr ρ H x v
  | [], _, _, _, _, h => by simp at h
  | _ :: _, [], _, _, r, _ => r.elim
  | y :: xs, v :: vs, 0, x, r, h => by simp at h; subst h; exact ⟨v, rfl, r.1⟩
  | y :: xs, v :: vs, j + 1, x, r, h => by
    obtain ⟨u, h1, h2⟩ := RVls.get (j := j) r.2 (by simpa using h)
    exact ⟨u, by simpa using h1, h2⟩
/-- the frame of a def -/
abbrev frOf (d : FnD) (s : Shared) : Fr0 := ⟨(envOfC d.qual d.scope s.heap.objs.size d.f d.cdv).cells, (envOfC d.qual d.scope s.heap.objs.size d.f d.cdv).qual, d.N, d.scope⟩
theorem fn_core (W : WOk P w K mg base g Pg cf) {m : Bool} {n : Nat} (mp : ∀ m, ModP P w K mg base g Pg cf m n) (ck : CloOk false P w K mg base g (lv n) (callF Pg n)) {d : FnD} {fi : Nat} {x : Str} {ps : List Str} (G : FnGood K mg base g Pg cf m d fi x ps)
    (A : Around) (outer : List PySem.Env) (s : Shared) (H : Hp) (vs : List V) (Q : VK) (E : XK) (hr : Room (lv n) (A.deeper (envOfC d.qual d.scope s.heap.objs.size d.f d.cdv))) (hs : spI g (callF Pg (n + 1)) fi ps.length vs H Q E) :
    SOk ⟨g, some (frOf d s), Pg, callF Pg n, m⟩ (cxOf (CXm m P w) P w K mg base d.N d.qual d.scope d.f d.cdv A outer s H E) (fun cls dd _ H => E cls dd H) cf (lv n) 4 d.N d.la d.tx d.scope ∧
    tSs ⟨g, some (frOf d s), Pg, callF Pg n, m⟩ d.N.length (fun cls dd _ H => E cls dd H) d.b { nx := fun _ H' => Q .non H', rt := Q } (L2.start d.N vs) H := by
  obtain ⟨ρ, S, ws, rs, rv, hl, po⟩ := hs
  -- the run
  have hw : ws.length = ps.length := rv.length.trans hl
  have po1 : PoE g none E Q ρ H (finish d.keep S.length (exSs Pg (callF Pg n) d.b (ws.map some ++ List.replicate (d.N.length - ps.length) none) S)) := by
    unfold callF at po
    rw [G.ir] at po
    simp only [hw, if_true] at po
    exact po
  -- the frame
  generalize hX : cxOf (CXm m P w) P w K mg base d.N d.qual d.scope d.f d.cdv A outer s H E = X
  have x1 : X.prog = P ∧ X.w = w ∧ X.K = K ∧ X.mg = mg ∧ X.base = base := by subst hX; exact ⟨rfl, rfl, rfl, rfl, rfl⟩
  have hroom : Room (lv n) X.A := by subst hX; exact hr
  have so : SOk ⟨g, some (frOf d s), Pg, callF Pg n, m⟩ X (fun cls dd _ H => E cls dd H) cf (lv n) 4 d.N d.la d.tx d.scope := by
    subst hX
    refine ⟨rfl, rfl, ?_, passes_of rfl, fun z hd => PassesOwnAt.leaving, ⟨W.gK, rfl, G.sc.nd, by have h := hr.un; show (A.deeper (envOfC d.qual d.scope s.heap.objs.size d.f d.cdv)).units + 65 < cLine; omega, fun f e => ⟨by cases e; rfl, fun _ => rfl⟩⟩, ?_, fun z => ?_, ⟨fun c x h => ⟨?_⟩, W.ca, W.fd⟩, ⟨by have h := hr.dp; have hlv : lv n = n + 8 := rfl; show (A.deeper (envOfC d.qual d.scope s.heap.objs.size d.f d.cdv)).depth + 3 * (4 + 1) + 5 < recursionLimit; omega, by have h := hr.un; have hlv : lv n = n + 8 := rfl; show (A.deeper (envOfC d.qual d.scope s.heap.objs.size d.f d.cdv)).units + _ < _; omega⟩, rfl, rfl, G.sc.kind, fun z => ⟨?_, _, rfl⟩, fun _ => rfl⟩
    · cases m with
      | false => exact L2.takes_of rfl rfl rfl rfl
      | true => exact L2N.takes_of rfl rfl rfl rfl
    · refine md_of W rfl rfl rfl x1 hr (mp m) fun z => ?_
      cases m with
      | false => exact ck
      | true => rw [show (cf.of true).cv = cf.nmN.cv from rfl, W.cvN] at z; cases z
    · exact md_of (C := ⟨g, some (frOf d s), Pg, callF Pg n, true⟩) W rfl rfl rfl x1 hr (mp true) fun z => by rw [show (cf.of true).cv = cf.nmN.cv from rfl, W.cvN] at z; cases z
    · obtain ⟨Ca, fI, a1, a2, a3, a4, a5, a6⟩ := W.mks c x h
      exact ⟨Ca, fI, a1, a2, a3, a4, a5, a6⟩
    · obtain ⟨c, P', b1, b2, b3, b4⟩ := G.la z
      exact ⟨⟨c, P', b1, b2, b3, b4⟩⟩
  refine ⟨so, ws.map some ++ List.replicate (d.N.length - ps.length) none, S, ρ, rs, ⟨?_, fun i x h => ?_⟩, ?_⟩
  · simp [L2.start, hw, hl]
  · by_cases hi : i < ws.length
    · rw [List.getElem?_append_left (by simpa using hi)] at h
      rw [List.getElem?_map] at h
      cases q : ws[i]? with
      | none => rw [q] at h; cases h
      | some y =>
        rw [q] at h
        cases h
        obtain ⟨v, h1, h2⟩ := RVls.get rv q
        refine ⟨v, ?_, RVl.up h2⟩
        have hi2 : i < vs.length := by rw [hl, ← hw]; exact hi
        show (vs.map some ++ _)[i]? = _
        rw [List.getElem?_append_left (by simpa using hi2), List.getElem?_map, h1]; rfl
    · rw [List.getElem?_append_right (by simpa using hi), List.getElem?_replicate] at h
      split at h <;> cases h
  · exact finishF rs (fun cls dd H' h σ _ => h) po1
theorem fn_step (W : WOk P w K mg base g Pg cf) {m : Bool} {n : Nat} (mp : ∀ m, ModP P w K mg base g Pg cf m n) (ck : CloOk false P w K mg base g (lv n) (callF Pg n)) {d : FnD} {fi : Nat} {x : Str} {ps : List Str} (G : FnGood K mg base g Pg cf m d fi x ps) :
    FnOk P w K mg base (CXm m P w) (lv (n + 1)) d.f d.fd ps (spI g (callF Pg (n + 1)) fi ps.length) := by
  rcases G.ck with hck | ⟨h1, h2, h3, h4, h5⟩
  · refine fn_of (N := d.N) G.lk G.cd G.sc (fun vs H Q E ⟨ρ, S, ws, _, _, hl, _⟩ => hl) fun A outer s H vs Q E hr hs => ?_
    obtain ⟨so, ht⟩ := fn_core W mp ck G A outer s H vs Q E hr hs
    exact ⟨_, pss_all d.b d.body so G.li hck, ht⟩
  · refine fn_ofT (N := d.N) G.lk G.cd G.sc (fun y hy => of_decide_eq_true (List.all_eq_true.mp h1 y hy)) h2 (fun vs H Q E ⟨ρ, S, ws, _, _, hl, _⟩ => hl) fun A outer s H vs Q E hr hs => ?_
    obtain ⟨so, ht⟩ := fn_core W mp ck G A outer s H vs Q E hr hs
    rw [h3, h4] at so
    exact ⟨_, psst_all d.b d.body so G.li h5, ht⟩
/-- a lambda's call -/
theorem clo_step (W : WOk P w K mg base g Pg cf) {n : Nat} (mp : ∀ m, ModP P w K mg base g Pg cf m n) (ck : CloOk false P w K mg base g (lv n) (callF Pg n)) : CloOk false P w K mg base g (lv (n + 1)) (callF Pg (n + 1)) := by
  refine clo_ok fun k li hk => ?_
  obtain ⟨lo, e, he, hc, hls⟩ := W.lam k li hk
  refine ⟨lo, e, he, fun A outer s H E F f hsc hr => ?_⟩
  generalize hX : NdefX.ncx (CXm false P w) P w K mg base (li.ps ++ li.caps) F f A outer s H E = X
  have x1 : X.prog = P ∧ X.w = w ∧ X.K = K ∧ X.mg = mg ∧ X.base = base := by subst hX; exact ⟨rfl, rfl, rfl, rfl, rfl⟩
  have eo : EOk ⟨g, none, Pg, callF Pg n, false⟩ X E cf.nm (lv n) (li.ps ++ li.caps) false false li.scope := by
    subst hX
    refine ⟨⟨W.gK, rfl, lo.sc.nd, by have h := hr.un; show (A.deeper (NdefX.envF F f s.heap.objs.size)).units + 65 < cLine; omega, fun f e => (nomatch e)⟩, ?_, ?_, rfl, hsc, fun z => (nomatch z), fun z => (nomatch z)⟩
    · exact XCh.of (Wx := fun cls d _ H => E cls d H) rfl rfl (L2.takes_of rfl rfl rfl rfl) fun _ _ _ _ _ h => h
    · exact md_of (C := ⟨g, none, Pg, callF Pg n, false⟩) W rfl rfl rfl x1 hr (mp false) fun _ => ck
  exact (pb_all e li.body eo hls hc).1
/-- a level's promises -/
theorem all_ok (W : WOk P w K mg base g Pg cf) : ∀ n, (∀ m, ModP P w K mg base g Pg cf m n) ∧ CloOk false P w K mg base g (lv n) (callF Pg n)
  | 0 => by
    refine ⟨fun m fi x ps h => ?_, ?_⟩
    · obtain ⟨d, G⟩ := W.fns m fi x ps h
      refine ⟨d, G, ?_⟩
      refine ⟨fun vs H Q E ⟨_, _, _, _, _, _, po⟩ => po.elim, ?_⟩
      intro A outer s H args us vs Q E hr e0 hb r ⟨_, _, _, _, _, _, po⟩
      exact po.elim
    · intro A outer s H f k caps ρ S Q E hr e0 rs rv po
      exact po.elim
  | n + 1 => by
    obtain ⟨mp, ck⟩ := all_ok W n
    refine ⟨fun m fi x ps h => ?_, clo_step W mp ck⟩
    obtain ⟨d, G⟩ := W.fns m fi x ps h
    exact ⟨d, G, fn_step W mp ck G⟩
end
end Mi
set_option linter.all false
set_option maxRecDepth 100000
set_option maxHeartbeats 4000000
/-! Mi40: an error's __init__ that says super().__init__(text, place) and keeps place. -/
namespace Mi
open PySem PySem.W PySem.Calls PySem.Spec PyProof.Rows
section
variable {prog : Program} {w : World} {A : Around} {E : Value → Shared → Prop} {h : Heap} {g : Array GenState} {d : Drawn} {tk : Nat} {os : OsState}
variable {nm q : Str} {C N : Addr} {bs bm : List Value} {sn : List Str} {sub : List Value} {ab : Bool} {col : Option Bool} {dd : Option Addr} {k0 k1 k2 k3 k5 : Option Value}
theorem mw_call {u x t0 : Addr} {rest : List Value} {Q : Value → Shared → Prop}
    (hC : h.get? C = some (excClassObj nm q C N bs bm true sn sub ab col dd k0 k1 k2 k3 k5 "ValueError.__new__")) (he : h.get? x = some ({ cls := .ref C, dict := none, data := .fields #[.ref t0, .none, .none, .none, .bool false, .none] } : Obj)) (hu : h.get? u = some (kxs_mw "ValueError.__init__" x)) (hz : rest.length ≤ sizeLine)
    (fin : ∀ h' t1, (∀ b o, b ≠ x → h.get? b = some o → h'.get? b = some o) → h'.get? x = some ({ cls := .ref C, dict := none, data := .fields #[.ref t1, .none, .none, .none, .bool false, .none] } : Obj) → Q .none ⟨h', g, d, tk, os⟩) :
    wpAny (model prog w) A (call (.ref u) rest) Q E ⟨h, g, d, tk, os⟩ := by
  have FB := PySem.F.excBase_ValueError
  refine wpAny_call (codeAny_of_tree ?_)
  show wpAny _ A.in1 (callAny (.ref u) ⟨rest, []⟩) _ _ _
  simp only [callAny]
  refine wpAny_bind (wpAny_load hu ?_)
  simp only [kxs_mw, show (Value.type "method-wrapper" == Value.type "method" || Value.type "method-wrapper" == Value.type "builtin_function_or_method" || Value.type "method-wrapper" == Value.type "method-wrapper") = true by decide, if_true]
  refine KFB.if_so (by decide) ?_
  refine wpAny_bind (check_bound_init FB.toExcCallFacts hC he rfl ?_)
  refine wpAny_bind (wpAny_pure (wpAny_pure ?_))
  refine ⟨plainId_quiet FB.init.plain _, codeAny_builtin FB.initEntry ?_⟩
  exact exc_init_tree (cls := .ref C) (t0 := t0) (dv := none) (c2 := .none) (c3 := .none) (b4 := .bool false) he hz fun h' a b c => fin h' _ a b
end
end Mi
set_option linter.all false
set_option maxRecDepth 100000
set_option maxHeartbeats 4000000
/-! Mi41: the walk of such an __init__. -/
namespace Mi
open PySem PySem.W PySem.Calls PySem.Spec PyProof.Rows L2
/-- the body: super().__init__(txt, y); self.fl = y -/
abbrev iniBody (txt fl x y : Str) (j : Nat) (p0 p1 apos c0 c1 cpos epos p2 p3 p4 ap : Pos) : List Stmt :=
  [.Expr (.Call (.Attribute (.Call (.Name "super" p0) [] [] p1) "__init__" apos) [.Constant (.str txt) j c0, .Name y c1] [] cpos) epos, .Assign [.Attribute (.Name x p2) fl p3] (.Name y p4) ap]
/-- the text's parts of an __init__ -/
structure IniD where
  oc : Value
  od : Option Addr
  name : Str
  qual : Str
  params : Arguments
  scope : Scope
  dV : Value
  kV : Value
  doc : Value
  pm : Value
  ct : Value
  an : Option Addr
  cda : Addr
  cc : Addr
  osl : Array (Option Value)
  txt : Str
  x : Str
  y : Str
  j : Nat
  p0 : Pos
  p1 : Pos
  apos : Pos
  c0 : Pos
  c1 : Pos
  cpos : Pos
  epos : Pos
  p2 : Pos
  p3 : Pos
  p4 : Pos
  ap : Pos
  ar : Arg
  ccl : Value
  cdd : Option Addr
  vs : Array Value
  ccs : Array (Option Value)
  file : Str
  tf : Tok
  cl : Value
  cld : Option Addr
  csl : Array (Option Value)
  pl : Sem Bool
/-- what the written part says of it -/
structure IniOk (P : Program) (K : Frag) (mg : Str → Option Value) (C fI : Addr) (fl : Str) (d : IniD) : Prop where
  T : OexC K C
  lk : K.lookup fI = some ⟨d.oc, d.od, .func (ksFn d.name d.qual d.params (iniBody d.txt fl d.x d.y d.j d.p0 d.p1 d.apos d.c0 d.c1 d.cpos d.epos d.p2 d.p3 d.p4 d.ap) d.scope d.dV d.kV d.doc d.pm d.an (.ref d.cda) d.ct d.cc), d.osl⟩
  hcd : codeIn K (.ref d.cda) d.qual = true
  hbind : (∀ a b : Value, bindArgs (ksFn d.name d.qual d.params (iniBody d.txt fl d.x d.y d.j d.p0 d.p1 d.apos d.c0 d.c1 d.cpos d.epos d.p2 d.p3 d.p4 d.ap) d.scope d.dV d.kV d.doc d.pm d.an (.ref d.cda) d.ct d.cc) ⟨[a, b], []⟩ = pure [(d.x, a), (d.y, b)])
  hpar : (d.params.posonlyargs ++ d.params.args).head? = some d.ar
  harg : d.ar.arg = d.x
  hxy : d.x ≠ d.y
  lcd : K.lookup d.cda = some ⟨d.ccl, d.cdd, .fields d.vs, d.ccs⟩
  hvs : d.vs[2]? = some (.str d.file d.tf)
  hfile : ((P.main.file : Str) == d.file) = true
  lcc : K.lookup d.cc = some ⟨d.cl, d.cld, .cell (some (.ref C)), d.csl⟩
  sS : d.scope.names.lookup ("super" : Str) = some .globalImplicit
  sC : d.scope.names.lookup ("__class__" : Str) = some .free
  sX : d.scope.names.lookup d.x = some .local
  sY : d.scope.names.lookup d.y = some .local
  hkind : d.scope.kind = .function
  hco : d.scope.isCoroutine = false
  hgen : d.scope.isGenerator = false
  hnc : (∀ z ∈ d.scope.names, z.2 ≠ .cell)
  hdy : (d.y == ("__debug__" : Str)) = false
  hdx : (d.x == ("__debug__" : Str)) = false
  hev : (∀ L : Addr, eval (.Call (.Attribute (.Call (.Name "super" d.p0) [] [] d.p1) "__init__" d.apos) [.Constant (.str d.txt) d.j d.c0, .Name d.y d.c1] [] d.cpos) (ksEnv d.qual d.scope L fI (.ref d.cda) d.cc) = (do
      let ov ← attributeBase (.Call (.Name "super" d.p0) [] [] d.p1) "__init__" (ksEnv d.qual d.scope L fI (.ref d.cda) d.cc) (eval (.Call (.Name "super" d.p0) [] [] d.p1) (ksEnv d.qual d.scope L fI (.ref d.cda) d.cc))
      standAt d.apos.atName
      let (f, first) ← holding [ov] (getMethod ov "__init__" d.pl)
      callWith d.cpos f first (backTo d.cpos (starEach [.Constant (.str d.txt) d.j d.c0, .Name d.y d.c1] (ksEnv d.qual d.scope L fI (.ref d.cda) d.cc))) []))
  hia : (∀ L : Addr, interactive (ksEnv d.qual d.scope L fI (.ref d.cda) d.cc) = false)
  hsw : (∀ L : Addr, swapsWith (.Call (.Attribute (.Call (.Name "super" d.p0) [] [] d.p1) "__init__" d.apos) [.Constant (.str d.txt) d.j d.c0, .Name d.y d.c1] [] d.cpos) none d.epos.line (ksEnv d.qual d.scope L fI (.ref d.cda) d.cc) = pure false)
  sub : mroIn K C (.ref C) = some true
  msup : ks_superIn K C C "__init__" = some (some (.builtin "ValueError.__init__"))
  opq : nsIn K cStatics "thirdparty.any" = some none
  isV : subIn K (.ref C) (.type "ValueError") = some true
  top : (P.main.scope.names.lookup ("super" : Str)).isSome = false
  gsup : mg "super" = none
  noF : findIn K (.ref C) fl = some none
theorem ini_walk {P : Program} {w : World} {K : Frag} {mg : Str → Option Value} {C fI : Addr} {fl : Str} {dt : IniD} (I : IniOk P K mg C fI fl dt) {A : Around} {R : Result → Shared → Prop} {hp : Heap} {g : Array GenState} {dr : Drawn} {tk : Nat} {os : OsState} {a t1 : Addr} {u : Value}
    (KX : K.In hp) (haK : K.lookup a = none) (hg : hp.Ns mainGlobals mg) (hb : ∃ mb, hp.Ns builtinsNs mb ∧ mb "super" = some (.type "super")) (lim : hp.NoLimit) (hroom : A.depth < recursionLimit)
    (hx : hp.get? a = some ({ cls := .ref C, dict := none, data := .fields #[.ref t1, .none, .none, .none, .bool false, .none] } : Obj))
    (fin : ∀ h' tk' dx t2, (∀ b o, b ≠ a → hp.get? b = some o → h'.get? b = some o) → hp.objs.size ≤ dx → dx ≠ a → h'.get? a = some ({ cls := .ref C, dict := some dx, data := .fields #[.ref t2, .none, .none, .none, .bool false, .none] } : Obj) →
      h'.Ns1 dx (fun z => if z = fl then some u else none) → R (.ok (.ret .none)) ⟨h', g, dr, tk', os⟩) :
    codeAny (model P w) A (.call (.ref fI) ⟨[.ref a, u], []⟩) R ⟨hp, g, dr, tk, os⟩ := by
  obtain ⟨oc, od, name, qual, params, scope, dV, kV, doc, pm, ct, an, cda, cc, osl, txt, x, y, j, p0, p1, apos, c0, c1, cpos, epos, p2, p3, p4, ap, ar, ccl, cdd, vs, ccs, file, tf, cl, cld, csl, pl⟩ := dt
  obtain ⟨T, lk, hcd, hbind, hpar, harg, hxy, lcd, hvs, hfile, lcc, sS, sC, sX, sY, hkind, hco, hgen, hnc, hdy, hdx, hev, hia, hsw, isub, imsup, iopq, iisV, itop, igsup, inoF⟩ := I
  dsimp only at lk hcd hbind hpar harg hxy lcd hvs hfile lcc sS sC sX sY hkind hco hgen hnc hdy hdx hev hia hsw
  obtain ⟨nm, q, N, bs, bm, sn, sub, ab, col, dd, k0, k1, k2, k3, k5, hC, hbm⟩ := T.cls
  have hcl : clsIn K C = some { name := nm, bases := bs, mro := .ref C :: bm, ns := N, qualname := q, hasDict := true, slotNames := sn, subclasses := sub, abstract := ab, collection := col, hasDel := false } := by unfold clsIn; rw [hC] <;> rfl
  have hbinds : (([(x, Value.ref a), (y, u)] : List (Str × Value)).reverse.lookup x = some (.ref a)) ∧ (([(x, Value.ref a), (y, u)] : List (Str × Value)).reverse.lookup y = some u) := by
    have : (x == y) = false := beq_eq_false_iff_ne.mpr hxy
    simp [List.lookup, this]
  refine ks_codeAny_call_defAt (fd := ksFn name qual params (iniBody txt fl x y j p0 p1 apos c0 c1 cpos epos p2 p3 p4 ap) scope dV kV doc pm an (.ref cda) ct cc) (body := iniBody txt fl x y j p0 p1 apos c0 c1 cpos epos p2 p3 p4 ap) (binds := [(x, .ref a), (y, u)]) hroom (KX _ _ lk) rfl lim (codeRec_of KX hcd) rfl
    (BindsTo.of_eq (hbind _ _)) hnc (fun z hz => ?_) (fun h₁ hns kp => ?_) hco hgen hkind
  · rcases List.mem_cons.mp hz with e | e
    · subst e; exact sX
    · rw [List.mem_singleton.mp e]; exact sY
  show _root_.PySem.wpAt (model P w) (A.deeper (ksEnv qual scope hp.objs.size fI (.ref cda) cc)) (.func (iniBody txt fl x y j p0 p1 apos c0 c1 cpos epos p2 p3 p4 ap) (ksEnv qual scope hp.objs.size fI (.ref cda) cc)) (execs (iniBody txt fl x y j p0 p1 apos c0 c1 cpos epos p2 p3 p4 ap) (ksEnv qual scope hp.objs.size fI (.ref cda) cc)) _ _ _
  have X1 : K.In h₁ := KX.keeps kp
  obtain ⟨mb, hbn, hbs⟩ := hb
  have hx1 := kp _ _ hx
  have hC1 := X1 _ _ hC
  refine ks_wpAt_execs_cons (ks_wpAt_Expr_any (ks_wpAt_MethodCall (pl := pl) ?_ (hev _)) (hia _) (hsw _))
  refine ks_wpAt_super_base (env := ksEnv qual scope hp.objs.size fI (.ref cda) cc) sS sC (by decide) rfl (X1 _ _ lk) rfl hpar rfl (X1 _ _ lcd) rfl hvs hfile itop ?_
  refine ks_loadName_global hkind sS (loadGlobal_builtin (env := ksEnv qual scope hp.objs.size fI (.ref cda) cc) (hg.keeps kp) igsup (hbn.keeps kp) hbs ⟨rfl, ?_⟩)
  refine wpAny_loadName_free hkind sC rfl ⟨_, X1 _ _ lcc, rfl⟩ ?_
  rw [harg]
  refine wpAny_loadName_local hkind sX hns hbinds.1 ?_
  refine ks_wpAny_isType_cls hC1 rfl ⟨rfl, ?_⟩
  refine ks_wpAny_call_super hC1 rfl hx1 rfl (fun c e => by cases e) (looks_mroIn X1 isub) (fun h2 e2 k2 => ?_)
  have X2 : K.In h2 := X1.keeps k2
  have hx2 := k2 _ _ hx1
  have Ia : InstAt h2 a { cls := .ref C, dict := none, data := .fields #[.ref t1, .none, .none, .none, .bool false, .none] } C none := ⟨hx2, rfl, rfl, trivial⟩
  have hm := imsup
  unfold ks_superIn at hm
  rw [hcl] at hm
  refine kxs_getMethod kxs_ValueError e2 (looks_opaque X2 iopq) (l₀ := .ref C :: bm) (fun A Q E s k q => wpAny_bind ((looks_clsIn X2 hcl) A _ E s k (wpAny_pure q))) rfl X2 hm (Ia.type.andThen (looks_subIn X2 iisV)) (ks_ne X2 Ia hcl) (by decide) ?_
  have k3 : ∀ b o, h2.get? b = some o → (h2.push (kxs_mw "ValueError.__init__" a)).get? b = some o := fun b o e => Heap.get?_push_of_some _ e
  have hu3 : (h2.push (kxs_mw "ValueError.__init__" a)).get? h2.objs.size = some (kxs_mw "ValueError.__init__" a) := Heap.get?_push_at rfl rfl
  refine kxs_callWith (i := "ValueError.__init__") (x := a) rfl (evalArgs_plain ?_)
  show wpAny _ _ (spliced ((false, eval (.Constant (.str txt) j c0) (ksEnv qual scope hp.objs.size fI (.ref cda) cc)) :: backTo cpos (starEach [.Name y c1] (ksEnv qual scope hp.objs.size fI (.ref cda) cc)))) _ _ _
  refine Calls.spliced_cons (Calls.Constant_str ?_)
  show wpAny _ _ (spliced ((false, eval (.Name y c1) (ksEnv qual scope hp.objs.size fI (.ref cda) cc)) :: backTo cpos (starEach [] (ksEnv qual scope hp.objs.size fI (.ref cda) cc)))) _ _ _
  refine Calls.spliced_cons (wpAny_Name (wpAny_loadName_local hkind sY ((hns.keeps k2).keeps k3) hbinds.2 (Calls.spliced_nil ⟨hu3, ?_⟩)) hdy)
  refine mw_call (k3 _ _ (k2 _ _ hC1)) (k3 _ _ hx2) hu3 (show (2 : Nat) ≤ sizeLine by decide) (fun h4 t2 k4 hx4 => ?_)
  have na : ∀ {b : Addr} {o : Obj}, h₁.get? b = some o → b ≠ a → h4.get? b = some o := fun {b o} e n => k4 b o n (k3 _ _ (k2 _ _ e))
  have X4 : K.In h4 := fun b o e => na (X1 b o e) (fun z => by rw [z, haK] at e; cases e)
  have hns4 : h4.Ns hp.objs.size fun z => ([(x, Value.ref a), (y, u)] : List (Str × Value)).reverse.lookup z := by
    have h5 := (hns.keeps k2).keeps k3
    obtain ⟨o, es, ep, e1, e2⟩ := h5
    exact ⟨o, es, ep, k4 _ _ (fun z => by
      have := Heap.lt_size hx
      rw [← z] at this
      exact absurd this (Nat.lt_irrefl _)) e1, e2⟩
  refine ks_wpAt_execs_cons (wpAt_of_wpAny (plainObj_wpAny_Assign_Attribute (wpAny_Name (wpAny_loadName_local hkind sY hns4 hbinds.2 ?_) hdy) (swapsWith_plain (by rfl) _ _ _)))
  refine wpAny_Name (wpAny_loadName_local hkind sX hns4 hbinds.1 ?_) hdx
  refine set_plain X4 (ox := { cls := .ref C, dict := none, data := .fields #[.ref t2, .none, .none, .none, .bool false, .none] }) (od := none) ⟨hx4, rfl, rfl, trivial⟩ T.sa ?_
  refine PySem.HandSPX.exc_osa X4 hx4 hcl (show PySem.HandSPX.refsVE (.ref C :: bm) = true from hbm) rfl inoF (fun h' tk' dx k dn dne hx' hn => ?_)
  refine wpAt_of_wpAny (wpAny_execs_nil ?_)
  refine fin h' tk' dx t2 (fun b o hb e => k b o hb (na (kp b o e) hb)) (Nat.le_trans ?_ dn) dne hx' hn
  have l1 : hp.objs.size < h₁.objs.size := by
    obtain ⟨o, es, ep, e1, e2⟩ := hns
    exact Heap.lt_size e1
  have l4 : hp.objs.size < h4.objs.size := by
    obtain ⟨o, es, ep, e1, e2⟩ := hns4
    exact Heap.lt_size e1
  exact Nat.le_of_lt l4
end Mi
set_option linter.all false
set_option maxRecDepth 100000
set_option maxHeartbeats 4000000
/-! Mi42: InitP of such an __init__. -/
namespace Mi
open PySem PySem.W PySem.Calls PySem.Spec PyProof.Rows L2
theorem ini_ok {P : Program} {w : World} {K : Frag} {mg : Str → Option Value} {base : Heap} {C fI : Addr} {fl : Str} {dt : IniD} {lvl : Nat} (I : IniOk P K mg C fI fl dt) : InitP P w K mg base C fI fl lvl := by
  intro A outer s H a v u Q hr e0 ha rv hq
  have KX : K.In s.heap := e0.mod.kin.keeps fun b o e => (e0.bs b o e).1
  have lim : s.heap.NoLimit := e0.mod.nolimit.keeps fun b o e => (e0.bs b o e).1
  have bk : ∀ b o, base.get? b = some o → s.heap.get? b = some o := fun b o e => (e0.bs b o e).1
  have haK : K.lookup a = none := by
    cases z : K.lookup a with
    | none => rfl
    | some o =>
      have := (e0.bs a o (e0.mod.kin a o z)).2
      rw [ha] at this; cases this
  obtain ⟨t1, hx⟩ := exo_at e0.hok ha
  obtain ⟨mb, hb1, hb2⟩ := e0.mod.blt
  obtain ⟨hp, g, dr, tk, os⟩ := s
  have hdp := hr.dp
  refine ini_walk I KX haK (e0.mod.glob.keeps bk) ⟨mb, hb1.keeps bk, (hb2 "super" (by decide)).trans (by rfl)⟩ lim (by omega) hx fun h' tk' dx t2 k dn dne hx' hn => ?_
  have hok := e0.hok
  have hnd : H dx = none := hok.fresh dn
  have nd : ∀ {b : Addr} {o : Obj}, hp.get? b = some o → b ≠ dx := fun {b o} q => Nat.ne_of_lt (Nat.lt_of_lt_of_le (Heap.lt_size q) dn)
  have na : ∀ {b : Addr}, H b = none → b ≠ a := fun {b} n z => by
    rw [z, ha] at n
    cases n
  have Un1 : Un (frs outer) [] H (upd (upd H dx (exd dx [(fl, v)])) a (exo a C (some dx))) hp h' := {
    keep := fun b o q n _ _ => k b o (na n) q
    slot := fun b o q n _ _ => ⟨o.slots, k b o (na n) q⟩
    free := fun b o q n _ => by rw [upd_ne (na n), upd_ne (nd q)]; exact n
    there := fun b o q _ => by
      by_cases hb : b = a
      · exact ⟨_, by rw [hb]; exact hx'⟩
      · exact ⟨o, k b o hb q⟩
    tups := fun b xs q => by rw [upd_ne (at_ne ha q exo_tup), upd_ne (ne_of_none q hnd)]; exact q
    frzs := fun b o v q => by rw [upd_ne (at_ne ha q exo_frz), upd_ne (ne_of_none q hnd)]; exact q
    tbls := fun b ps q => ⟨#[], by rw [upd_ne (at_ne ha q exo_tbl), upd_ne (ne_of_none q hnd), q]; simp⟩ }
  refine ⟨.non, _, rfl, e0.bare, Un1, fun b o q => ?_, rfl, hq dx hnd dne⟩
  by_cases hb : b = a
  · subst hb
    rw [upd_same] at q
    cases q
    exact exo_ok hx'
  · rw [upd_ne hb] at q
    by_cases hd : b = dx
    · subst hd
      rw [upd_same] at q
      cases q
      exact exd_ok hn (relO_put (fs := []) rv fun g => True.intro)
    · rw [upd_ne hd] at q
      exact (hok b o q).stay (fun c v hc z => k c v (by
          rcases hc with hc | hc
          · rw [hc]
            exact hb
          · exact at_ne ha hc exo_own) z)
        (fun c hc => by rw [upd_ne (at_ne ha hc exo_own), upd_ne (ne_of_none hc hnd)]; exact hc) (fun c xs hc => by rw [upd_ne (at_ne ha hc exo_tup), upd_ne (ne_of_none hc hnd)]; exact hc)
end Mi
set_option linter.all false
set_option maxRecDepth 100000
set_option maxHeartbeats 4000000
/-! Mi43: what the head tells, by a Hook. -/
namespace Mi
open PySem PySem.W PySem.Spec PyProof.Rows L2
/-- a table of code objects, as yet empty -/
def isTab : Obj → Bool
  | ⟨.none, none, .fields vs, sl⟩ => vs.isEmpty && sl.isEmpty
  | _ => false
theorem isTab_ok {o : Obj} (h : isTab o = true) : o = { cls := .none, data := .fields #[] } := by
  unfold isTab at h
  split at h
  · rw [Bool.and_eq_true] at h
    rw [Array.isEmpty_iff.mp h.1, Array.isEmpty_iff.mp h.2]
  · cases h
def isLst (o : Obj) : Bool := match o.cls with
  | .type c => decide (c = "list")
  | _ => false
theorem isLst_no {o : Obj} (h : isLst o = false) : o.cls ≠ .type "list" := fun e => by
  unfold isLst at h
  rw [e] at h
  simp at h
def kOf (n : Nat) (g : Addr → Option Obj) : Frag := (He.frG g (cStatics :: He.asD g n)).filter fun p => !isTab p.2 && !isLst p.2
theorem frG_mem {g : Addr → Option Obj} {as : List Addr} {p : Addr × Obj} (h : p ∈ He.frG g as) : g p.1 = some p.2 := by
  unfold He.frG at h
  obtain ⟨a, _, h2⟩ := List.mem_filterMap.mp h
  cases q : g a with
  | none => rw [q] at h2; cases h2
  | some o => rw [q] at h2; cases h2; exact q
theorem mem_of_lk {K : Frag} {a : Addr} {o : Obj} (h : K.lookup a = some o) : (a, o) ∈ K := by
  induction K with
  | nil => cases h
  | cons p r ih =>
    obtain ⟨b, u⟩ := p
    rw [List.lookup_cons] at h
    cases q : a == b with
    | true => rw [q] at h; cases h; rw [beq_iff_eq.mp q]; exact List.mem_cons_self ..
    | false => rw [q] at h; exact List.mem_cons_of_mem _ (ih h)
theorem kOf_at {n : Nat} {g : Addr → Option Obj} {a : Addr} {o : Obj} (h : (kOf n g).lookup a = some o) : g a = some o ∧ isTab o = false ∧ isLst o = false := by
  have := List.mem_filter.mp (mem_of_lk h)
  exact ⟨frG_mem this.1, by simpa using this.2⟩
theorem kOf_in {n : Nat} {h : Heap} : (kOf n h.get?).In h := fun _ _ e => (kOf_at e).1
/-- a def's code object, its table -/
def tabOf (K : Frag) (p : Str × Option Str) : Addr × Addr := match K.lookup (He.fAd K p) with
  | some ⟨_, _, .func fd, _⟩ => (match fd.code with
    | .ref c => (match K.lookup c with
      | some ⟨_, _, .fields vs, _⟩ => (match (vs[11]? : Option Value) with | some (.ref P) => (c, P) | _ => (0, 0))
      | _ => (0, 0))
    | _ => (0, 0))
  | _ => (0, 0)
abbrev IniV : Type := Option (Str × Str × Arguments × FuncBody × Scope × Addr × Addr)
def iniW (K : Frag) (C : Addr) : IniV := match K.lookup (He.ma K C "__init__") with
  | some ⟨_, _, .func fd, _⟩ => some (fd.name, fd.qualname, fd.params, fd.body, fd.scope, fd.globals, fd.builtins)
  | _ => none
/-- what an __init__ is -/
structure InD where
  cls : Str
  qual : Str
  params : Arguments
  body : List Stmt
  scope : Scope
def InD.val (d : InD) : IniV := some ("__init__", d.qual, d.params, .stmts d.body, d.scope, mainGlobals, builtinsNs)
def veB : Value → List Value → Bool := fun c bm => PySem.HandSPX.refsVE (c :: bm)
def oexB (K : Frag) (C : Addr) : Bool := (match K.lookup C with
  | some ⟨.type "type", _, .cls cd, sl⟩ => (match cd.mro, sl.toList with
    | .ref C' :: bm, [_, _, _, _, some (.builtin n), _] => C' == C && n == "ValueError.__new__" && !cd.hasDel && cd.hasDict && PySem.HandSPX.refsVE bm
    | _, _ => false)
  | _ => false) && decide (findIn K (.ref C) "__setattr__" = some (some (.builtin "object.__setattr__"))) && decide (subIn K (.ref C) (.type "BaseException") = some true) && decide (typeIn K (.ref C) = some (.type "type")) && keepIn K (.ref C)
theorem oexB_ok {K : Frag} {C : Addr} (h : oexB K C = true) : OexC K C := by
  unfold oexB at h
  simp only [Bool.and_eq_true, decide_eq_true_eq] at h
  obtain ⟨⟨⟨⟨h1, h2⟩, h3⟩, h4⟩, h5⟩ := h
  refine ⟨?_, h2, h3, h4, h5⟩
  split at h1
  · rename_i dd cd sl hk
    split at h1
    · rename_i C' bm s0 s1 s2 s3 n s5 hm hs
      simp only [Bool.and_eq_true, Bool.not_eq_true', beq_iff_eq] at h1
      obtain ⟨⟨⟨⟨e1, e2⟩, e3⟩, e4⟩, e5⟩ := h1
      subst e1 e2
      obtain ⟨nm, bs, mro, ns, qn, hd, sn, sub, ab, col, del⟩ := cd
      dsimp only at hm e3 e4
      subst hm e3 e4
      have hsl : sl = #[s0, s1, s2, s3, some (.builtin "ValueError.__new__"), s5] := by
        apply Array.toList_inj.mp; rw [hs]
      subst hsl
      exact ⟨nm, qn, ns, bs, bm, sn, sub, ab, col, dd, s0, s1, s2, s3, s5, hk, e5⟩
    · cases h1
  · cases h1
def iniB (file : Str) (K : Frag) (C : Addr) (fl : Str) : Bool := (match K.lookup (He.ma K C "__init__") with
  | some ⟨_, _, .func fd, _⟩ => (match fd.closure, fd.code with
    | [(nm, cc)], .ref cda => decide (fd.defaults = .none) && decide (nm = "__class__") && codeIn K (.ref cda) fd.qualname && (match K.lookup cda with
        | some ⟨_, _, .fields vs, _⟩ => (match (vs[2]? : Option Value) with
          | some (.str f _) => file == f
          | _ => false)
        | _ => false) && (match K.lookup cc with
        | some ⟨_, _, .cell (some (.ref D)), _⟩ => D == C
        | _ => false)
    | _, _ => false)
  | _ => false) && oexB K C && decide (mroIn K C (.ref C) = some true) && decide (ks_superIn K C C "__init__" = some (some (.builtin "ValueError.__init__"))) && decide (nsIn K cStatics "thirdparty.any" = some none) &&
    decide (subIn K (.ref C) (.type "ValueError") = some true) && decide (findIn K (.ref C) fl = some none) && decide (nsIn K mainGlobals "super" = some none) &&
    decide (findIn K (.ref C) "__init__" = some (some (.ref (He.ma K C "__init__")))) && decide (typeIn K (.ref (He.ma K C "__init__")) = some (.type "function")) && xfB K C
abbrev AlX : Type := He.AlD × List IniV × Bool
def obsX (n : Nat) (fa : List He.Fa) (fn : List He.DefD) (ci : List InD) (tb : List (Str × Option Str)) (ex : Frag → Bool) (g : Addr → Option Obj) : AlX :=
  (He.obsD fa fn (kOf n g), ci.map (fun c => iniW (kOf n g) (He.ga (kOf n g) c.cls)), ex (kOf n g) && tb.all fun p => match g (tabOf (kOf n g) p).2 with
    | some o => isTab o && codeHdIn (kOf n g) (tabOf (kOf n g) p).1 (tabOf (kOf n g) p).2
    | none => false)
def valX (fn : List He.DefD) (ci : List InD) : AlX := (He.valD fn, ci.map InD.val, true)
structure SaysX (fa : List He.Fa) (fn : List He.DefD) (ci : List InD) (tb : List (Str × Option Str)) (ex : Frag → Bool) (K : Frag) (h : Heap) : Prop where
  kin : K.In h
  d : He.SaysD fa fn K
  ci : ci.map (fun c => iniW K (He.ga K c.cls)) = ci.map InD.val
  ex : ex K = true
  nl : ∀ a o, K.lookup a = some o → o.cls ≠ .type "list"
  tb : ∀ p ∈ tb, h.get? (tabOf K p).2 = some { cls := .none, data := .fields #[] } ∧ K.lookup (tabOf K p).2 = none ∧ codeHdIn K (tabOf K p).1 (tabOf K p).2 = true
def hookX (n : Nat) (fa : List He.Fa) (fn : List He.DefD) (ci : List InD) (tb : List (Str × Option Str)) (ex : Frag → Bool) : Hook where
  α := AlX
  obs := fun s => obsX n fa fn ci tb ex s.heap.get?
  val := fun _ => valX fn ci
  says := fun _ h => ∃ K : Frag, SaysX fa fn ci tb ex K h
  of := fun w s e => by
    obtain ⟨e1, e2⟩ := Prod.mk.inj e
    obtain ⟨e2, e3⟩ := Prod.mk.inj e2
    rw [Bool.and_eq_true] at e3
    refine ⟨kOf n s.heap.get?, kOf_in, e1, e2, e3.1, fun a o q => isLst_no (kOf_at q).2.2, fun p hp => ?_⟩
    have := List.all_eq_true.mp e3.2 p hp
    split at this
    · rename_i o ho
      rw [Bool.and_eq_true] at this
      refine ⟨by rw [ho, isTab_ok this.1], ?_, this.2⟩
      cases q : (kOf n s.heap.get?).lookup (tabOf (kOf n s.heap.get?) p).2 with
      | none => rfl
      | some u =>
        obtain ⟨a, b, _⟩ := kOf_at q
        rw [ho] at a
        cases a
        rw [this.1] at b; cases b
    · cases this
  keeps := fun _ _ _ ⟨K, c⟩ k => ⟨K, Frag.In.keeps c.kin k, c.d, c.ci, c.ex, c.nl, fun p hp => ⟨k _ _ (c.tb p hp).1, (c.tb p hp).2⟩⟩
theorem obsX_eq {n : Nat} {fa : List He.Fa} {fn : List He.DefD} {ci : List InD} {tb : List (Str × Option Str)} {ex : Frag → Bool} {g : Addr → Option Obj} {s : Shared} (h : ∀ a, g a = s.heap.get? a) : obsX n fa fn ci tb ex g = (hookX n fa fn ci tb ex).obs s := by
  have e : g = s.heap.get? := funext h
  rw [e] <;> rfl
end Mi
set_option linter.all false
set_option maxRecDepth 100000
set_option maxHeartbeats 4000000
/-! Mi44: from what the head tells: tables, __init__s, defs. -/
namespace Mi
open PySem PySem.W PySem.Spec PyProof.Rows L2
theorem codeHdIn_ne {K : Frag} {c P : Addr} (h : codeHdIn K c P = true) : c ≠ P := by
  unfold codeHdIn at h
  split at h
  · simp only [Bool.and_eq_true] at h
    intro q
    have := h.2
    rw [q] at this
    simp at this
  · cases h
theorem tab_code {K : Frag} {p : Str × Option Str} {fd : FuncData} {oc : Value} {od : Option Addr} {osl : Array (Option Value)} (lk : K.lookup (He.fAd K p) = some ⟨oc, od, .func fd, osl⟩) (h : codeHdIn K (tabOf K p).1 (tabOf K p).2 = true) : fd.code = .ref (tabOf K p).1 := by
  have hne := codeHdIn_ne h
  clear h
  unfold tabOf at hne ⊢
  rw [lk] at hne ⊢
  dsimp only at hne ⊢
  cases hc : fd.code with
  | ref c =>
    rw [hc] at hne
    dsimp only at hne ⊢
    split
    · rename_i q
      rw [q] at hne
      dsimp only at hne
      split
      · rfl
      · rename_i z
        exfalso
        revert hne
        split
        · rename_i z2; exact absurd z2 (z _)
        · intro w; exact w rfl
    · rename_i z
      exfalso
      revert hne
      split
      · rename_i z2; exact absurd z2 (z _ _ _ _)
      · intro w; exact w rfl
  | _ => rw [hc] at hne; exact absurd rfl hne
/-- the text's part of an __init__ -/
structure IniT where
  txt : Str
  x : Str
  y : Str
  j : Nat
  p0 : Pos
  p1 : Pos
  apos : Pos
  c0 : Pos
  c1 : Pos
  cpos : Pos
  epos : Pos
  p2 : Pos
  p3 : Pos
  p4 : Pos
  ap : Pos
  ar : Arg
structure IniText (d : InD) (fl : Str) (t : IniT) : Prop where
  body : d.body = iniBody t.txt fl t.x t.y t.j t.p0 t.p1 t.apos t.c0 t.c1 t.cpos t.epos t.p2 t.p3 t.p4 t.ap
  hbind : ∀ (kV doc pm : Value) (an : Option Addr) (cdv ct : Value) (cc : Addr) (a b : Value), bindArgs (ksFn "__init__" d.qual d.params d.body d.scope .none kV doc pm an cdv ct cc) ⟨[a, b], []⟩ = pure [(t.x, a), (t.y, b)]
  hpar : (d.params.posonlyargs ++ d.params.args).head? = some t.ar
  harg : t.ar.arg = t.x
  hxy : t.x ≠ t.y
  sS : d.scope.names.lookup ("super" : Str) = some .globalImplicit
  sC : d.scope.names.lookup ("__class__" : Str) = some .free
  sX : d.scope.names.lookup t.x = some .local
  sY : d.scope.names.lookup t.y = some .local
  hkind : d.scope.kind = .function
  hco : d.scope.isCoroutine = false
  hgen : d.scope.isGenerator = false
  hnc : (∀ z ∈ d.scope.names, z.2 ≠ .cell)
  hdy : (t.y == ("__debug__" : Str)) = false
  hdx : (t.x == ("__debug__" : Str)) = false
  hev : ∃ pl : Sem Bool, ∀ (L fI cda cc : Addr), eval (.Call (.Attribute (.Call (.Name "super" t.p0) [] [] t.p1) "__init__" t.apos) [.Constant (.str t.txt) t.j t.c0, .Name t.y t.c1] [] t.cpos) (ksEnv d.qual d.scope L fI (.ref cda) cc) = (do
      let ov ← attributeBase (.Call (.Name "super" t.p0) [] [] t.p1) "__init__" (ksEnv d.qual d.scope L fI (.ref cda) cc) (eval (.Call (.Name "super" t.p0) [] [] t.p1) (ksEnv d.qual d.scope L fI (.ref cda) cc))
      standAt t.apos.atName
      let (f, first) ← holding [ov] (getMethod ov "__init__" pl)
      callWith t.cpos f first (backTo t.cpos (starEach [.Constant (.str t.txt) t.j t.c0, .Name t.y t.c1] (ksEnv d.qual d.scope L fI (.ref cda) cc))) [])
  hia : ∀ (L fI cda cc : Addr), interactive (ksEnv d.qual d.scope L fI (.ref cda) cc) = false
  hsw : ∀ (L fI cda cc : Addr), swapsWith (.Call (.Attribute (.Call (.Name "super" t.p0) [] [] t.p1) "__init__" t.apos) [.Constant (.str t.txt) t.j t.c0, .Name t.y t.c1] [] t.cpos) none t.epos.line (ksEnv d.qual d.scope L fI (.ref cda) cc) = pure false
theorem ini_of {P : Program} {K : Frag} {mg : Str → Option Value} {C : Addr} {fl file : Str} {d : InD} {t : IniT} (e : iniW K C = d.val) (c : iniB file K C fl = true) (T : IniText d fl t) (hf : (P.main.file : Str) = file) (top : (P.main.scope.names.lookup ("super" : Str)).isSome = false) (gs : mg "super" = none) :
    (∃ dt, IniOk P K mg C (He.ma K C "__init__") fl dt) ∧ OexC K C ∧ findIn K (.ref C) "__init__" = some (some (.ref (He.ma K C "__init__"))) ∧ typeIn K (.ref (He.ma K C "__init__")) = some (.type "function") ∧ findIn K (.ref C) fl = some none ∧ xfB K C = true := by
  unfold iniB at c
  simp only [Bool.and_eq_true, decide_eq_true_eq] at c
  obtain ⟨⟨⟨⟨⟨⟨⟨⟨⟨⟨c1, c2⟩, c3⟩, c4⟩, c5⟩, c6⟩, c7⟩, c8⟩, c9⟩, c10⟩, c11⟩ := c
  have hO := oexB_ok c2
  refine ⟨?_, hO, c9, c10, c7, c11⟩
  unfold iniW at e
  cases q : K.lookup (He.ma K C "__init__") with
  | none => rw [q] at c1; cases c1
  | some o =>
    obtain ⟨oc, od, dt, osl⟩ := o
    rw [q] at c1 e
    cases dt with
    | func fd =>
      obtain ⟨n1, n2, n3, n4, n5, n6, n7, n8, n9, n10, n11, n12, n13, n14, n15⟩ := fd
      have e2 : (some (n1, n2, n3, n4, n5, n6, n15) : IniV) = (some ("__init__", d.qual, d.params, FuncBody.stmts d.body, d.scope, mainGlobals, builtinsNs) : IniV) := e
      simp only [Option.some.injEq, Prod.mk.injEq] at e2
      obtain ⟨h1, h2, h3, h4, h5, h6, h7⟩ := e2
      subst h1 h2 h3 h4 h5 h6 h7
      dsimp only at c1
      split at c1
      · rename_i nm cc cda
        simp only [Bool.and_eq_true, decide_eq_true_eq] at c1
        obtain ⟨⟨⟨⟨k1, k2⟩, k3⟩, k4⟩, k5⟩ := c1
        subst k1 k2
        split at k4
        · rename_i ccl cdd vs ccs lcd
          split at k4
          · rename_i f tf hvs
            split at k5
            · rename_i cl cld D csl lcc
              have hD : D = C := beq_iff_eq.mp k5
              subst hD
              have hfl : file = f := beq_iff_eq.mp k4
              subst hfl
              obtain ⟨b0, b1, b2, b3, b4, b5, b6, b7, b8, b9, b10, b11, b12, b13, b14, ⟨pl, b15⟩, b16, b17⟩ := T
              rw [b0] at q b1
              exact ⟨⟨oc, od, "__init__", d.qual, d.params, d.scope, .none, n9, n10, n11, n14, n12, cda, cc, osl, t.txt, t.x, t.y, t.j, t.p0, t.p1, t.apos, t.c0, t.c1, t.cpos, t.epos, t.p2, t.p3, t.p4, t.ap, t.ar, ccl, cdd, vs, ccs, file, tf, cl, cld, csl, pl⟩,
                ⟨hO, q, k3, fun a b => b1 n9 n10 n11 n12 (.ref cda) n14 cc a b, b2, b3, b4, lcd, hvs, by rw [hf]; exact beq_self_eq_true _, lcc, b5, b6, b7, b8, b9, b10, b11, b12, b13, b14, fun L => b15 L _ cda cc, fun L => b16 L _ cda cc, fun L => b17 L _ cda cc, c3, c4, c5, c6, top, gs, c7⟩⟩
            · cases k5
          · cases k4
        · cases k4
      · cases c1
    | _ => cases c1
end Mi
set_option linter.all false
set_option maxRecDepth 100000
set_option maxHeartbeats 4000000
/-! Mi45: a def's good parts; the end's helps. -/
namespace Mi
open PySem PySem.W PySem.Spec PyProof.Rows L2
theorem sp0 {M : List Value → List Value → Prop} (h0 : M [] []) : ∀ us ws : List Value, (us ++ ws).length = 0 → M us ws := by
  intro us ws hl
  rcases us with _ | ⟨a, r⟩ <;> rcases ws with _ | ⟨a', r'⟩ <;> first | exact h0 | (exfalso; simp at hl; done) | (exfalso; simp at hl; omega)
theorem sp1 {M : List Value → List Value → Prop} (h0 : ∀ a, M [] [a]) (h1 : ∀ a, M [a] []) : ∀ us ws : List Value, (us ++ ws).length = 1 → M us ws := by
  intro us ws hl
  rcases us with _ | ⟨a, _ | ⟨b, r⟩⟩ <;> rcases ws with _ | ⟨a', _ | ⟨b', r'⟩⟩ <;> first | exact h0 _ | exact h1 _ | (exfalso; simp at hl; done) | (exfalso; simp at hl; omega)
theorem sp2 {M : List Value → List Value → Prop} (h0 : ∀ a b, M [] [a, b]) (h1 : ∀ a b, M [a] [b]) (h2 : ∀ a b, M [a, b] []) : ∀ us ws : List Value, (us ++ ws).length = 2 → M us ws := by
  intro us ws hl
  rcases us with _ | ⟨a, _ | ⟨b, _ | ⟨c, r⟩⟩⟩ <;> rcases ws with _ | ⟨a', _ | ⟨b', _ | ⟨c', r'⟩⟩⟩ <;> first | exact h0 _ _ | exact h1 _ _ | exact h2 _ _ | (exfalso; simp at hl; done) | (exfalso; simp at hl; omega)
theorem sp3 {M : List Value → List Value → Prop} (h0 : ∀ a b c, M [] [a, b, c]) (h1 : ∀ a b c, M [a] [b, c]) (h2 : ∀ a b c, M [a, b] [c]) (h3 : ∀ a b c, M [a, b, c] []) : ∀ us ws : List Value, (us ++ ws).length = 3 → M us ws := by
  intro us ws hl
  rcases us with _ | ⟨a, _ | ⟨b, _ | ⟨c, _ | ⟨d, r⟩⟩⟩⟩ <;> rcases ws with _ | ⟨a', _ | ⟨b', _ | ⟨c', _ | ⟨d', r'⟩⟩⟩⟩ <;> first | exact h0 _ _ _ | exact h1 _ _ _ | exact h2 _ _ _ | exact h3 _ _ _ | (exfalso; simp at hl; done) | (exfalso; simp at hl; omega)
theorem sp4 {M : List Value → List Value → Prop} (h0 : ∀ a b c d, M [] [a, b, c, d]) (h1 : ∀ a b c d, M [a] [b, c, d]) (h2 : ∀ a b c d, M [a, b] [c, d]) (h3 : ∀ a b c d, M [a, b, c] [d]) (h4 : ∀ a b c d, M [a, b, c, d] []) : ∀ us ws : List Value, (us ++ ws).length = 4 → M us ws := by
  intro us ws hl
  rcases us with _ | ⟨a, _ | ⟨b, _ | ⟨c, _ | ⟨d, _ | ⟨e, r⟩⟩⟩⟩⟩ <;> rcases ws with _ | ⟨a', _ | ⟨b', _ | ⟨c', _ | ⟨d', _ | ⟨e', r'⟩⟩⟩⟩⟩ <;> first | exact h0 _ _ _ _ | exact h1 _ _ _ _ | exact h2 _ _ _ _ | exact h3 _ _ _ _ | exact h4 _ _ _ _ | (exfalso; simp at hl; done) | (exfalso; simp at hl; omega)
/-- a def's parts that no heap touches -/
structure DefT (LI : LamT) (Pg : Mi.Pg) (cf : Cf) (m : Bool) (d : He.DefD) (fi : Nat) (ps N : List Str) (keep : Bool) (b : List St) (la tx : Bool) : Prop where
  sc : FnScope N ps d.scope
  bd : ∀ (kV doc pm : Value) (an : Option Addr) (cdv ct : Value) (us ws : List Value), (us ++ ws).length = ps.length → bindArgs (fnOf d.name d.qual d.params d.body d.scope .none kV doc pm an cdv ct) ⟨us, (ps.drop us.length).zip ws⟩ = pure (ps.zip (us ++ ws))
  ir : Pg.fns[fi]? = some (.usr ps.length N.length keep b)
  ck : chkSs cf N d.scope la m tx b d.body = true ∨ (d.scope.names.all (fun y => decide (y.2 ≠ .cell)) = true ∧ 1 ≤ ps.length ∧ la = false ∧ tx = false ∧ chkRSs cf N d.scope m b d.body = true)
  li : ∀ p ∈ lamsSs N b d.body, LI p.1 = some p.2
def TT (K : Frag) (tb : List (Str × Option Str)) : List (Addr × Str) := tb.map fun p => ((tabOf K p).2, (p.1 ++ ".<locals>.") ++ "<lambda>")
theorem TT_un {K : Frag} {tb : List (Str × Option Str)} (nd : (tb.map fun p => (tabOf K p).2).Nodup) {p : Str × Option Str} (hp : p ∈ tb) : ∀ q ∈ TT K tb, q.1 = (tabOf K p).2 → q.2 = (p.1 ++ ".<locals>.") ++ "<lambda>" := by
  intro q hq e
  obtain ⟨r, hr, rfl⟩ := List.mem_map.mp hq
  have : r = p := by
    have := List.inj_on_of_nodup_map' nd hr hp e
    exact this
  rw [this]
where
  List.inj_on_of_nodup_map' {α β : Type} {f : α → β} : ∀ {l : List α}, (l.map f).Nodup → ∀ {a b : α}, a ∈ l → b ∈ l → f a = f b → a = b := by
    intro l
    induction l with
    | nil => intro _ a b h; cases h
    | cons x l ih =>
      intro nd a b ha hb e
      rw [List.map_cons, List.nodup_cons] at nd
      rcases List.mem_cons.mp ha with h1 | h1
      · rcases List.mem_cons.mp hb with h2 | h2
        · rw [h1, h2]
        · exact absurd (List.mem_map.mpr ⟨b, h2, by rw [← e, h1]⟩) nd.1
      · rcases List.mem_cons.mp hb with h2 | h2
        · exact absurd (List.mem_map.mpr ⟨a, h1, by rw [e, h2]⟩) nd.1
        · exact ih nd.2 h1 h2 e
theorem good_of {K : Frag} {mg : Str → Option Value} {base : Heap} {g : Gi} {Pg : Mi.Pg} {cf : Cf} {m : Bool} {d : He.DefD} {fi : Nat} {x : Str} {ps N : List Str} {keep : Bool} {b : List St} {la tx : Bool} {tb : List (Str × Option Str)}
    (F : ∃ fd, FunD K d.name d.qual d.params d.body d.scope (d.dvs K) (d.kws K) (He.fAd K d.at_) fd) (hd : d.dfl = []) (T : DefT g.LI Pg cf m d fi ps N keep b la tx) (hm : mg x = some (.ref (He.fAd K d.at_))) (hT : g.T = TT K tb) (nd : (tb.map fun p => (tabOf K p).2).Nodup)
    (htb : ∀ p ∈ tb, codeHdIn K (tabOf K p).1 (tabOf K p).2 = true ∧ LamX.TabB base mg (tabOf K p).1 (tabOf K p).2) (hla : la = true → d.at_ ∈ tb ∧ d.qual = d.at_.1) : ∃ D, FnGood K mg base g Pg cf m D fi x ps := by
  obtain ⟨fd, F⟩ := F
  have kp := F.kp
  obtain ⟨oc, od, dV, kV, doc, pm, an, cdv, ct, osl, e, lk, hcd, hD, hK⟩ := F.ex
  have hdV : dV = .none := by
    rcases hD with ⟨_, z⟩ | ⟨z, _⟩
    · exact z
    · exact absurd (by show d.dfl.map _ = []; rw [hd]; rfl) z
  subst e hdV
  refine ⟨⟨He.fAd K d.at_, d.name, d.qual, d.params, d.body, d.scope, .none, kV, doc, pm, cdv, ct, oc, an, od, osl, N, keep, b, la, tx⟩, lk, hcd, T.sc, hm, kp, fun s us ws _ hl => .of_eq (T.bd kV doc pm an cdv ct us ws hl), T.ir, T.ck, T.li, fun z => ?_⟩
  obtain ⟨h1, h2⟩ := hla z
  obtain ⟨c1, c2⟩ := htb _ h1
  refine ⟨_, _, c2, tab_code lk c1, ?_, ?_⟩
  · rw [hT]
    show (_, (d.qual ++ ".<locals>.") ++ "<lambda>") ∈ _
    rw [h2]
    exact List.mem_map.mpr ⟨_, h1, rfl⟩
  · rw [hT]
    show ∀ p ∈ TT K tb, p.1 = (tabOf K d.at_).2 → p.2 = (d.qual ++ ".<locals>.") ++ "<lambda>"
    rw [h2]
    exact TT_un nd h1
theorem pick {o : Option (Str × List Str)} {a x : Str} {qs ps : List Str} {M : Str → List Str → Prop} (e : o = some (a, qs)) (h : o = some (x, ps)) (k : M a qs) : M x ps := by
  rw [e] at h
  cases h
  exact k
theorem lkl {α : Type} {l : List (Nat × α)} (nd : (l.map (·.1)).Nodup) {p : Nat × α} (h : p ∈ l) : l.lookup p.1 = some p.2 := by
  induction l with
  | nil => cases h
  | cons q l ih =>
    obtain ⟨k, v⟩ := q
    rw [List.map_cons, List.nodup_cons] at nd
    rw [List.lookup_cons]
    rcases List.mem_cons.mp h with rfl | h
    · simp
    · have : (p.1 == k) = false := beq_eq_false_iff_ne.mpr fun e => nd.1 (by exact List.mem_map.mpr ⟨p, h, e⟩)
      rw [this]
      exact ih nd.2 h
theorem mem_lkl {α : Type} {l : List (Nat × α)} {k : Nat} {v : α} (h : l.lookup k = some v) : (k, v) ∈ l := by
  induction l with
  | nil => cases h
  | cons q l ih =>
    obtain ⟨k', v'⟩ := q
    rw [List.lookup_cons] at h
    cases e : k == k' with
    | true => rw [e] at h; cases h; rw [beq_iff_eq.mp e]; exact List.mem_cons_self ..
    | false => rw [e] at h; exact List.mem_cons_of_mem _ (ih h)
theorem isE {α : Type} {l : List α} (h : l.isEmpty = true) {M : α → Prop} : ∀ p ∈ l, M p := by
  rw [List.isEmpty_iff.mp h]
  intro p hp; cases hp
/-- a lambda's parts -/
structure LamT1 (Pg : Mi.Pg) (nm : Nm) (p : Nat × LamI) : Prop where
  ns : NdefX.nscB (p.2.ps ++ p.2.caps) p.2.ps p.2.caps p.2.scope = true
  dl : p.2.ps.length = (match p.2.dflt with | none => 0 | some _ => 1)
  b : (p.2.dflt = none ∧ ∀ (q : Str) (cl : List (Str × Addr)) (pm cdv ctv : Value), bindArgs (fnL q p.2 cl .none pm cdv ctv) ⟨[], []⟩ = pure (p.2.ps.zip [])) ∨
    (∃ i, p.2.dflt = some i ∧ ∀ (q : Str) (cl : List (Str × Addr)) (T : Addr) (pm cdv ctv : Value), ∃ k : Option (Array Value) → Sem (List (Str × Value)), bindArgs (fnL q p.2 cl (.ref T) pm cdv ctv) ⟨[], []⟩ = seqItems? (.ref T) >>= k ∧ ∀ t, k (some #[.int i t]) = pure (p.2.ps.zip [.int i t]))
  ex : ∃ e, Pg.fns[p.1]? = some (.lam p.2.caps.length p.2.ps.length e) ∧ chkE nm (p.2.ps ++ p.2.caps) false p.2.scope e p.2.body = true ∧ (lamsE (p.2.ps ++ p.2.caps) e p.2.body).isEmpty = true
theorem LamT1.ok {Pg : Mi.Pg} {nm : Nm} {p : Nat × LamI} {LI : LamT} (h : LamT1 Pg nm p) : LamOk p.2 ∧ ∃ e, Pg.fns[p.1]? = some (.lam p.2.caps.length p.2.ps.length e) ∧ chkE nm (p.2.ps ++ p.2.caps) false p.2.scope e p.2.body = true ∧ ∀ q ∈ lamsE (p.2.ps ++ p.2.caps) e p.2.body, LI q.1 = some q.2 := by
  obtain ⟨e, e1, e2, e3⟩ := h.ex
  refine ⟨⟨NdefX.nscope_by h.ns, h.dl, fun q cl dV pm cdv ctv s us hv => ?_⟩, e, e1, e2, isE e3⟩
  rcases h.b with ⟨hq, hb⟩ | ⟨i, hq, hb⟩
  · rw [hq] at hv
    obtain ⟨rfl, rfl⟩ := hv
    exact .of_eq (hb q cl pm cdv ctv)
  · rw [hq] at hv
    obtain ⟨T, o, n, t, rfl, ho, hs, rfl⟩ := hv
    obtain ⟨k, k1, k2⟩ := hb q cl T pm cdv ctv
    exact BindsTo.of_defaults rfl ho hs k1 (k2 t)
theorem all_getD {α : Type} {l : List α} {z : α} {M : α → Prop} (n : Nat) (hl : l.length = n) (h : ∀ j, j < n → M (l.getD j z)) : ∀ p ∈ l, M p := by
  intro p hp
  obtain ⟨j, hj, rfl⟩ := List.mem_iff_getElem.mp hp
  have := h j (by omega)
  rwa [List.getD_eq_getElem?_getD, List.getElem?_eq_getElem hj] at this
theorem rds_ints {K : Frag} {ρ : List Addr} {H : Hp} : ∀ ns : List Int, RDs K ρ H (ns.map D.int) (ns.map V.int)
  | [] => trivial
  | _ :: ns => ⟨rfl, rds_ints ns⟩
/-- a written tuple of whole numbers -/
theorem rd_tup {K : Frag} {x : Str} {vs : List He.Dv} {ds : List D} (h : He.tupB K x vs = true) (hr : ∀ ρ H, RDs K ρ H ds (vs.map (He.Dv.v K))) : ∀ ρ H, RD K ρ H (.tup ds) (.ref (He.ga K x)) := fun ρ H => by
  refine ⟨He.ga K x, vs.map (He.Dv.v K), rfl, .inr ?_, hr ρ H⟩
  rcases He.tupB_ok h (fun _ => none) with z | z
  · rcases z with z | ⟨_, z⟩ <;> cases z
  · exact z
end Mi
set_option linter.all false
/-! Pl0: the interpreter's equations, as rewriting rules. -/
namespace Mi
theorem callF_usr {P : Pg} {n f np ns : Nat} {keep : Bool} {b : List St} {as : List Vl} {S : Store} {env : Env} (h : P.fns[f]? = some (.usr np ns keep b)) (hl : as.length = np) (he : as.map some ++ List.replicate (ns - np) none = env) :
    callF P (n+1) f as S = finish keep S.length (exSs P (callF P n) b env S) := by
  subst he
  unfold callF
  rw [h]
  simp only [hl, if_true]
theorem callF_lam {P : Pg} {n f np pad : Nat} {e : E} {as : List Vl} {S : Store} {env : Env} (h : P.fns[f]? = some (.lam np pad e)) (hl : as.length = np) (he : List.replicate pad none ++ as.map some = env) :
    callF P (n+1) f as S = finishE S.length (evE P (callF P n) e env S) := by
  subst he
  unfold callF
  rw [h]
  simp only [hl, if_true]
def bindR {α β : Type} : Res α → (α → Store → Res β) → Res β
  | .ok x S, k => k x S
  | .exc c d S, _ => .exc c d S
  | .bad, _ => .bad
@[simp] theorem bindR_ok {α β : Type} (x : α) (S : Store) (k : α → Store → Res β) : bindR (.ok x S) k = k x S := (rfl)
@[simp] theorem bindR_exc {α β : Type} (c d S) (k : α → Store → Res β) : bindR (.exc c d S) k = .exc c d S := (rfl)
@[simp] theorem bindR_bad {α β : Type} (k : α → Store → Res β) : bindR .bad k = .bad := (rfl)
def bindF {α : Type} : Res α → Env → (α → Store → Fl) → Fl
  | .ok x S, _, k => k x S
  | .exc c d S, env, _ => .ex c d env S
  | .bad, _, _ => .bad
@[simp] theorem bindF_ok {α : Type} (x : α) (S : Store) (env) (k : α → Store → Fl) : bindF (.ok x S) env k = k x S := (rfl)
@[simp] theorem bindF_exc {α : Type} (c d S env) (k : α → Store → Fl) : bindF (.exc c d S) env k = .ex c d env S := (rfl)
@[simp] theorem bindF_bad {α : Type} (env) (k : α → Store → Fl) : bindF .bad env k = .bad := (rfl)
def seqF : Fl → (Env → Store → Fl) → Fl
  | .nx env S, k => k env S
  | f, _ => f
@[simp] theorem seqF_nx (env S k) : seqF (.nx env S) k = k env S := (rfl)
@[simp] theorem seqF_rt (v S k) : seqF (.rt v S) k = .rt v S := (rfl)
@[simp] theorem seqF_bk (v S k) : seqF (.bk v S) k = .bk v S := (rfl)
@[simp] theorem seqF_ct (v S k) : seqF (.ct v S) k = .ct v S := (rfl)
@[simp] theorem seqF_ex (c d v S k) : seqF (.ex c d v S) k = .ex c d v S := (rfl)
@[simp] theorem seqF_bad (k) : seqF .bad k = .bad := (rfl)
def putF (o : Option Env) (S : Store) : Fl := match o with
  | some env => .nx env S
  | none => .bad
@[simp] theorem putF_some (env S) : putF (some env) S = .nx env S := (rfl)
/-- an if whose both ends are truth values -/
def ite' {α : Type} (b : Bool) (x y : α) : α := match b with
  | true => x
  | false => y
@[simp] theorem ite'_t {α : Type} (x y : α) : ite' true x y = x := (rfl)
@[simp] theorem ite'_f {α : Type} (x y : α) : ite' false x y = y := (rfl)
@[simp] theorem ite'_same {α : Type} (b : Bool) (x : α) : ite' b x x = x := by cases b <;> rfl
@[simp] theorem ite'_and (b c : Bool) (S : Store) : ite' b (Res.ok (Vl.d (.bl c)) S) (Res.ok (Vl.d (.bl false)) S) = .ok (.d (.bl (b && c))) S := by cases b <;> rfl
@[simp] theorem ite'_or (b c : Bool) (S : Store) : ite' b (Res.ok (Vl.d (.bl true)) S) (Res.ok (Vl.d (.bl c)) S) = .ok (.d (.bl (b || c))) S := by cases b <;> rfl
def asBk (v : Vl) (S : Store) (k : Bool → Store → Res Vl) : Res Vl := match v with
  | .d (.bl b) => k b S
  | _ => .bad
@[simp] theorem asBk_bl (b S k) : asBk (.d (.bl b)) S k = k b S := (rfl)
def asBf (v : Vl) (S : Store) (k : Bool → Store → Fl) : Fl := match v with
  | .d (.bl b) => k b S
  | _ => .bad
@[simp] theorem asBf_bl (b S k) : asBf (.d (.bl b)) S k = k b S := (rfl)
section
variable (P : Pg) (F : Call)
def varK (o : Option (Option Vl)) (S : Store) : Res Vl := match o with
  | some (some v) => .ok v S
  | _ => .bad
@[simp] theorem varK_some (v S) : varK (some (some v)) S = .ok v S := (rfl)
@[simp] theorem evE_var (i env S) : evE P F (.var i) env S = varK env[i]? S := by rw [evE]; rfl
@[simp] theorem evE_non (env S) : evE P F .non env S = .ok (.d .non) S := by rw [evE]
@[simp] theorem evE_bl (b env S) : evE P F (.bl b) env S = .ok (.d (.bl b)) S := by rw [evE]
@[simp] theorem evE_int (i env S) : evE P F (.int i) env S = .ok (.d (.int i)) S := by rw [evE]
@[simp] theorem evE_str (i env S) : evE P F (.str i) env S = .ok (.d (.str i)) S := by rw [evE]
@[simp] theorem evE_gl (i env S) : evE P F (.gl i) env S = ofD S P.gls[i]? := by rw [evE]
/-- a row of values made one -/
def tupK (vs : List Vl) (S1 : Store) : Res Vl := if vs.all isLam && !vs.isEmpty && decide (vs.length ≤ line) then .ok (.seq vs) S1 else (match datas vs with
      | some ds => if ds.length ≤ line then .ok (.d (.tup ds)) S1 else .bad
      | none => .bad)
def lstK (mu : Bool) (vs : List Vl) (S1 : Store) : Res Vl := if vs.all isLam && !vs.isEmpty && decide (vs.length ≤ line) then .ok (.seq vs) S1 else (match datas vs with
      | some ds => newL mu ds S1
      | none => .bad)
@[simp] theorem evE_tup (es env S) : evE P F (.tup es) env S = bindR (evEs P F es env S) tupK := by rw [evE]; cases evEs P F es env S <;> rfl
@[simp] theorem evE_lst (mu es env S) : evE P F (.lst mu es) env S = bindR (evEs P F es env S) (lstK mu) := by rw [evE]; cases evEs P F es env S <;> rfl
@[simp] theorem evE_dic (env S) : evE P F .dic env S = .ok (.d (.dks [])) S := by rw [evE]
@[simp] theorem evE_bin (o mu a b env S) : evE P F (.bin o mu a b) env S = bindR (evE P F a env S) fun x S1 => bindR (evE P F b env S1) fun y S2 => binD o mu x y S2 := by
  rw [evE]; cases evE P F a env S with
  | ok x S1 => dsimp only [bindR]; cases evE P F b env S1 <;> rfl
  | _ => rfl
def negK (v : Vl) (S : Store) : Res Vl := match v with
  | .d (.int i) => .ok (.d (.int (-i))) S
  | _ => .bad
@[simp] theorem negK_int (i S) : negK (.d (.int i)) S = .ok (.d (.int (-i))) S := (rfl)
@[simp] theorem evE_neg (a env S) : evE P F (.neg a) env S = bindR (evE P F a env S) negK := by
  rw [evE]; cases evE P F a env S with
  | ok x S1 => (cases x with | d x => cases x <;> rfl | _ => rfl)
  | _ => rfl
@[simp] theorem evE_cmp (o a b env S) : evE P F (.cmp o a b) env S = bindR (evE P F a env S) fun x S1 => bindR (evE P F b env S1) fun y S2 => ofD S2 ((cmpD o x y S2).map .bl) := by
  rw [evE]; cases evE P F a env S with
  | ok x S1 => dsimp only [bindR]; cases evE P F b env S1 <;> rfl
  | _ => rfl
def chnK (o : Option Bool) (S : Store) (k : Store → Res Vl) : Res Vl := match o with
  | some b => ite' b (k S) (.ok (.d (.bl false)) S)
  | none => .bad
@[simp] theorem chnK_some (b S k) : chnK (some b) S k = ite' b (k S) (.ok (.d (.bl false)) S) := (rfl)
@[simp] theorem evE_chn (o p a b c env S) : evE P F (.chn o p a b c) env S = bindR (evE P F a env S) fun x S1 => bindR (evE P F b env S1) fun y S2 => chnK (cmpD o x y S2) S2 fun S2 => bindR (evE P F c env S2) fun z S3 => ofD S3 ((cmpD p y z S3).map .bl) := by
  rw [evE]; cases evE P F a env S with
  | ok x S1 => 
    dsimp only [bindR]; cases evE P F b env S1 with
    | ok y S2 => 
      dsimp only; cases cmpD o x y S2 with
      | none => rfl
      | some b => (cases b with | false => rfl | true => dsimp only [chnK, ite']; cases evE P F c env S2 <;> rfl)
    | _ => rfl
  | _ => rfl
@[simp] theorem evE_and (es env S) : evE P F (.and es) env S = evAnd P F es env S := by rw [evE]
@[simp] theorem evE_or (es env S) : evE P F (.or es) env S = evOr P F es env S := by rw [evE]
theorem asB_bind (r : Res Vl) {α : Type} (t : Store → α) (f : Store → α) (ex : Nat → D → Store → α) (bd : α) : (match asB r with
    | .ok true S1 => t S1 | .ok false S1 => f S1 | .exc c d S1 => ex c d S1 | .bad => bd) = (match r with
    | .ok (.d (.bl b)) S1 => ite' b (t S1) (f S1) | .ok _ _ => bd | .exc c d S1 => ex c d S1 | .bad => bd) := by
  cases r with
  | ok x S1 => cases x with
    | d x => (cases x with | bl b => cases b <;> rfl | _ => rfl)
    | _ => rfl
  | _ => rfl
theorem asB_bindR (r : Res Vl) (t f : Store → Res Vl) : (match asB r with
    | .ok true S1 => t S1 | .ok false S1 => f S1 | .exc c d S1 => .exc c d S1 | .bad => .bad) = bindR r fun v S1 => asBk v S1 fun b S1 => ite' b (t S1) (f S1) := by
  cases r with
  | ok x S1 => cases x with
    | d x => (cases x with | bl b => cases b <;> rfl | _ => rfl)
    | _ => rfl
  | _ => rfl
@[simp] theorem evE_not (a env S) : evE P F (.not a) env S = bindR (evE P F a env S) fun v S1 => asBk v S1 fun b S1 => .ok (.d (.bl (!b))) S1 := by
  rw [evE]; cases evE P F a env S with
  | ok x S1 => (cases x with | d x => cases x <;> rfl | _ => rfl)
  | _ => rfl
@[simp] theorem evE_ife (c a b env S) : evE P F (.ife c a b) env S = bindR (evE P F c env S) fun v S1 => asBk v S1 fun q S1 => ite' q (evE P F a env S1) (evE P F b env S1) := by
  rw [evE]; exact asB_bindR _ _ _
@[simp] theorem evE_idx (a i env S) : evE P F (.idx a i) env S = bindR (evE P F a env S) fun x S1 => bindR (evE P F i env S1) fun y S2 => ofD S2 (idxD x y S2) := by
  rw [evE]; cases evE P F a env S with
  | ok x S1 => dsimp only [bindR]; cases evE P F i env S1 <;> rfl
  | _ => rfl
def slK (mu : Bool) (x : Vl) (o p : Option (Option Int)) (S : Store) : Res Vl := match o, p with
  | some i, some j => slD mu x i j S
  | _, _ => .bad
@[simp] theorem slK_some (mu x i j S) : slK mu x (some i) (some j) S = slD mu x i j S := (rfl)
def partK (o : Option (Option Int)) (k : Option Int → Res Vl) : Res Vl := match o with
  | some i => k i
  | none => .bad
@[simp] theorem partK_some (i k) : partK (some i) k = k i := (rfl)
@[simp] theorem evE_sl (mu a lo hi env S) : evE P F (.sl mu a lo hi) env S = bindR (evE P F a env S) fun x S1 => bindR (evEs P F lo env S1) fun l S2 => partK (parts l) fun i => bindR (evEs P F hi env S2) fun h S3 => partK (parts h) fun j => slD mu x i j S3 := by
  rw [evE]; cases evE P F a env S with
  | ok x S1 =>
    dsimp only [bindR]; cases evEs P F lo env S1 with
    | ok l S2 =>
      dsimp only; cases parts l with
      | none => rfl
      | some i =>
        dsimp only [partK]; cases evEs P F hi env S2 with
        | ok h S3 => dsimp only <;> cases parts h <;> rfl
        | _ => rfl
    | _ => rfl
  | _ => rfl
@[simp] theorem evE_rev (mu a env S) : evE P F (.rev mu a) env S = bindR (evE P F a env S) fun x S1 => revD mu x S1 := by
  rw [evE]; cases evE P F a env S <;> rfl
@[simp] theorem evE_isi (a t env S) : evE P F (.isi a t) env S = bindR (evE P F a env S) fun x S1 => ofD S1 ((isiD x t).map .bl) := by
  rw [evE]; cases evE P F a env S <;> rfl
def callK (o : Option (List Vl)) (k : List Vl → Res Vl) : Res Vl := match o with
  | some ws => k ws
  | none => .bad
@[simp] theorem callK_some (ws k) : callK (some ws) k = k ws := (rfl)
@[simp] theorem evE_call (f as ks env S) : evE P F (.call f as ks) env S = bindR (evEs P F as env S) fun vs S1 => bindR (evEs P F ks env S1) fun us S2 => callK (bindVs env (vs ++ us)) fun ws => F f ws S2 := by
  rw [evE]; cases evEs P F as env S with
  | ok x S1 =>
    dsimp only [bindR]; cases evEs P F ks env S1 with
    | ok us S2 => dsimp only; cases bindVs env (x ++ us) <;> rfl
    | _ => rfl
  | _ => rfl
@[simp] theorem evE_blt (b mu as env S) : evE P F (.blt b mu as) env S = bindR (evEs P F as env S) fun vs S1 => bltD b mu vs S1 := by
  rw [evE]; cases evEs P F as env S <;> rfl
@[simp] theorem evE_mth (m o as env S) : evE P F (.mth m o as) env S = bindR (evE P F o env S) fun x S1 => ite' (mthO m x) (bindR (evEs P F as env S1) fun vs S2 => mthD m x vs S2) .bad := by
  rw [evE]; cases evE P F o env S with
  | ok x S1 =>
    dsimp only [bindR]
    cases mthO m x with
    | true => simp only [if_true, ite'_t]; cases evEs P F as env S1 <;> rfl
    | false => simp only [Bool.false_eq_true, if_false, ite'_f]
  | _ => rfl
def itK (o : Option (List Vl)) (k : List D → Res Vl) : Res Vl := match o with
  | some xs => (match datas xs with
    | some its => k its
    | none => .bad)
  | none => .bad
/-- a comprehension's turns, by its text -/
def compB (t : T) (cond : List Mi.E) (elt : Mi.E) (env : Env) (its acc : List D) (S : Store) : Res (List D) := compL t (fun env' S' => evC P F cond env' S') (fun env' S' => evE P F elt env' S') env its acc S
def putR (o : Option Env) (k : Env → Res (List D)) : Res (List D) := match o with
  | some env => k env
  | none => .bad
@[simp] theorem putR_some (env k) : putR (some env) k = k env := (rfl)
def appK (acc : List D) (v : Vl) (S : Store) (k : List D → Store → Res (List D)) : Res (List D) := match v with
  | .d y => if acc.length < 16777216 then k (acc ++ [y]) S else .bad
  | _ => .bad
@[simp] theorem appK_d (acc y S k) : appK acc (.d y) S k = if acc.length < 16777216 then k (acc ++ [y]) S else .bad := (rfl)
def asBl (v : Vl) (S : Store) (k : Bool → Store → Res (List D)) : Res (List D) := match v with
  | .d (.bl b) => k b S
  | _ => .bad
@[simp] theorem asBl_bl (b S k) : asBl (.d (.bl b)) S k = k b S := (rfl)
@[simp] theorem compB_nil (t cond elt env acc S) : compB P F t cond elt env [] acc S = .ok acc S := (rfl)
@[simp] theorem compB_cons (t elt env x r acc S) : compB P F t [] elt env (x :: r) acc S = putR (T.put t (.d x) env) fun env1 => bindR (evE P F elt env1 S) fun v S2 => appK acc v S2 fun acc2 S2 => compB P F t [] elt env r acc2 S2 := by
  unfold compB; rw [compL]; cases T.put t (.d x) env with
  | none => rfl
  | some env1 =>
    dsimp only [putR]; rw [evC]; (try dsimp only); cases evE P F elt env1 S with
    | ok v S2 => cases v <;> rfl
    | _ => rfl
@[simp] theorem compB_consIf (t c elt env x r acc S) : compB P F t [c] elt env (x :: r) acc S = putR (T.put t (.d x) env) fun env1 => bindR (evE P F c env1 S) fun b S1 => asBl b S1 fun q S1 => ite' q (bindR (evE P F elt env1 S1) fun v S2 => appK acc v S2 fun acc2 S2 => compB P F t [c] elt env r acc2 S2) (compB P F t [c] elt env r acc S1) := by
  unfold compB; rw [compL]; cases T.put t (.d x) env with
  | none => rfl
  | some env1 =>
    dsimp only [putR]; rw [evC]; (try dsimp only); cases evE P F c env1 S with
    | ok b S1 =>
      cases b with
      | d b => cases b with
        | bl q => cases q with
          | true =>
            dsimp only [asB, bindR, asBl, ite']; cases evE P F elt env1 S1 with
            | ok v S2 => cases v <;> rfl
            | _ => rfl
          | false => rfl
        | _ => rfl
      | _ => rfl
    | _ => rfl
/-- data as values -/
def dl (xs : List D) : List Vl := xs.map Vl.d
theorem dl_nil : dl [] = [] := rfl
theorem dl_cons (x xs) : dl (x :: xs) = .d x :: dl xs := rfl
@[simp] theorem dl_app (x xs) : dl (x ++ xs) = dl x ++ dl xs := List.map_append ..
theorem dl_eq (xs) : dl xs = xs.map Vl.d := rfl
@[simp] theorem itK_d (xs k) : itK (some (dl xs)) k = k xs := by
  unfold dl
  have h : ∀ xs : List D, datas (xs.map Vl.d) = some xs := fun xs => by
    induction xs with
    | nil => rfl
    | cons x r ih => rw [List.map_cons]; show (datas (r.map Vl.d)).map (x :: ·) = _; rw [ih]; rfl
  unfold itK; simp only [h]
@[simp] theorem evE_comp (mu own t k src cond elt env S) : evE P F (.comp mu own t k src cond elt) env S = bindR (evEs P F src env S) fun vs S1 => itK (items k vs S1) fun its => bindR (compB P F t cond elt (blkE env own) its [] S1) fun ds S2 => newL mu ds S2 := by
  rw [evE]; cases evEs P F src env S with
  | ok vs S1 =>
    dsimp only [bindR]; cases items k vs S1 with
    | none => rfl
    | some xs =>
      dsimp only [itK]; cases datas xs with
      | none => rfl
      | some its => dsimp only; show (match compL t _ _ _ its [] S1 with | .ok ds S2 => newL mu ds S2 | .exc c d S2 => .exc c d S2 | .bad => .bad) = _; unfold compB; generalize compL t _ _ _ its [] S1 = r; cases r <;> rfl
  | _ => rfl
@[simp] theorem evE_lam (k sl env S) : evE P F (.lam k sl) env S = .ok (.lam k sl) S := by rw [evE]
def cvK (F : Call) (o : Option (Option Vl)) (S : Store) : Res Vl := match o with
    | some (some (.clo k caps)) => F k caps S
    | _ => .bad
@[simp] theorem cvK_clo (F : Call) (k caps S) : cvK F (some (some (.clo k caps))) S = F k caps S := (rfl)
@[simp] theorem evE_cv (i env S) : evE P F (.cv i) env S = cvK F env[i]? S := by rw [evE]; rfl
@[simp] theorem evEs_nil (env S) : evEs P F [] env S = .ok [] S := by rw [evEs]
@[simp] theorem evEs_cons (e es env S) : evEs P F (e :: es) env S = bindR (evE P F e env S) fun v S1 => bindR (evEs P F es env S1) fun vs S2 => .ok (v :: vs) S2 := by
  rw [evEs]; cases evE P F e env S with
  | ok x S1 => dsimp only [bindR]; cases evEs P F es env S1 <;> rfl
  | _ => rfl
@[simp] theorem evAnd_one (e env S) : evAnd P F [e] env S = bindR (evE P F e env S) fun v S1 => asBk v S1 fun b S1 => .ok (.d (.bl b)) S1 := by
  rw [evAnd]; cases evE P F e env S with
  | ok x S1 => (cases x with | d x => (cases x with | bl b => cases b <;> rfl | _ => rfl) | _ => rfl)
  | _ => rfl
@[simp] theorem evAnd_cons (e e2 es env S) : evAnd P F (e :: e2 :: es) env S = bindR (evE P F e env S) fun v S1 => asBk v S1 fun b S1 => ite' b (evAnd P F (e2 :: es) env S1) (.ok (.d (.bl false)) S1) := by
  rw [evAnd]; exact asB_bindR _ _ _
@[simp] theorem evOr_one (e env S) : evOr P F [e] env S = bindR (evE P F e env S) fun v S1 => asBk v S1 fun b S1 => .ok (.d (.bl b)) S1 := by
  rw [evOr]; cases evE P F e env S with
  | ok x S1 => (cases x with | d x => (cases x with | bl b => cases b <;> rfl | _ => rfl) | _ => rfl)
  | _ => rfl
@[simp] theorem evOr_cons (e e2 es env S) : evOr P F (e :: e2 :: es) env S = bindR (evE P F e env S) fun v S1 => asBk v S1 fun b S1 => ite' b (.ok (.d (.bl true)) S1) (evOr P F (e2 :: es) env S1) := by
  rw [evOr]; cases evE P F e env S with
  | ok x S1 => (cases x with | d x => (cases x with | bl b => cases b <;> rfl | _ => rfl) | _ => rfl)
  | _ => rfl
@[simp] theorem evC_nil (env S) : evC P F [] env S = none := by rw [evC]
@[simp] theorem evC_cons (e es env S) : evC P F (e :: es) env S = some (asB (evE P F e env S)) := by rw [evC]
@[simp] theorem asB_bl (b S) : asB (.ok (.d (.bl b)) S) = .ok b S := (rfl)
@[simp] theorem asB_exc (c d S) : asB (.exc c d S) = .exc c d S := (rfl)
@[simp] theorem exS_par (is es env S) : exS P F (.par is es) env S = bindF (evEs P F es env S) env fun vs S1 => putF (setAll env is vs) S1 := by
  rw [exS]; cases evEs P F es env S with
  | ok vs S1 => dsimp only [bindF]; cases setAll env is vs <;> rfl
  | _ => rfl
@[simp] theorem exS_asg (t e env S) : exS P F (.asg t e) env S = bindF (evE P F e env S) env fun v S1 => putF (T.put t v env) S1 := by
  rw [exS]; cases evE P F e env S with
  | ok v S1 => dsimp only [bindF]; cases T.put t v env <;> rfl
  | _ => rfl
@[simp] theorem exS_ex (e env S) : exS P F (.ex e) env S = bindF (evE P F e env S) env fun _ S1 => .nx env S1 := by
  rw [exS]; cases evE P F e env S <;> rfl
@[simp] theorem exS_iff (c a b env S) : exS P F (.iff c a b) env S = bindF (evE P F c env S) env fun v S1 => asBf v S1 fun q S1 => ite' q (exSs P F a env S1) (exSs P F b env S1) := by
  rw [exS]; cases evE P F c env S with
  | ok x S1 => (cases x with | d x => (cases x with | bl b => cases b <;> rfl | _ => rfl) | _ => rfl)
  | _ => rfl
def forK (o : Option (List Vl)) (k : List Vl → Fl) : Fl := match o with
  | some xs => k xs
  | none => .bad
@[simp] theorem forK_some (xs k) : forK (some xs) k = k xs := (rfl)
/-- a for's turns, by its text -/
def forB (t : T) (b : List St) (xs : List Vl) (env : Env) (S : Store) : Fl := forL t (fun env' S' => exSs P F b env' S') xs env S
def loopK (f : Fl) (k : Env → Store → Fl) : Fl := match f with
  | .nx env S => k env S
  | .ct env S => k env S
  | .bk env S => .nx env S
  | f => f
@[simp] theorem loopK_nx (env S k) : loopK (.nx env S) k = k env S := (rfl)
@[simp] theorem loopK_ct (env S k) : loopK (.ct env S) k = k env S := (rfl)
@[simp] theorem loopK_bk (env S k) : loopK (.bk env S) k = .nx env S := (rfl)
@[simp] theorem loopK_rt (env S k) : loopK (.rt env S) k = .rt env S := (rfl)
@[simp] theorem loopK_ex (c d env S k) : loopK (.ex c d env S) k = .ex c d env S := (rfl)
def putK (o : Option Env) (k : Env → Fl) : Fl := match o with
  | some env => k env
  | none => .bad
@[simp] theorem putK_some (env k) : putK (some env) k = k env := (rfl)
@[simp] theorem forB_nil (t b env S) : forB P F t b [] env S = .nx env S := (rfl)
@[simp] theorem forB_cons (t b x r env S) : forB P F t b (x :: r) env S = putK (T.put t x env) fun env1 => loopK (exSs P F b env1 S) fun env2 S2 => forB P F t b r env2 S2 := by
  unfold forB; rw [forL]; cases T.put t x env with
  | none => rfl
  | some env1 => dsimp only [putK]; generalize exSs P F b env1 S = f; cases f <;> rfl
@[simp] theorem forB_dnil (t b env S) : forB P F t b (dl []) env S = .nx env S := (rfl)
@[simp] theorem forB_dcons (t b x r env S) : forB P F t b (dl (x :: r)) env S = putK (T.put t (.d x) env) fun env1 => loopK (exSs P F b env1 S) fun env2 S2 => forB P F t b (dl r) env2 S2 := forB_cons ..
@[simp] theorem exS_for (t k src b env S) : exS P F (.for_ t k src b) env S = bindF (evEs P F src env S) env fun vs S1 => forK (items k vs S1) fun xs => forB P F t b xs env S1 := by
  rw [exS]; cases evEs P F src env S with
  | ok vs S1 => dsimp only [bindF]; cases items k vs S1 <;> rfl
  | _ => rfl
def whlB (c : Mi.E) (b : List St) (n : Nat) (env : Env) (S : Store) : Fl := whlL (fun env' S' => asB (evE P F c env' S')) (fun env' S' => exSs P F b env' S') n env S
@[simp] theorem exS_whl (c b env S) : exS P F (.whl c b) env S = whlB P F c b P.wf env S := by rw [exS]; rfl
@[simp] theorem whlB_succ (c b n env S) : whlB P F c b (n + 1) env S = bindF (evE P F c env S) env fun v S1 => asBf v S1 fun q S1 => ite' q (loopK (exSs P F b env S1) fun env2 S2 => whlB P F c b n env2 S2) (.nx env S1) := by
  unfold whlB; rw [whlL]; cases evE P F c env S with
  | ok v S1 =>
    cases v with
    | d x =>
      cases x with
      | bl q => cases q with
        | true => dsimp only [asB, bindF, asBf, ite']; generalize exSs P F b env S1 = f; cases f <;> rfl
        | false => rfl
      | _ => rfl
    | _ => rfl
  | _ => rfl
@[simp] theorem exS_ret (e env S) : exS P F (.ret e) env S = bindF (evE P F e env S) env fun v S1 => .rt v S1 := by
  rw [exS]; cases evE P F e env S <;> rfl
@[simp] theorem exS_retn (env S) : exS P F .retn env S = .rt (.d .non) S := by rw [exS]
@[simp] theorem exS_brk (env S) : exS P F .brk env S = .bk env S := by rw [exS]
@[simp] theorem exS_cnt (env S) : exS P F .cnt env S = .ct env S := by rw [exS]
@[simp] theorem exS_pas (env S) : exS P F .pas env S = .nx env S := by rw [exS]
def rseK (c : Nat) (v : Vl) (env : Env) (S : Store) : Fl := match v with
  | .d x => .ex c x env S
  | _ => .bad
@[simp] theorem rseK_d (c x env S) : rseK c (.d x) env S = .ex c x env S := (rfl)
@[simp] theorem exS_rse (c e env S) : exS P F (.rse c e) env S = bindF (evE P F e env S) env fun v S1 => rseK c v env S1 := by
  rw [exS]; cases evE P F e env S with
  | ok x S1 => cases x <;> rfl
  | _ => rfl
def tryK (f : Fl) (hs : List Hd) : Fl := match f with
  | .ex c d env1 S1 => match pickH P c hs with
      | some h => match h.su with
        | .rt tag => .rt (.d (.tup [.str tag, d])) S1
        | .rs k v => .ex k v env1 S1
      | none => .ex c d env1 S1
  | f => f
@[simp] theorem tryK_nx (env S hs) : tryK P (.nx env S) hs = .nx env S := (rfl)
@[simp] theorem tryK_rt (env S hs) : tryK P (.rt env S) hs = .rt env S := (rfl)
@[simp] theorem exS_try (b hs env S) : exS P F (.try_ b hs) env S = tryK P (exSs P F b env S) hs := by
  rw [exS]; generalize exSs P F b env S = f; cases f <;> rfl
@[simp] theorem exSs_nil (env S) : exSs P F [] env S = .nx env S := by rw [exSs]
@[simp] theorem exSs_cons (s r env S) : exSs P F (s :: r) env S = seqF (exS P F s env S) fun env1 S1 => exSs P F r env1 S1 := by
  rw [exSs]; generalize exS P F s env S = f; cases f <;> rfl
end
@[simp] theorem finish_nx (keep n env S) : finish keep n (.nx env S) = .ok (.d .non) (S.take n) := (rfl)
@[simp] theorem finish_d (keep n x S) : finish keep n (.rt (.d x) S) = .ok (.d x) (S.take n) := (rfl)
@[simp] theorem finish_ex (keep n c d env S) : finish keep n (.ex c d env S) = .exc c d (S.take n) := (rfl)
@[simp] theorem finishE_ok (n x S) : finishE n (.ok (.d x) S) = .ok (.d x) (S.take n) := (rfl)
@[simp] theorem finishE_exc (n c d S) : finishE n (.exc c d S) = .exc c d (S.take n) := (rfl)
@[simp] theorem ofD_some (S x) : ofD S (some x) = .ok (.d x) S := (rfl)
@[simp] theorem put_nm (i v env) : T.put (.nm i) v env = if i < env.length then some (env.set i (some v)) else none := by rw [T.put]
@[simp] theorem put_tp (ts ds env) : T.put (.tp ts) (.d (.tup ds)) env = T.puts ts ds env := by rw [T.put]
@[simp] theorem put_tpl (ts ds env) : T.put (.tp ts) (.d (.lst ds)) env = T.puts ts ds env := by rw [T.put]
@[simp] theorem puts_nil (env) : T.puts [] [] env = some env := by rw [T.puts]
@[simp] theorem puts_cons (t ts x ds env) : T.puts (t :: ts) (x :: ds) env = (T.put t (.d x) env).bind fun e => T.puts ts ds e := by
  rw [T.puts]; cases T.put t (.d x) env <;> rfl
@[simp] theorem bindVs_nil (env) : bindVs env [] = some [] := by rw [bindVs]
@[simp] theorem bindVs_d (env x r) : bindVs env (.d x :: r) = (bindVs env r).map (.d x :: ·) := by rw [bindVs]; simp only [bindV]
@[simp] theorem bindVs_loc (env x r) : bindVs env (.loc x :: r) = (bindVs env r).map (.loc x :: ·) := by rw [bindVs]; simp only [bindV]
@[simp] theorem bindVs_ro (env x r) : bindVs env (.ro x :: r) = (bindVs env r).map (.ro x :: ·) := by rw [bindVs]; simp only [bindV]
@[simp] theorem bindVs_lam (env k sl r) : bindVs env (.lam k sl :: r) = ((getAll env sl).map (Vl.clo k)).bind fun u => (bindVs env r).map (u :: ·) := by
  rw [bindVs]; simp only [bindV]; cases (getAll env sl).map (Vl.clo k) <;> rfl
@[simp] theorem setAll_nil (env) : setAll env [] [] = some env := (rfl)
@[simp] theorem setAll_cons (env i is v vs) : setAll env (i :: is) (v :: vs) = if i < env.length then setAll (env.set i (some v)) is vs else none := (rfl)
@[simp] theorem tupK_d (x vs S) : tupK (.d x :: vs) S = (match datas vs with | some ds => if ds.length + 1 ≤ 16777216 then .ok (.d (.tup (x :: ds))) S else .bad | none => .bad) := by
  unfold tupK; simp only [List.all_cons, isLam, Bool.false_and, Bool.false_eq_true, if_false, datas]
  cases datas vs <;> rfl
@[simp] theorem tupK_nil (S) : tupK [] S = .ok (.d (.tup [])) S := (rfl)
@[simp] theorem lstK_nil (mu S) : lstK mu [] S = newL mu [] S := (rfl)
@[simp] theorem lstK_d (mu x vs S) : lstK mu (.d x :: vs) S = (match datas vs with | some ds => newL mu (x :: ds) S | none => .bad) := by
  unfold lstK; simp only [List.all_cons, isLam, Bool.false_and, Bool.false_eq_true, if_false, datas]
  cases datas vs <;> rfl
@[simp] theorem datas_nil : datas [] = some [] := (rfl)
@[simp] theorem datas_cons (x r) : datas (.d x :: r) = (datas r).map (x :: ·) := (rfl)
@[simp] theorem datas_map (xs : List D) : datas (xs.map Vl.d) = some xs := by
  induction xs with
  | nil => rfl
  | cons x r ih => rw [List.map_cons, datas_cons, ih]; rfl
@[simp] theorem ty_ii : (Ty.int == Ty.int) = true := (rfl)
@[simp] theorem ty_eq (a b : Ty) : (a == b) = decide (a = b) := (rfl)
@[simp] theorem newL_f (ds S) (h : ds.length ≤ 16777216) : newL false ds S = .ok (.d (.lst ds)) S := by
  unfold newL; rw [if_pos h]; rfl
theorem beqI (a b : Int) : (a == b) = decide (a = b) := rfl
@[simp] theorem eqvI (a b : Int) : D.eqv (.int a) (.int b) = decide (a = b) := by rw [D.eqv]; rfl
@[simp] theorem eqvS (a b : List Nat) : D.eqv (.str a) (.str b) = decide (a = b) := by rw [D.eqv]; by_cases h : a = b <;> simp [h]
@[simp] theorem eqOkI (a b : Int) : eqOk (.int a) (.int b) = true := (rfl)
@[simp] theorem eqOkS (a b) : eqOk (.str a) (.str b) = true := (rfl)
@[simp] theorem dview_d (S x) : dview S (.d x) = some x := (rfl)
@[simp] theorem cmpD_eq (x y S) : cmpD .eq (.d x) (.d y) S = (if eqOk x y then some (D.eqv x y) else none) := (rfl)
@[simp] theorem cmpD_ne (x y S) : cmpD .ne (.d x) (.d y) S = (if eqOk x y then some (!D.eqv x y) else none) := (rfl)
@[simp] theorem cmpD_lt (i j S) : cmpD .lt (.d (.int i)) (.d (.int j)) S = some (decide (i < j)) := (rfl)
@[simp] theorem cmpD_le (i j S) : cmpD .le (.d (.int i)) (.d (.int j)) S = some (decide (i ≤ j)) := (rfl)
@[simp] theorem cmpD_gt (i j S) : cmpD .gt (.d (.int i)) (.d (.int j)) S = some (decide (j < i)) := (rfl)
@[simp] theorem cmpD_ge (i j S) : cmpD .ge (.d (.int i)) (.d (.int j)) S = some (decide (j ≤ i)) := (rfl)
@[simp] theorem cmpD_is (x y S) : cmpD .is_ x y S = if isN y then some (isN x) else none := (rfl)
@[simp] theorem cmpD_isnot (x y S) : cmpD .isnot x y S = if isN y then some (!isN x) else none := (rfl)
@[simp] theorem binD_addI (mu i j S) : binD .add mu (.d (.int i)) (.d (.int j)) S = .ok (.d (.int (i + j))) S := (rfl)
@[simp] theorem binD_subI (mu i j S) : binD .sub mu (.d (.int i)) (.d (.int j)) S = .ok (.d (.int (i - j))) S := (rfl)
theorem binD_mulI (mu i j S) (h : i.natAbs.log2 + j.natAbs.log2 < 1000000) : binD .mul mu (.d (.int i)) (.d (.int j)) S = .ok (.d (.int (i * j))) S := by simp [binD, h]
theorem binD_divI (mu i j S) (h : 0 < j) (h1 : j.natAbs.log2 < 9000) : binD .fdiv mu (.d (.int i)) (.d (.int j)) S = .ok (.d (.int (i / j))) S := by simp [binD, h, h1]
theorem binD_modI (mu i j S) (h : 0 < j) : binD .mod mu (.d (.int i)) (.d (.int j)) S = .ok (.d (.int (i % j))) S := by simp [binD, h]
theorem binD_addS (mu a b S) (h : a.length + b.length ≤ line) : binD .add mu (.d (.str a)) (.d (.str b)) S = .ok (.d (.str (a ++ b))) S := by simp only [binD]; rw [if_pos h]
@[simp] theorem bltD_len (mu as S) : bltD .len mu as S = lenD S as := (rfl)
@[simp] theorem bltD_abs (mu as S) : bltD .abs mu as S = absD S as := (rfl)
@[simp] theorem bltD_int (mu as S) : bltD .int mu as S = intD S as := (rfl)
@[simp] theorem bltD_str (mu as S) : bltD .str mu as S = strD S as := (rfl)
@[simp] theorem bltD_tuple (mu as S) : bltD .tuple mu as S = tupleD S as := (rfl)
@[simp] theorem bltD_list (mu as S) : bltD .list mu as S = listD mu S as := (rfl)
@[simp] theorem bltD_max (mu as S) : bltD .max mu as S = maxD S as := (rfl)
@[simp] theorem bltD_all (mu as S) : bltD .all mu as S = allD S as := (rfl)
@[simp] theorem absD_int (i S) : absD S [.d (.int i)] = .ok (.d (.int (i.natAbs : Int))) S := by
  have : (if i < 0 then -i else i) = (i.natAbs : Int) := by split <;> omega
  simp only [absD, this]
@[simp] theorem lenD_tup (a S) : lenD S [.d (.tup a)] = .ok (.d (.int a.length)) S := (rfl)
@[simp] theorem lenD_lst (a S) : lenD S [.d (.lst a)] = .ok (.d (.int a.length)) S := (rfl)
theorem lenD_str (a S) (h : a.length ≤ line) : lenD S [.d (.str a)] = .ok (.d (.int a.length)) S := by simp only [lenD]; rw [if_pos h]
@[simp] theorem isiD_d_non (t) : isiD (.d .non) t = some false := (rfl)
@[simp] theorem isiD_d_bl (t b) : isiD (.d (.bl b)) t = some (t == .bool || t == .int) := (rfl)
@[simp] theorem isiD_d_int (t b) : isiD (.d (.int b)) t = some (t == .int) := (rfl)
@[simp] theorem isiD_d_str (t b) : isiD (.d (.str b)) t = some (t == .str) := (rfl)
@[simp] theorem isiD_d_tup (t b) : isiD (.d (.tup b)) t = some (t == .tuple) := (rfl)
@[simp] theorem isiD_d_lst (t b) : isiD (.d (.lst b)) t = some (t == .list) := (rfl)
@[simp] theorem isiD_d_dks (t b) : isiD (.d (.dks b)) t = some false := (rfl)
@[simp] theorem isN_non : isN (.d .non) = true := (rfl)
@[simp] theorem isN_int (i) : isN (.d (.int i)) = false := (rfl)
@[simp] theorem isN_bl (i) : isN (.d (.bl i)) = false := (rfl)
@[simp] theorem isN_tup (i) : isN (.d (.tup i)) = false := (rfl)
@[simp] theorem isN_str (i) : isN (.d (.str i)) = false := (rfl)
@[simp] theorem isN_lst (i) : isN (.d (.lst i)) = false := (rfl)
@[simp] theorem idxD_tup (a j S) : idxD (.d (.tup a)) (.d (.int j)) S = L2.atI a j := (rfl)
@[simp] theorem idxD_lst (a j S) : idxD (.d (.lst a)) (.d (.int j)) S = L2.atI a j := (rfl)
@[simp] theorem atI_0 {α : Type} (x : α) (r) : L2.atI (x :: r) 0 = some x := by simp [L2.atI, L2.ixN]
theorem atI_nat {α : Type} (xs : List α) (k : Nat) : L2.atI xs (k : Int) = xs[k]? := by
  unfold L2.atI L2.ixN
  by_cases h : (k : Int) < xs.length
  · simp [h, show (0:Int) ≤ k by omega]
  · have : ¬ ((k:Int) < (xs.length : Int)) := h
    simp only [show (0:Int) ≤ (k:Int) by omega, if_true, this, if_false, Option.bind_none]
    rw [List.getElem?_eq_none (by omega)]
@[simp] theorem atI_1 {α : Type} (x y : α) (r) : L2.atI (x :: y :: r) 1 = some y := atI_nat (x :: y :: r) 1
@[simp] theorem atI_2 {α : Type} (x y z : α) (r) : L2.atI (x :: y :: z :: r) 2 = some z := atI_nat (x :: y :: z :: r) 2
@[simp] theorem atI_3 {α : Type} (x y z u : α) (r) : L2.atI (x :: y :: z :: u :: r) 3 = some u := atI_nat (x :: y :: z :: u :: r) 3
@[simp] theorem atI_4 {α : Type} (x y z u v : α) (r) : L2.atI (x :: y :: z :: u :: v :: r) 4 = some v := atI_nat (x :: y :: z :: u :: v :: r) 4

@[simp] theorem parts_nil : parts [] = some none := (rfl)
@[simp] theorem parts_one (i) : parts [.d (.int i)] = some (some i) := (rfl)
@[simp] theorem items_it (vs S) : items .it vs S = it1D S vs := (rfl)
@[simp] theorem items_rng1 (vs S) : items .rng1 vs S = r1D vs := (rfl)
@[simp] theorem items_rng2 (vs S) : items .rng2 vs S = r2D vs := (rfl)
@[simp] theorem items_enum (vs S) : items .enum vs S = enD vs := (rfl)
@[simp] theorem items_zip (vs S) : items .zip vs S = zpD vs := (rfl)
@[simp] theorem it1D_tup (a S) : it1D S [.d (.tup a)] = some (dl a) := (rfl)
@[simp] theorem it1D_lst (a S) : it1D S [.d (.lst a)] = some (dl a) := (rfl)
@[simp] theorem it1D_ro (a S) : it1D S [.ro a] = some (dl a) := (rfl)
@[simp] theorem it1D_seq (a S) : it1D S [.seq a] = some a := (rfl)
/-- a text's signs -/
def chars (t : List Nat) : List D := t.map fun c => D.str [c]
@[simp] theorem chars_len (t) : (chars t).length = t.length := by simp [chars]
@[simp] theorem it1D_str (a S) : it1D S [.d (.str a)] = some (dl (chars a)) := by simp [it1D, itemsV, dl, chars]
section
variable {P : Pg} {F : Call} {s : St} {r : List St} {env env1 : Env} {S S1 : Store} {f : Fl}
theorem step_nx (env1 : Env) (S1 : Store) (h : exS P F s env S = .nx env1 S1) (h2 : exSs P F r env1 S1 = f) : exSs P F (s :: r) env S = f := by rw [exSs_cons, h, seqF_nx, h2]
theorem step_rt {v : Vl} (h : exS P F s env S = .rt v S1) : exSs P F (s :: r) env S = .rt v S1 := by rw [exSs_cons, h, seqF_rt]
theorem step_ex {c : Nat} {d : D} (h : exS P F s env S = .ex c d env1 S1) : exSs P F (s :: r) env S = .ex c d env1 S1 := by rw [exSs_cons, h, seqF_ex]
theorem fin_rt {keep : Bool} {x : D} (h : f = .rt (.d x) S) : finish keep S.length f = .ok (.d x) S := by rw [h, finish_d, List.take_length]
theorem fin_nx {keep : Bool} (h : f = .nx env1 S) : finish keep S.length f = .ok (.d .non) S := by rw [h, finish_nx, List.take_length]
theorem fin_ex {keep : Bool} {c : Nat} {d : D} (h : f = .ex c d env1 S) : finish keep S.length f = .exc c d S := by rw [h, finish_ex, List.take_length]
end
end Mi
set_option linter.all false
/-! PlNum: numbers: the greatest common factor by a while, fractions. -/
namespace Mi
theorem gcdE (a b : Int) : Int.gcd b (a % b) = Int.gcd a b := by rw [Int.emod_def, Int.gcd_sub_mul_left_right, Int.gcd_comm]
theorem whlL_gcd {c : Env → Store → Res Bool} {body : Env → Store → Fl} {E : Int → Int → Env} {S : Store}
    (hc : ∀ a b, c (E a b) S = .ok (decide (b ≠ 0)) S) (hb : ∀ a b, 0 < b → body (E a b) S = .nx (E b (a % b)) S) :
    ∀ (k : Nat) (a b : Int) (fuel : Nat), 0 ≤ b → b < 2 ^ k → 2 * k + 1 ≤ fuel → ∃ a' : Int, a'.natAbs = Int.gcd a b ∧ (0 < b → 0 < a') ∧ (b = 0 → a' = a) ∧ whlL c body fuel (E a b) S = .nx (E a' 0) S
  | k, a, b, 0, _, _, hf => by omega
  | k, a, b, fuel + 1, h0, h1, hf => by
    by_cases hz : b = 0
    · subst hz
      exact ⟨a, by simp, by omega, by simp, by rw [whlL, hc]; simp⟩
    · have hp : 0 < b := by omega
      cases k with
      | zero => simp at h1; omega
      | succ k =>
        have e1 : whlL c body (fuel + 1) (E a b) S = whlL c body fuel (E b (a % b)) S := by
          rw [whlL, hc]; simp only [ne_eq, hz, not_false_eq_true, decide_true, hb a b hp]
        have r0 : 0 ≤ a % b := Int.emod_nonneg _ hz
        have r1 : a % b < b := Int.emod_lt_of_pos _ hp
        have g1 : Int.gcd b (a % b) = Int.gcd a b := gcdE a b
        cases fuel with
        | zero => omega
        | succ fuel =>
          by_cases hr : a % b = 0
          · rw [e1, hr]
            refine ⟨b, ?_, by omega, by omega, by rw [whlL, hc]; simp⟩
            rw [← g1, hr]; simp
          · have rp : 0 < a % b := by omega
            have e2 : whlL c body (fuel + 1) (E b (a % b)) S = whlL c body fuel (E (a % b) (b % (a % b))) S := by
              rw [whlL, hc]; simp only [ne_eq, hr, not_false_eq_true, decide_true, hb b (a % b) rp]
            have s0 : 0 ≤ b % (a % b) := Int.emod_nonneg _ hr
            have s1 : b % (a % b) < a % b := Int.emod_lt_of_pos _ rp
            have s2 : b % (a % b) + (a % b) ≤ b := by
              have d1 := Int.mul_ediv_add_emod b (a % b)
              have d2 : 1 ≤ b / (a % b) := by
                have := Int.le_ediv_of_mul_le rp (a := 1) (b := b) (by omega)
                exact this
              have d3 : (a % b) * 1 ≤ (a % b) * (b / (a % b)) := Int.mul_le_mul_of_nonneg_left d2 (by omega)
              omega
            have hk : b % (a % b) < 2 ^ k := by
              have : (2 : Int) ^ (k + 1) = 2 ^ k * 2 := Int.pow_succ ..
              omega
            obtain ⟨a', g, p, z, e⟩ := whlL_gcd hc hb k (a % b) (b % (a % b)) fuel s0 hk (by omega)
            refine ⟨a', ?_, ?_, by omega, by rw [e1, e2, e]⟩
            · rw [g, ← g1, gcdE b (a % b)]
            · intro _
              by_cases hs : b % (a % b) = 0
              · rw [z hs]; exact rp
              · exact p (by omega)

/-- a fraction in its lowest form (b > 0) -/
def mk (a b : Int) : Int × Int := (a / (Int.gcd a b : Int), b / (Int.gcd a b : Int))
abbrev sh (p : Int × Int) : D := .tup [.int p.1, .int p.2]
theorem gcd_pos' {a b : Int} (h : 0 < b) : 0 < (Int.gcd a b : Int) := by
  have : Int.gcd a b ≠ 0 := fun e => by
    have := (Int.gcd_eq_zero_iff.mp e).2; omega
  omega
theorem gcd_le' {a b : Int} (h : 0 < b) : (Int.gcd a b : Int) ≤ b := Int.le_of_dvd h (Int.gcd_dvd_right ..)
theorem mk_pos {a b : Int} (h : 0 < b) : 0 < (mk a b).2 := by
  have g := gcd_pos' (a := a) h
  exact Int.ediv_pos_of_pos_of_dvd h (by omega) (Int.gcd_dvd_right ..)
theorem mk_eq {a b : Int} (h : 0 < b) : (mk a b).1 * (Int.gcd a b : Int) = a ∧ (mk a b).2 * (Int.gcd a b : Int) = b :=
  ⟨Int.ediv_mul_cancel (Int.gcd_dvd_left ..), Int.ediv_mul_cancel (Int.gcd_dvd_right ..)⟩
theorem mk_cross {a b : Int} (h : 0 < b) : (mk a b).1 * b = a * (mk a b).2 := by
  obtain ⟨e1, e2⟩ := mk_eq (a := a) h
  calc (mk a b).1 * b = (mk a b).1 * ((mk a b).2 * (Int.gcd a b : Int)) := by rw [e2]
    _ = ((mk a b).1 * (Int.gcd a b : Int)) * (mk a b).2 := by rw [Int.mul_assoc, Int.mul_comm (Int.gcd a b : Int), ]
    _ = a * (mk a b).2 := by rw [e1]
theorem mk_le {a b : Int} (h : 0 < b) : (mk a b).2 ≤ b := by
  obtain ⟨_, e2⟩ := mk_eq (a := a) h
  have g := gcd_pos' (a := a) h
  have p := mk_pos (a := a) h
  have : (mk a b).2 * 1 ≤ (mk a b).2 * (Int.gcd a b : Int) := Int.mul_le_mul_of_nonneg_left (by omega) (by omega)
  omega
theorem mk_nonneg {a b : Int} (ha : 0 ≤ a) : 0 ≤ (mk a b).1 := Int.ediv_nonneg ha (by omega)
theorem mk_abs_le {a b : Int} (h : 0 < b) : (mk a b).1.natAbs ≤ a.natAbs := by
  obtain ⟨e1, _⟩ := mk_eq (a := a) h
  have g := gcd_pos' (a := a) h
  have := congrArg Int.natAbs e1
  rw [Int.natAbs_mul] at this
  have hg : 1 ≤ (Int.gcd a b : Int).natAbs := by omega
  have : (mk a b).1.natAbs * 1 ≤ (mk a b).1.natAbs * (Int.gcd a b : Int).natAbs := Nat.mul_le_mul_left _ hg
  omega
/-- it stands as it is exactly where it has no common factor -/
theorem mk_self {a b : Int} (h : 0 < b) : mk a b = (a, b) ↔ Int.gcd a b = 1 := by
  constructor
  · intro e
    have e2 := (mk_eq (a := a) h).2
    rw [e] at e2
    have e2' : b * (Int.gcd a b : Int) = b * 1 := by simpa using e2
    have := Int.eq_of_mul_eq_mul_left (by omega) e2'
    omega
  · intro e
    unfold mk; rw [e]; simp
theorem mk_gcd {a b : Int} (h : 0 < b) : Int.gcd (mk a b).1 (mk a b).2 = 1 := by
  have hz : Int.gcd a b ≠ 0 := fun e => by have := (Int.gcd_eq_zero_iff.mp e).2; omega
  exact Int.gcd_ediv_gcd_ediv_gcd (by omega)
theorem log2_lt {b : Int} {k : Nat} (h0 : 0 < b) (h : b < 2 ^ k) : b.natAbs.log2 < k := by
  have : b.natAbs < 2 ^ k := by
    have e : ((b.natAbs : Nat) : Int) = b := by omega
    have : ((b.natAbs : Nat) : Int) < ((2 ^ k : Nat) : Int) := by rw [e]; simpa using h
    exact Int.ofNat_lt.mp this
  exact (Nat.log2_lt (by omega)).mpr this
theorem log2_lt' {b : Int} {k : Nat} (hk : 0 < k) (h : b.natAbs < 2 ^ k) : b.natAbs.log2 < k := by
  by_cases hz : b.natAbs = 0
  · rw [hz]; simpa using hk
  · exact (Nat.log2_lt hz).mpr h
end Mi
set_option linter.all false
/-! PlList: comprehensions that map, filter, raise; texts. -/
namespace Mi
section
variable {P : Pg} {F : Call}
theorem compB_map {t : T} {elt : E} {env : Env} {S : Store} (f : D → D) : ∀ {its acc : List D}, (∀ x ∈ its, ∃ env1, T.put t (.d x) env = some env1 ∧ evE P F elt env1 S = .ok (.d (f x)) S) → acc.length + its.length ≤ 16777216 →
    compB P F t [] elt env its acc S = .ok (acc ++ its.map f) S
  | [], acc, _, _ => by simp
  | x :: r, acc, h, hl => by
    obtain ⟨env1, h1, h2⟩ := h x (by simp)
    simp only [List.length_cons] at hl
    rw [compB_cons, h1, putR_some, h2, bindR_ok, appK_d, if_pos (by omega), compB_map f (fun y hy => h y (by simp [hy])) (by simp; omega)]
    simp
theorem compB_filter {t : T} {c elt : E} {env : Env} {S : Store} (g : D → Bool) (f : D → D) : ∀ {its acc : List D}, (∀ x ∈ its, ∃ env1, T.put t (.d x) env = some env1 ∧ evE P F c env1 S = .ok (.d (.bl (g x))) S ∧ (g x = true → evE P F elt env1 S = .ok (.d (f x)) S)) → acc.length + its.length ≤ 16777216 →
    compB P F t [c] elt env its acc S = .ok (acc ++ (its.filter g).map f) S
  | [], acc, _, _ => by simp
  | x :: r, acc, h, hl => by
    obtain ⟨env1, h1, h2, h3⟩ := h x (by simp)
    simp only [List.length_cons] at hl
    rw [compB_consIf, h1, putR_some, h2, bindR_ok, asBl_bl]
    cases hg : g x with
    | true =>
      rw [ite'_t, h3 hg, bindR_ok, appK_d, if_pos (by omega), compB_filter g f (fun y hy => h y (by simp [hy])) (by simp; omega), List.filter_cons_of_pos hg]
      simp
    | false =>
      rw [ite'_f, compB_filter g f (fun y hy => h y (by simp [hy])) (by omega), List.filter_cons_of_neg (by simp [hg])]
/-- the first that has no answer raises -/
theorem compB_opt {t : T} {elt : E} {env : Env} {S : Store} {c : Nat} {d : D} (f : D → Option D) : ∀ {its acc : List D}, (∀ x ∈ its, ∃ env1, T.put t (.d x) env = some env1 ∧ evE P F elt env1 S = (match f x with | some y => .ok (.d y) S | none => .exc c d S)) → acc.length + its.length ≤ 16777216 →
    compB P F t [] elt env its acc S = (match its.mapM f with | some ys => .ok (acc ++ ys) S | none => .exc c d S)
  | [], acc, _, _ => by simp
  | x :: r, acc, h, hl => by
    obtain ⟨env1, h1, h2⟩ := h x (by simp)
    simp only [List.length_cons] at hl
    rw [compB_cons, h1, putR_some, h2]
    cases hf : f x with
    | none => simp [hf]
    | some y =>
      simp only [bindR_ok, appK_d]
      rw [if_pos (by omega), compB_opt f (fun y hy => h y (by simp [hy])) (by simp; omega)]
      simp only [List.mapM_cons, hf, Option.bind_eq_bind, Option.bind_some]
      cases r.mapM f <;> simp
end
theorem allB_map {α : Type} (g : α → Bool) : ∀ xs : List α, allB (xs.map fun x => D.bl (g x)) = some (xs.all g)
  | [] => rfl
  | x :: r => by rw [List.map_cons, allB, allB_map g r]; rfl
theorem strsOf_map {α : Type} (g : α → List Nat) : ∀ xs : List α, strsOf (xs.map fun x => D.str (g x)) = some (xs.map g)
  | [] => rfl
  | x :: r => by rw [List.map_cons, strsOf, strsOf_map g r]; rfl
@[simp] theorem allD_lst (ds S) : allD S [.d (.lst ds)] = (match allB ds with | some c => .ok (.d (.bl c)) S | none => .bad) := (rfl)
@[simp] theorem tupleD_lst (ds S) : tupleD S [.d (.lst ds)] = .ok (.d (.tup ds)) S := (rfl)
@[simp] theorem tupleD_tup (ds S) : tupleD S [.d (.tup ds)] = .ok (.d (.tup ds)) S := (rfl)
@[simp] theorem mthO_strs (a) : mthO .split (.d (.str a)) = true := (rfl)
@[simp] theorem mthO_strj (a) : mthO .join (.d (.str a)) = true := (rfl)
@[simp] theorem mthO_strr (a) : mthO .replace (.d (.str a)) = true := (rfl)
@[simp] theorem mthO_stru (a) : mthO .upper (.d (.str a)) = true := (rfl)
@[simp] theorem mthD_split (o as S) : mthD .split o as S = splitD S o as := (rfl)
@[simp] theorem mthD_join (o as S) : mthD .join o as S = joinD S o as := (rfl)
@[simp] theorem mthD_replace (o as S) : mthD .replace o as S = replD S o as := (rfl)
@[simp] theorem mthD_upper (o as S) : mthD .upper o as S = uppD S o as := (rfl)
@[simp] theorem mthD_append (o as S) : mthD .append o as S = appD S o as := (rfl)
@[simp] theorem mthD_pop (o as S) : mthD .pop o as S = popD S o as := (rfl)
@[simp] theorem mthO_app (l) : mthO .append (.loc l) = true := (rfl)
@[simp] theorem mthO_pop (l) : mthO .pop (.loc l) = true := (rfl)
theorem splitD_str (S a b) (hb : b ≠ []) (h1 : b.all (· < 256) = true) (h2 : a.length + 2 ≤ 16777216) : splitD S (.d (.str a)) [.d (.str b)] = .ok (.d (.lst ((TL.spl b 0 [] a).map .str))) S := by
  unfold splitD; dsimp only; rw [if_pos ⟨hb, h1, h2⟩]
theorem split1 (S a) (c : Nat) (h1 : c < 256) (h2 : a.length + 2 ≤ 16777216) : splitD S (.d (.str a)) [.d (.str [c])] = .ok (.d (.lst ((TL.spl [c] 0 [] a).map .str))) S :=
  splitD_str S a [c] (by simp) (by simp [h1]) h2
theorem joinD_str (S a) (ys : List (List Nat)) (h : (ys.map (·.length)).sum + ys.length * a.length ≤ 16777216) : joinD S (.d (.str a)) [.d (.lst (ys.map .str))] = .ok (.d (.str (TL.joinL a ys))) S := by
  unfold joinD; dsimp only [lview]
  have := strsOf_map (fun x => x) ys
  simp only [List.map_id_fun', id_eq] at this
  rw [this]; dsimp only; rw [if_pos h]
theorem strD_int (S) (i : Int) (h : i.natAbs.log2 < 1920) : strD S [.d (.int i)] = .ok (.d (.str (numI i))) S := by
  unfold strD; dsimp only; rw [if_pos h]
/-! texts that are cut -/
theorem spl_ne {S : List Nat} : ∀ (k : Nat) (acc l : List Nat), TL.spl S k acc l ≠ []
  | k, acc, [] => by rw [TL.spl_nil]; simp
  | 0, acc, c :: r => by
    rw [TL.spl]; split
    · simp
    · exact spl_ne 0 _ r
  | k + 1, acc, c :: r => by rw [TL.spl]; exact spl_ne k acc r
/-- the parts, put together again -/
theorem join_spl {s : Nat} : ∀ (acc l : List Nat), TL.joinL [s] (TL.spl [s] 0 acc l) = acc ++ l
  | acc, [] => by rw [TL.spl_nil]; simp [TL.joinL]
  | acc, c :: r => by
    by_cases h : c = s
    · subst h
      rw [TL.spl_hit (by simp [TL.pre])]
      have := join_spl (s := c) [] r
      revert this
      cases hq : TL.spl [c] 0 [] r with
      | nil => exact absurd hq (spl_ne _ _ _)
      | cons p q => intro this; simp [TL.joinL, hq] at this ⊢; rw [← this]
    · rw [TL.spl_miss (TL.pre_of_head _ _ h), join_spl]; simp
theorem spl_free {s : Nat} : ∀ (acc l : List Nat), s ∉ acc → ∀ p ∈ TL.spl [s] 0 acc l, s ∉ p
  | acc, [], h => by rw [TL.spl_nil]; simpa using h
  | acc, c :: r, h => by
    by_cases hc : c = s
    · subst hc
      rw [TL.spl_hit (by simp [TL.pre])]
      intro p hp
      rcases List.mem_cons.mp hp with e | e
      · rw [e]; exact h
      · exact spl_free [] r (by simp) p e
    · rw [TL.spl_miss (TL.pre_of_head _ _ hc)]
      exact spl_free _ r (by simp; exact ⟨h, fun e => hc e.symm⟩)
/-- what holds of all signs holds of the parts' -/
theorem spl_mem {s : Nat} {Q : Nat → Prop} : ∀ (acc l : List Nat), (∀ c ∈ acc, Q c) → (∀ c ∈ l, Q c) → ∀ p ∈ TL.spl [s] 0 acc l, ∀ c ∈ p, Q c
  | acc, [], h, _ => by rw [TL.spl_nil]; simpa using h
  | acc, c :: r, h, g => by
    by_cases hc : c = s
    · subst hc
      rw [TL.spl_hit (by simp [TL.pre])]
      intro p hp
      rcases List.mem_cons.mp hp with e | e
      · rw [e]; exact h
      · exact spl_mem [] r (by simp) (fun c hc => g c (by simp [hc])) p e
    · rw [TL.spl_miss (TL.pre_of_head _ _ hc)]
      refine spl_mem _ r (fun a ha => ?_) (fun c hc => g c (by simp [hc]))
      rcases List.mem_append.mp ha with e | e
      · exact h a e
      · rw [List.mem_singleton.mp e]; exact g c (by simp)
theorem spl_len {s : Nat} : ∀ (acc l : List Nat), (TL.spl [s] 0 acc l).length ≤ l.length + 1 ∧ ∀ p ∈ TL.spl [s] 0 acc l, p.length ≤ acc.length + l.length
  | acc, [] => by rw [TL.spl_nil]; simp
  | acc, c :: r => by
    by_cases hc : c = s
    · subst hc
      rw [TL.spl_hit (by simp [TL.pre])]
      obtain ⟨a, b⟩ := spl_len (s := c) [] r
      simp only [List.length_cons, List.length_nil, Nat.sub_self] at a b ⊢
      refine ⟨by simpa using a, fun p hp => ?_⟩
      rcases List.mem_cons.mp hp with e | e
      · rw [e]; omega
      · have := b p e; omega
    · rw [TL.spl_miss (TL.pre_of_head _ _ hc)]
      obtain ⟨a, b⟩ := spl_len (s := s) (acc ++ [c]) r
      simp only [List.length_cons, List.length_append, List.length_nil] at a b ⊢
      exact ⟨by omega, fun p hp => by have := b p hp; omega⟩
end Mi
set_option linter.all false
/-! PlDig: figures and numbers. -/
namespace Mi
theorem digVal_app (s : List Nat) (c : Nat) : digVal (s ++ [c]) = digVal s * 10 + (c - 48) := by simp [digVal, List.foldl_append]
theorem digVal_pos : ∀ (s : List Nat) (a : Nat), s.foldl (fun a c => a * 10 + (c - 48)) a ≥ a * 10 ^ s.length
  | [], a => by simp
  | c :: r, a => by
    rw [List.foldl_cons, List.length_cons]
    have := digVal_pos r (a * 10 + (c - 48))
    have h2 : (a * 10) * 10 ^ r.length ≤ (a * 10 + (c - 48)) * 10 ^ r.length := Nat.mul_le_mul_right _ (by omega)
    rw [Nat.pow_succ, Nat.mul_comm (10 ^ r.length), ← Nat.mul_assoc]
    omega
theorem digVal_pos' {c : Nat} {r : List Nat} (h : isDig c = true) (h0 : c ≠ 48) : 0 < digVal (c :: r) := by
  have : isDig c = (decide (48 ≤ c) && decide (c ≤ 57)) := rfl
  rw [this] at h
  simp at h
  unfold digVal
  rw [List.foldl_cons]
  have := digVal_pos r (0 * 10 + (c - 48))
  have h2 : 1 * 10 ^ r.length ≤ (0 * 10 + (c - 48)) * 10 ^ r.length := Nat.mul_le_mul_right _ (by omega)
  have := Nat.pow_pos (n := r.length) (show 0 < 10 by decide)
  omega
theorem isDig_iff {c : Nat} : isDig c = true ↔ 48 ≤ c ∧ c ≤ 57 := by simp [isDig]
/-- figures without needless noughts are a number's -/
theorem num_dig : ∀ (k : Nat) (t : List Nat), t.length = k → t ≠ [] → t.all isDig = true → (t = [48] ∨ t.head? ≠ some 48) → TL.numL (digVal t) = t
  | k, t, hk, hne, hd, hz => by
    obtain ⟨s, c, rfl⟩ : ∃ s c, t = s ++ [c] := ⟨t.dropLast, t.getLast hne, (List.dropLast_concat_getLast hne).symm⟩
    rw [List.all_append, Bool.and_eq_true] at hd
    obtain ⟨hs, hc⟩ := hd
    have hc' : isDig c = true := by simpa using hc
    rw [isDig_iff] at hc'
    rw [digVal_app]
    cases s with
    | nil =>
      show TL.numL (0 * 10 + (c - 48)) = [c]
      rw [TL.numL_lt (by omega)]
      congr 1; omega
    | cons a r =>
      have ha : a ≠ 48 := by
        rcases hz with e | e
        · simp at e
        · simpa using e
      have hs1 := hs
      rw [List.all_cons, Bool.and_eq_true] at hs1
      have hp := digVal_pos' (r := r) hs1.1 ha
      rw [TL.numL_step (by omega), show (digVal (a :: r) * 10 + (c - 48)) / 10 = digVal (a :: r) by omega, show (digVal (a :: r) * 10 + (c - 48)) % 10 = c - 48 by omega,
        num_dig (k - 1) (a :: r) (by simp at hk ⊢; omega) (by simp) hs (.inr (by simpa using ha)), show 48 + (c - 48) = c by omega]
theorem numL_len' : ∀ (k n : Nat), n < 10 ^ (k + 1) → (TL.numL n).length ≤ k + 1
  | 0, n, h => by rw [TL.numL_lt (by simpa using h)]; simp
  | k + 1, n, h => by
    by_cases h1 : n < 10
    · rw [TL.numL_lt h1]; simp
    · rw [TL.numL_step (by omega), List.length_append]
      have := numL_len' k (n / 10) (by rw [Nat.pow_succ] at h; omega)
      simp; omega
theorem numL_mem (n : Nat) : ∀ c ∈ TL.numL n, 48 ≤ c ∧ c ≤ 57 := by
  induction n using Nat.strongRecOn with
  | _ n ih =>
    by_cases h : n < 10
    · rw [TL.numL_lt h]; intro c hc; rw [List.mem_singleton.mp hc]; omega
    · rw [TL.numL_step (by omega)]
      intro c hc
      rcases List.mem_append.mp hc with hc | hc
      · exact ih (n / 10) (by omega) c hc
      · rw [List.mem_singleton.mp hc]; omega
theorem numI_mem (i : Int) : ∀ c ∈ numI i, c = 45 ∨ (48 ≤ c ∧ c ≤ 57) := by
  unfold numI
  split
  · intro c hc
    rcases List.mem_cons.mp hc with e | e
    · exact .inl e
    · exact .inr (numL_mem _ c e)
  · intro c hc; exact .inr (numL_mem _ c hc)
theorem numI_ne (i : Int) : numI i ≠ [] := by
  unfold numI
  split
  · simp
  · intro e
    have : ∀ n, TL.numL n ≠ [] := fun n => by
      by_cases h : n < 10
      · rw [TL.numL_lt h]; simp
      · rw [TL.numL_step (by omega)]; simp
    exact this _ e
theorem numI_len (i : Int) (k : Nat) (h : i.natAbs < 10 ^ (k + 1)) : (numI i).length ≤ k + 2 := by
  have := numL_len' k _ h
  unfold numI
  split
  · simp; omega
  · omega
theorem sl_head (S) (a : List Nat) (h : a.length ≤ 16777216) : slD false (.d (.str a)) none (some 1) S = .ok (.d (.str (a.take 1))) S := by
  unfold slD; dsimp only; rw [if_pos h]
  congr 3
  unfold cutL HT.sIx
  cases a with
  | nil => rfl
  | cons c r => simp
theorem sl_tail (S) (a : List Nat) (h : a.length ≤ 16777216) : slD false (.d (.str a)) (some 1) none S = .ok (.d (.str (a.drop 1))) S := by
  unfold slD; dsimp only; rw [if_pos h]
  congr 3
  unfold cutL HT.sIx
  cases a with
  | nil => rfl
  | cons c r =>
    have : min 1 (r.length + 1) = 1 := by omega
    simp [this]
end Mi
set_option linter.all false
/-! PlLoop: loops that look at each item and go on or end. -/
namespace Mi
def All2 {α β : Type} (R : α → β → Prop) : List α → List β → Prop
  | [], [] => True
  | x :: xs, y :: ys => R x y ∧ All2 R xs ys
  | _, _ => False
theorem all2_map {α : Type} (f : α → D) : ∀ as : List α, All2 (fun x a => x = Vl.d (f a)) (dl (as.map f)) as
  | [] => trivial
  | a :: r => ⟨rfl, all2_map f r⟩
theorem all2_enum {α : Type} (f : α → D) : ∀ (as : List α) (k : Nat), All2 (fun x a => ∃ n : Nat, x = Vl.d (.tup [.int n, f a])) (dl (enumD k (as.map f))) as
  | [], _ => trivial
  | a :: r, k => ⟨⟨k, rfl⟩, all2_enum f r (k + 1)⟩
theorem all2_mapv {α : Type} (f : α → Vl) : ∀ as : List α, All2 (fun x a => x = f a) (as.map f) as
  | [] => trivial
  | a :: r => ⟨rfl, all2_mapv f r⟩
section
variable {P : Pg} {F : Call}
/-- a turn goes on exactly where g says so, else the loop ends there -/
theorem forB_all {α : Type} {t : T} {b : List St} {S : Store} {R : Vl → α → Prop} {I : Env → Prop} {Ex : Fl → Prop} {g : α → Bool} (hEx : ∀ f k, Ex f → loopK f k = f) :
    ∀ {xs : List Vl} {as : List α}, All2 R xs as →
    (∀ x a, R x a → a ∈ as → ∀ env, I env → ∃ env1, T.put t x env = some env1 ∧ ((g a = true ∧ ∃ env2, exSs P F b env1 S = .nx env2 S ∧ I env2) ∨ (g a = false ∧ Ex (exSs P F b env1 S)))) →
    ∀ env, I env → (as.all g = true ∧ ∃ env', forB P F t b xs env S = .nx env' S ∧ I env') ∨ (as.all g = false ∧ Ex (forB P F t b xs env S))
  | [], [], _, h, env, i => .inl ⟨rfl, env, rfl, i⟩
  | x :: xs, a :: as, ⟨r, rs⟩, h, env, i => by
    obtain ⟨env1, p, hh⟩ := h x a r (by simp) env i
    rw [forB_cons, p, putK_some]
    rcases hh with ⟨g1, env2, e, i2⟩ | ⟨g1, e⟩
    · rw [e, loopK_nx]
      have := forB_all hEx rs (fun x a r ha => h x a r (by simp [ha])) env2 i2
      simpa [g1] using this
    · right
      refine ⟨by simp [g1], ?_⟩
      rw [hEx _ _ e]; exact e
  | [], _ :: _, r, _, _, _ => r.elim
  | _ :: _, [], r, _, _, _ => r.elim
end
@[simp] theorem enD_tup (a) : enD [.d (.tup a)] = some (dl (enumD 0 a)) := (rfl)
theorem r1D_nat (n : Nat) (h : n < 2 ^ 62) : r1D [.d (.int n)] = some ((List.range n).map fun (i : Nat) => Vl.d (.int (i : Int))) := by
  unfold r1D; dsimp only; rw [if_pos (by constructor <;> omega), Int.toNat_natCast]
theorem for_lst {P : Pg} {F : Call} {t : T} {b : List St} {e : E} {env : Env} {S S1 : Store} {ds : List D} (h : evE P F e env S = .ok (.d (.lst ds)) S1) : exS P F (.for_ t .it [e] b) env S = forB P F t b (dl ds) env S1 := by
  rw [exS_for, evEs_cons, h, bindR_ok, evEs_nil, bindR_ok, bindF_ok, items_it, it1D_lst, forK_some]
theorem for_tup {P : Pg} {F : Call} {t : T} {b : List St} {e : E} {env : Env} {S S1 : Store} {ds : List D} (h : evE P F e env S = .ok (.d (.tup ds)) S1) : exS P F (.for_ t .it [e] b) env S = forB P F t b (dl ds) env S1 := by
  rw [exS_for, evEs_cons, h, bindR_ok, evEs_nil, bindR_ok, bindF_ok, items_it, it1D_tup, forK_some]
theorem rng1_e {P : Pg} {F : Call} {t : T} {b : List St} {e : E} {env : Env} {S S1 : Store} {r : Nat} (h : evE P F e env S = .ok (.d (.int r)) S1) (hr : r < 2 ^ 62) :
    exS P F (.for_ t .rng1 [e] b) env S = forB P F t b ((List.range r).map fun (i : Nat) => Vl.d (.int (i : Int))) env S1 := by
  rw [exS_for, evEs_cons, h, bindR_ok, evEs_nil, bindR_ok, bindF_ok, items_rng1, r1D_nat r hr, forK_some]
theorem rng1_var {P : Pg} {F : Call} {t : T} {b : List St} {i : Nat} {env : Env} {S : Store} {r : Nat} (h : env[i]? = some (some (.d (.int r)))) (hr : r < 2 ^ 62) :
    exS P F (.for_ t .rng1 [.var i] b) env S = forB P F t b ((List.range r).map fun (i : Nat) => Vl.d (.int (i : Int))) env S := by
  rw [exS_for, evEs_cons, evE_var, h, varK_some, bindR_ok, evEs_nil, bindR_ok, bindF_ok, items_rng1, r1D_nat r hr, forK_some]
/-- an error of class c, or a value that is not None -/
def IsExc (c : Nat) (S : Store) (f : Fl) : Prop := ∃ d env, f = .ex c d env S
def IsBadRt (S : Store) (f : Fl) : Prop := ∃ d, f = .rt (.d d) S ∧ isN (.d d) = false
theorem IsExc.loop {c S} : ∀ f k, IsExc c S f → loopK f k = f := by rintro _ k ⟨d, env, rfl⟩; rfl
theorem IsBadRt.loop {S} : ∀ f k, IsBadRt S f → loopK f k = f := by rintro _ k ⟨d, rfl, _⟩; rfl
theorem IsExc.step {P : Pg} {F : Call} {c S s r env} (h : IsExc c S (exS P F s env S)) : IsExc c S (exSs P F (s :: r) env S) := by
  obtain ⟨d, env1, h⟩ := h; exact ⟨d, env1, step_ex h⟩
theorem IsBadRt.step {P : Pg} {F : Call} {S s r env} (h : IsBadRt S (exS P F s env S)) : IsBadRt S (exSs P F (s :: r) env S) := by
  obtain ⟨d, h, hd⟩ := h; exact ⟨d, step_rt h, hd⟩
end Mi
set_option linter.all false
/-! PlText: texts whose size alone matters. -/
namespace Mi
/-- signs that are signs -/
def Sg (x : List Nat) : Prop := ∀ c ∈ x, c < 1114112
theorem Sg.app {x y : List Nat} (h : Sg x) (k : Sg y) : Sg (x ++ y) := fun c hc => (List.mem_append.mp hc).elim (h c) (k c)
theorem spl_gen (S : List Nat) : ∀ (k : Nat) (acc l : List Nat), (TL.spl S k acc l).length ≤ l.length + 1 ∧ ((TL.spl S k acc l).map (·.length)).sum ≤ acc.length + l.length ∧ (Sg acc → Sg l → ∀ p ∈ TL.spl S k acc l, Sg p)
  | k, acc, [] => by rw [TL.spl_nil]; simp; intro h _; exact h
  | 0, acc, c :: r => by
    rw [TL.spl]
    split
    · obtain ⟨a, b, d⟩ := spl_gen S (S.length - 1) [] r
      refine ⟨by simp; omega, by simp at b ⊢; omega, fun h g p hp => ?_⟩
      rcases List.mem_cons.mp hp with e | e
      · rw [e]; exact h
      · exact d (fun c hc => by simp at hc) (fun c hc => g c (by simp [hc])) p e
    · obtain ⟨a, b, d⟩ := spl_gen S 0 (acc ++ [c]) r
      refine ⟨by simp; omega, by simp at b ⊢; omega, fun h g p hp => d (h.app fun x hx => by rw [List.mem_singleton.mp hx]; exact g c (by simp)) (fun c hc => g c (by simp [hc])) p hp⟩
  | k + 1, acc, c :: r => by
    rw [TL.spl]
    obtain ⟨a, b, d⟩ := spl_gen S k acc r
    exact ⟨by simp; omega, by simp at b ⊢; omega, fun h g p hp => d h (fun c hc => g c (by simp [hc])) p hp⟩
theorem joinL_len' (y : List Nat) : ∀ ps : List (List Nat), (TL.joinL y ps).length ≤ (ps.map (·.length)).sum + ps.length * y.length
  | [] => by simp [TL.joinL]
  | [p] => by simp [TL.joinL]
  | p :: q :: r => by
    have := joinL_len' y (q :: r)
    simp only [TL.joinL, List.length_append, List.map_cons, List.sum_cons, List.length_cons] at this ⊢
    rw [Nat.add_mul (r.length + 1) 1, Nat.one_mul]
    omega
theorem joinL_sg (y : List Nat) (hy : Sg y) : ∀ ps : List (List Nat), (∀ p ∈ ps, Sg p) → Sg (TL.joinL y ps)
  | [], _ => by simp [TL.joinL, Sg]
  | [p], h => h p (by simp)
  | p :: q :: r, h => (h p (by simp)).app (hy.app (joinL_sg y hy (q :: r) fun x hx => h x (by simp [hx])))
theorem par_gen (S : List Nat) : ∀ (acc l a b : List Nat), TL.par S acc l = some (a, b) → a.length + b.length ≤ acc.length + l.length ∧ (Sg acc → Sg l → Sg a ∧ Sg b)
  | acc, [], a, b, h => by simp [TL.par] at h
  | acc, c :: r, a, b, h => by
    rw [TL.par] at h
    split at h
    · cases h
      exact ⟨by simp, fun g k => ⟨g, fun x hx => k x (List.mem_of_mem_drop hx)⟩⟩
    · obtain ⟨x, y⟩ := par_gen S (acc ++ [c]) r a b h
      exact ⟨by simp at x ⊢; omega, fun g k => y (g.app fun x hx => by rw [List.mem_singleton.mp hx]; exact k c (by simp)) (fun x hx => k x (by simp [hx]))⟩
theorem sum_le' (k : Nat) : ∀ ps : List (List Nat), (∀ p ∈ ps, p.length ≤ k) → (ps.map (·.length)).sum ≤ ps.length * k
  | [], _ => by simp
  | p :: r, h => by
    have h1 := h p (by simp)
    have := sum_le' k r (fun q hq => h q (by simp [hq]))
    simp only [List.map_cons, List.sum_cons, List.length_cons, Nat.add_mul, Nat.one_mul]
    omega
section
variable (P : Pg) (F : Call) (env : Env) (S : Store)
def IsT (e : E) (B : Nat) : Prop := ∃ x : List Nat, evE P F e env S = .ok (.d (.str x)) S ∧ x.length ≤ B ∧ Sg x
def IsI (e : E) : Prop := ∃ i : Int, evE P F e env S = .ok (.d (.int i)) S
def IsL (e : E) (N B : Nat) : Prop := ∃ xs : List (List Nat), evE P F e env S = .ok (.d (.lst (xs.map .str))) S ∧ xs.length ≤ N ∧ ∀ x ∈ xs, x.length ≤ B ∧ Sg x
def IsTs (es : List E) (B : Nat) : Prop := ∃ xs : List (List Nat), evEs P F es env S = .ok (xs.map fun x => Vl.d (.str x)) S ∧ xs.length = es.length ∧ ∀ x ∈ xs, x.length ≤ B ∧ Sg x
variable {P F env S}
theorem IsT.mono {e : E} {B C : Nat} (h : IsT P F env S e B) (hc : B ≤ C) : IsT P F env S e C := by
  obtain ⟨x, a, b, c⟩ := h; exact ⟨x, a, by omega, c⟩
theorem IsT.var {i : Nat} {x : List Nat} {B : Nat} (h : env[i]? = some (some (.d (.str x)))) (hl : x.length ≤ B) (hs : Sg x) : IsT P F env S (.var i) B := ⟨x, by rw [evE_var, h, varK_some], hl, hs⟩
theorem IsT.lit {x : List Nat} (hs : x.all (· < 1114112) = true) : IsT P F env S (.str x) x.length := ⟨x, by rw [evE_str], Nat.le_refl _, fun c hc => by simpa using List.all_eq_true.mp hs c hc⟩
theorem IsT.add {a b : E} {A B : Nat} (ha : IsT P F env S a A) (hb : IsT P F env S b B) (h : A + B ≤ 16777216) : IsT P F env S (.bin .add false a b) (A + B) := by
  obtain ⟨x, x1, x2, x3⟩ := ha
  obtain ⟨y, y1, y2, y3⟩ := hb
  exact ⟨x ++ y, by rw [evE_bin, x1, bindR_ok, y1, bindR_ok, binD_addS _ _ _ _ (by show _ ≤ 16777216; omega)], by simp; omega, x3.app y3⟩
theorem IsI.var {i : Nat} {j : Int} (h : env[i]? = some (some (.d (.int j)))) : IsI P F env S (.var i) := ⟨j, by rw [evE_var, h, varK_some]⟩
theorem IsI.add1 {i : Nat} {j k : Int} (h : env[i]? = some (some (.d (.int j)))) : IsI P F env S (.bin .add false (.var i) (.int k)) := ⟨j + k, by rw [evE_bin, evE_var, h, varK_some, bindR_ok, evE_int, bindR_ok, binD_addI]⟩
theorem cut_len {α : Type} (a : List α) (lo hi : Option Int) : (cutL a lo hi).length ≤ a.length := by
  unfold cutL; rw [List.length_take, List.length_drop]; omega
theorem cut_mem {α : Type} {a : List α} {lo hi : Option Int} {c : α} (h : c ∈ cutL a lo hi) : c ∈ a := List.mem_of_mem_drop (List.mem_of_mem_take h)
theorem slD_str (a : List Nat) (lo hi : Option Int) (S) (h : a.length ≤ 16777216) : slD false (.d (.str a)) lo hi S = .ok (.d (.str (cutL a lo hi))) S := by
  unfold slD; dsimp only; rw [if_pos h]
theorem IsT.to {e i : E} {B : Nat} (h : IsT P F env S e B) (hi : IsI P F env S i) (hB : B ≤ 16777216) : IsT P F env S (.sl false e [] [i]) B := by
  obtain ⟨x, x1, x2, x3⟩ := h
  obtain ⟨j, hj⟩ := hi
  exact ⟨cutL x none (some j), by rw [evE_sl, x1, bindR_ok, evEs_nil, bindR_ok, parts_nil, partK_some, evEs_cons, hj, bindR_ok, evEs_nil, bindR_ok, bindR_ok, parts_one, partK_some, slD_str _ _ _ _ (by omega)], Nat.le_trans (cut_len ..) x2, fun c hc => x3 c (cut_mem hc)⟩
theorem IsT.from_ {e i : E} {B : Nat} (h : IsT P F env S e B) (hi : IsI P F env S i) (hB : B ≤ 16777216) : IsT P F env S (.sl false e [i] []) B := by
  obtain ⟨x, x1, x2, x3⟩ := h
  obtain ⟨j, hj⟩ := hi
  exact ⟨cutL x (some j) none, by rw [evE_sl, x1, bindR_ok, evEs_cons, hj, bindR_ok, evEs_nil, bindR_ok, bindR_ok, parts_one, partK_some, evEs_nil, bindR_ok, parts_nil, partK_some, slD_str _ _ _ _ (by omega)], Nat.le_trans (cut_len ..) x2, fun c hc => x3 c (cut_mem hc)⟩
theorem IsT.rev {e : E} {B : Nat} (h : IsT P F env S e B) (hB : B ≤ 16777216) : IsT P F env S (.rev false e) B := by
  obtain ⟨x, x1, x2, x3⟩ := h
  refine ⟨x.reverse, ?_, by simpa using x2, fun c hc => x3 c (by simpa using hc)⟩
  rw [evE_rev, x1, bindR_ok]
  unfold revD; dsimp only; rw [if_pos (show x.length ≤ 16777216 by omega)]
theorem IsT.upper {i : Nat} {x : List Nat} {B : Nat} (h : env[i]? = some (some (.d (.str x)))) (hl : x.length ≤ B) (hB : B ≤ 5592405) (hs : x.all (· < 128) = true) : IsT P F env S (.mth .upper (.var i) []) B := by
  refine ⟨x.map uppC, ?_, by simpa using hl, fun c hc => ?_⟩
  · rw [evE_mth, evE_var, h, varK_some, bindR_ok, mthO_stru, ite'_t, evEs_nil, bindR_ok, mthD_upper]
    unfold uppD; dsimp only; rw [if_pos ⟨hs, by omega⟩]
  · obtain ⟨d, hd, rfl⟩ := List.mem_map.mp hc
    have := List.all_eq_true.mp hs d hd
    simp at this
    unfold uppC; split <;> omega
theorem IsT.repl {i : Nat} {x y z : List Nat} {B C : Nat} (h : env[i]? = some (some (.d (.str x)))) (hl : x.length ≤ B) (hx : Sg x) (hz : z.all (· < 1114112) = true) (hy : y ≠ []) (hyz : (y == z) = false) (hB : B + (B + 1) * z.length ≤ C) (hC : C ≤ 16777216) :
    IsT P F env S (.mth .replace (.var i) [.str y, .str z]) C := by
  have hzz : Sg z := fun c hc => by simpa using List.all_eq_true.mp hz c hc
  have e1 : (x.length + 1) * z.length ≤ (B + 1) * z.length := Nat.mul_le_mul_right _ (by omega)
  obtain ⟨a, b, c⟩ := spl_gen y 0 [] x
  refine ⟨replL y z x, ?_, ?_, ?_⟩
  · rw [evE_mth, evE_var, h, varK_some, bindR_ok, mthO_strr, ite'_t, evEs_cons, evE_str, bindR_ok, evEs_cons, evE_str, bindR_ok, evEs_nil, bindR_ok, bindR_ok, bindR_ok, mthD_replace]
    unfold replD; (try dsimp only); rw [if_pos ⟨hy, hyz, by show _ ≤ 16777216; omega⟩]
  · have := joinL_len' z (TL.spl y 0 [] x)
    have e2 : (TL.spl y 0 [] x).length * z.length ≤ (x.length + 1) * z.length := Nat.mul_le_mul_right _ a
    unfold replL
    simp at b
    omega
  · exact joinL_sg z hzz _ (c (fun c hc => by simp at hc) hx)
theorem IsT.repl1 {i : Nat} {x y z : List Nat} {B C : Nat} (h : env[i]? = some (some (.d (.str x)))) (hl : x.length ≤ B) (hx : Sg x) (hz : z.all (· < 1114112) = true) (hy : y ≠ []) (hyz : (y == z) = false) (hB : B + (B + 1) * z.length ≤ C) (hC : C ≤ 16777216) :
    IsT P F env S (.mth .replace (.var i) [.str y, .str z, .int 1]) C := by
  have hzz : Sg z := fun c hc => by simpa using List.all_eq_true.mp hz c hc
  have e1 : (x.length + 1) * z.length ≤ (B + 1) * z.length := Nat.mul_le_mul_right _ (by omega)
  have e2 : z.length ≤ (B + 1) * z.length := by rw [Nat.add_mul, Nat.one_mul]; omega
  refine ⟨Mi.repl1 y z x, ?_, ?_⟩
  · rw [evE_mth, evE_var, h, varK_some, bindR_ok, mthO_strr, ite'_t, evEs_cons, evE_str, bindR_ok, evEs_cons, evE_str, bindR_ok, evEs_cons, evE_int, bindR_ok, evEs_nil, bindR_ok, bindR_ok, bindR_ok, bindR_ok, mthD_replace]
    show (if y ≠ [] ∧ (y == z) = false ∧ x.length + (x.length + 1) * z.length ≤ line then Res.ok (Vl.d (.str (Mi.repl1 y z x))) S else .bad) = _; rw [if_pos ⟨hy, hyz, by show _ ≤ 16777216; omega⟩]
  · unfold Mi.repl1
    cases q : TL.par y [] x with
    | none => exact ⟨by dsimp only; omega, hx⟩
    | some ab =>
      obtain ⟨a, b⟩ := ab
      obtain ⟨u, v⟩ := par_gen y [] x a b q
      obtain ⟨v1, v2⟩ := v (fun c hc => by simp at hc) hx
      simp at u
      exact ⟨by simp; omega, v1.app (hzz.app v2)⟩
theorem IsTs.nil {B : Nat} : IsTs P F env S [] B := ⟨[], by rw [evEs_nil]; rfl, rfl, by simp⟩
theorem IsTs.cons {e : E} {es : List E} {B : Nat} (h : IsT P F env S e B) (hs : IsTs P F env S es B) : IsTs P F env S (e :: es) B := by
  obtain ⟨x, x1, x2, x3⟩ := h
  obtain ⟨xs, y1, y2, y3⟩ := hs
  exact ⟨x :: xs, by rw [evEs_cons, x1, bindR_ok, y1, bindR_ok]; rfl, by simp [y2], fun z hz => (List.mem_cons.mp hz).elim (fun e => e ▸ ⟨x2, x3⟩) (y3 z)⟩
theorem datas_strs : ∀ xs : List (List Nat), datas (xs.map fun x => Vl.d (.str x)) = some (xs.map .str)
  | [] => rfl
  | x :: r => by rw [List.map_cons, datas_cons, datas_strs r]; rfl
theorem IsTs.lst {es : List E} {B N : Nat} (h : IsTs P F env S es B) (hN : es.length ≤ N) (h6 : N ≤ 16777216) : IsL P F env S (.lst false es) N B := by
  obtain ⟨xs, y1, y2, y3⟩ := h
  refine ⟨xs, ?_, by omega, y3⟩
  rw [evE_lst, y1, bindR_ok]
  cases xs with
  | nil => rw [List.map_nil, lstK_nil]; rfl
  | cons x r => rw [List.map_cons, lstK_d, datas_strs]; exact newL_f _ _ (by simp at y2 ⊢; omega)
theorem IsL.var {i : Nat} {xs : List (List Nat)} {N B : Nat} (h : env[i]? = some (some (.d (.lst (xs.map .str))))) (hl : xs.length ≤ N) (hx : ∀ x ∈ xs, x.length ≤ B ∧ Sg x) : IsL P F env S (.var i) N B := ⟨xs, by rw [evE_var, h, varK_some], hl, hx⟩
theorem IsL.add {a b : E} {N M B : Nat} (ha : IsL P F env S a N B) (hb : IsL P F env S b M B) (h : N + M ≤ 16777216) : IsL P F env S (.bin .add false a b) (N + M) B := by
  obtain ⟨x, x1, x2, x3⟩ := ha
  obtain ⟨y, y1, y2, y3⟩ := hb
  refine ⟨x ++ y, ?_, by simp; omega, fun z hz => (List.mem_append.mp hz).elim (x3 z) (y3 z)⟩
  rw [evE_bin, x1, bindR_ok, y1, bindR_ok, List.map_append]
  show newL false (x.map D.str ++ y.map D.str) S = _
  exact newL_f _ _ (by simp; omega)
theorem cut_map {α β : Type} (f : α → β) (a : List α) (lo hi : Option Int) : cutL (a.map f) lo hi = (cutL a lo hi).map f := by
  unfold cutL; rw [List.length_map, ← List.map_drop, ← List.map_take]
theorem IsL.to {e i : E} {N B : Nat} (h : IsL P F env S e N B) (hi : IsI P F env S i) (hN : N ≤ 16777216) : IsL P F env S (.sl false e [] [i]) N B := by
  obtain ⟨x, x1, x2, x3⟩ := h
  obtain ⟨j, hj⟩ := hi
  refine ⟨cutL x none (some j), ?_, Nat.le_trans (cut_len ..) x2, fun c hc => x3 c (cut_mem hc)⟩
  rw [evE_sl, x1, bindR_ok, evEs_nil, bindR_ok, parts_nil, partK_some, evEs_cons, hj, bindR_ok, evEs_nil, bindR_ok, bindR_ok, parts_one, partK_some]
  show newL false (cutL (x.map D.str) none (some j)) S = _
  rw [cut_map]
  exact newL_f _ _ (by rw [List.length_map]; have := cut_len x none (some j); omega)
theorem IsL.from_ {e i : E} {N B : Nat} (h : IsL P F env S e N B) (hi : IsI P F env S i) (hN : N ≤ 16777216) : IsL P F env S (.sl false e [i] []) N B := by
  obtain ⟨x, x1, x2, x3⟩ := h
  obtain ⟨j, hj⟩ := hi
  refine ⟨cutL x (some j) none, ?_, Nat.le_trans (cut_len ..) x2, fun c hc => x3 c (cut_mem hc)⟩
  rw [evE_sl, x1, bindR_ok, evEs_cons, hj, bindR_ok, evEs_nil, bindR_ok, bindR_ok, parts_one, partK_some, evEs_nil, bindR_ok, parts_nil, partK_some]
  show newL false (cutL (x.map D.str) (some j) none) S = _
  rw [cut_map]
  exact newL_f _ _ (by rw [List.length_map]; have := cut_len x (some j) none; omega)
theorem IsT.idx {i j : Nat} {xs : List (List Nat)} {k : Nat} {B : Nat} (h : env[i]? = some (some (.d (.lst (xs.map .str))))) (hj : env[j]? = some (some (.d (.int (k : Int))))) (hk : k < xs.length) (hx : ∀ x ∈ xs, x.length ≤ B ∧ Sg x) : IsT P F env S (.idx (.var i) (.var j)) B := by
  refine ⟨xs[k], ?_, hx _ (List.getElem_mem hk)⟩
  rw [evE_idx, evE_var, h, varK_some, bindR_ok, evE_var, hj, varK_some, bindR_ok, idxD_lst, atI_nat, List.getElem?_map, List.getElem?_eq_getElem hk]; rfl
theorem IsL.join {e : E} {y : List Nat} {N B C : Nat} (h : IsL P F env S e N B) (hy : y.all (· < 1114112) = true) (hC : N * B + N * y.length ≤ C) (h6 : C ≤ 16777216) : IsT P F env S (.mth .join (.str y) [e]) C := by
  obtain ⟨x, x1, x2, x3⟩ := h
  have a := sum_le' B x (fun p hp => (x3 p hp).1)
  have b := joinL_len' y x
  have c : x.length * B ≤ N * B := Nat.mul_le_mul_right _ x2
  have d : x.length * y.length ≤ N * y.length := Nat.mul_le_mul_right _ x2
  refine ⟨TL.joinL y x, ?_, by omega, joinL_sg y (fun c hc => by simpa using List.all_eq_true.mp hy c hc) x (fun p hp => (x3 p hp).2)⟩
  rw [evE_mth, evE_str, bindR_ok, mthO_strj, ite'_t, evEs_cons, x1, bindR_ok, evEs_nil, bindR_ok, bindR_ok, mthD_join, joinD_str _ _ _ (by omega)]
end
end Mi
set_option maxRecDepth 100000
namespace K83
open Mi PySem
def N_is_number : List Str := ["thing"]
def b_is_number : List Mi.St := [(.ret (.and [(.isi (.var 0) .int), (.not (.isi (.var 0) .bool))]))]
def N_is_among : List Str := ["thing", "least", "most"]
def b_is_among : List Mi.St := [(.ret (.and [(.call 0 [(.var 0)] []), (.chn .le .le (.var 1) (.var 0) (.var 2))]))]
def N_is_tuple_of : List Str := ["thing", "least", "most"]
def b_is_tuple_of : List Mi.St := [(.ret (.and [(.isi (.var 0) .tuple), (.chn .le .le (.var 1) (.blt .len false [(.var 0)]) (.var 2))]))]
def N_common_factor : List Str := ["one", "other"]
def b_common_factor : List Mi.St := [(.whl (.cmp .ne (.var 1) (.int 0)) [(.par [0, 1] [(.var 1), (.bin .mod false (.var 0) (.var 1))])]),
  (.ret (.blt .abs false [(.var 0)]))]
def N_made_share : List Str := ["top", "bottom", "factor"]
def b_made_share : List Mi.St := [(.asg (.nm 2) (.call 3 [(.var 0), (.var 1)] [])),
  (.iff (.cmp .lt (.var 1) (.int 0)) [(.asg (.nm 2) (.neg (.var 2)))] []),
  (.ret (.tup [(.bin .fdiv false (.var 0) (.var 2)), (.bin .fdiv false (.var 1) (.var 2))]))]
def N_is_share : List Str := ["thing"]
def b_is_share : List Mi.St := [(.iff (.or [(.not (.call 2 [(.var 0), (.int 2), (.int 2)] [])), (.not (.call 0 [(.idx (.var 0) (.int 0))] [])), (.not (.call 0 [(.idx (.var 0) (.int 1))] [])), (.cmp .lt (.idx (.var 0) (.int 1)) (.int 1))]) [(.ret (.bl false))] []),
  (.ret (.cmp .eq (.call 3 [(.idx (.var 0) (.int 0)), (.idx (.var 0) (.int 1))] []) (.int 1)))]
def N_is_small_share : List Str := ["thing"]
def b_is_small_share : List Mi.St := [(.ret (.and [(.call 5 [(.var 0)] []), (.cmp .le (.blt .abs false [(.idx (.var 0) (.int 0))]) (.gl 0)), (.cmp .le (.idx (.var 0) (.int 1)) (.gl 0))]))]
def N_plus_by : List Str := ["one", "other"]
def b_plus_by : List Mi.St := [(.ret (.call 4 [(.bin .add false (.bin .mul false (.idx (.var 0) (.int 0)) (.idx (.var 1) (.int 1))) (.bin .mul false (.idx (.var 1) (.int 0)) (.idx (.var 0) (.int 1)))), (.bin .mul false (.idx (.var 0) (.int 1)) (.idx (.var 1) (.int 1)))] []))]
def N_is_less_by : List Str := ["one", "other"]
def b_is_less_by : List Mi.St := [(.ret (.cmp .lt (.bin .mul false (.idx (.var 0) (.int 0)) (.idx (.var 1) (.int 1))) (.bin .mul false (.idx (.var 1) (.int 0)) (.idx (.var 0) (.int 1)))))]
def N_sum_by : List Str := ["shares", "found", "share"]
def b_sum_by : List Mi.St := [(.asg (.nm 1) (.gl 1)),
  (.for_ (.nm 2) .it [(.var 0)] [(.asg (.nm 1) (.call 7 [(.var 1), (.var 2)] []))]),
  (.ret (.var 1))]
def N_is_step : List Str := ["thing", "rooms", "signs", "outs"]
def b_is_step : List Mi.St := [(.iff (.or [(.not (.call 2 [(.var 0), (.int 4), (.int 4)] [])), (.not (.call 1 [(.idx (.var 0) (.int 0)), (.int 0), (.bin .sub false (.var 1) (.int 1))] [])), (.not (.call 1 [(.idx (.var 0) (.int 1)), (.int 0), (.var 2)] []))]) [(.ret (.bl false))] []),
  (.iff (.or [(.not (.call 1 [(.idx (.var 0) (.int 2)), (.int 0), (.bin .sub false (.bin .add false (.var 1) (.var 3)) (.int 1))] [])), (.not (.call 6 [(.idx (.var 0) (.int 3))] []))]) [(.ret (.bl false))] []),
  (.ret (.chn .lt .le (.int 0) (.idx (.idx (.var 0) (.int 3)) (.int 0)) (.idx (.idx (.var 0) (.int 3)) (.int 1))))]
def N_need_piece : List Str := ["piece", "rooms", "signs", "steps", "ins", "outs", "place", "most", "number", "room", "step"]
def b_need_piece : List Mi.St := [(.iff (.not (.call 2 [(.var 0), (.int 5), (.int 5)] [])) [(.rse 1 .non)] []),
  (.asg (.tp [(.nm 1), (.nm 2), (.nm 3), (.nm 4), (.nm 5)]) (.var 0)),
  (.for_ (.tp [(.nm 6), (.nm 7)]) .it [(.tup [(.tup [(.int 0), (.gl 3)]), (.tup [(.int 1), (.gl 4)]), (.tup [(.int 4), (.gl 6)])])] [(.iff (.not (.call 1 [(.idx (.var 0) (.var 6)), (.int 0), (.var 7)] [])) [(.rse 1 (.var 6))] [])]),
  (.iff (.not (.call 2 [(.var 4), (.int 0), (.gl 6)] [])) [(.rse 1 (.int 3))] []),
  (.for_ (.tp [(.nm 8), (.nm 9)]) .enum [(.var 4)] [(.iff (.not (.call 1 [(.var 9), (.int 0), (.bin .sub false (.var 1) (.int 1))] [])) [(.rse 1 (.tup [(.int 3), (.var 8)]))] [])]),
  (.iff (.not (.call 2 [(.var 3), (.int 0), (.gl 5)] [])) [(.rse 1 (.int 2))] []),
  (.for_ (.tp [(.nm 8), (.nm 10)]) .enum [(.var 3)] [(.iff (.not (.call 10 [(.var 10), (.var 1), (.var 2), (.var 5)] [])) [(.rse 1 (.tup [(.int 2), (.var 8)]))] [])]),
  (.for_ (.nm 9) .rng1 [(.var 1)] [(.iff (.call 8 [(.gl 2), (.call 9 [(.comp false [10] (.nm 10) .it [(.var 3)] [(.cmp .eq (.idx (.var 10) (.int 0)) (.var 9))] (.idx (.var 10) (.int 3)))] [])] []) [(.rse 1 (.tup [(.str [115,117,109]), (.var 9)]))] [])]),
  (.ret (.var 0))]
def N_is_small_chance : List Str := ["thing"]
def b_is_small_chance : List Mi.St := [(.ret (.and [(.call 6 [(.var 0)] []), (.chn .le .le (.int 0) (.idx (.var 0) (.int 0)) (.idx (.var 0) (.int 1)))]))]
def N_read_figures : List Str := ["text", "sign"]
def b_read_figures : List Mi.St := [(.iff (.or [(.not (.chn .le .le (.int 1) (.blt .len false [(.var 0)]) (.gl 8))), (.not (.blt .all false [(.comp false [1] (.nm 1) .it [(.var 0)] [] (.cmp .in_ (.var 1) (.gl 7)))]))]) [(.ret .non)] []),
  (.ret (.ife (.or [(.cmp .eq (.var 0) (.str [48])), (.cmp .ne (.idx (.var 0) (.int 0)) (.str [48]))]) (.blt .int false [(.var 0)]) .non))]
def N_written_share : List Str := ["share"]
def b_written_share : List Mi.St := [(.ret (.ife (.cmp .eq (.idx (.var 0) (.int 1)) (.int 1)) (.blt .str false [(.idx (.var 0) (.int 0))]) (.bin .add false (.bin .add false (.blt .str false [(.idx (.var 0) (.int 0))]) (.str [47])) (.blt .str false [(.idx (.var 0) (.int 1))]))))]
def N_share_text : List Str := ["share"]
def b_share_text : List Mi.St := [(.iff (.not (.call 6 [(.var 0)] [])) [(.rse 2 .non)] []),
  (.ret (.call 14 [(.var 0)] []))]
def N_read_share : List Str := ["text", "parts", "top", "bottom", "share"]
def b_read_share : List Mi.St := [(.iff (.not (.isi (.var 0) .str)) [(.rse 2 .non)] []),
  (.asg (.nm 1) (.mth .split (.var 0) [(.str [47])])),
  (.asg (.nm 2) (.call 13 [(.ife (.cmp .eq (.sl false (.idx (.var 1) (.int 0)) [] [(.int 1)]) (.str [45])) (.sl false (.idx (.var 1) (.int 0)) [(.int 1)] []) (.idx (.var 1) (.int 0)))] [])),
  (.asg (.nm 3) (.ife (.cmp .eq (.blt .len false [(.var 1)]) (.int 1)) (.int 1) (.call 13 [(.idx (.var 1) (.int 1))] []))),
  (.iff (.or [(.cmp .is_ (.var 2) .non), (.cmp .is_ (.var 3) .non)]) [(.rse 2 .non)] []),
  (.asg (.nm 4) (.tup [(.ife (.cmp .eq (.sl false (.var 0) [] [(.int 1)]) (.str [45])) (.bin .sub false (.int 0) (.var 2)) (.var 2)), (.var 3)])),
  (.iff (.or [(.not (.call 6 [(.var 4)] [])), (.cmp .ne (.call 14 [(.var 4)] []) (.var 0))]) [(.rse 2 .non)] []),
  (.ret (.var 4))]
def N_is_some_step : List Str := ["thing", "one"]
def b_is_some_step : List Mi.St := [(.iff (.or [(.not (.call 2 [(.var 0), (.int 4), (.int 4)] [])), (.not (.blt .all false [(.comp false [1] (.nm 1) .it [(.sl false (.var 0) [] [(.int 3)])] [] (.call 1 [(.var 1), (.int 0), (.gl 9)] []))]))]) [(.ret (.bl false))] []),
  (.ret (.and [(.call 12 [(.idx (.var 0) (.int 3))] []), (.cmp .gt (.idx (.idx (.var 0) (.int 3)) (.int 0)) (.int 0))]))]
def N_step_text : List Str := ["step"]
def b_step_text : List Mi.St := [(.iff (.not (.call 17 [(.var 0)] [])) [(.rse 2 .non)] []),
  (.ret (.bin .add false (.bin .add false (.bin .add false (.bin .add false (.bin .add false (.bin .add false (.blt .str false [(.idx (.var 0) (.int 0))]) (.str [62])) (.blt .str false [(.idx (.var 0) (.int 2))])) (.str [58])) (.blt .str false [(.idx (.var 0) (.int 1))])) (.str [58])) (.call 14 [(.idx (.var 0) (.int 3))] [])))]
def N_read_step : List Str := ["text", "parts", "ends", "step"]
def b_read_step : List Mi.St := [(.iff (.not (.isi (.var 0) .str)) [(.rse 2 .non)] []),
  (.asg (.nm 1) (.mth .split (.var 0) [(.str [58])])),
  (.asg (.nm 2) (.mth .split (.idx (.var 1) (.int 0)) [(.str [62])])),
  (.iff (.or [(.cmp .ne (.blt .len false [(.var 1)]) (.int 3)), (.cmp .ne (.blt .len false [(.var 2)]) (.int 2))]) [(.rse 2 .non)] []),
  (.asg (.nm 3) (.tup [(.call 13 [(.idx (.var 2) (.int 0))] []), (.call 13 [(.idx (.var 1) (.int 1))] []), (.call 13 [(.idx (.var 2) (.int 1))] []), (.call 16 [(.idx (.var 1) (.int 2))] [])])),
  (.iff (.not (.call 17 [(.var 3)] [])) [(.rse 2 .non)] []),
  (.ret (.var 3))]
def N_piece_text : List Str := ["piece", "rooms", "signs", "steps", "ins", "outs", "doors", "room", "step"]
def b_piece_text : List Mi.St := [(.try_ [(.asg (.tp [(.nm 1), (.nm 2), (.nm 3), (.nm 4), (.nm 5)]) (.call 11 [(.var 0)] []))] [⟨[1], none, (.rs 2 .non)⟩]),
  (.asg (.nm 6) (.ife (.cmp .ne (.var 4) (.tup [])) (.mth .join (.str [44]) [(.comp false [7] (.nm 7) .it [(.var 4)] [] (.blt .str false [(.var 7)]))]) (.str [110,111,110,101]))),
  (.ret (.mth .join (.str [32]) [(.bin .add false (.lst false [(.blt .str false [(.var 1)]), (.blt .str false [(.var 2)]), (.blt .str false [(.var 5)]), (.var 6)]) (.comp false [8] (.nm 8) .it [(.var 3)] [] (.call 18 [(.var 8)] [])))]))]
def N_read_piece : List Str := ["text", "words", "rooms", "signs", "outs", "word", "ins", "part"]
def b_read_piece : List Mi.St := [(.iff (.not (.isi (.var 0) .str)) [(.rse 2 .non)] []),
  (.asg (.nm 1) (.mth .split (.var 0) [(.str [32])])),
  (.iff (.cmp .lt (.blt .len false [(.var 1)]) (.int 4)) [(.rse 2 .non)] []),
  (.asg (.tp [(.nm 2), (.nm 3), (.nm 4)]) (.comp false [5] (.nm 5) .it [(.sl false (.var 1) [] [(.int 3)])] [] (.call 13 [(.var 5)] []))),
  (.asg (.nm 6) (.ife (.cmp .ne (.idx (.var 1) (.int 3)) (.str [110,111,110,101])) (.blt .tuple false [(.comp false [7] (.nm 7) .it [(.mth .split (.idx (.var 1) (.int 3)) [(.str [44])])] [] (.call 13 [(.var 7)] []))]) (.tup []))),
  (.try_ [(.ret (.call 11 [(.tup [(.var 2), (.var 3), (.blt .tuple false [(.comp false [5] (.nm 5) .it [(.sl false (.var 1) [(.int 4)] [])] [] (.call 19 [(.var 5)] []))]), (.var 6), (.var 4)])] []))] [⟨[1], none, (.rs 2 .non)⟩])]
def N__law_tape : List Str := ["script", "many", "salt", "found", "cell", "rest", "turn", "start", "mixed"]
def b__law_tape : List Mi.St := [(.asg (.nm 3) (.lst true [])),
  (.for_ (.nm 4) .it [(.sl false (.var 0) [] [(.int 63)])] [(.asg (.nm 5) (.blt .abs false [(.var 4)])),
  (.iff (.cmp .ge (.var 5) (.bin .pow false (.int 10) (.int 18))) [(.for_ (.nm 6) .rng1 [(.int 60)] [(.iff (.cmp .eq (.var 5) (.int 0)) [.brk] []),
  (.ex (.mth .append (.var 3) [(.bin .mod false (.var 5) (.int 1000))])),
  (.asg (.nm 5) (.bin .fdiv false (.var 5) (.int 1000)))])] [])]),
  (.asg (.nm 7) (.bin .add false (.bin .mul false (.blt .len false [(.var 0)]) (.int 31)) (.bin .mul false (.var 2) (.int 7919)))),
  (.for_ (.nm 4) .it [(.sl false (.var 0) [] [(.int 63)])] [(.asg (.nm 7) (.bin .mod false (.blt .int false [(.bin .add false (.bin .add false (.bin .mul false (.var 7) (.int 48271)) (.bin .mod false (.blt .int false [(.var 4)]) (.int 1000003))) (.int 11))]) (.int 2147483647)))]),
  (.for_ (.nm 6) .rng1 [(.var 1)] [(.iff (.cmp .ge (.blt .len false [(.var 3)]) (.var 1)) [.brk] []),
  (.asg (.nm 7) (.bin .mod false (.blt .int false [(.bin .add false (.bin .add false (.bin .mul false (.var 7) (.int 69621)) (.var 6)) (.int 12345))]) (.int 2147483647))),
  (.asg (.nm 8) (.bin .mod false (.blt .int false [(.bin .mul false (.var 7) (.bin .add false (.var 7) (.int 7)))]) (.int 2147483629))),
  (.ex (.mth .append (.var 3) [(.bin .mod false (.bin .fdiv false (.var 8) (.int 13)) (.int 1000))]))]),
  (.ret (.rev true (.sl false (.var 3) [] [(.var 1)])))]
def N__law_take : List Str := ["tape", "limit"]
def b__law_take : List Mi.St := [(.iff (.cmp .eq (.var 0) (.lst false [])) [(.ret (.int 0))] []),
  (.ret (.bin .mod false (.mth .pop (.var 0) []) (.var 1)))]
def N__law_like : List Str := ["told", "due", "one", "two"]
def b__law_like : List Mi.St := [(.iff (.isi (.var 1) .tuple) [(.iff (.or [(.not (.isi (.var 0) .tuple)), (.cmp .ne (.blt .len false [(.var 0)]) (.blt .len false [(.var 1)]))]) [(.ret (.bl false))] []),
  (.for_ (.tp [(.nm 2), (.nm 3)]) .zip [(.var 0), (.var 1)] [(.iff (.not (.call 24 [(.var 2), (.var 3)] [])) [(.ret (.bl false))] [])]),
  (.ret (.bl true))] []),
  (.iff (.cmp .is_ (.var 1) .non) [(.ret (.cmp .is_ (.var 0) .non))] []),
  (.iff (.isi (.var 1) .bool) [(.ret (.and [(.isi (.var 0) .bool), (.cmp .eq (.var 0) (.var 1))]))] []),
  (.iff (.isi (.var 1) .int) [(.ret (.and [(.isi (.var 0) .int), (.not (.isi (.var 0) .bool)), (.cmp .eq (.var 0) (.var 1))]))] []),
  (.ret (.and [(.isi (.var 0) .str), (.cmp .eq (.var 0) (.var 1))]))]
def N__law_is : List Str := ["action", "due", "got"]
def b__law_is : List Mi.St := [(.asg (.nm 2) (.call 33 [(.var 0)] [])),
  (.ret (.and [(.cmp .eq (.idx (.var 2) (.int 0)) (.idx (.var 1) (.int 0))), (.call 24 [(.idx (.var 2) (.int 1)), (.idx (.var 1) (.int 1))] [])]))]
def N__law_share : List Str := ["top", "bottom", "one", "other"]
def b__law_share : List Mi.St := [(.par [2, 3] [(.blt .abs false [(.var 0)]), (.blt .abs false [(.var 1)])]),
  (.whl (.cmp .ne (.var 3) (.int 0)) [(.par [2, 3] [(.var 3), (.bin .mod false (.blt .int false [(.var 2)]) (.var 3))])]),
  (.asg (.nm 2) (.ife (.cmp .lt (.var 1) (.int 0)) (.bin .sub false (.int 0) (.var 2)) (.var 2))),
  (.ret (.tup [(.bin .fdiv false (.var 0) (.var 2)), (.bin .fdiv false (.var 1) (.var 2))]))]
def N__law_plus : List Str := ["one", "other"]
def b__law_plus : List Mi.St := [(.ret (.call 26 [(.bin .add false (.bin .mul false (.idx (.var 0) (.int 0)) (.idx (.var 1) (.int 1))) (.bin .mul false (.idx (.var 1) (.int 0)) (.idx (.var 0) (.int 1)))), (.bin .mul false (.idx (.var 0) (.int 1)) (.idx (.var 1) (.int 1)))] []))]
def N__law_sum : List Str := ["shares", "found", "share"]
def b__law_sum : List Mi.St := [(.asg (.nm 1) (.tup [(.int 0), (.int 1)])),
  (.for_ (.nm 2) .it [(.var 0)] [(.asg (.nm 1) (.call 27 [(.var 1), (.var 2)] []))]),
  (.ret (.var 1))]
def N__law_parts : List Str := ["tape", "whole", "many", "found", "rest", "turn", "part"]
def b__law_parts : List Mi.St := [(.par [3, 4] [(.lst true []), (.var 1)]),
  (.for_ (.nm 5) .rng1 [(.var 2)] [(.asg (.nm 6) (.call 23 [(.var 0), (.bin .add false (.var 4) (.int 1))] [])),
  (.iff (.cmp .gt (.var 6) (.int 0)) [(.ex (.mth .append (.var 3) [(.call 26 [(.var 6), (.var 1)] [])])),
  (.asg (.nm 4) (.bin .sub false (.var 4) (.var 6)))] [])]),
  (.ret (.var 3))]
def N__law_piece : List Str := ["tape", "most", "doors", "rooms", "signs", "ins", "outs", "steps", "room", "share", "door"]
def b__law_piece : List Mi.St := [(.asg (.tp [(.nm 3), (.nm 4)]) (.tup [(.call 23 [(.var 0), (.bin .add false (.var 1) (.int 1))] []), (.call 23 [(.var 0), (.int 3)] [])])),
  (.asg (.tp [(.nm 5), (.nm 6)]) (.ife (.isi (.var 2) .tuple) (.var 2) (.tup [(.call 23 [(.var 0), (.bin .add false (.var 2) (.int 1))] []), (.call 23 [(.var 0), (.bin .add false (.var 2) (.int 1))] [])]))),
  (.asg (.nm 3) (.ife (.and [(.isi (.var 2) .tuple), (.cmp .gt (.var 5) (.int 0))]) (.blt .max false [(.var 3), (.int 1)]) (.var 3))),
  (.asg (.nm 7) (.lst true [])),
  (.for_ (.nm 8) .rng1 [(.var 3)] [(.iff (.cmp .gt (.bin .add false (.var 3) (.var 6)) (.int 0)) [(.for_ (.nm 9) .it [(.call 29 [(.var 0), (.idx (.tup [(.int 2), (.int 3), (.int 4), (.int 6), (.int 1)]) (.call 23 [(.var 0), (.int 5)] [])), (.bin .add false (.int 1) (.call 23 [(.var 0), (.int 3)] []))] [])] [(.ex (.mth .append (.var 7) [(.tup [(.var 8), (.call 23 [(.var 0), (.bin .add false (.var 4) (.int 1))] []), (.call 23 [(.var 0), (.bin .add false (.var 3) (.var 6))] []), (.var 9)])]))])] [])]),
  (.ret (.tup [(.var 3), (.var 4), (.blt .tuple false [(.var 7)]), (.ife (.cmp .gt (.var 3) (.int 0)) (.blt .tuple false [(.comp false [10] (.nm 10) .rng1 [(.var 5)] [] (.call 23 [(.var 0), (.var 3)] []))]) (.tup [])), (.var 6)]))]
def N__law_is_share : List Str := ["thing", "one"]
def b__law_is_share : List Mi.St := [(.iff (.or [(.not (.isi (.var 0) .tuple)), (.cmp .ne (.blt .len false [(.var 0)]) (.int 2)), (.cmp .ne (.comp false [1] (.nm 1) .it [(.var 0)] [(.or [(.not (.isi (.var 1) .int)), (.isi (.var 1) .bool)])] (.int 1)) (.lst false []))]) [(.ret (.bl false))] []),
  (.ret (.and [(.chn .le .le (.int 1) (.idx (.var 0) (.int 1)) (.bin .pow false (.int 10) (.int 12))), (.cmp .le (.blt .abs false [(.idx (.var 0) (.int 0))]) (.bin .pow false (.int 10) (.int 12))), (.cmp .eq (.call 26 [(.idx (.var 0) (.int 0)), (.idx (.var 0) (.int 1))] []) (.var 0))]))]
def N__law_piece_fault : List Str := ["thing", "place", "most", "rooms", "signs", "steps", "ins", "outs", "number", "room", "step", "one", "total"]
def b__law_piece_fault : List Mi.St := [(.iff (.or [(.not (.isi (.var 0) .tuple)), (.cmp .ne (.blt .len false [(.var 0)]) (.int 5))]) [(.ret (.lst false [.non]))] []),
  (.for_ (.tp [(.nm 1), (.nm 2)]) .it [(.tup [(.tup [(.int 0), (.int 12)]), (.tup [(.int 1), (.int 3)]), (.tup [(.int 4), (.int 3)])])] [(.iff (.or [(.not (.isi (.idx (.var 0) (.var 1)) .int)), (.isi (.idx (.var 0) (.var 1)) .bool), (.not (.chn .le .le (.int 0) (.idx (.var 0) (.var 1)) (.var 2)))]) [(.ret (.lst false [(.var 1)]))] [])]),
  (.asg (.tp [(.nm 3), (.nm 4), (.nm 5), (.nm 6), (.nm 7)]) (.var 0)),
  (.iff (.or [(.not (.isi (.var 6) .tuple)), (.cmp .gt (.blt .len false [(.var 6)]) (.int 3))]) [(.ret (.lst false [(.int 3)]))] []),
  (.for_ (.tp [(.nm 8), (.nm 9)]) .enum [(.var 6)] [(.iff (.or [(.not (.isi (.var 9) .int)), (.isi (.var 9) .bool), (.not (.chn .le .lt (.int 0) (.var 9) (.var 3)))]) [(.ret (.lst false [(.tup [(.int 3), (.var 8)])]))] [])]),
  (.iff (.or [(.not (.isi (.var 5) .tuple)), (.cmp .gt (.blt .len false [(.var 5)]) (.int 40))]) [(.ret (.lst false [(.int 2)]))] []),
  (.for_ (.tp [(.nm 8), (.nm 10)]) .enum [(.var 5)] [(.iff (.or [(.not (.isi (.var 10) .tuple)), (.cmp .ne (.blt .len false [(.var 10)]) (.int 4)), (.cmp .ne (.comp false [11] (.nm 11) .it [(.sl false (.var 10) [] [(.int 3)])] [(.or [(.not (.isi (.var 11) .int)), (.isi (.var 11) .bool), (.cmp .lt (.var 11) (.int 0))])] (.int 1)) (.lst false []))]) [(.ret (.lst false [(.tup [(.int 2), (.var 8)])]))] []),
  (.iff (.or [(.cmp .ge (.idx (.var 10) (.int 0)) (.var 3)), (.cmp .gt (.idx (.var 10) (.int 1)) (.var 4)), (.cmp .ge (.idx (.var 10) (.int 2)) (.bin .add false (.var 3) (.var 7))), (.not (.call 31 [(.idx (.var 10) (.int 3))] [])), (.not (.chn .lt .le (.int 0) (.idx (.idx (.var 10) (.int 3)) (.int 0)) (.idx (.idx (.var 10) (.int 3)) (.int 1))))]) [(.ret (.lst false [(.tup [(.int 2), (.var 8)])]))] [])]),
  (.for_ (.nm 9) .rng1 [(.var 3)] [(.asg (.nm 12) (.call 28 [(.comp false [10] (.nm 10) .it [(.var 5)] [(.cmp .eq (.idx (.var 10) (.int 0)) (.var 9))] (.idx (.var 10) (.int 3)))] [])),
  (.iff (.cmp .gt (.idx (.var 12) (.int 0)) (.idx (.var 12) (.int 1))) [(.ret (.lst false [(.tup [(.str [115,117,109]), (.var 9)])]))] [])]),
  (.ret .non)]
def N__law_told : List Str := ["action", "e"]
def b__law_told : List Mi.St := [(.try_ [(.ret (.tup [(.str [105,115]), (.cv 0)]))] [⟨[2], (some 1), (.rt [66,97,100,84,101,120,116])⟩])]
def N__law_share_text : List Str := ["share"]
def b__law_share_text : List Mi.St := [(.ret (.ife (.cmp .eq (.idx (.var 0) (.int 1)) (.int 1)) (.blt .str false [(.idx (.var 0) (.int 0))]) (.bin .add false (.bin .add false (.blt .str false [(.idx (.var 0) (.int 0))]) (.str [47])) (.blt .str false [(.idx (.var 0) (.int 1))]))))]
def N__law_step_text : List Str := ["step"]
def b__law_step_text : List Mi.St := [(.ret (.bin .add false (.bin .add false (.bin .add false (.bin .add false (.bin .add false (.bin .add false (.blt .str false [(.idx (.var 0) (.int 0))]) (.str [62])) (.blt .str false [(.idx (.var 0) (.int 2))])) (.str [58])) (.blt .str false [(.idx (.var 0) (.int 1))])) (.str [58])) (.call 34 [(.idx (.var 0) (.int 3))] [])))]
def N__law_piece_text : List Str := ["piece", "doors", "room", "step"]
def b__law_piece_text : List Mi.St := [(.asg (.nm 1) (.ife (.cmp .ne (.idx (.var 0) (.int 3)) (.tup [])) (.mth .join (.str [44]) [(.comp false [2] (.nm 2) .it [(.idx (.var 0) (.int 3))] [] (.blt .str false [(.var 2)]))]) (.str [110,111,110,101]))),
  (.ret (.mth .join (.str [32]) [(.bin .add false (.lst false [(.blt .str false [(.idx (.var 0) (.int 0))]), (.blt .str false [(.idx (.var 0) (.int 1))]), (.blt .str false [(.idx (.var 0) (.int 4))]), (.var 1)]) (.comp false [3] (.nm 3) .it [(.idx (.var 0) (.int 2))] [] (.call 35 [(.var 3)] [])))]))]
def N__law_figures : List Str := ["text", "sign"]
def b__law_figures : List Mi.St := [(.iff (.or [(.not (.chn .le .le (.int 1) (.blt .len false [(.var 0)]) (.int 41))), (.and [(.cmp .gt (.blt .len false [(.var 0)]) (.int 1)), (.cmp .eq (.idx (.var 0) (.int 0)) (.str [48]))])]) [(.ret .non)] []),
  (.ret (.ife (.cmp .eq (.comp false [1] (.nm 1) .it [(.var 0)] [(.cmp .notin (.var 1) (.str [48,49,50,51,52,53,54,55,56,57]))] (.var 1)) (.lst false [])) (.blt .int false [(.var 0)]) .non))]
def N__law_read_share : List Str := ["text", "parts", "top", "bottom", "share"]
def b__law_read_share : List Mi.St := [(.asg (.nm 1) (.mth .split (.var 0) [(.str [47])])),
  (.asg (.nm 2) (.ife (.cmp .eq (.sl false (.idx (.var 1) (.int 0)) [] [(.int 1)]) (.str [45])) (.call 37 [(.sl false (.idx (.var 1) (.int 0)) [(.int 1)] [])] []) (.call 37 [(.idx (.var 1) (.int 0))] []))),
  (.asg (.nm 3) (.ife (.cmp .eq (.blt .len false [(.var 1)]) (.int 2)) (.call 37 [(.idx (.var 1) (.int 1))] []) (.int 1))),
  (.iff (.or [(.cmp .gt (.blt .len false [(.var 1)]) (.int 2)), (.cmp .is_ (.var 2) .non), (.cmp .is_ (.var 3) .non), (.and [(.cmp .eq (.blt .len false [(.var 1)]) (.int 2)), (.cmp .eq (.var 3) (.int 1))]), (.cmp .eq (.idx (.var 1) (.int 0)) (.str [45,48]))]) [(.ret .non)] []),
  (.asg (.nm 4) (.tup [(.ife (.cmp .eq (.sl false (.idx (.var 1) (.int 0)) [] [(.int 1)]) (.str [45])) (.bin .sub false (.int 0) (.var 2)) (.var 2)), (.var 3)])),
  (.ret (.ife (.call 31 [(.var 4)] []) (.var 4) .non))]
def N__law_read_step : List Str := ["text", "parts", "ends", "step"]
def b__law_read_step : List Mi.St := [(.asg (.nm 1) (.mth .split (.var 0) [(.str [58])])),
  (.asg (.nm 2) (.mth .split (.idx (.var 1) (.int 0)) [(.str [62])])),
  (.iff (.or [(.cmp .ne (.blt .len false [(.var 1)]) (.int 3)), (.cmp .ne (.blt .len false [(.var 2)]) (.int 2))]) [(.ret .non)] []),
  (.asg (.nm 3) (.tup [(.call 37 [(.idx (.var 2) (.int 0))] []), (.call 37 [(.idx (.var 1) (.int 1))] []), (.call 37 [(.idx (.var 2) (.int 1))] []), (.call 38 [(.idx (.var 1) (.int 2))] [])])),
  (.iff (.or [(.cmp .in_ .non (.var 3)), (.cmp .gt (.blt .max false [(.sl false (.var 3) [] [(.int 3)])]) (.int 99)), (.not (.chn .lt .le (.int 0) (.idx (.idx (.var 3) (.int 3)) (.int 0)) (.idx (.idx (.var 3) (.int 3)) (.int 1))))]) [(.ret .non)] []),
  (.ret (.var 3))]
def N__law_read_piece : List Str := ["text", "words", "doors", "part", "piece", "word"]
def b__law_read_piece : List Mi.St := [(.asg (.nm 1) (.mth .split (.var 0) [(.str [32])])),
  (.iff (.or [(.cmp .lt (.blt .len false [(.var 1)]) (.int 4)), (.cmp .gt (.blt .len false [(.var 1)]) (.int 44))]) [(.ret .non)] []),
  (.asg (.nm 2) (.ife (.cmp .ne (.idx (.var 1) (.int 3)) (.str [110,111,110,101])) (.blt .tuple false [(.comp false [3] (.nm 3) .it [(.mth .split (.idx (.var 1) (.int 3)) [(.str [44])])] [] (.call 37 [(.var 3)] []))]) (.tup []))),
  (.asg (.nm 4) (.tup [(.call 37 [(.idx (.var 1) (.int 0))] []), (.call 37 [(.idx (.var 1) (.int 1))] []), (.blt .tuple false [(.comp false [5] (.nm 5) .it [(.sl false (.var 1) [(.int 4)] [])] [] (.call 39 [(.var 5)] []))]), (.var 2), (.call 37 [(.idx (.var 1) (.int 2))] [])])),
  (.ret (.ife (.cmp .is_ (.call 32 [(.var 4)] []) .non) (.var 4) .non))]
def N__law_read_right : List Str := ["text", "share", "step", "piece"]
def b__law_read_right : List Mi.St := [(.par [1, 2, 3] [(.call 38 [(.var 0)] []), (.call 39 [(.var 0)] []), (.call 40 [(.var 0)] [])]),
  (.iff (.not (.call 25 [(.lam 47 [0]), (.ife (.cmp .isnot (.var 1) .non) (.tup [(.str [105,115]), (.var 1)]) (.tup [(.str [66,97,100,84,101,120,116]), .non]))] [])) [(.ret (.bl false))] []),
  (.iff (.not (.call 25 [(.lam 48 [0]), (.ife (.cmp .isnot (.var 2) .non) (.tup [(.str [105,115]), (.var 2)]) (.tup [(.str [66,97,100,84,101,120,116]), .non]))] [])) [(.ret (.bl false))] []),
  (.ret (.call 25 [(.lam 49 [0]), (.ife (.cmp .isnot (.var 3) .non) (.tup [(.str [105,115]), (.var 3)]) (.tup [(.str [66,97,100,84,101,120,116]), .non]))] []))]
def N__law_drawn_share : List Str := ["tape", "far", "some", "top", "bottom"]
def b__law_drawn_share : List Mi.St := [(.asg (.nm 1) (.bin .sub false (.bin .pow false (.int 10) (.int 12)) (.call 23 [(.var 0), (.int 3)] []))),
  (.asg (.nm 2) (.lst false [(.tup [(.bin .sub false (.call 23 [(.var 0), (.int 19)] []) (.int 9)), (.bin .add false (.int 1) (.call 23 [(.var 0), (.int 9)] []))]), (.tup [(.var 1), (.bin .add false (.int 1) (.call 23 [(.var 0), (.int 5)] []))]), (.tup [(.bin .sub false (.int 0) (.var 1)), (.int 7)]), (.tup [(.bin .add false (.int 1) (.call 23 [(.var 0), (.int 900)] [])), (.var 1)]), (.tup [(.int 0), (.int 1)]), (.tup [(.bin .sub false (.int 0) (.call 23 [(.var 0), (.int 5)] [])), (.int 1)])])),
  (.asg (.tp [(.nm 3), (.nm 4)]) (.idx (.var 2) (.call 23 [(.var 0), (.int 6)] []))),
  (.ret (.call 26 [(.var 3), (.var 4)] []))]
def N__law_bent : List Str := ["tape", "text", "at", "signs", "sign", "words", "spot", "some"]
def b__law_bent : List Mi.St := [(.par [2, 3] [(.call 23 [(.var 0), (.blt .len false [(.var 1)])] []), (.str [32,44,59,46,62,58,47,45,48,49,50,57,97,122,90,95,43,10,9])]),
  (.asg (.nm 4) (.idx (.var 3) (.call 23 [(.var 0), (.blt .len false [(.var 3)])] []))),
  (.asg (.nm 5) (.mth .split (.var 1) [(.str [32])])),
  (.asg (.nm 6) (.call 23 [(.var 0), (.blt .len false [(.var 5)])] [])),
  (.asg (.nm 7) (.lst false [(.bin .add false (.bin .add false (.sl false (.var 1) [] [(.var 2)]) (.var 4)) (.sl false (.var 1) [(.var 2)] [])), (.bin .add false (.sl false (.var 1) [] [(.var 2)]) (.sl false (.var 1) [(.bin .add false (.var 2) (.int 1))] [])), (.bin .add false (.bin .add false (.sl false (.var 1) [] [(.var 2)]) (.var 4)) (.sl false (.var 1) [(.bin .add false (.var 2) (.int 1))] [])), (.bin .add false (.var 1) (.str [32]))])),
  (.asg (.nm 7) (.bin .add false (.var 7) (.lst false [(.bin .add false (.str [32]) (.var 1)), (.mth .upper (.var 1) []), (.sl false (.var 1) [] [(.var 2)]), (.rev false (.var 1)), (.bin .add false (.str [45]) (.var 1)), (.bin .add false (.var 1) (.str [47,49])), (.bin .add false (.var 1) (.str [48]))]))),
  (.asg (.nm 7) (.bin .add false (.var 7) (.lst false [(.mth .join (.str [32]) [(.bin .add false (.sl false (.var 5) [] [(.var 6)]) (.sl false (.var 5) [(.bin .add false (.var 6) (.int 1))] []))]), (.mth .join (.str [32]) [(.bin .add false (.bin .add false (.sl false (.var 5) [] [(.var 6)]) (.lst false [(.idx (.var 5) (.var 6))])) (.sl false (.var 5) [(.var 6)] []))])]))),
  (.asg (.nm 7) (.bin .add false (.var 7) (.lst false [(.mth .replace (.var 1) [(.str [62]), (.str [62,62]), (.int 1)]), (.mth .replace (.var 1) [(.str [58]), (.str [58,58]), (.int 1)]), (.mth .replace (.var 1) [(.str [47]), (.str [47,47]), (.int 1)]), (.mth .replace (.var 1) [(.str [32]), (.str [32,32]), (.int 1)])]))),
  (.asg (.nm 7) (.bin .add false (.var 7) (.lst false [(.mth .replace (.var 1) [(.str [58]), (.str [58,48]), (.int 1)]), (.mth .replace (.var 1) [(.str [62]), (.str [60])]), (.mth .replace (.var 1) [(.str [110,111,110,101]), (.str [48])]), (.mth .replace (.var 1) [(.str [58,48,58]), (.str [58,48,48,58])])]))),
  (.asg (.nm 7) (.bin .add false (.var 7) (.lst false [(.mth .replace (.var 1) [(.str [49,47,50]), (.str [50,47,52])]), (.mth .replace (.var 1) [(.str [44]), (.str [44,32]), (.int 1)]), (.bin .add false (.var 1) (.str [10])), (.bin .add false (.str [48]) (.var 1)), (.bin .add false (.var 1) (.str [32,48,62,48,58,48,58,49,47,57]))]))),
  (.ret (.idx (.var 7) (.call 23 [(.var 0), (.blt .len false [(.var 7)])] [])))]
def N__law_by_hand_right : List Str := ["far", "rows", "text", "odd", "call"]
def b__law_by_hand_right : List Mi.St := [(.asg (.nm 0) (.blt .str false [(.bin .pow false (.int 10) (.int 12))])),
  (.asg (.nm 1) (.lst false [(.str [48]), (.str [49]), (.str [45,49]), (.str [49,47,50]), (.str [45,55,47,51]), (.var 0), (.bin .add false (.str [45]) (.var 0)), (.bin .add false (.str [49,47]) (.var 0)), (.str [48,62,48,58,48,58,49]), (.str [57,57,62,57,57,58,57,57,58,49,47,50]), (.str [48,32,48,32,48,32,110,111,110,101])])),
  (.asg (.nm 1) (.bin .add false (.var 1) (.lst false [(.str [49,50,32,51,32,51,32,48,44,48,44,49,49]), (.str [50,32,49,32,49,32,48,44,48,32,48,62,49,58,49,58,49,47,50,32,48,62,50,58,48,58,49,47,51,32,49,62,48,58,48,58,49]), (.bin .add false (.str [49,32,48,32,48,32,48,32]) (.mth .join (.str [32]) [(.bin .mul false (.lst false [(.str [48,62,48,58,48,58,49,47,52,48])]) (.int 40))]))]))),
  (.asg (.nm 1) (.bin .add false (.var 1) (.lst false [(.str []), (.str [32]), (.str [45,48]), (.str [43,49]), (.str [48,49]), (.str [49,47,49]), (.str [50,47,52]), (.str [49,47,48]), (.str [48,47,53]), (.str [49,47,45,50]), (.str [49,47,50,47,51]), (.str [47,50]), (.str [49,47]), (.str [45,45,49]), (.str [45]), (.str [49,95,48])]))),
  (.asg (.nm 1) (.bin .add false (.var 1) (.lst false [(.blt .str false [(.bin .add false (.bin .pow false (.int 10) (.int 12)) (.int 1))]), (.bin .add false (.str [49,47]) (.blt .str false [(.bin .add false (.bin .pow false (.int 10) (.int 12)) (.int 1))])), (.str [48,62,48,58,48,58,48]), (.str [48,62,48,58,48,58,45,49,47,50]), (.str [48,62,48,58,48,58,51,47,50]), (.str [48,62,48,58,48]), (.str [48,62,48,58,48,58,49,58,49])]))),
  (.asg (.nm 1) (.bin .add false (.var 1) (.lst false [(.str [48,62,48,62,48,58,48,58,49]), (.str [49,48,48,62,48,58,48,58,49]), (.str [48,62,49,48,48,58,48,58,49]), (.str [48,62,48,58,49,48,48,58,49]), (.str [45,49,62,48,58,48,58,49]), (.str [48,48,62,48,58,48,58,49]), (.str [48,62,48,58,48,58,50,47,52])]))),
  (.asg (.nm 1) (.bin .add false (.var 1) (.lst false [(.str [49,51,32,48,32,48,32,110,111,110,101]), (.str [48,32,52,32,48,32,110,111,110,101]), (.str [48,32,48,32,52,32,110,111,110,101]), (.str [48,32,48,32,48,32,48]), (.str [49,32,48,32,48,32,49]), (.str [49,32,48,32,48,32,48,44,48,44,48,44,48]), (.str [49,32,48,32,48,32,48,44]), (.str [49,32,48,32,48])]))),
  (.asg (.nm 1) (.bin .add false (.var 1) (.lst false [(.str [48,32,48,32,48,32,78,111,110,101]), (.str [49,32,48,32,48,32,48,32,48,62,49,58,48,58,49]), (.str [49,32,48,32,48,32,48,32,48,62,48,58,49,58,49]), (.str [49,32,48,32,48,32,48,32,48,62,48,58,48,58,49,32,48,62,48,58,48,58,49,47,57])]))),
  (.asg (.nm 1) (.bin .add false (.var 1) (.lst false [(.bin .add false (.str [49,32,48,32,48,32,48,32]) (.mth .join (.str [32]) [(.bin .mul false (.lst false [(.str [48,62,48,58,48,58,49,47,52,49])]) (.int 41))])), (.str [49,32,48,32,48,32,48,32,32,48,62,48,58,48,58,49]), (.str [48,32,48,32,48,32,110,111,110,101,32]), (.str [48,49,32,48,32,48,32,110,111,110,101]), (.str [48,32,48,32,48,9,110,111,110,101])]))),
  (.asg (.nm 1) (.bin .add false (.var 1) (.lst false [(.bin .mul false (.str [57]) (.int 9000)), (.bin .add false (.str [49,47]) (.bin .mul false (.str [57]) (.int 9000))), (.bin .add false (.str [48,62,48,58,48,58]) (.bin .mul false (.str [49]) (.int 9000))), (.bin .mul false (.str [49,32]) (.int 9000)), (.bin .mul false (.str [47]) (.int 9000)), (.bin .mul false (.str [62]) (.int 9000)), (.bin .mul false (.str [58]) (.int 9000)), (.bin .add false (.str [48,32,48,32,48,32]) (.bin .mul false (.str [48,44]) (.int 9000))), (.bin .add false (.str [49,32,48,32,48,32,48,32]) (.bin .mul false (.str [48,62,48,58,48,58,49,47,57,32]) (.int 2000)))]))),
  (.for_ (.nm 2) .it [(.var 1)] [(.iff (.not (.call 41 [(.var 2)] [])) [(.ret (.bl false))] [])]),
  (.for_ (.nm 3) .it [(.tup [.non, (.int 5), (.lst false [(.str [48])]), (.tup [(.str [48])]), (.bl true), .dic])] [(.for_ (.nm 4) .it [(.tup [(.lam 50 [3]), (.lam 51 [3]), (.lam 52 [3])])] [(.iff (.not (.call 25 [(.var 4), (.tup [(.str [66,97,100,84,101,120,116]), .non])] [])) [(.ret (.bl false))] [])])]),
  (.ret (.bl true))]
def N__law_refused_right : List Str := ["odd", "odds"]
def b__law_refused_right : List Mi.St := [(.for_ (.nm 0) .it [(.tup [.non, (.tup [(.int 1)]), (.tup [(.int 2), (.int 4)]), (.tup [(.int 0), (.int 2)]), (.tup [(.int 1), (.int 0)]), (.tup [(.int 1), (.neg (.int 2))]), (.lst false [(.int 1), (.int 2)]), (.tup [(.bl true), (.int 1)]), (.tup [(.int 1), (.bl true)]), (.tup [(.int 1), (.int 2), (.int 3)]), (.tup [(.str [49]), (.int 2)]), (.tup [(.lst false []), (.int 1)]), .dic, (.tup [(.bin .add false (.bin .pow false (.int 10) (.int 12)) (.int 1)), (.int 1)]), (.tup [(.int 1), (.bin .add false (.bin .pow false (.int 10) (.int 12)) (.int 1))])])] [(.iff (.or [(.not (.call 25 [(.lam 53 [0]), (.tup [(.str [66,97,100,84,101,120,116]), .non])] [])), (.not (.call 25 [(.lam 54 [0]), (.tup [(.str [66,97,100,84,101,120,116]), .non])] []))]) [(.ret (.bl false))] [])]),
  (.asg (.nm 1) (.lst false [.non, (.tup [(.int 0), (.int 0), (.int 0)]), (.lst false [(.int 0), (.int 0), (.int 0), (.tup [(.int 1), (.int 1)])]), (.tup [(.int 0), (.int 0), (.int 0), (.tup [(.int 0), (.int 1)])]), (.tup [(.int 0), (.int 0), (.int 0), (.tup [(.int 3), (.int 2)])]), (.tup [(.int 0), (.int 0), (.int 0), (.tup [(.neg (.int 1)), (.int 2)])]), (.tup [(.int 100), (.int 0), (.int 0), (.tup [(.int 1), (.int 1)])])])),
  (.for_ (.nm 0) .it [(.bin .add false (.var 1) (.lst false [(.tup [(.int 0), (.int 100), (.int 0), (.tup [(.int 1), (.int 1)])]), (.tup [(.int 0), (.int 0), (.int 100), (.tup [(.int 1), (.int 1)])]), (.tup [(.neg (.int 1)), (.int 0), (.int 0), (.tup [(.int 1), (.int 1)])]), (.tup [(.bl true), (.int 0), (.int 0), (.tup [(.int 1), (.int 1)])]), (.tup [(.lst false []), (.int 0), (.int 0), (.tup [(.int 1), (.int 1)])]), .dic]))] [(.iff (.not (.call 25 [(.lam 55 [0]), (.tup [(.str [66,97,100,84,101,120,116]), .non])] [])) [(.ret (.bl false))] [])]),
  (.asg (.nm 1) (.lst false [.non, (.tup [(.int 0), (.int 0), (.tup []), (.tup [])]), (.tup [(.int 13), (.int 0), (.tup []), (.tup []), (.int 0)]), (.tup [(.int 1), (.int 0), (.tup [(.tup [(.int 0), (.int 0), (.int 1), (.tup [(.int 1), (.int 1)])])]), (.tup []), (.int 0)]), (.tup [(.int 1), (.int 0), (.tup []), (.tup [(.int 1)]), (.int 0)]), (.lst false [(.int 0), (.int 0), (.tup []), (.tup []), (.int 0)])])),
  (.for_ (.nm 0) .it [(.bin .add false (.var 1) (.lst false [(.tup [(.int 1), (.int 0), (.lst false []), (.tup []), (.int 0)]), (.tup [(.int 1), (.int 0), (.tup [(.tup [(.int 0), (.int 0), (.int 0), (.tup [(.int 1), (.int 1)])]), (.tup [(.int 0), (.int 0), (.int 0), (.tup [(.int 1), (.int 2)])])]), (.tup []), (.int 0)]), .dic, (.tup [(.int 0), (.int 0), .non, (.tup []), (.int 0)])]))] [(.iff (.not (.call 25 [(.lam 56 [0]), (.tup [(.str [66,97,100,84,101,120,116]), .non])] [])) [(.ret (.bl false))] [])]),
  (.ret (.bl true))]
def N_law : List Str := ["script", "tape", "turn", "share", "piece", "step", "texts", "text", "lap"]
def b_law : List Mi.St := [(.asg (.nm 1) (.call 22 [(.var 0), (.int 900), (.int 283)] [])),
  (.for_ (.nm 2) .rng1 [(.int 7)] [(.asg (.tp [(.nm 3), (.nm 4)]) (.tup [(.call 42 [(.var 1)] []), (.call 30 [(.var 1), (.idx (.tup [(.int 3), (.int 12)]) (.call 23 [(.var 1), (.int 2)] [])), (.int 3)] [])])),
  (.asg (.nm 5) (.tup [(.call 23 [(.var 1), (.int 100)] []), (.call 23 [(.var 1), (.int 100)] []), (.call 23 [(.var 1), (.int 100)] []), (.call 26 [(.bin .add false (.int 1) (.call 23 [(.var 1), (.int 5)] [])), (.bin .add false (.int 6) (.call 23 [(.var 1), (.int 900)] []))] [])])),
  (.asg (.nm 6) (.tup [(.call 34 [(.var 3)] []), (.call 35 [(.var 5)] []), (.call 36 [(.var 4)] [])])),
  (.iff (.or [(.not (.call 25 [(.lam 57 [3]), (.tup [(.str [105,115]), (.idx (.var 6) (.int 0))])] [])), (.not (.call 25 [(.lam 58 [5]), (.tup [(.str [105,115]), (.idx (.var 6) (.int 1))])] []))]) [(.ret (.bl false))] []),
  (.iff (.not (.call 25 [(.lam 59 [4]), (.tup [(.str [105,115]), (.idx (.var 6) (.int 2))])] [])) [(.ret (.bl false))] []),
  (.for_ (.nm 7) .it [(.var 6)] [(.iff (.not (.call 41 [(.var 7)] [])) [(.ret (.bl false))] []),
  (.for_ (.nm 8) .rng1 [(.int 5)] [(.iff (.not (.call 41 [(.call 43 [(.var 1), (.var 7)] [])] [])) [(.ret (.bl false))] [])])])]),
  (.ret (.and [(.call 44 [] []), (.call 45 [] [])]))]
def l0 : Mi.E := (.call 16 [] [(.var 0)])
def l1 : Mi.E := (.call 19 [] [(.var 0)])
def l2 : Mi.E := (.call 21 [] [(.var 0)])
def l3 : Mi.E := (.call 16 [(.var 0)] [])
def l4 : Mi.E := (.call 19 [(.var 1)] [])
def l5 : Mi.E := (.call 21 [(.var 1)] [])
def l6 : Mi.E := (.call 15 [(.var 0)] [])
def l7 : Mi.E := (.call 18 [(.tup [(.int 0), (.int 0), (.int 0), (.var 1)])] [])
def l8 : Mi.E := (.call 18 [(.var 0)] [])
def l9 : Mi.E := (.call 20 [(.var 0)] [])
def l10 : Mi.E := (.call 15 [] [(.var 0)])
def l11 : Mi.E := (.call 18 [] [(.var 1)])
def l12 : Mi.E := (.call 20 [] [(.var 0)])
def allN : List (List Str) := [N_is_number, N_is_among, N_is_tuple_of, N_common_factor, N_made_share, N_is_share, N_is_small_share, N_plus_by, N_is_less_by, N_sum_by, N_is_step, N_need_piece, N_is_small_chance, N_read_figures, N_written_share, N_share_text, N_read_share, N_is_some_step, N_step_text, N_read_step, N_piece_text, N_read_piece, N__law_tape, N__law_take, N__law_like, N__law_is, N__law_share, N__law_plus, N__law_sum, N__law_parts, N__law_piece, N__law_is_share, N__law_piece_fault, N__law_told, N__law_share_text, N__law_step_text, N__law_piece_text, N__law_figures, N__law_read_share, N__law_read_step, N__law_read_piece, N__law_read_right, N__law_drawn_share, N__law_bent, N__law_by_hand_right, N__law_refused_right, N_law]
def fns : List Mi.Fn := [.usr 1 1 false b_is_number,
  .usr 3 3 false b_is_among,
  .usr 3 3 false b_is_tuple_of,
  .usr 2 2 false b_common_factor,
  .usr 2 3 false b_made_share,
  .usr 1 1 false b_is_share,
  .usr 1 1 false b_is_small_share,
  .usr 2 2 false b_plus_by,
  .usr 2 2 false b_is_less_by,
  .usr 1 3 false b_sum_by,
  .usr 4 4 false b_is_step,
  .usr 1 11 false b_need_piece,
  .usr 1 1 false b_is_small_chance,
  .usr 1 2 false b_read_figures,
  .usr 1 1 false b_written_share,
  .usr 1 1 false b_share_text,
  .usr 1 5 false b_read_share,
  .usr 1 2 false b_is_some_step,
  .usr 1 1 false b_step_text,
  .usr 1 4 false b_read_step,
  .usr 1 9 false b_piece_text,
  .usr 1 8 false b_read_piece,
  .usr 3 9 true b__law_tape,
  .usr 2 2 false b__law_take,
  .usr 2 4 false b__law_like,
  .usr 2 3 false b__law_is,
  .usr 2 4 false b__law_share,
  .usr 2 2 false b__law_plus,
  .usr 1 3 false b__law_sum,
  .usr 3 7 false b__law_parts,
  .usr 3 11 false b__law_piece,
  .usr 1 2 false b__law_is_share,
  .usr 1 13 false b__law_piece_fault,
  .usr 1 2 false b__law_told,
  .usr 1 1 false b__law_share_text,
  .usr 1 1 false b__law_step_text,
  .usr 1 4 false b__law_piece_text,
  .usr 1 2 false b__law_figures,
  .usr 1 5 false b__law_read_share,
  .usr 1 4 false b__law_read_step,
  .usr 1 6 false b__law_read_piece,
  .usr 1 4 false b__law_read_right,
  .usr 1 5 false b__law_drawn_share,
  .usr 2 8 false b__law_bent,
  .usr 0 5 false b__law_by_hand_right,
  .usr 0 2 false b__law_refused_right,
  .usr 1 9 false b_law,
  .lam 1 0 l0,
  .lam 1 0 l1,
  .lam 1 0 l2,
  .lam 1 0 l3,
  .lam 1 1 l4,
  .lam 1 1 l5,
  .lam 1 0 l6,
  .lam 1 1 l7,
  .lam 1 0 l8,
  .lam 1 0 l9,
  .lam 1 0 l10,
  .lam 1 1 l11,
  .lam 1 0 l12]
def gls : List Mi.D := [(.int 1000000000000), (.tup [(.int 0), (.int 1)]), (.tup [(.int 1), (.int 1)]), (.int 12), (.int 3), (.int 40), (.int 3), (.str [48,49,50,51,52,53,54,55,56,57]), (.int 41), (.int 99)]
def sub : Nat → Nat → Bool
  | 0, 0 => true
  | 1, 1 => true
  | 1, 0 => true
  | 2, 2 => true
  | 2, 0 => true
  | _, _ => false
def pg : Mi.Pg := ⟨fns, gls, sub, 1000000⟩
def fnT : Nat → Option (Str × List Str)
  | 0 => some ("is_number", ["thing"])
  | 1 => some ("is_among", ["thing", "least", "most"])
  | 2 => some ("is_tuple_of", ["thing", "least", "most"])
  | 3 => some ("common_factor", ["one", "other"])
  | 4 => some ("made_share", ["top", "bottom"])
  | 5 => some ("is_share", ["thing"])
  | 6 => some ("is_small_share", ["thing"])
  | 7 => some ("plus_by", ["one", "other"])
  | 8 => some ("is_less_by", ["one", "other"])
  | 9 => some ("sum_by", ["shares"])
  | 10 => some ("is_step", ["thing", "rooms", "signs", "outs"])
  | 11 => some ("need_piece", ["piece"])
  | 12 => some ("is_small_chance", ["thing"])
  | 13 => some ("read_figures", ["text"])
  | 14 => some ("written_share", ["share"])
  | 15 => some ("share_text", ["share"])
  | 16 => some ("read_share", ["text"])
  | 17 => some ("is_some_step", ["thing"])
  | 18 => some ("step_text", ["step"])
  | 19 => some ("read_step", ["text"])
  | 20 => some ("piece_text", ["piece"])
  | 21 => some ("read_piece", ["text"])
  | 22 => some ("_law_tape", ["script", "many", "salt"])
  | 23 => some ("_law_take", ["tape", "limit"])
  | 24 => some ("_law_like", ["told", "due"])
  | 25 => some ("_law_is", ["action", "due"])
  | 26 => some ("_law_share", ["top", "bottom"])
  | 27 => some ("_law_plus", ["one", "other"])
  | 28 => some ("_law_sum", ["shares"])
  | 29 => some ("_law_parts", ["tape", "whole", "many"])
  | 30 => some ("_law_piece", ["tape", "most", "doors"])
  | 31 => some ("_law_is_share", ["thing"])
  | 32 => some ("_law_piece_fault", ["thing"])
  | 33 => some ("_law_told", ["action"])
  | 34 => some ("_law_share_text", ["share"])
  | 35 => some ("_law_step_text", ["step"])
  | 36 => some ("_law_piece_text", ["piece"])
  | 37 => some ("_law_figures", ["text"])
  | 38 => some ("_law_read_share", ["text"])
  | 39 => some ("_law_read_step", ["text"])
  | 40 => some ("_law_read_piece", ["text"])
  | 41 => some ("_law_read_right", ["text"])
  | 42 => some ("_law_drawn_share", ["tape"])
  | 43 => some ("_law_bent", ["tape", "text"])
  | 44 => some ("_law_by_hand_right", [])
  | 45 => some ("_law_refused_right", [])
  | 46 => some ("law", ["script"])
  | _ => none
def glT : Nat → Option Str
  | 0 => some "MOST_NUMBER"
  | 1 => some "ZERO"
  | 2 => some "ONE"
  | 3 => some "MOST_ROOMS"
  | 4 => some "MOST_SIGNS"
  | 5 => some "MOST_STEPS"
  | 6 => some "MOST_DOORS"
  | 7 => some "FIGURES"
  | 8 => some "MOST_FIGURES"
  | 9 => some "MOST_IN_STEP"
  | _ => none
def clT : Nat → Option Str
  | 0 => some "ChanceError"
  | 1 => some "BadPiece"
  | 2 => some "BadText"
  | _ => none
end K83
namespace K83
open Mi PySem
theorem c_is_number (n : Nat) (a0 : Vl) (S : Store) : callF pg (n+1) 0 [a0] S = finish false S.length (exSs pg (callF pg n) b_is_number [some a0] S) := callF_usr (P := pg) (by rfl) rfl rfl
theorem c_is_among (n : Nat) (a0 a1 a2 : Vl) (S : Store) : callF pg (n+1) 1 [a0, a1, a2] S = finish false S.length (exSs pg (callF pg n) b_is_among [some a0, some a1, some a2] S) := callF_usr (P := pg) (by rfl) rfl rfl
theorem c_is_tuple_of (n : Nat) (a0 a1 a2 : Vl) (S : Store) : callF pg (n+1) 2 [a0, a1, a2] S = finish false S.length (exSs pg (callF pg n) b_is_tuple_of [some a0, some a1, some a2] S) := callF_usr (P := pg) (by rfl) rfl rfl
theorem c_common_factor (n : Nat) (a0 a1 : Vl) (S : Store) : callF pg (n+1) 3 [a0, a1] S = finish false S.length (exSs pg (callF pg n) b_common_factor [some a0, some a1] S) := callF_usr (P := pg) (by rfl) rfl rfl
theorem c_made_share (n : Nat) (a0 a1 : Vl) (S : Store) : callF pg (n+1) 4 [a0, a1] S = finish false S.length (exSs pg (callF pg n) b_made_share [some a0, some a1, none] S) := callF_usr (P := pg) (by rfl) rfl rfl
theorem c_is_share (n : Nat) (a0 : Vl) (S : Store) : callF pg (n+1) 5 [a0] S = finish false S.length (exSs pg (callF pg n) b_is_share [some a0] S) := callF_usr (P := pg) (by rfl) rfl rfl
theorem c_is_small_share (n : Nat) (a0 : Vl) (S : Store) : callF pg (n+1) 6 [a0] S = finish false S.length (exSs pg (callF pg n) b_is_small_share [some a0] S) := callF_usr (P := pg) (by rfl) rfl rfl
theorem c_plus_by (n : Nat) (a0 a1 : Vl) (S : Store) : callF pg (n+1) 7 [a0, a1] S = finish false S.length (exSs pg (callF pg n) b_plus_by [some a0, some a1] S) := callF_usr (P := pg) (by rfl) rfl rfl
theorem c_is_less_by (n : Nat) (a0 a1 : Vl) (S : Store) : callF pg (n+1) 8 [a0, a1] S = finish false S.length (exSs pg (callF pg n) b_is_less_by [some a0, some a1] S) := callF_usr (P := pg) (by rfl) rfl rfl
theorem c_sum_by (n : Nat) (a0 : Vl) (S : Store) : callF pg (n+1) 9 [a0] S = finish false S.length (exSs pg (callF pg n) b_sum_by [some a0, none, none] S) := callF_usr (P := pg) (by rfl) rfl rfl
theorem c_is_step (n : Nat) (a0 a1 a2 a3 : Vl) (S : Store) : callF pg (n+1) 10 [a0, a1, a2, a3] S = finish false S.length (exSs pg (callF pg n) b_is_step [some a0, some a1, some a2, some a3] S) := callF_usr (P := pg) (by rfl) rfl rfl
theorem c_need_piece (n : Nat) (a0 : Vl) (S : Store) : callF pg (n+1) 11 [a0] S = finish false S.length (exSs pg (callF pg n) b_need_piece [some a0, none, none, none, none, none, none, none, none, none, none] S) := callF_usr (P := pg) (by rfl) rfl rfl
theorem c_is_small_chance (n : Nat) (a0 : Vl) (S : Store) : callF pg (n+1) 12 [a0] S = finish false S.length (exSs pg (callF pg n) b_is_small_chance [some a0] S) := callF_usr (P := pg) (by rfl) rfl rfl
theorem c_read_figures (n : Nat) (a0 : Vl) (S : Store) : callF pg (n+1) 13 [a0] S = finish false S.length (exSs pg (callF pg n) b_read_figures [some a0, none] S) := callF_usr (P := pg) (by rfl) rfl rfl
theorem c_written_share (n : Nat) (a0 : Vl) (S : Store) : callF pg (n+1) 14 [a0] S = finish false S.length (exSs pg (callF pg n) b_written_share [some a0] S) := callF_usr (P := pg) (by rfl) rfl rfl
theorem c_share_text (n : Nat) (a0 : Vl) (S : Store) : callF pg (n+1) 15 [a0] S = finish false S.length (exSs pg (callF pg n) b_share_text [some a0] S) := callF_usr (P := pg) (by rfl) rfl rfl
theorem c_read_share (n : Nat) (a0 : Vl) (S : Store) : callF pg (n+1) 16 [a0] S = finish false S.length (exSs pg (callF pg n) b_read_share [some a0, none, none, none, none] S) := callF_usr (P := pg) (by rfl) rfl rfl
theorem c_is_some_step (n : Nat) (a0 : Vl) (S : Store) : callF pg (n+1) 17 [a0] S = finish false S.length (exSs pg (callF pg n) b_is_some_step [some a0, none] S) := callF_usr (P := pg) (by rfl) rfl rfl
theorem c_step_text (n : Nat) (a0 : Vl) (S : Store) : callF pg (n+1) 18 [a0] S = finish false S.length (exSs pg (callF pg n) b_step_text [some a0] S) := callF_usr (P := pg) (by rfl) rfl rfl
theorem c_read_step (n : Nat) (a0 : Vl) (S : Store) : callF pg (n+1) 19 [a0] S = finish false S.length (exSs pg (callF pg n) b_read_step [some a0, none, none, none] S) := callF_usr (P := pg) (by rfl) rfl rfl
theorem c_piece_text (n : Nat) (a0 : Vl) (S : Store) : callF pg (n+1) 20 [a0] S = finish false S.length (exSs pg (callF pg n) b_piece_text [some a0, none, none, none, none, none, none, none, none] S) := callF_usr (P := pg) (by rfl) rfl rfl
theorem c_read_piece (n : Nat) (a0 : Vl) (S : Store) : callF pg (n+1) 21 [a0] S = finish false S.length (exSs pg (callF pg n) b_read_piece [some a0, none, none, none, none, none, none, none] S) := callF_usr (P := pg) (by rfl) rfl rfl
theorem c__law_tape (n : Nat) (a0 a1 a2 : Vl) (S : Store) : callF pg (n+1) 22 [a0, a1, a2] S = finish true S.length (exSs pg (callF pg n) b__law_tape [some a0, some a1, some a2, none, none, none, none, none, none] S) := callF_usr (P := pg) (by rfl) rfl rfl
theorem c__law_take (n : Nat) (a0 a1 : Vl) (S : Store) : callF pg (n+1) 23 [a0, a1] S = finish false S.length (exSs pg (callF pg n) b__law_take [some a0, some a1] S) := callF_usr (P := pg) (by rfl) rfl rfl
theorem c__law_like (n : Nat) (a0 a1 : Vl) (S : Store) : callF pg (n+1) 24 [a0, a1] S = finish false S.length (exSs pg (callF pg n) b__law_like [some a0, some a1, none, none] S) := callF_usr (P := pg) (by rfl) rfl rfl
theorem c__law_is (n : Nat) (a0 a1 : Vl) (S : Store) : callF pg (n+1) 25 [a0, a1] S = finish false S.length (exSs pg (callF pg n) b__law_is [some a0, some a1, none] S) := callF_usr (P := pg) (by rfl) rfl rfl
theorem c__law_share (n : Nat) (a0 a1 : Vl) (S : Store) : callF pg (n+1) 26 [a0, a1] S = finish false S.length (exSs pg (callF pg n) b__law_share [some a0, some a1, none, none] S) := callF_usr (P := pg) (by rfl) rfl rfl
theorem c__law_plus (n : Nat) (a0 a1 : Vl) (S : Store) : callF pg (n+1) 27 [a0, a1] S = finish false S.length (exSs pg (callF pg n) b__law_plus [some a0, some a1] S) := callF_usr (P := pg) (by rfl) rfl rfl
theorem c__law_sum (n : Nat) (a0 : Vl) (S : Store) : callF pg (n+1) 28 [a0] S = finish false S.length (exSs pg (callF pg n) b__law_sum [some a0, none, none] S) := callF_usr (P := pg) (by rfl) rfl rfl
theorem c__law_parts (n : Nat) (a0 a1 a2 : Vl) (S : Store) : callF pg (n+1) 29 [a0, a1, a2] S = finish false S.length (exSs pg (callF pg n) b__law_parts [some a0, some a1, some a2, none, none, none, none] S) := callF_usr (P := pg) (by rfl) rfl rfl
theorem c__law_piece (n : Nat) (a0 a1 a2 : Vl) (S : Store) : callF pg (n+1) 30 [a0, a1, a2] S = finish false S.length (exSs pg (callF pg n) b__law_piece [some a0, some a1, some a2, none, none, none, none, none, none, none, none] S) := callF_usr (P := pg) (by rfl) rfl rfl
theorem c__law_is_share (n : Nat) (a0 : Vl) (S : Store) : callF pg (n+1) 31 [a0] S = finish false S.length (exSs pg (callF pg n) b__law_is_share [some a0, none] S) := callF_usr (P := pg) (by rfl) rfl rfl
theorem c__law_piece_fault (n : Nat) (a0 : Vl) (S : Store) : callF pg (n+1) 32 [a0] S = finish false S.length (exSs pg (callF pg n) b__law_piece_fault [some a0, none, none, none, none, none, none, none, none, none, none, none, none] S) := callF_usr (P := pg) (by rfl) rfl rfl
theorem c__law_told (n : Nat) (a0 : Vl) (S : Store) : callF pg (n+1) 33 [a0] S = finish false S.length (exSs pg (callF pg n) b__law_told [some a0, none] S) := callF_usr (P := pg) (by rfl) rfl rfl
theorem c__law_share_text (n : Nat) (a0 : Vl) (S : Store) : callF pg (n+1) 34 [a0] S = finish false S.length (exSs pg (callF pg n) b__law_share_text [some a0] S) := callF_usr (P := pg) (by rfl) rfl rfl
theorem c__law_step_text (n : Nat) (a0 : Vl) (S : Store) : callF pg (n+1) 35 [a0] S = finish false S.length (exSs pg (callF pg n) b__law_step_text [some a0] S) := callF_usr (P := pg) (by rfl) rfl rfl
theorem c__law_piece_text (n : Nat) (a0 : Vl) (S : Store) : callF pg (n+1) 36 [a0] S = finish false S.length (exSs pg (callF pg n) b__law_piece_text [some a0, none, none, none] S) := callF_usr (P := pg) (by rfl) rfl rfl
theorem c__law_figures (n : Nat) (a0 : Vl) (S : Store) : callF pg (n+1) 37 [a0] S = finish false S.length (exSs pg (callF pg n) b__law_figures [some a0, none] S) := callF_usr (P := pg) (by rfl) rfl rfl
theorem c__law_read_share (n : Nat) (a0 : Vl) (S : Store) : callF pg (n+1) 38 [a0] S = finish false S.length (exSs pg (callF pg n) b__law_read_share [some a0, none, none, none, none] S) := callF_usr (P := pg) (by rfl) rfl rfl
theorem c__law_read_step (n : Nat) (a0 : Vl) (S : Store) : callF pg (n+1) 39 [a0] S = finish false S.length (exSs pg (callF pg n) b__law_read_step [some a0, none, none, none] S) := callF_usr (P := pg) (by rfl) rfl rfl
theorem c__law_read_piece (n : Nat) (a0 : Vl) (S : Store) : callF pg (n+1) 40 [a0] S = finish false S.length (exSs pg (callF pg n) b__law_read_piece [some a0, none, none, none, none, none] S) := callF_usr (P := pg) (by rfl) rfl rfl
theorem c__law_read_right (n : Nat) (a0 : Vl) (S : Store) : callF pg (n+1) 41 [a0] S = finish false S.length (exSs pg (callF pg n) b__law_read_right [some a0, none, none, none] S) := callF_usr (P := pg) (by rfl) rfl rfl
theorem c__law_drawn_share (n : Nat) (a0 : Vl) (S : Store) : callF pg (n+1) 42 [a0] S = finish false S.length (exSs pg (callF pg n) b__law_drawn_share [some a0, none, none, none, none] S) := callF_usr (P := pg) (by rfl) rfl rfl
theorem c__law_bent (n : Nat) (a0 a1 : Vl) (S : Store) : callF pg (n+1) 43 [a0, a1] S = finish false S.length (exSs pg (callF pg n) b__law_bent [some a0, some a1, none, none, none, none, none, none] S) := callF_usr (P := pg) (by rfl) rfl rfl
theorem c__law_by_hand_right (n : Nat) (S : Store) : callF pg (n+1) 44 [] S = finish false S.length (exSs pg (callF pg n) b__law_by_hand_right [none, none, none, none, none] S) := callF_usr (P := pg) (by rfl) rfl rfl
theorem c__law_refused_right (n : Nat) (S : Store) : callF pg (n+1) 45 [] S = finish false S.length (exSs pg (callF pg n) b__law_refused_right [none, none] S) := callF_usr (P := pg) (by rfl) rfl rfl
theorem c_law (n : Nat) (a0 : Vl) (S : Store) : callF pg (n+1) 46 [a0] S = finish false S.length (exSs pg (callF pg n) b_law [some a0, none, none, none, none, none, none, none, none] S) := callF_usr (P := pg) (by rfl) rfl rfl
theorem c_l0 (n : Nat) (a0 : Vl) (S : Store) : callF pg (n+1) 47 [a0] S = finishE S.length (evE pg (callF pg n) l0 [some a0] S) := callF_lam (P := pg) (by rfl) rfl rfl
theorem c_l1 (n : Nat) (a0 : Vl) (S : Store) : callF pg (n+1) 48 [a0] S = finishE S.length (evE pg (callF pg n) l1 [some a0] S) := callF_lam (P := pg) (by rfl) rfl rfl
theorem c_l2 (n : Nat) (a0 : Vl) (S : Store) : callF pg (n+1) 49 [a0] S = finishE S.length (evE pg (callF pg n) l2 [some a0] S) := callF_lam (P := pg) (by rfl) rfl rfl
theorem c_l3 (n : Nat) (a0 : Vl) (S : Store) : callF pg (n+1) 50 [a0] S = finishE S.length (evE pg (callF pg n) l3 [some a0] S) := callF_lam (P := pg) (by rfl) rfl rfl
theorem c_l4 (n : Nat) (a0 : Vl) (S : Store) : callF pg (n+1) 51 [a0] S = finishE S.length (evE pg (callF pg n) l4 [none, some a0] S) := callF_lam (P := pg) (by rfl) rfl rfl
theorem c_l5 (n : Nat) (a0 : Vl) (S : Store) : callF pg (n+1) 52 [a0] S = finishE S.length (evE pg (callF pg n) l5 [none, some a0] S) := callF_lam (P := pg) (by rfl) rfl rfl
theorem c_l6 (n : Nat) (a0 : Vl) (S : Store) : callF pg (n+1) 53 [a0] S = finishE S.length (evE pg (callF pg n) l6 [some a0] S) := callF_lam (P := pg) (by rfl) rfl rfl
theorem c_l7 (n : Nat) (a0 : Vl) (S : Store) : callF pg (n+1) 54 [a0] S = finishE S.length (evE pg (callF pg n) l7 [none, some a0] S) := callF_lam (P := pg) (by rfl) rfl rfl
theorem c_l8 (n : Nat) (a0 : Vl) (S : Store) : callF pg (n+1) 55 [a0] S = finishE S.length (evE pg (callF pg n) l8 [some a0] S) := callF_lam (P := pg) (by rfl) rfl rfl
theorem c_l9 (n : Nat) (a0 : Vl) (S : Store) : callF pg (n+1) 56 [a0] S = finishE S.length (evE pg (callF pg n) l9 [some a0] S) := callF_lam (P := pg) (by rfl) rfl rfl
theorem c_l10 (n : Nat) (a0 : Vl) (S : Store) : callF pg (n+1) 57 [a0] S = finishE S.length (evE pg (callF pg n) l10 [some a0] S) := callF_lam (P := pg) (by rfl) rfl rfl
theorem c_l11 (n : Nat) (a0 : Vl) (S : Store) : callF pg (n+1) 58 [a0] S = finishE S.length (evE pg (callF pg n) l11 [none, some a0] S) := callF_lam (P := pg) (by rfl) rfl rfl
theorem c_l12 (n : Nat) (a0 : Vl) (S : Store) : callF pg (n+1) 59 [a0] S = finishE S.length (evE pg (callF pg n) l12 [some a0] S) := callF_lam (P := pg) (by rfl) rfl rfl
end K83
set_option linter.all false
set_option maxRecDepth 100000
namespace K83
open Mi PySem
def isNum : D → Bool | .int _ => true | _ => false
@[simp] theorem s_is_number (n : Nat) (x : D) (S : Store) : callF pg (n+1) 0 [.d x] S = .ok (.d (.bl (isNum x))) S := by
  rw [c_is_number]
  cases x <;> simp [b_is_number, isiD, isNum]
def amongB (x : D) (lo hi : Int) : Bool := match x with | .int i => decide (lo ≤ i) && decide (i ≤ hi) | _ => false
@[simp] theorem s_is_among (n : Nat) (x : D) (lo hi : Int) (S : Store) : callF pg (n+2) 1 [.d x, .d (.int lo), .d (.int hi)] S = .ok (.d (.bl (amongB x lo hi))) S := by
  rw [c_is_among]
  cases x <;> simp [b_is_among, s_is_number, isNum, amongB, cmpD]
def tupB (x : D) (lo hi : Int) : Bool := match x with | .tup xs => decide (lo ≤ xs.length) && decide (xs.length ≤ hi) | _ => false
@[simp] theorem s_is_tuple_of (n : Nat) (x : D) (lo hi : Int) (S : Store) : callF pg (n+1) 2 [.d x, .d (.int lo), .d (.int hi)] S = .ok (.d (.bl (tupB x lo hi))) S := by
  rw [c_is_tuple_of]
  cases x <;> simp [b_is_tuple_of, isiD, tupB, cmpD, bltD, lenD]
/-- what stands below every bound here -/
abbrev big : Int := 2 ^ 8000
theorem big9 : big < 2 ^ 9000 := by decide +kernel
theorem s_common_factor (n : Nat) (a b : Int) (S : Store) (h0 : 0 ≤ b) (hb : b < big) : callF pg (n+1) 3 [.d (.int a), .d (.int b)] S = .ok (.d (.int (Int.gcd a b))) S := by
  rw [c_common_factor]
  obtain ⟨a', g, p, z, e⟩ := whlL_gcd (c := fun env' S' => asB (evE pg (callF pg n) (.cmp .ne (.var 1) (.int 0)) env' S')) (body := fun env' S' => exSs pg (callF pg n) [.par [0, 1] [(.var 1), (.bin .mod false (.var 0) (.var 1))]] env' S')
    (E := fun a b => [some (.d (.int a)), some (.d (.int b))]) (S := S)
    (fun a b => by simp) (fun a b hp => by simp [binD_modI, hp]) 8000 a b pg.wf h0 hb (by decide)
  have e' : whlB pg (callF pg n) (.cmp .ne (.var 1) (.int 0)) [.par [0, 1] [(.var 1), (.bin .mod false (.var 0) (.var 1))]] pg.wf [some (.d (.int a)), some (.d (.int b))] S = _ := e
  simp [b_common_factor, e', g]
theorem s_made_share (n : Nat) (a b : Int) (S : Store) (h0 : 0 < b) (hb : b < big) : callF pg (n+2) 4 [.d (.int a), .d (.int b)] S = .ok (.d (sh (mk a b))) S := by
  have g1 := gcd_pos' (a := a) h0
  have g2 := gcd_le' (a := a) h0
  have l1 := log2_lt (k := 9000) g1 (Int.lt_of_le_of_lt g2 (Int.lt_trans hb big9))
  rw [c_made_share]
  simp [b_made_share, s_common_factor n a b S (by omega) hb, show ¬ (b < 0) by omega, binD_divI _ _ _ _ g1 l1, mk]

def isShareB (p : Int × Int) : Bool := decide (1 ≤ p.2) && decide (Int.gcd p.1 p.2 = 1)
theorem s_is_share (n : Nat) (p : Int × Int) (S : Store) (hb : p.2 < big) : callF pg (n+3) 5 [.d (sh p)] S = .ok (.d (.bl (isShareB p))) S := by
  rw [c_is_share]
  by_cases h : p.2 < 1
  · simp [b_is_share, tupB, isNum, h, isShareB, show ¬ (1 ≤ p.2) by omega]
  · simp [b_is_share, tupB, isNum, h, isShareB, show (1 ≤ p.2) by omega, s_common_factor (n+1) p.1 p.2 S (by omega) hb]
    norm_cast
abbrev far : Int := 1000000000000
def small (p : Int × Int) : Bool := isShareB p && decide ((p.1.natAbs : Int) ≤ far) && decide (p.2 ≤ far)
theorem s_is_small_share (n : Nat) (p : Int × Int) (S : Store) (hb : p.2 < big) : callF pg (n+4) 6 [.d (sh p)] S = .ok (.d (.bl (small p))) S := by
  rw [c_is_small_share]
  simp [b_is_small_share, s_is_share n p S hb, small, show pg.gls[0]? = some (.int far) from rfl, Bool.and_assoc]
def plus (p q : Int × Int) : Int × Int := mk (p.1 * q.2 + q.1 * p.2) (p.2 * q.2)
def fits (p : Int × Int) : Prop := p.1.natAbs < 2 ^ 4000 ∧ 0 < p.2 ∧ p.2 < 2 ^ 4000
theorem fits.log {p : Int × Int} (h : fits p) : p.1.natAbs.log2 < 4000 ∧ p.2.natAbs.log2 < 4000 := ⟨log2_lt' (by decide) h.1, log2_lt h.2.1 h.2.2⟩
theorem fits.mul {p q : Int × Int} (h : fits p) (k : fits q) : 0 < p.2 * q.2 ∧ p.2 * q.2 < big := by
  refine ⟨Int.mul_pos h.2.1 k.2.1, ?_⟩
  have e : (2 : Int) ^ 4000 * 2 ^ 4000 = big := by show _ = (2:Int) ^ 8000; rw [← Int.pow_add]
  rw [← e]
  exact Int.mul_lt_mul h.2.2 (Int.le_of_lt k.2.2) k.2.1 (Int.pow_nonneg (by decide))
theorem s_plus_by (n : Nat) (p q : Int × Int) (S : Store) (h : fits p) (k : fits q) : callF pg (n+3) 7 [.d (sh p), .d (sh q)] S = .ok (.d (sh (plus p q))) S := by
  obtain ⟨a1, a2⟩ := h.log
  obtain ⟨b1, b2⟩ := k.log
  obtain ⟨m1, m2⟩ := h.mul k
  rw [c_plus_by]
  simp [b_plus_by, binD_mulI _ p.1 q.2 _ (by omega), binD_mulI _ q.1 p.2 _ (by omega), binD_mulI _ p.2 q.2 _ (by omega), s_made_share n _ _ S m1 m2, plus]
theorem s_is_less_by (n : Nat) (p q : Int × Int) (S : Store) (h : fits p) (k : fits q) : callF pg (n+1) 8 [.d (sh p), .d (sh q)] S = .ok (.d (.bl (decide (p.1 * q.2 < q.1 * p.2)))) S := by
  obtain ⟨a1, a2⟩ := h.log
  obtain ⟨b1, b2⟩ := k.log
  rw [c_is_less_by]
  simp [b_is_less_by, binD_mulI _ p.1 q.2 _ (by omega), binD_mulI _ q.1 p.2 _ (by omega)]
end K83
set_option linter.all false
set_option maxRecDepth 100000
namespace K83
open Mi PySem
/-- a chance of a step -/
def part (q : Int × Int) : Prop := 0 < q.2 ∧ q.2 ≤ far ∧ 0 ≤ q.1 ∧ q.1 ≤ q.2
def accOk (k : Nat) (p : Int × Int) : Prop := 0 < p.2 ∧ p.2 ≤ far ^ k ∧ 0 ≤ p.1 ∧ p.1 ≤ k * p.2
theorem accOk.next {k : Nat} {p q : Int × Int} (h : accOk k p) (g : part q) : accOk (k + 1) (plus p q) := by
  obtain ⟨h1, h2, h3, h4⟩ := h
  obtain ⟨g1, g2, g3, g4⟩ := g
  have m : 0 < p.2 * q.2 := Int.mul_pos h1 g1
  have z1 : 0 ≤ p.1 * q.2 := Int.mul_nonneg h3 (by omega)
  have z2 : 0 ≤ q.1 * p.2 := Int.mul_nonneg g3 (by omega)
  have a0 : 0 ≤ p.1 * q.2 + q.1 * p.2 := by omega
  have b1 : p.1 * q.2 ≤ k * p.2 * q.2 := Int.mul_le_mul_of_nonneg_right h4 (by omega)
  have b2 : q.1 * p.2 ≤ q.2 * p.2 := Int.mul_le_mul_of_nonneg_right g4 (by omega)
  have a1 : p.1 * q.2 + q.1 * p.2 ≤ ((k + 1 : Nat) : Int) * (p.2 * q.2) := by
    have e : ((k + 1 : Nat) : Int) * (p.2 * q.2) = k * p.2 * q.2 + q.2 * p.2 := by
      rw [Int.natCast_add, Int.add_mul, Int.mul_assoc, Int.mul_comm q.2]; simp
    omega
  refine ⟨mk_pos m, Int.le_trans (mk_le m) ?_, mk_nonneg a0, ?_⟩
  · rw [Int.pow_succ]
    exact Int.mul_le_mul h2 g2 (by omega) (Int.pow_nonneg (by decide))
  · have e := mk_cross (a := p.1 * q.2 + q.1 * p.2) m
    have p2 := mk_pos (a := p.1 * q.2 + q.1 * p.2) m
    have x : (plus p q).1 * (p.2 * q.2) ≤ ((k + 1 : Nat) : Int) * (plus p q).2 * (p.2 * q.2) := by
      show (mk _ _).1 * _ ≤ _
      rw [e]
      calc _ ≤ (((k + 1 : Nat) : Int) * (p.2 * q.2)) * (mk (p.1 * q.2 + q.1 * p.2) (p.2 * q.2)).2 := Int.mul_le_mul_of_nonneg_right a1 (by omega)
        _ = _ := by simp only [plus, Int.mul_assoc, Int.mul_comm, Int.mul_left_comm]
    exact Int.le_of_mul_le_mul_right x m
theorem far40 : ∀ k : Nat, far ^ k ≤ 2 ^ (40 * k)
  | 0 => by decide
  | k + 1 => by
    rw [Int.pow_succ, Nat.mul_succ, Int.pow_add]
    exact Int.mul_le_mul (far40 k) (by decide) (by decide) (Int.pow_nonneg (by decide))
theorem pow_mono {a b : Nat} (h : a ≤ b) : (2 : Int) ^ a ≤ 2 ^ b := by
  have := Nat.pow_le_pow_right (n := 2) (by decide) h
  exact_mod_cast this
theorem accOk.fits {k : Nat} {p : Int × Int} (h : accOk k p) (hk : k ≤ 64) : fits p := by
  obtain ⟨h1, h2, h3, h4⟩ := h
  have e := far40 k
  have e2 : (2 : Int) ^ (40 * k) ≤ 2 ^ (40 * 64) := pow_mono (by omega)
  have e3 : (2 : Int) ^ (40 * 64) * 64 < 2 ^ 4000 := by decide +kernel
  have e5 : (2 : Int) ^ (40 * 64) < 2 ^ 4000 := by decide +kernel
  have e4 : (k : Int) * p.2 ≤ p.2 * 64 := by rw [Int.mul_comm]; exact Int.mul_le_mul_of_nonneg_left (by omega) (by omega)
  have u : p.2 ≤ 2 ^ (40 * 64) := by omega
  have hp : p.1 < 2 ^ 4000 := by
    have : p.2 * 64 ≤ 2 ^ (40 * 64) * 64 := Int.mul_le_mul_of_nonneg_right u (by decide)
    omega
  refine ⟨?_, h1, Int.lt_of_le_of_lt u e5⟩
  have : ((p.1.natAbs : Nat) : Int) < ((2 ^ 4000 : Nat) : Int) := by
    have e : ((p.1.natAbs : Nat) : Int) = p.1 := by omega
    rw [e]; simpa using hp
  exact Int.ofNat_lt.mp this
theorem part.fits {q : Int × Int} (h : part q) : fits q := by
  obtain ⟨h1, h2, h3, h4⟩ := h
  exact accOk.fits (k := 1) ⟨h1, by rw [Int.pow_succ]; simpa using h2, h3, by simpa using h4⟩ (by decide)
def sumS (qs : List (Int × Int)) : Int × Int := qs.foldl plus (0, 1)
theorem s_sum_loop (n : Nat) (x : Option Vl) (S : Store) : ∀ (qs : List (Int × Int)) (k : Nat) (acc : Int × Int) (v : Option Vl), (∀ q ∈ qs, part q) → accOk k acc → k + qs.length ≤ 60 →
    ∃ v', forB pg (callF pg (n+3)) (.nm 2) [(.asg (.nm 1) (.call 7 [(.var 1), (.var 2)] []))] (dl (qs.map sh)) [x, some (.d (sh acc)), v] S = .nx [x, some (.d (sh (qs.foldl plus acc))), v'] S ∧ accOk (k + qs.length) (qs.foldl plus acc)
  | [], k, acc, v, _, h, _ => ⟨v, rfl, h⟩
  | q :: qs, k, acc, v, hq, h, hk => by
    have hq0 := hq q (by simp)
    simp only [List.length_cons] at hk
    obtain ⟨v', e, a⟩ := s_sum_loop n x S qs (k + 1) (plus acc q) (some (.d (sh q))) (fun q' h' => hq q' (by simp [h'])) (h.next hq0) (by omega)
    refine ⟨v', ?_, by simpa [Nat.add_comm, Nat.add_left_comm] using a⟩
    rw [List.map_cons, forB_dcons]
    simp [-List.map_map, s_plus_by n acc q S (h.fits (by omega)) hq0.fits]
    exact e
theorem accOk0 : accOk 0 (0, 1) := ⟨by decide, by decide, by decide, by decide⟩
theorem s_sum_by (n : Nat) (qs : List (Int × Int)) (S : Store) (hq : ∀ q ∈ qs, part q) (hk : qs.length ≤ 60) : callF pg (n+4) 9 [.d (.lst (qs.map sh))] S = .ok (.d (sh (sumS qs))) S := by
  obtain ⟨v', e, _⟩ := s_sum_loop n (some (.d (.lst (qs.map sh)))) S qs 0 (0, 1) none hq accOk0 (by omega)
  rw [c_sum_by, b_sum_by]
  simp [-List.map_map, show pg.gls[1]? = some (sh (0, 1)) from rfl, e, sumS]
theorem sumS_acc {qs : List (Int × Int)} (hq : ∀ q ∈ qs, part q) (hk : qs.length ≤ 60) : accOk qs.length (sumS qs) := by
  obtain ⟨v', _, a⟩ := s_sum_loop 0 none [] qs 0 (0, 1) none hq accOk0 (by omega)
  simpa [sumS] using a
/-! the law's own -/
theorem s_law_share (n : Nat) (a b : Int) (S : Store) (h0 : 0 < b) (hb : b < big) : callF pg (n+1) 26 [.d (.int a), .d (.int b)] S = .ok (.d (sh (mk a b))) S := by
  have g1 := gcd_pos' (a := a) h0
  have g2 := gcd_le' (a := a) h0
  have l1 := log2_lt (k := 9000) g1 (Int.lt_of_le_of_lt g2 (Int.lt_trans hb big9))
  rw [c__law_share]
  obtain ⟨a', g, p, z, e⟩ := whlL_gcd (c := fun env' S' => asB (evE pg (callF pg n) (.cmp .ne (.var 3) (.int 0)) env' S')) (body := fun env' S' => exSs pg (callF pg n) [(.par [2, 3] [(.var 3), (.bin .mod false (.blt .int false [(.var 2)]) (.var 3))])] env' S')
    (E := fun x y => [some (.d (.int a)), some (.d (.int b)), some (.d (.int x)), some (.d (.int y))]) (S := S)
    (fun a b => by simp) (fun a b hp => by simp [binD_modI, hp, intD]) 8000 (a.natAbs : Int) b pg.wf (by omega) hb (by decide)
  have ea : a' = (Int.gcd a b : Int) := by
    have p' := p h0
    have : (a'.natAbs : Int) = a' := by omega
    rw [← this, g]
    simp [Int.gcd]
  subst ea
  have hw : whlB pg (callF pg n) (.cmp .ne (.var 3) (.int 0)) [(.par [2, 3] [(.var 3), (.bin .mod false (.blt .int false [(.var 2)]) (.var 3))])] pg.wf [some (.d (.int a)), some (.d (.int b)), some (.d (.int a.natAbs)), some (.d (.int b))] S = _ := e
  have hb' : (b.natAbs : Int) = b := by omega
  simp [b__law_share, hb', hw, show ¬ (b < 0) by omega, binD_divI _ _ _ _ g1 l1, mk]
theorem s_law_plus (n : Nat) (p q : Int × Int) (S : Store) (h : fits p) (k : fits q) : callF pg (n+2) 27 [.d (sh p), .d (sh q)] S = .ok (.d (sh (plus p q))) S := by
  obtain ⟨a1, a2⟩ := h.log
  obtain ⟨b1, b2⟩ := k.log
  obtain ⟨m1, m2⟩ := h.mul k
  rw [c__law_plus]
  simp [b__law_plus, binD_mulI _ p.1 q.2 _ (by omega), binD_mulI _ q.1 p.2 _ (by omega), binD_mulI _ p.2 q.2 _ (by omega), s_law_share n _ _ S m1 m2, plus]
theorem s_law_sum_loop (n : Nat) (x : Option Vl) (S : Store) : ∀ (qs : List (Int × Int)) (k : Nat) (acc : Int × Int) (v : Option Vl), (∀ q ∈ qs, part q) → accOk k acc → k + qs.length ≤ 60 →
    ∃ v', forB pg (callF pg (n+2)) (.nm 2) [(.asg (.nm 1) (.call 27 [(.var 1), (.var 2)] []))] (dl (qs.map sh)) [x, some (.d (sh acc)), v] S = .nx [x, some (.d (sh (qs.foldl plus acc))), v'] S
  | [], k, acc, v, _, h, _ => ⟨v, rfl⟩
  | q :: qs, k, acc, v, hq, h, hk => by
    have hq0 := hq q (by simp)
    simp only [List.length_cons] at hk
    obtain ⟨v', e⟩ := s_law_sum_loop n x S qs (k + 1) (plus acc q) (some (.d (sh q))) (fun q' h' => hq q' (by simp [h'])) (h.next hq0) (by omega)
    refine ⟨v', ?_⟩
    rw [List.map_cons, forB_dcons]
    simp [-List.map_map, s_law_plus n acc q S (h.fits (by omega)) hq0.fits]
    exact e
theorem s_law_sum (n : Nat) (qs : List (Int × Int)) (S : Store) (hq : ∀ q ∈ qs, part q) (hk : qs.length ≤ 60) : callF pg (n+3) 28 [.d (.lst (qs.map sh))] S = .ok (.d (sh (sumS qs))) S := by
  obtain ⟨v', e⟩ := s_law_sum_loop n (some (.d (.lst (qs.map sh)))) S qs 0 (0, 1) none hq accOk0 (by omega)
  rw [c__law_sum, b__law_sum]
  simp [-List.map_map, e, sumS]
end K83
set_option linter.all false
set_option maxRecDepth 100000
namespace K83
open Mi PySem
abbrev zmax : Nat := 16000000
def optN : Option Nat → D | none => .non | some n => .int n
/-- a row of figures, read -/
def figs (t : List Nat) : Option Nat := if (1 ≤ t.length ∧ t.length ≤ 41 ∧ t.all isDig = true) ∧ (t = [48] ∨ t.head? ≠ some 48) then some (digVal t) else none
theorem ifc {α : Type} {p q : Prop} [Decidable p] [Decidable q] {x y : α} (h : p ↔ q) : (if p then x else y) = (if q then x else y) := by
  by_cases hp : p
  · rw [if_pos hp, if_pos (h.mp hp)]
  · rw [if_neg hp, if_neg (fun hq => hp (h.mpr hq))]
theorem mem_figs (c : Nat) : decide (c ∈ [48,49,50,51,52,53,54,55,56,57]) = isDig c := by
  have : (c ∈ [48,49,50,51,52,53,54,55,56,57]) ↔ (48 ≤ c ∧ c ≤ 57) := by simp; omega
  simp only [this, isDig]
  by_cases h : 48 ≤ c <;> by_cases h' : c ≤ 57 <;> simp [h, h']
theorem intD_figs (S) (t : List Nat) (h : t ≠ []) (h1 : t.all isDig = true) (h2 : t.length ≤ 41) : intD S [.d (.str t)] = .ok (.d (.int (digVal t))) S := by
  unfold intD; dsimp only; rw [if_pos ⟨h, h1, by omega⟩]
theorem g8 : pg.gls[8]? = some (.int 41) := rfl
theorem g7 : pg.gls[7]? = some (.str [48,49,50,51,52,53,54,55,56,57]) := rfl
theorem inFigs (c S) : cmpD .in_ (.d (.str [c])) (.d (.str [48,49,50,51,52,53,54,55,56,57])) S = some (isDig c) := by
  rw [← mem_figs]; rfl
theorem ninFigs (c S) : cmpD .notin (.d (.str [c])) (.d (.str [48,49,50,51,52,53,54,55,56,57])) S = some (!isDig c) := by
  rw [← mem_figs]; rfl
theorem idxHead {t : List Nat} {c : Nat} (h : t.head? = some c) (hl : t.length ≤ 16777216) (S) : idxD (.d (.str t)) (.d (.int 0)) S = some (.str [c]) := by
  cases t with
  | nil => simp at h
  | cons a r => simp at h; subst h; unfold idxD; dsimp only; rw [if_pos hl]; simp
theorem s_read_figures (n : Nat) (t : List Nat) (S : Store) (hl : t.length ≤ zmax) : callF pg (n+1) 13 [.d (.str t)] S = .ok (.d (optN (figs t))) S := by
  rw [c_read_figures]
  have hlen : lenD S [.d (.str t)] = .ok (.d (.int t.length)) S := lenD_str _ _ (Nat.le_trans hl (by decide))
  by_cases h1 : 1 ≤ t.length
  · by_cases h2 : t.length ≤ 41
    · have hc : compB pg (callF pg n) (.nm 1) [] (.cmp .in_ (.var 1) (.gl 7)) (blkE [some (.d (.str t)), none] [1]) (chars t) [] S = .ok (t.map fun c => .bl (isDig c)) S := by
        rw [compB_map (fun d => match d with | .str [c] => .bl (isDig c) | _ => .non) (fun x hx => ?_) (by simp; omega)]
        · simp [chars]
        · obtain ⟨c, _, rfl⟩ := List.mem_map.mp hx
          exact ⟨_, by simp [blkE, wipeE]; rfl, by simp [g7, inFigs]⟩
      have ha : allB (t.map fun c => D.bl (isDig c)) = some (t.all isDig) := allB_map isDig t
      have e1 : (1:Int) ≤ t.length := by omega
      have e2 : (t.length:Int) ≤ 41 := by omega
      have e3 : t.length ≤ 16777216 := by omega
      cases hd : t.all isDig with
      | false =>
        have e : figs t = none := by unfold figs; rw [if_neg (by simp [hd])]
        rw [hd] at ha
        simp [b_read_figures, hlen, g8, hc, ha, e, e1, e2, e3, optN]
      | true =>
        rw [hd] at ha
        obtain ⟨c, hcc⟩ : ∃ c, t.head? = some c := by cases t with
          | nil => simp at h1
          | cons c r => exact ⟨c, rfl⟩
        have hi := idxHead hcc e3 S
        have hint := intD_figs S t (fun e => by simp [e] at h1) hd h2
        have e : figs t = if t = [48] ∨ c ≠ 48 then some (digVal t) else none := by
          unfold figs
          have : (t = [48] ∨ t.head? ≠ some 48) ↔ (t = [48] ∨ c ≠ 48) := by rw [hcc]; simp
          simp only [h1, h2, hd, true_and, this]
        rw [e]
        by_cases hz : t = [48]
        · simp [b_read_figures, hlen, g8, hc, ha, e1, e2, e3, optN, eq_true hz, hint, hi]
        · by_cases h48 : c = 48
          · simp [b_read_figures, hlen, g8, hc, ha, e1, e2, e3, optN, hz, hint, hi, h48]
          · simp [b_read_figures, hlen, g8, hc, ha, e1, e2, e3, optN, hz, hint, hi, h48]
    · have e : figs t = none := by unfold figs; rw [if_neg (fun h => h2 h.1.2.1)]
      simp [b_read_figures, hlen, g8, e, optN, show (1:Int) ≤ t.length by omega, show ¬ (t.length:Int) ≤ 41 by omega]
  · have e : figs t = none := by unfold figs; rw [if_neg (fun h => h1 h.1.1)]
    simp [b_read_figures, hlen, g8, e, optN, show ¬ (1:Int) ≤ t.length by omega]
/-- the law's own -/
theorem s_law_figures (n : Nat) (t : List Nat) (S : Store) (hl : t.length ≤ zmax) (hx : ∀ c ∈ t, c < 1114112) : callF pg (n+1) 37 [.d (.str t)] S = .ok (.d (optN (figs t))) S := by
  rw [c__law_figures]
  have hlen : lenD S [.d (.str t)] = .ok (.d (.int t.length)) S := lenD_str _ _ (Nat.le_trans hl (by decide))
  have e3 : t.length ≤ 16777216 := Nat.le_trans hl (by decide)
  by_cases h1 : 1 ≤ t.length
  · by_cases h2 : t.length ≤ 41
    · have e1 : (1:Int) ≤ t.length := by omega
      have e2 : (t.length:Int) ≤ 41 := by omega
      obtain ⟨c, hcc⟩ : ∃ c, t.head? = some c := by cases t with
        | nil => simp at h1
        | cons c r => exact ⟨c, rfl⟩
      have hi := idxHead hcc e3 S
      have hint := intD_figs S t (fun e => by simp [e] at h1)
      have hlz : (1 < (t.length : Int) ∧ c = 48) ↔ ¬ (t = [48] ∨ c ≠ 48) := by
        cases t with
        | nil => simp at h1
        | cons a r =>
          simp at hcc; subst hcc
          cases r with
          | nil => simp
          | cons b r => simp; omega
      have e : figs t = if t.all isDig = true ∧ ¬ (1 < (t.length : Int) ∧ c = 48) then some (digVal t) else none := by
        have : (t = [48] ∨ t.head? ≠ some 48) ↔ (t = [48] ∨ c ≠ 48) := by rw [hcc]; simp
        unfold figs
        exact ifc (by simp only [h1, h2, true_and, this, hlz, Decidable.not_not])
      by_cases hz : 1 < (t.length : Int) ∧ c = 48
      · rw [e, if_neg (fun h => h.2 hz)]
        simp [b__law_figures, hlen, e1, e2, hi, hz.1, hz.2, optN]
      · have hzb : (decide (1 < (t.length : Int)) && decide ([c] = [48])) = false := by
          cases hq : (decide (1 < (t.length : Int)) && decide ([c] = [48])) with
          | false => rfl
          | true => simp at hq; exact absurd (by simpa using hq) hz
        have hc : compB pg (callF pg n) (.nm 1) [.cmp .notin (.var 1) (.str [48,49,50,51,52,53,54,55,56,57])] (.var 1) (blkE [some (.d (.str t)), none] [1]) (chars t) [] S = .ok (chars (t.filter fun c => !isDig c)) S := by
          rw [compB_filter (fun d => match d with | .str [c] => !isDig c | _ => true) (fun d => d) (fun x hx => ?_) (by simp; omega)]
          · simp [chars, List.filter_map]; rfl
          · obtain ⟨c, _, rfl⟩ := List.mem_map.mp hx
            exact ⟨_, by simp [blkE, wipeE]; rfl, by simp [ninFigs], by simp⟩
        have hshp : ∀ u : List Nat, (∀ c ∈ u, c < 1114112) → D.shps 59 (chars u) = true := fun u => by
          induction u with
          | nil => intro _; rfl
          | cons a r ih =>
            intro h
            show (D.shp 59 (.str [a]) && D.shps 59 (chars r)) = true
            rw [ih (fun c hc => h c (by simp [hc]))]
            have := h a (by simp)
            simp [D.shp]; omega
        have heq : ∀ u : List Nat, D.eqv (.lst (chars u)) (.lst []) = decide (u = []) := fun u => by
          cases u <;> simp [chars, D.eqv, D.eqvs]
        have hok : eqOk (.lst (chars (t.filter fun c => !isDig c))) (.lst []) = true := by
          unfold eqOk
          have : D.shp 60 (.lst (chars (t.filter fun c => !isDig c))) = true := hshp _ (fun c hc => hx c (List.mem_filter.mp hc).1)
          rw [this]; rfl
        have hfl : (chars (t.filter fun c => !isDig c)).length ≤ 16777216 := by
          rw [chars_len]; exact Nat.le_trans (List.length_filter_le _ _) e3
        have hnil : (t.filter fun c => !isDig c) = [] ↔ t.all isDig = true := by simp [List.filter_eq_nil_iff]
        rw [e]
        have hz2 : 1 < (t.length : Int) → ¬ c = 48 := fun a b => hz ⟨a, b⟩
        generalize hu : (t.filter fun c => !isDig c) = u at *
        by_cases hd : t.all isDig = true
        · rw [if_pos ⟨hd, hz⟩]
          have hnu := hnil.mpr hd
          by_cases hb1 : 1 < (t.length : Int)
          · simp [b__law_figures, hlen, e1, e2, hi, hb1, hz2 hb1, hc, heq, hok, hint hd h2, optN, eq_true hnu, newL_f _ _ hfl]
          · simp [b__law_figures, hlen, e1, e2, hi, hb1, hc, heq, hok, hint hd h2, optN, eq_true hnu, newL_f _ _ hfl]
        · rw [if_neg (fun h => hd h.1)]
          have hnu : ¬ u = [] := fun h => hd (hnil.mp h)
          by_cases hb1 : 1 < (t.length : Int)
          · simp [b__law_figures, hlen, e1, e2, hi, hb1, hz2 hb1, hc, heq, hok, optN, hnu, newL_f _ _ hfl]
          · simp [b__law_figures, hlen, e1, e2, hi, hb1, hc, heq, hok, optN, hnu, newL_f _ _ hfl]
    · have e : figs t = none := by unfold figs; rw [if_neg (fun h => h2 h.1.2.1)]
      simp [b__law_figures, hlen, e, optN, show (1:Int) ≤ t.length by omega, show ¬ (t.length:Int) ≤ 41 by omega]
  · have e : figs t = none := by unfold figs; rw [if_neg (fun h => h1 h.1.1)]
    simp [b__law_figures, hlen, e, optN, show ¬ (1:Int) ≤ t.length by omega]
end K83
set_option linter.all false
set_option maxRecDepth 100000
namespace K83
open Mi PySem
/-- a share's text -/
def wr (p : Int × Int) : List Nat := if p.2 = 1 then numI p.1 else numI p.1 ++ [47] ++ numI p.2
theorem log_of {i : Int} (h : i.natAbs < 10 ^ 500) : i.natAbs.log2 < 1920 := log2_lt' (by decide) (Nat.lt_of_lt_of_le h (by decide +kernel))
theorem wr_len {p : Int × Int} (h1 : p.1.natAbs < 10 ^ 500) (h2 : p.2.natAbs < 10 ^ 500) : (wr p).length ≤ 2000 := by
  have a := numI_len p.1 499 h1
  have b := numI_len p.2 499 h2
  unfold wr
  split
  · omega
  · simp; omega
theorem s_written_share (n : Nat) (p : Int × Int) (S : Store) (h1 : p.1.natAbs < 10 ^ 500) (h2 : p.2.natAbs < 10 ^ 500) : callF pg (n+1) 14 [.d (sh p)] S = .ok (.d (.str (wr p))) S := by
  have a := numI_len p.1 499 h1
  have b := numI_len p.2 499 h2
  rw [c_written_share]
  by_cases h : p.2 = 1
  · simp [b_written_share, h, strD_int _ _ (log_of h1), wr]
  · have e1 := binD_addS false (numI p.1) [47] S (by simp only [List.length_singleton]; show _ ≤ 16777216; omega)
    have e2 := binD_addS false (numI p.1 ++ [47]) (numI p.2) S (by simp only [List.length_append, List.length_singleton]; show _ ≤ 16777216; omega)
    simp [b_written_share, h, strD_int _ _ (log_of h1), strD_int _ _ (log_of h2), wr] at e1 e2 ⊢
    simp [e1, e2]
theorem s_law_share_text (n : Nat) (p : Int × Int) (S : Store) (h1 : p.1.natAbs < 10 ^ 500) (h2 : p.2.natAbs < 10 ^ 500) : callF pg (n+1) 34 [.d (sh p)] S = .ok (.d (.str (wr p))) S := by
  have a := numI_len p.1 499 h1
  have b := numI_len p.2 499 h2
  rw [c__law_share_text]
  by_cases h : p.2 = 1
  · simp [b__law_share_text, h, strD_int _ _ (log_of h1), wr]
  · have e1 := binD_addS false (numI p.1) [47] S (by simp only [List.length_singleton]; show _ ≤ 16777216; omega)
    have e2 := binD_addS false (numI p.1 ++ [47]) (numI p.2) S (by simp only [List.length_append, List.length_singleton]; show _ ≤ 16777216; omega)
    simp [b__law_share_text, h, strD_int _ _ (log_of h1), strD_int _ _ (log_of h2), wr] at e1 e2 ⊢
    simp [e1, e2]
theorem small_bd {p : Int × Int} (h : small p = true) : (1 ≤ p.2 ∧ Int.gcd p.1 p.2 = 1 ∧ p.1.natAbs ≤ 1000000000000 ∧ p.2 ≤ far) := by
  unfold small isShareB at h
  simp only [Bool.and_eq_true, decide_eq_true_eq] at h
  obtain ⟨⟨⟨a, b⟩, c⟩, d⟩ := h
  have e : far = 1000000000000 := rfl
  exact ⟨a, b, by omega, d⟩
theorem small_bd' {p : Int × Int} (h : small p = true) : p.1.natAbs < 10 ^ 500 ∧ p.2.natAbs < 10 ^ 500 ∧ p.2 < big := by
  obtain ⟨a, _, c, d⟩ := small_bd h
  have e : (1000000000000 : Nat) < 10 ^ 500 := by decide +kernel
  have e' : far < big := by decide +kernel
  have e2 : far = 1000000000000 := rfl
  refine ⟨by omega, ?_, by omega⟩
  have : p.2.natAbs ≤ 1000000000000 := by omega
  omega
theorem s_share_text (n : Nat) (p : Int × Int) (S : Store) (h : small p = true) : callF pg (n+5) 15 [.d (sh p)] S = .ok (.d (.str (wr p))) S := by
  obtain ⟨h1, h2, h3⟩ := small_bd' h
  rw [c_share_text]
  simp [b_share_text, s_is_small_share n p S h3, h, s_written_share (n+3) p S h1 h2]
theorem s_law_is_share (n : Nat) (p : Int × Int) (S : Store) (hb : p.2 < big) : callF pg (n+2) 31 [.d (sh p)] S = .ok (.d (.bl (small p))) S := by
  rw [c__law_is_share]
  have e12 : binD .pow false (.d (.int 10)) (.d (.int 12)) S = .ok (.d (.int far)) S := by rfl
  have hnil : eqOk (.lst []) (.lst []) = true := rfl
  have hnil2 : D.eqv (.lst []) (.lst []) = true := rfl
  by_cases h1 : 1 ≤ p.2
  · have es := s_law_share n p.1 p.2 S (by omega) hb
    have hok : eqOk (sh (mk p.1 p.2)) (sh p) = true := rfl
    have heq : D.eqv (sh (mk p.1 p.2)) (sh p) = decide (Int.gcd p.1 p.2 = 1) := by
      have := mk_self (a := p.1) (b := p.2) (by omega)
      show (D.eqv (.int _) (.int _) && (D.eqv (.int _) (.int _) && true)) = _
      rw [eqvI, eqvI, Bool.and_true, ← Bool.decide_and]
      refine decide_eq_decide.mpr ?_
      rw [← this]
      constructor
      · intro ⟨a, b⟩; exact Prod.ext a b
      · intro e; exact ⟨congrArg Prod.fst e, congrArg Prod.snd e⟩
    by_cases h2 : p.2 ≤ far
    · by_cases h3 : (p.1.natAbs : Int) ≤ far
      · simp [b__law_is_share, blkE, wipeE, hnil, hnil2, e12, h1, h2, h3, es, hok, heq, small, isShareB]
      · simp [b__law_is_share, blkE, wipeE, hnil, hnil2, e12, h1, h2, h3, small, isShareB]
    · simp [b__law_is_share, blkE, wipeE, hnil, hnil2, e12, h1, h2, small, isShareB]
  · simp [b__law_is_share, blkE, wipeE, hnil, hnil2, e12, h1, small, isShareB]
end K83
set_option linter.all false
set_option maxRecDepth 100000
namespace K83
open Mi
open PySem (Str)
/-- a number with a sign -/
def sfig (a : List Nat) : Option Int := if a.take 1 = [45] then Option.map (fun n : Nat => -(n : Int)) (figs (a.drop 1)) else Option.map (fun n : Nat => (n : Int)) (figs a)
/-- a share's text, read -/
def rdShare (t : List Nat) : Option (Int × Int) := match TL.spl [47] 0 [] t with
  | [a] => match sfig a with
    | some i => if a = [45, 48] then none else if small (i, 1) = true then some (i, 1) else none
    | none => none
  | [a, b] => match sfig a, figs b with
    | some i, some j => if j = 1 ∨ a = [45, 48] then none else if small (i, j) = true then some (i, j) else none
    | _, _ => none
  | _ => none
def optS : Option (Int × Int) → D | none => .non | some p => sh p
theorem figs_lt {t : List Nat} {n : Nat} (h : figs t = some n) : n < 10 ^ 41 ∧ TL.numL n = t := by
  unfold figs at h
  split at h
  · rename_i hc
    obtain ⟨⟨h1, h2, h3⟩, h4⟩ := hc
    cases h
    have hne : t ≠ [] := fun e => by simp [e] at h1
    refine ⟨?_, num_dig _ t rfl hne h3 h4⟩
    have : ∀ (s : List Nat) (a : Nat), s.all isDig = true → s.foldl (fun a c => a * 10 + (c - 48)) a < (a + 1) * 10 ^ s.length := by
      intro s
      induction s with
      | nil => intro a _; simp
      | cons c r ih =>
        intro a hd
        rw [List.all_cons, Bool.and_eq_true, isDig_iff] at hd
        rw [List.foldl_cons, List.length_cons]
        have := ih (a * 10 + (c - 48)) hd.2
        have h2 : (a * 10 + (c - 48) + 1) * 10 ^ r.length ≤ ((a + 1) * 10) * 10 ^ r.length := Nat.mul_le_mul_right _ (by omega)
        rw [Nat.pow_succ, Nat.mul_comm (10 ^ r.length), ← Nat.mul_assoc]
        omega
    have := this t 0 h3
    have h5 : 10 ^ t.length ≤ 10 ^ 41 := Nat.pow_le_pow_right (by decide) h2
    unfold digVal
    omega
  · cases h
theorem big_of {n : Nat} (h : n < 10 ^ 41) : (n : Int) < big := by
  have : (10 : Int) ^ 41 < big := by decide +kernel
  have h2 : (n : Int) < ((10 ^ 41 : Nat) : Int) := Int.ofNat_lt.mpr h
  have h3 : ((10 ^ 41 : Nat) : Int) = (10 : Int) ^ 41 := by norm_cast
  omega
/-- what is asked of a text -/
structure TOk (t : List Nat) : Prop where
  len : t.length ≤ 15999998
  asc : ∀ c ∈ t, c < 1114112
theorem TOk.part {s : Nat} {t : List Nat} (h : TOk t) : ∀ p ∈ TL.spl [s] 0 [] t, TOk p := fun p hp =>
  ⟨by have := (spl_len (s := s) [] t).2 p hp; have := h.len; simp at *; omega, spl_mem (Q := fun c => c < 1114112) [] t (by simp) h.asc p hp⟩
theorem TOk.drop {t : List Nat} (h : TOk t) (k : Nat) : TOk (t.drop k) := ⟨by have := h.len; simp at *; omega, fun c hc => h.asc c (List.mem_of_mem_drop hc)⟩
theorem TOk.l16 {t : List Nat} (h : TOk t) : t.length ≤ 16777216 := by have := h.len; omega
theorem TOk.lz {t : List Nat} (h : TOk t) : t.length ≤ zmax := by have := h.len; show _ ≤ 16000000; omega
theorem TOk.split {t : List Nat} (h : TOk t) (S) (c : Nat) (hc : c < 256) : splitD S (.d (.str t)) [.d (.str [c])] = .ok (.d (.lst ((TL.spl [c] 0 [] t).map .str))) S := split1 S t c hc (by have := h.len; omega)
@[simp] theorem optN_isN (o) : isN (.d (optN o)) = o.isNone := by cases o <;> rfl
/-- the first number, as both read it -/
theorem s_sfig_law (n : Nat) (env : Env) (a : List Nat) (hx : TOk a) (S : Store) (e : Mi.E) (he : evE pg (callF pg (n+2)) e env S = .ok (.d (.str a)) S) :
    evE pg (callF pg (n+2)) (.ife (.cmp .eq (.sl false e [] [(.int 1)]) (.str [45])) (.call 37 [(.sl false e [(.int 1)] [])] []) (.call 37 [e] [])) env S = .ok (.d (optN (if a.take 1 = [45] then figs (a.drop 1) else figs a))) S := by
  by_cases h : a.take 1 = [45]
  · have := s_law_figures (n+1) (a.drop 1) S (hx.drop 1).lz (hx.drop 1).asc
    simp at this
    simp [he, sl_head S a hx.l16, sl_tail S a hx.l16, h, this]
  · simp [he, sl_head S a hx.l16, sl_tail S a hx.l16, h, s_law_figures (n+1) a S hx.lz hx.asc]
theorem sfig_none {a : List Nat} : sfig a = none ↔ (if a.take 1 = [45] then figs (a.drop 1) else figs a) = none := by
  unfold sfig; split <;> simp only [Option.map_eq_none_iff]
theorem sfig_some {a : List Nat} {m : Nat} (h : (if a.take 1 = [45] then figs (a.drop 1) else figs a) = some m) : sfig a = some (if a.take 1 = [45] then -(m : Int) else m) := by
  unfold sfig; split <;> simp_all
theorem sfig_bd {a : List Nat} {i : Int} (h : sfig a = some i) : i.natAbs < 10 ^ 41 := by
  unfold sfig at h
  split at h
  · cases q : figs (a.drop 1) with
    | none => rw [q] at h; cases h
    | some m => rw [q] at h; simp only [Option.map_some, Option.some.injEq] at h; have := (figs_lt q).1; omega
  · cases q : figs a with
    | none => rw [q] at h; cases h
    | some m => rw [q] at h; simp only [Option.map_some, Option.some.injEq] at h; have := (figs_lt q).1; omega
theorem sgn_law (env : Env) (F : Call) (S : Store) (a : List Nat) (ha : TOk a) (m : Nat) (e x : Mi.E) (he : evE pg F e env S = .ok (.d (.str a)) S) (hx : evE pg F x env S = .ok (.d (.int m)) S) :
    evE pg F (.ife (.cmp .eq (.sl false e [] [(.int 1)]) (.str [45])) (.bin .sub false (.int 0) x) x) env S = .ok (.d (.int (if a.take 1 = [45] then -(m : Int) else m))) S := by
  by_cases h : a.take 1 = [45] <;> simp [he, hx, sl_head S a ha.l16, h]
theorem s_law_read_share (n : Nat) (t : List Nat) (S : Store) (hx : TOk t) : callF pg (n+3) 38 [.d (.str t)] S = .ok (.d (optS (rdShare t))) S := by
  rw [c__law_read_share]
  refine fin_rt ?_
  have hsp := hx.split S 47 (by decide)
  have hpt := hx.part (s := 47)
  have hne : TL.spl [47] 0 [] t ≠ [] := spl_ne _ _ _
  unfold rdShare
  generalize TL.spl [47] 0 [] t = ps at *
  cases ps with
  | nil => exact absurd rfl hne
  | cons a r =>
    have ha := hpt a (by simp)
    refine step_nx [some (.d (.str t)), some (.d (.lst ((a :: r).map .str))), none, none, none] S (by simp [hsp]) ?_
    generalize htop : (if a.take 1 = [45] then figs (a.drop 1) else figs a) = top
    refine step_nx [some (.d (.str t)), some (.d (.lst ((a :: r).map .str))), some (.d (optN top)), none, none] S (by
      have hsf := s_sfig_law n [some (.d (.str t)), some (.d (.lst ((a :: r).map .str))), none, none, none] a ha S (.idx (.var 1) (.int 0)) (by simp)
      rw [exS_asg, hsf, htop]; simp) ?_
    have hlast : ∀ (i j : Int) (v2 v3 : Option Vl), j < big → exSs pg (callF pg (n+2)) [.ret (.ife (.call 31 [(.var 4)] []) (.var 4) .non)] [some (.d (.str t)), some (.d (.lst ((a :: r).map .str))), v2, v3, some (.d (sh (i, j)))] S = .rt (.d (optS (if small (i, j) = true then some (i, j) else none))) S := fun i j v2 v3 hj => by
      have := s_law_is_share n (i, j) S hj
      refine step_rt ?_
      by_cases h : small (i, j) = true <;> simp [this, h, optS]
    match r, hpt, hlast with
    | [], hpt, hlast =>
      refine step_nx [some (.d (.str t)), some (.d (.lst ([a].map .str))), some (.d (optN top)), some (.d (.int 1)), none] S (by simp) ?_
      dsimp only
      cases top with
      | none =>
        rw [sfig_none.mpr htop]
        exact step_rt (by simp [optS, optN])
      | some m =>
        rw [sfig_some htop]
        dsimp only
        by_cases hz : a = [45, 48]
        · rw [if_pos hz]; exact step_rt (by simp [optS, optN, eq_true hz])
        · rw [if_neg hz]
          refine step_nx [some (.d (.str t)), some (.d (.lst ([a].map .str))), some (.d (optN (some m))), some (.d (.int 1)), none] S (by simp [hz, optN]) ?_
          have hsg := fun env F S he hx => sgn_law env F S a ha m (.idx (.var 1) (.int 0)) (.var 2) he hx
          refine step_nx [some (.d (.str t)), some (.d (.lst ([a].map .str))), some (.d (.int m)), some (.d (.int 1)), some (.d (sh (if a.take 1 = [45] then -(m : Int) else m, 1)))] S (by
            rw [exS_asg, evE_tup, evEs_cons, hsg _ _ S (by simp) (by simp [optN])]; simp [optN]) ?_
          exact hlast _ 1 _ _ (by show (1:Int) < big; decide +kernel)
    | [b], hpt, hlast =>
      have hb := hpt b (by simp)
      refine step_nx [some (.d (.str t)), some (.d (.lst ([a, b].map .str))), some (.d (optN top)), some (.d (optN (figs b))), none] S (by simp [s_law_figures (n+1) b S hb.lz hb.asc]) ?_
      dsimp only
      cases top with
      | none =>
        rw [sfig_none.mpr htop]
        exact step_rt (by simp [optS, optN])
      | some m =>
        rw [sfig_some htop]
        cases hfb : figs b with
        | none => exact step_rt (by simp [optS, optN])
        | some j =>
          dsimp only
          by_cases hz : (j : Int) = 1 ∨ a = [45, 48]
          · rw [if_pos (hz.imp (fun h => by omega) id)]
            refine step_rt ?_
            rcases hz with h | h
            · simp [optS, optN, eq_true h]
            · by_cases h1 : (j : Int) = 1
              · simp [optS, optN, eq_true h1]
              · simp [optS, optN, eq_true h, h1]
          · have hz1 : ¬ (j : Int) = 1 := fun h => hz (.inl h)
            have hz2 : ¬ a = [45, 48] := fun h => hz (.inr h)
            rw [if_neg (fun h => h.elim (fun h => hz1 (by omega)) hz2)]
            refine step_nx [some (.d (.str t)), some (.d (.lst ([a, b].map .str))), some (.d (optN (some m))), some (.d (optN (some j))), none] S (by simp [hz1, hz2, optN]) ?_
            have hsg := fun env F S he hx => sgn_law env F S a ha m (.idx (.var 1) (.int 0)) (.var 2) he hx
            refine step_nx [some (.d (.str t)), some (.d (.lst ([a, b].map .str))), some (.d (.int m)), some (.d (.int j)), some (.d (sh (if a.take 1 = [45] then -(m : Int) else m, j)))] S (by
              rw [exS_asg, evE_tup, evEs_cons, hsg _ _ S (by simp) (by simp [optN])]; simp [optN]) ?_
            exact hlast _ j _ _ (big_of (figs_lt hfb).1)
    | b :: c :: r', hpt, hlast =>
      have e2 : ¬ ((r'.length : Int) + 1 + 1 + 1 = 2) := by omega
      have e3 : (2:Int) < (r'.length : Int) + 1 + 1 + 1 := by omega
      refine step_nx [some (.d (.str t)), some (.d (.lst ((a :: b :: c :: r').map .str))), some (.d (optN top)), some (.d (.int 1)), none] S (by simp [e2]) ?_
      exact step_rt (by simp [optS, e3])
end K83
set_option linter.all false
set_option maxRecDepth 100000
namespace K83
open Mi
open PySem (Str)
theorem numI_47 (i : Int) : 47 ∉ numI i := fun h => by
  have := numI_mem i 47 h
  omega
theorem spl_wr (p : Int × Int) : TL.spl [47] 0 [] (wr p) = if p.2 = 1 then [numI p.1] else [numI p.1, numI p.2] := by
  unfold wr
  split
  · rw [TL.spl_last1 (numI_47 _), List.nil_append]
  · rw [List.append_assoc]
    have := TL.spl_part1 (s := 47) (S := []) (acc := []) (rest := numI p.2) (numI_47 p.1)
    rw [this, TL.spl_last1 (numI_47 _)]; simp
theorem wr_iff (p : Int × Int) (t : List Nat) : wr p = t ↔ TL.spl [47] 0 [] t = (if p.2 = 1 then [numI p.1] else [numI p.1, numI p.2]) := by
  constructor
  · intro h; rw [← h, spl_wr]
  · intro h
    have := join_spl (s := 47) [] t
    rw [h] at this
    rw [List.nil_append] at this
    rw [← this]
    unfold wr
    split <;> simp [TL.joinL]
theorem figs_nil : figs [] = none := rfl
/-- the first number's text -/
theorem num_sfig {a : List Nat} {m : Nat} (h : (if a.take 1 = [45] then figs (a.drop 1) else figs a) = some m) : numI (if a.take 1 = [45] then -(m : Int) else m) = a ↔ a ≠ [45, 48] := by
  by_cases hm : a.take 1 = [45]
  · rw [if_pos hm] at h ⊢
    have hn := (figs_lt h).2
    cases a with
    | nil => simp at hm
    | cons c r =>
      simp at hm hn
      subst hm
      by_cases h0 : m = 0
      · subst h0
        have : r = [48] := by rw [← hn]; exact TL.numL_lt (by decide)
        subst this
        have : numI (-((0 : Nat) : Int)) = [48] := by decide
        rw [this]; simp
      · have e : numI (-(m : Int)) = 45 :: r := by
          unfold numI
          rw [if_pos (by omega), show (-(m : Int)).natAbs = m by omega, hn]
        rw [e]
        simp
        intro hr
        rw [hr] at hn
        have := TL.numL_lt (n := 0) (by decide)
        have e2 : digVal (TL.numL m) = m := by
          have := (figs_lt h); 
          unfold figs at h; split at h
          · simp at h; rw [hn, ← hr]; exact h
          · cases h
        rw [hn] at e2
        have : digVal [48] = 0 := rfl
        omega
  · rw [if_neg hm] at h ⊢
    have hn := (figs_lt h).2
    have e : numI (m : Int) = a := by
      unfold numI
      rw [if_neg (by omega), show ((m : Int)).natAbs = m by omega, hn]
    rw [e]
    simp
    intro ha
    rw [ha] at hm; simp at hm
theorem take_head {t a : List Nat} {r : List (List Nat)} (h : TL.spl [47] 0 [] t = a :: r) (hne : a ≠ []) : t.take 1 = a.take 1 := by
  have := join_spl (s := 47) [] t
  rw [h, List.nil_append] at this
  rw [← this]
  cases a with
  | nil => exact absurd rfl hne
  | cons c a =>
    cases r with
    | nil => rfl
    | cons b r => rfl
def shRes (o : Option (Int × Int)) (S : Store) : Res Vl := match o with
  | some p => .ok (.d (sh p)) S
  | none => .exc 2 .non S
def shFl (o : Option (Int × Int)) (env : Env) (S : Store) : Fl := match o with
  | some p => .rt (.d (sh p)) S
  | none => .ex 2 .non env S
theorem fin_sh {keep : Bool} {f : Fl} {S : Store} {o : Option (Int × Int)} (h : ∃ env, f = shFl o env S) : finish keep S.length f = shRes o S := by
  obtain ⟨env, rfl⟩ := h
  cases o <;> simp [shFl, shRes]
theorem s_sfig (n : Nat) (env : Env) (a : List Nat) (hx : TOk a) (S : Store) (e : Mi.E) (he : evE pg (callF pg (n+1)) e env S = .ok (.d (.str a)) S) :
    evE pg (callF pg (n+1)) (.call 13 [(.ife (.cmp .eq (.sl false e [] [(.int 1)]) (.str [45])) (.sl false e [(.int 1)] []) e)] []) env S = .ok (.d (optN (if a.take 1 = [45] then figs (a.drop 1) else figs a))) S := by
  by_cases h : a.take 1 = [45]
  · have := s_read_figures n (a.drop 1) S (hx.drop 1).lz
    simp at this
    simp [he, sl_head S a hx.l16, sl_tail S a hx.l16, h, this]
  · simp [he, sl_head S a hx.l16, sl_tail S a hx.l16, h, s_read_figures n a S hx.lz]
theorem s_read_share (n : Nat) (t : List Nat) (S : Store) (hx : TOk t) : callF pg (n+6) 16 [.d (.str t)] S = shRes (rdShare t) S := by
  rw [c_read_share]
  refine fin_sh ?_
  have hsp := hx.split S 47 (by decide)
  have hpt := hx.part (s := 47)
  have hne : TL.spl [47] 0 [] t ≠ [] := spl_ne _ _ _
  have hth := fun a r => take_head (t := t) (a := a) (r := r)
  have hwr := fun p => wr_iff p t
  unfold rdShare
  generalize TL.spl [47] 0 [] t = ps at *
  cases ps with
  | nil => exact absurd rfl hne
  | cons a r =>
    have ha := hpt a (by simp)
    have e1 : exS pg (callF pg (n+5)) (.iff (.not (.isi (.var 0) .str)) [(.rse 2 .non)] []) [some (.d (.str t)), none, none, none, none] S = .nx [some (.d (.str t)), none, none, none, none] S := by simp
    have e2 : exS pg (callF pg (n+5)) (.asg (.nm 1) (.mth .split (.var 0) [(.str [47])])) [some (.d (.str t)), none, none, none, none] S = .nx [some (.d (.str t)), some (.d (.lst ((a :: r).map .str))), none, none, none] S := by simp [hsp]
    generalize htop : (if a.take 1 = [45] then figs (a.drop 1) else figs a) = top
    have e3 : exS pg (callF pg (n+5)) (.asg (.nm 2) (.call 13 [(.ife (.cmp .eq (.sl false (.idx (.var 1) (.int 0)) [] [(.int 1)]) (.str [45])) (.sl false (.idx (.var 1) (.int 0)) [(.int 1)] []) (.idx (.var 1) (.int 0)))] [])) [some (.d (.str t)), some (.d (.lst ((a :: r).map .str))), none, none, none] S = .nx [some (.d (.str t)), some (.d (.lst ((a :: r).map .str))), some (.d (optN top)), none, none] S := by
      rw [exS_asg, s_sfig (n+4) _ a ha S _ (by simp), htop]; simp
    have hane : top ≠ none → a ≠ [] := fun h e => by subst e; simp [figs_nil] at htop; exact h htop.symm
    -- the last two rows
    have hlast : ∀ (m : Nat) (i j : Int) (v2 v3 : Option Vl), a ≠ [] → j < 10 ^ 41 → 0 ≤ j → i.natAbs < 10 ^ 41 → ∃ env, exSs pg (callF pg (n+5)) [(.iff (.or [(.not (.call 6 [(.var 4)] [])), (.cmp .ne (.call 14 [(.var 4)] []) (.var 0))]) [(.rse 2 .non)] []), .ret (.var 4)] [some (.d (.str t)), some (.d (.lst ((a :: r).map .str))), v2, v3, some (.d (sh (i, j)))] S = shFl (if small (i, j) = true ∧ wr (i, j) = t then some (i, j) else none) env S := fun m i j v2 v3 h0 hj hj0 hi => by
      have hb : j < big := Int.lt_trans hj (by decide +kernel)
      have h1 := s_is_small_share (n+1) (i, j) S hb
      have q1 : (10:Nat) ^ 41 < 10 ^ 500 := by decide +kernel
      have q2 : (10:Int) ^ 41 = ((10 ^ 41 : Nat) : Int) := by decide +kernel
      have h2 := s_written_share (n+4) (i, j) S (Nat.lt_trans hi q1) (by show j.natAbs < _; omega)
      by_cases hs : small (i, j) = true
      · by_cases hw : wr (i, j) = t
        · rw [if_pos ⟨hs, hw⟩]
          exact ⟨[], by simp [h1, hs, h2, eq_true hw, shFl]⟩
        · rw [if_neg (fun h => hw h.2)]
          exact ⟨[some (.d (.str t)), some (.d (.lst ((a :: r).map .str))), v2, v3, some (.d (sh (i, j)))], by simp [h1, hs, h2, hw, shFl]⟩
      · rw [if_neg (fun h => hs h.1)]
        exact ⟨[some (.d (.str t)), some (.d (.lst ((a :: r).map .str))), v2, v3, some (.d (sh (i, j)))], by simp [h1, hs, shFl]⟩
    have hsg : ∀ (m : Nat) (v3 : D), a ≠ [] → exS pg (callF pg (n+5)) (.asg (.nm 4) (.tup [(.ife (.cmp .eq (.sl false (.var 0) [] [(.int 1)]) (.str [45])) (.bin .sub false (.int 0) (.var 2)) (.var 2)), (.var 3)])) [some (.d (.str t)), some (.d (.lst ((a :: r).map .str))), some (.d (.int m)), some (.d v3), none] S = .nx [some (.d (.str t)), some (.d (.lst ((a :: r).map .str))), some (.d (.int m)), some (.d v3), some (.d (.tup [.int (if a.take 1 = [45] then -(m : Int) else m), v3]))] S := fun m v3 h0 => by
      have h1 := sl_head S t hx.l16
      rw [hth a r rfl h0] at h1
      by_cases h : a.take 1 = [45] <;> simp [h1, h]
    rw [b_read_share]
    have hib : ∀ m : Nat, top = some m → (if a.take 1 = [45] then -(m : Int) else m).natAbs < 10 ^ 41 := fun m hm => sfig_bd (sfig_some (htop.trans hm))
    match r, hpt, hlast, hsg, e2, e3, hwr with
    | [], hpt, hlast, hsg, e2, e3, hwr =>
      dsimp only
      cases top with
      | none =>
        rw [sfig_none.mpr htop]
        exact ⟨[some (.d (.str t)), some (.d (.lst ([a].map .str))), some (.d (optN none)), some (.d (.int 1)), none], step_nx _ _ e1 (step_nx _ _ e2 (step_nx _ _ e3 (step_nx [some (.d (.str t)), some (.d (.lst ([a].map .str))), some (.d (optN none)), some (.d (.int 1)), none] S (by simp) (step_ex (by simp [optN]) )) ))⟩
      | some m =>
        rw [sfig_some htop]
        obtain ⟨env, hl⟩ := hlast m (if a.take 1 = [45] then -(m : Int) else m) 1 (some (.d (.int m))) (some (.d (.int 1))) (hane (by simp)) (by decide +kernel) (by decide) (hib m rfl)
        refine ⟨env, step_nx _ _ e1 (step_nx _ _ e2 (step_nx _ _ e3 (step_nx [some (.d (.str t)), some (.d (.lst ([a].map .str))), some (.d (optN (some m))), some (.d (.int 1)), none] S (by simp) (step_nx [some (.d (.str t)), some (.d (.lst ([a].map .str))), some (.d (optN (some m))), some (.d (.int 1)), none] S (by simp [optN]) (step_nx _ _ (hsg m (.int 1) (hane (by simp))) (hl.trans ?_))))))⟩
        have : wr (if a.take 1 = [45] then -(m : Int) else m, 1) = t ↔ a ≠ [45, 48] := by
          rw [hwr, if_pos rfl, ← num_sfig htop]
          constructor
          · intro h; exact (List.cons.inj h).1.symm
          · intro h; rw [h]
        dsimp only
        by_cases hz : a = [45, 48]
        · rw [if_pos hz, if_neg (fun h => this.mp h.2 hz)]
        · rw [if_neg hz]; congr 1; exact ifc (by simp [this.mpr hz])
    | [b], hpt, hlast, hsg, e2, e3, hwr =>
      dsimp only
      have hb := hpt b (by simp)
      have e4 : exS pg (callF pg (n+5)) (.asg (.nm 3) (.ife (.cmp .eq (.blt .len false [(.var 1)]) (.int 1)) (.int 1) (.call 13 [(.idx (.var 1) (.int 1))] []))) [some (.d (.str t)), some (.d (.lst ([a, b].map .str))), some (.d (optN top)), none, none] S = .nx [some (.d (.str t)), some (.d (.lst ([a, b].map .str))), some (.d (optN top)), some (.d (optN (figs b))), none] S := by simp [s_read_figures (n+4) b S hb.lz]
      cases top with
      | none =>
        rw [sfig_none.mpr htop]
        exact ⟨[some (.d (.str t)), some (.d (.lst ([a, b].map .str))), some (.d (optN none)), some (.d (optN (figs b))), none], step_nx _ _ e1 (step_nx _ _ e2 (step_nx _ _ e3 (step_nx _ _ e4 (step_ex (by simp [optN]) )) ))⟩
      | some m =>
        rw [sfig_some htop]
        cases hfb : figs b with
        | none =>
          rw [hfb] at e4
          exact ⟨[some (.d (.str t)), some (.d (.lst ([a, b].map .str))), some (.d (optN (some m))), some (.d (optN none)), none], step_nx _ _ e1 (step_nx _ _ e2 (step_nx _ _ e3 (step_nx _ _ e4 (step_ex (by simp [optN]) )) ))⟩
        | some j =>
          rw [hfb] at e4
          have hj := (figs_lt hfb)
          have q2 : (10:Int) ^ 41 = ((10 ^ 41 : Nat) : Int) := by decide +kernel
          obtain ⟨env, hl⟩ := hlast m (if a.take 1 = [45] then -(m : Int) else m) j (some (.d (.int m))) (some (.d (.int j))) (hane (by simp)) (by omega) (by omega) (hib m rfl)
          refine ⟨env, step_nx _ _ e1 (step_nx _ _ e2 (step_nx _ _ e3 (step_nx _ _ e4 (step_nx [some (.d (.str t)), some (.d (.lst ([a, b].map .str))), some (.d (optN (some m))), some (.d (optN (some j))), none] S (by simp [optN]) (step_nx _ _ (hsg m (.int j) (hane (by simp))) (hl.trans ?_))))))⟩
          have : wr (if a.take 1 = [45] then -(m : Int) else m, (j : Int)) = t ↔ ¬ (j = 1 ∨ a = [45, 48]) := by
            rw [hwr]
            dsimp only
            have hnj : numI (j : Int) = b := by
              unfold numI
              rw [if_neg (by omega), show ((j : Int)).natAbs = j by omega, hj.2]
            by_cases h1 : (j : Int) = 1
            · rw [if_pos h1]; simp; intro h; omega
            · rw [if_neg h1, hnj]
              have := num_sfig htop
              constructor
              · intro h; have h' := (List.cons.inj h).1.symm
                intro hh; exact hh.elim (fun e => h1 (by omega)) (this.mp h')
              · intro h; rw [this.mpr (fun e => h (.inr e))]
          dsimp only
          by_cases hz : j = 1 ∨ a = [45, 48]
          · rw [if_pos hz, if_neg (fun h => this.mp h.2 hz)]
          · rw [if_neg hz]; congr 1; exact ifc (by simp [this.mpr hz])
    | b :: c :: r', hpt, hlast, hsg, e2, e3, hwr =>
      have hb := hpt b (by simp)
      have hn1 : ¬ ((r'.length : Int) + 1 + 1 + 1 = 1) := by omega
      have e4 : exS pg (callF pg (n+5)) (.asg (.nm 3) (.ife (.cmp .eq (.blt .len false [(.var 1)]) (.int 1)) (.int 1) (.call 13 [(.idx (.var 1) (.int 1))] []))) [some (.d (.str t)), some (.d (.lst ((a :: b :: c :: r').map .str))), some (.d (optN top)), none, none] S = .nx [some (.d (.str t)), some (.d (.lst ((a :: b :: c :: r').map .str))), some (.d (optN top)), some (.d (optN (figs b))), none] S := by simp [s_read_figures (n+4) b S hb.lz, hn1]
      dsimp only
      cases top with
      | none =>
        exact ⟨[some (.d (.str t)), some (.d (.lst ((a :: b :: c :: r').map .str))), some (.d (optN none)), some (.d (optN (figs b))), none], step_nx _ _ e1 (step_nx _ _ e2 (step_nx _ _ e3 (step_nx _ _ e4 (step_ex (by simp [optN]) )) ))⟩
      | some m =>
        cases hfb : figs b with
        | none =>
          rw [hfb] at e4
          exact ⟨[some (.d (.str t)), some (.d (.lst ((a :: b :: c :: r').map .str))), some (.d (optN (some m))), some (.d (optN none)), none], step_nx _ _ e1 (step_nx _ _ e2 (step_nx _ _ e3 (step_nx _ _ e4 (step_ex (by simp [optN]) )) ))⟩
        | some j =>
          rw [hfb] at e4
          have hj := (figs_lt hfb)
          have q2 : (10:Int) ^ 41 = ((10 ^ 41 : Nat) : Int) := by decide +kernel
          obtain ⟨env, hl⟩ := hlast m (if a.take 1 = [45] then -(m : Int) else m) j (some (.d (.int m))) (some (.d (.int j))) (hane (by simp)) (by omega) (by omega) (hib m rfl)
          refine ⟨env, step_nx _ _ e1 (step_nx _ _ e2 (step_nx _ _ e3 (step_nx _ _ e4 (step_nx [some (.d (.str t)), some (.d (.lst ((a :: b :: c :: r').map .str))), some (.d (optN (some m))), some (.d (optN (some j))), none] S (by simp [optN]) (step_nx _ _ (hsg m (.int j) (hane (by simp))) (hl.trans ?_))))))⟩
          rw [if_neg (fun h => ?_)]
          have := (hwr _).mp h.2
          dsimp only at this
          by_cases h1 : (j : Int) = 1
          · rw [if_pos h1] at this; simp at this
          · rw [if_neg h1] at this; simp at this
end K83
set_option linter.all false
set_option maxRecDepth 100000
namespace K83
open Mi
open PySem (Str)
theorem cut_take {α : Type} (a : List α) (k : Nat) : cutL a none (some (k : Int)) = a.take k := by
  unfold cutL HT.sIx
  simp only [List.drop_zero, Nat.sub_zero]
  rw [if_neg (by omega), Int.toNat_natCast]
  by_cases h : k ≤ a.length
  · rw [Nat.min_eq_left h]
  · rw [Nat.min_eq_right (by omega), List.take_of_length_le (by omega), List.take_of_length_le (by omega)]
theorem cut_drop {α : Type} (a : List α) (k : Nat) : cutL a (some (k : Int)) none = a.drop k := by
  unfold cutL HT.sIx
  simp only []
  rw [if_neg (by omega), Int.toNat_natCast]
  by_cases h : k ≤ a.length
  · rw [Nat.min_eq_left h, List.take_of_length_le (by simp)]
  · rw [Nat.min_eq_right (by omega), List.drop_of_length_le (Nat.le_refl _), List.drop_of_length_le (by omega)]; simp
@[simp] theorem slD_tup3 (mu a S) : slD mu (.d (.tup a)) none (some 3) S = .ok (.d (.tup (a.take 3))) S := by
  show Res.ok (Vl.d (.tup (cutL a none (some 3)))) S = _
  rw [show (3 : Int) = ((3 : Nat) : Int) from rfl, cut_take]
@[simp] theorem slD_lst3 (mu a S) : slD mu (.d (.lst a)) none (some 3) S = newL mu (a.take 3) S := by
  show newL mu (cutL a none (some 3)) S = _
  rw [show (3 : Int) = ((3 : Nat) : Int) from rfl, cut_take]
@[simp] theorem slD_lst4 (mu a S) : slD mu (.d (.lst a)) (some 4) none S = newL mu (a.drop 4) S := by
  show newL mu (cutL a (some 4) none) S = _
  rw [show (4 : Int) = ((4 : Nat) : Int) from rfl, cut_drop]
abbrev Stp := Nat × Nat × Nat × (Int × Int)
/-- a step -/
abbrev stD (s : Stp) : D := .tup [.int s.1, .int s.2.1, .int s.2.2.1, sh s.2.2.2]
def stepOk (s : Stp) : Bool := decide (s.1 ≤ 99) && decide (s.2.1 ≤ 99) && decide (s.2.2.1 ≤ 99) && decide (0 < s.2.2.2.1) && decide (s.2.2.2.1 ≤ s.2.2.2.2)
def mkStep : Option Nat → Option Nat → Option Nat → Option (Int × Int) → Option Stp
  | some a, some b, some c, some p => if stepOk (a, b, c, p) = true then some (a, b, c, p) else none
  | _, _, _, _ => none
def rdS2 : List (List Nat) → List (List Nat) → Option Stp
  | [_, y, z], [u, v] => mkStep (figs u) (figs y) (figs v) (rdShare z)
  | _, _ => none
/-- a step's text, read -/
def rdStep (t : List Nat) : Option Stp := rdS2 (TL.spl [58] 0 [] t) (TL.spl [62] 0 [] ((TL.spl [58] 0 [] t).headD []))
def optT : Option Stp → D | none => .non | some p => stD p
def stRes (o : Option Stp) (S : Store) : Res Vl := match o with
  | some p => .ok (.d (stD p)) S
  | none => .exc 2 .non S
theorem rdShare_small {t : List Nat} {p : Int × Int} (h : rdShare t = some p) : small p = true := by
  unfold rdShare at h
  split at h
  · split at h
    · split at h
      · cases h
      · split at h
        · rename_i hs; cases h; exact hs
        · cases h
    · cases h
  · split at h
    · split at h
      · cases h
      · split at h
        · rename_i hs; cases h; exact hs
        · cases h
    · cases h
  · cases h
theorem s_is_small_chance (n : Nat) (p : Int × Int) (S : Store) (hb : p.2 < big) : callF pg (n+5) 12 [.d (sh p)] S = .ok (.d (.bl (small p && (decide (0 ≤ p.1) && decide (p.1 ≤ p.2))))) S := by
  rw [c_is_small_chance]
  simp [b_is_small_chance, s_is_small_share n p S hb]
def le99 : Option Nat → Bool | some n => decide (n ≤ 99) | none => false
theorem among_opt (o : Option Nat) (k : Nat) : amongB (optN o) 0 k = (match o with | some n => decide (n ≤ k) | none => false) := by
  cases o with
  | none => rfl
  | some n =>
    show (decide ((0:Int) ≤ n) && decide ((n:Int) ≤ k)) = decide (n ≤ k)
    rw [show decide ((0:Int) ≤ n) = true from decide_eq_true (by omega), Bool.true_and]
    exact decide_eq_decide.mpr (by omega)
theorem s_is_some_step (n : Nat) (a b c : Option Nat) (p : Int × Int) (S : Store) (hp : small p = true) : callF pg (n+6) 17 [.d (.tup [optN a, optN b, optN c, sh p])] S = .ok (.d (.bl (le99 a && (le99 b && le99 c) && (decide (0 < p.1) && decide (p.1 ≤ p.2))))) S := by
  rw [c_is_some_step]
  have hc := s_is_small_chance n p S (small_bd' hp).2.2
  have g9 : pg.gls[9]? = some (.int 99) := rfl
  have h99 : ∀ o, amongB (optN o) 0 99 = le99 o := fun o => among_opt o 99
  have hcomp : compB pg (callF pg (n+5)) (.nm 1) [] (.call 1 [(.var 1), (.int 0), (.gl 9)] []) (blkE [some (.d (.tup [optN a, optN b, optN c, sh p])), none] [1]) [optN a, optN b, optN c] [] S = .ok [.bl (le99 a), .bl (le99 b), .bl (le99 c)] S := by
    simp [blkE, wipeE, blkV, g9, h99]
  refine fin_rt ?_
  rw [b_is_some_step]
  cases hq : (le99 a && (le99 b && le99 c)) with
  | false =>
    exact step_rt (by simp [-compB_cons, tupB, hcomp, allB, hq])
  | true =>
    refine step_nx [some (.d (.tup [optN a, optN b, optN c, sh p])), none] S (by simp [-compB_cons, tupB, hcomp, allB, hq]) ?_
    refine step_rt ?_
    by_cases h0 : 0 < p.1
    · simp [hc, hp, h0, show 0 ≤ p.1 by omega]
    · simp [hc, hp, h0]
theorem stepOk_eq (a b c : Nat) (p : Int × Int) : stepOk (a, b, c, p) = (le99 (some a) && (le99 (some b) && le99 (some c)) && (decide (0 < p.1) && decide (p.1 ≤ p.2))) := by
  simp [stepOk, le99, Bool.and_assoc]
theorem s_read_step (n : Nat) (t : List Nat) (S : Store) (hx : TOk t) : callF pg (n+7) 19 [.d (.str t)] S = stRes (rdStep t) S := by
  rw [c_read_step]
  have hsp := hx.split S 58 (by decide)
  have hpt := hx.part (s := 58)
  have hne : TL.spl [58] 0 [] t ≠ [] := spl_ne _ _ _
  unfold rdStep
  generalize TL.spl [58] 0 [] t = ps at *
  cases ps with
  | nil => exact absurd rfl hne
  | cons x r =>
    have hxx := hpt x (by simp)
    have hsx := hxx.split S 62 (by decide)
    have hpx := hxx.part (s := 62)
    rw [show (x :: r).headD [] = x from rfl]
    generalize hes : TL.spl [62] 0 [] x = es at *
    rw [b_read_step]
    have e1 : exS pg (callF pg (n+6)) (.iff (.not (.isi (.var 0) .str)) [(.rse 2 .non)] []) [some (.d (.str t)), none, none, none] S = .nx [some (.d (.str t)), none, none, none] S := by simp
    have e2 : exS pg (callF pg (n+6)) (.asg (.nm 1) (.mth .split (.var 0) [(.str [58])])) [some (.d (.str t)), none, none, none] S = .nx [some (.d (.str t)), some (.d (.lst ((x :: r).map .str))), none, none] S := by simp [hsp]
    have e3 : exS pg (callF pg (n+6)) (.asg (.nm 2) (.mth .split (.idx (.var 1) (.int 0)) [(.str [62])])) [some (.d (.str t)), some (.d (.lst ((x :: r).map .str))), none, none] S = .nx [some (.d (.str t)), some (.d (.lst ((x :: r).map .str))), some (.d (.lst (es.map .str))), none] S := by simp [hsx]
    have hbad : ¬ (r.length + 1 = 3 ∧ es.length = 2) → ∃ env, exSs pg (callF pg (n+6)) b_read_step [some (.d (.str t)), none, none, none] S = .ex 2 .non env S := fun hb => by
      rw [b_read_step]
      refine ⟨[some (.d (.str t)), some (.d (.lst ((x :: r).map .str))), some (.d (.lst (es.map .str))), none], step_nx _ _ e1 (step_nx _ _ e2 (step_nx _ _ e3 (step_ex ?_)))⟩
      by_cases h1 : (r.length : Int) + 1 = 3
      · have h2 : ¬ (es.length : Int) = 2 := fun h => hb ⟨by omega, by omega⟩
        simp [h1, h2]
      · simp [h1]
    rw [b_read_step] at hbad
    match r, es, hpt, hpx, hbad, e2, e3 with
    | [y, z], [u, v], hpt, hpx, hbad, e2, e3 =>
      have hy := hpt y (by simp)
      have hz := hpt z (by simp)
      have hu := hpx u (by simp)
      have hv := hpx v (by simp)
      rw [show rdS2 [x, y, z] [u, v] = mkStep (figs u) (figs y) (figs v) (rdShare z) from rfl]
      have e4 : exS pg (callF pg (n+6)) (.iff (.or [(.cmp .ne (.blt .len false [(.var 1)]) (.int 3)), (.cmp .ne (.blt .len false [(.var 2)]) (.int 2))]) [(.rse 2 .non)] []) [some (.d (.str t)), some (.d (.lst ([x, y, z].map .str))), some (.d (.lst ([u, v].map .str))), none] S = .nx [some (.d (.str t)), some (.d (.lst ([x, y, z].map .str))), some (.d (.lst ([u, v].map .str))), none] S := by simp
      have f1 := s_read_figures (n+5) u S hu.lz
      have f2 := s_read_figures (n+5) y S hy.lz
      have f3 := s_read_figures (n+5) v S hv.lz
      have f4 := s_read_share n z S hz
      cases hq : rdShare z with
      | none =>
        rw [hq] at f4
        have : mkStep (figs u) (figs y) (figs v) none = none := by unfold mkStep; split <;> simp_all
        rw [this]
        exact fin_ex (step_nx _ _ e1 (step_nx _ _ e2 (step_nx _ _ e3 (step_nx _ _ e4 (step_ex (by simp [f1, f2, f3, f4, shRes]; rfl))))))
      | some p =>
        rw [hq] at f4
        have hp := rdShare_small hq
        have hss := s_is_some_step n (figs u) (figs y) (figs v) p S hp
        have e5 : exS pg (callF pg (n+6)) (.asg (.nm 3) (.tup [(.call 13 [(.idx (.var 2) (.int 0))] []), (.call 13 [(.idx (.var 1) (.int 1))] []), (.call 13 [(.idx (.var 2) (.int 1))] []), (.call 16 [(.idx (.var 1) (.int 2))] [])])) [some (.d (.str t)), some (.d (.lst ([x, y, z].map .str))), some (.d (.lst ([u, v].map .str))), none] S = .nx [some (.d (.str t)), some (.d (.lst ([x, y, z].map .str))), some (.d (.lst ([u, v].map .str))), some (.d (.tup [optN (figs u), optN (figs y), optN (figs v), sh p]))] S := by
          simp [f1, f2, f3, f4, shRes]
        generalize figs u = a at *
        generalize figs y = b at *
        generalize figs v = c at *
        cases hok : (le99 a && (le99 b && le99 c) && (decide (0 < p.1) && decide (p.1 ≤ p.2))) with
        | false =>
          rw [hok] at hss
          have : mkStep a b c (some p) = none := by
            cases a <;> cases b <;> cases c <;> simp only [mkStep]
            rw [stepOk_eq, hok]; rfl
          rw [this]
          exact fin_ex (step_nx _ _ e1 (step_nx _ _ e2 (step_nx _ _ e3 (step_nx _ _ e4 (step_nx _ _ e5 (step_ex (by simp [hss]; rfl)))))))
        | true =>
          rw [hok] at hss
          cases a with
          | none => simp [le99] at hok
          | some a =>
          cases b with
          | none => simp [le99] at hok
          | some b =>
          cases c with
          | none => simp [le99] at hok
          | some c =>
          have : mkStep (some a) (some b) (some c) (some p) = some (a, b, c, p) := by
            simp only [mkStep]
            rw [stepOk_eq, hok]; rfl
          rw [this]
          exact fin_rt (step_nx _ _ e1 (step_nx _ _ e2 (step_nx _ _ e3 (step_nx _ _ e4 (step_nx _ _ e5 (step_nx _ S (by simp [hss]; rfl) (step_rt (by simp [optN]))))))))
    | [y, z], [], hpt, hpx, hbad, e2, e3 => obtain ⟨env, h⟩ := hbad (by simp); exact fin_ex h
    | [y, z], [_], hpt, hpx, hbad, e2, e3 => obtain ⟨env, h⟩ := hbad (by simp); exact fin_ex h
    | [y, z], _ :: _ :: _ :: _, hpt, hpx, hbad, e2, e3 => obtain ⟨env, h⟩ := hbad (by simp); exact fin_ex h
    | [], es, hpt, hpx, hbad, e2, e3 => obtain ⟨env, h⟩ := hbad (by simp); exact fin_ex h
    | [_], es, hpt, hpx, hbad, e2, e3 => obtain ⟨env, h⟩ := hbad (by simp); exact fin_ex h
    | _ :: _ :: _ :: _, es, hpt, hpx, hbad, e2, e3 => obtain ⟨env, h⟩ := hbad (by simp); exact fin_ex h
end K83
set_option linter.all false
set_option maxRecDepth 100000
namespace K83
open Mi
open PySem (Str)
theorem in_none (a b c : Option Nat) (o : Option (Int × Int)) (S : Store) : cmpD .in_ (.d .non) (.d (.tup [optN a, optN b, optN c, optS o])) S = some (a.isNone || (b.isNone || (c.isNone || o.isNone))) := by
  cases a <;> cases b <;> cases c <;> cases o <;> rfl
theorem s_law_read_step (n : Nat) (t : List Nat) (S : Store) (hx : TOk t) : callF pg (n+4) 39 [.d (.str t)] S = .ok (.d (optT (rdStep t))) S := by
  rw [c__law_read_step]
  refine fin_rt ?_
  have hsp := hx.split S 58 (by decide)
  have hpt := hx.part (s := 58)
  have hne : TL.spl [58] 0 [] t ≠ [] := spl_ne _ _ _
  unfold rdStep
  generalize TL.spl [58] 0 [] t = ps at *
  cases ps with
  | nil => exact absurd rfl hne
  | cons x r =>
    have hxx := hpt x (by simp)
    have hsx := hxx.split S 62 (by decide)
    have hpx := hxx.part (s := 62)
    rw [show (x :: r).headD [] = x from rfl]
    generalize hes : TL.spl [62] 0 [] x = es at *
    rw [b__law_read_step]
    have e2 : exS pg (callF pg (n+3)) (.asg (.nm 1) (.mth .split (.var 0) [(.str [58])])) [some (.d (.str t)), none, none, none] S = .nx [some (.d (.str t)), some (.d (.lst ((x :: r).map .str))), none, none] S := by simp [hsp]
    have e3 : exS pg (callF pg (n+3)) (.asg (.nm 2) (.mth .split (.idx (.var 1) (.int 0)) [(.str [62])])) [some (.d (.str t)), some (.d (.lst ((x :: r).map .str))), none, none] S = .nx [some (.d (.str t)), some (.d (.lst ((x :: r).map .str))), some (.d (.lst (es.map .str))), none] S := by simp [hsx]
    have hbad : ¬ (r.length + 1 = 3 ∧ es.length = 2) → exSs pg (callF pg (n+3)) b__law_read_step [some (.d (.str t)), none, none, none] S = .rt (.d .non) S := fun hb => by
      rw [b__law_read_step]
      refine step_nx _ _ e2 (step_nx _ _ e3 (step_rt ?_))
      by_cases h1 : (r.length : Int) + 1 = 3
      · have h2 : ¬ (es.length : Int) = 2 := fun h => hb ⟨by omega, by omega⟩
        simp [h1, h2]
      · simp [h1]
    rw [b__law_read_step] at hbad
    match r, es, hpt, hpx, hbad, e2, e3 with
    | [y, z], [u, v], hpt, hpx, hbad, e2, e3 =>
      have hy := hpt y (by simp)
      have hz := hpt z (by simp)
      have hu := hpx u (by simp)
      have hv := hpx v (by simp)
      rw [show rdS2 [x, y, z] [u, v] = mkStep (figs u) (figs y) (figs v) (rdShare z) from rfl]
      have e4 : exS pg (callF pg (n+3)) (.iff (.or [(.cmp .ne (.blt .len false [(.var 1)]) (.int 3)), (.cmp .ne (.blt .len false [(.var 2)]) (.int 2))]) [(.ret .non)] []) [some (.d (.str t)), some (.d (.lst ([x, y, z].map .str))), some (.d (.lst ([u, v].map .str))), none] S = .nx [some (.d (.str t)), some (.d (.lst ([x, y, z].map .str))), some (.d (.lst ([u, v].map .str))), none] S := by simp
      have f1 := s_law_figures (n+2) u S hu.lz hu.asc
      have f2 := s_law_figures (n+2) y S hy.lz hy.asc
      have f3 := s_law_figures (n+2) v S hv.lz hv.asc
      have f4 := s_law_read_share n z S hz
      have e5 : exS pg (callF pg (n+3)) (.asg (.nm 3) (.tup [(.call 37 [(.idx (.var 2) (.int 0))] []), (.call 37 [(.idx (.var 1) (.int 1))] []), (.call 37 [(.idx (.var 2) (.int 1))] []), (.call 38 [(.idx (.var 1) (.int 2))] [])])) [some (.d (.str t)), some (.d (.lst ([x, y, z].map .str))), some (.d (.lst ([u, v].map .str))), none] S = .nx [some (.d (.str t)), some (.d (.lst ([x, y, z].map .str))), some (.d (.lst ([u, v].map .str))), some (.d (.tup [optN (figs u), optN (figs y), optN (figs v), optS (rdShare z)]))] S := by
        simp [f1, f2, f3, f4]
      refine step_nx _ _ e2 (step_nx _ _ e3 (step_nx _ _ e4 (step_nx _ _ e5 ?_)))
      generalize figs u = a at *
      generalize figs y = b at *
      generalize figs v = c at *
      generalize rdShare z = o at *
      have hin := in_none a b c o S
      cases hn : (a.isNone || (b.isNone || (c.isNone || o.isNone))) with
      | true =>
        rw [hn] at hin
        have : mkStep a b c o = none := by
          cases a <;> cases b <;> cases c <;> cases o <;> simp at hn <;> rfl
        rw [this]
        exact step_rt (by simp [hin, optT])
      | false =>
        rw [hn] at hin
        cases a with
        | none => simp at hn
        | some a =>
        cases b with
        | none => simp at hn
        | some b =>
        cases c with
        | none => simp at hn
        | some c =>
        cases o with
        | none => simp at hn
        | some p =>
        simp only [optN, optS] at hin
        have hmax : maxD S [.d (.tup [.int a, .int b, .int c])] = .ok (.d (.int (((max a (max b c) : Nat) : Int)))) S := by
          show (match maxI (a : Int) [.int b, .int c] with | some m => Res.ok (Vl.d (.int m)) S | none => .bad) = _
          have : maxI (a : Int) [.int b, .int c] = some (((max a (max b c) : Nat) : Int)) := by
            show some (if (if (a:Int) < b then (b:Int) else a) < c then (c:Int) else (if (a:Int) < b then (b:Int) else a)) = _
            congr 1
            omega
          rw [this]
        have hst : mkStep (some a) (some b) (some c) (some p) = if stepOk (a, b, c, p) = true then some (a, b, c, p) else none := rfl
        rw [hst]
        by_cases h99 : max a (max b c) ≤ 99
        · have hgt : ¬ ((99:Int) < ((max a (max b c) : Nat) : Int)) := by omega
          by_cases h0 : 0 < p.1
          · by_cases h1 : p.1 ≤ p.2
            · rw [if_pos (by simp [stepOk, h0, h1]; omega)]
              refine step_nx _ S (by simp [optN, optS, hin, hmax, h0, h1, hgt]; rfl) ?_
              exact step_rt (by simp [optT])
            · rw [if_neg (by simp [stepOk, h1])]
              exact step_rt (by simp [optN, optS, hin, hmax, h0, h1, optT])
          · rw [if_neg (by simp [stepOk, h0])]
            exact step_rt (by simp [optN, optS, hin, hmax, h0, optT])
        · have hgt : ((99:Int) < ((max a (max b c) : Nat) : Int)) := by omega
          rw [if_neg (by simp [stepOk]; omega)]
          exact step_rt (by simp [optN, optS, hin, hmax, optT, hgt])
    | [y, z], [], hpt, hpx, hbad, e2, e3 => exact hbad (by simp)
    | [y, z], [_], hpt, hpx, hbad, e2, e3 => exact hbad (by simp)
    | [y, z], _ :: _ :: _ :: _, hpt, hpx, hbad, e2, e3 => exact hbad (by simp)
    | [], es, hpt, hpx, hbad, e2, e3 => exact hbad (by simp)
    | [_], es, hpt, hpx, hbad, e2, e3 => exact hbad (by simp)
    | _ :: _ :: _ :: _, es, hpt, hpx, hbad, e2, e3 => exact hbad (by simp)
end K83
set_option linter.all false
set_option maxRecDepth 100000
namespace K83
open Mi
open PySem (Str)
/-- a step of a piece of r rooms, s signs, o doors out -/
def stOk (r s o : Nat) (t : Stp) : Bool := decide (t.1 < r) && decide (t.2.1 ≤ s) && decide (t.2.2.1 < r + o) && small t.2.2.2 && decide (0 < t.2.2.2.1) && decide (t.2.2.2.1 ≤ t.2.2.2.2)
theorem among_nat (a k : Nat) : amongB (.int a) 0 k = decide (a ≤ k) := among_opt (some a) k
theorem among_lt (a : Nat) (k : Nat) : amongB (.int a) 0 ((k : Int) - 1) = decide (a < k) := by
  show (decide ((0:Int) ≤ a) && decide ((a:Int) ≤ (k : Int) - 1)) = decide (a < k)
  rw [show decide ((0:Int) ≤ a) = true from decide_eq_true (by omega), Bool.true_and]
  exact decide_eq_decide.mpr (by omega)
theorem s_is_step (n : Nat) (t : Stp) (r s o : Nat) (S : Store) (hb : t.2.2.2.2 < big) : callF pg (n+5) 10 [.d (stD t), .d (.int r), .d (.int s), .d (.int o)] S = .ok (.d (.bl (stOk r s o t))) S := by
  rw [c_is_step]
  have hs := s_is_small_share n t.2.2.2 S hb
  have a1 := among_lt t.1 r
  have a2 := among_nat t.2.1 s
  have a3 := among_lt t.2.2.1 (r + o)
  rw [Int.natCast_add] at a3
  refine fin_rt ?_
  rw [b_is_step]
  unfold stOk
  by_cases h1 : t.1 < r
  · by_cases h2 : t.2.1 ≤ s
    · refine step_nx [some (.d (stD t)), some (.d (.int r)), some (.d (.int s)), some (.d (.int o))] S (by simp [tupB, a1, a2, h1, h2]) ?_
      by_cases h3 : t.2.2.1 < r + o
      · by_cases h4 : small t.2.2.2 = true
        · refine step_nx [some (.d (stD t)), some (.d (.int r)), some (.d (.int s)), some (.d (.int o))] S (by simp [a3, h3, hs, h4]) ?_
          exact step_rt (by simp [h1, h2, h3, h4])
        · exact step_rt (by simp [a3, h3, hs, h4])
      · exact step_rt (by simp [a3, h3])
    · exact step_rt (by simp [tupB, a1, a2, h1, h2])
  · exact step_rt (by simp [tupB, a1, h1])
abbrev pcD (r s : D) (sts ins : List D) (o : D) : D := .tup [r, s, .tup sts, .tup ins, o]
def shOf (room : Nat) (sts : List Stp) : List (Int × Int) := (sts.filter fun t => t.1 == room).map fun t => t.2.2.2
def sumOk (sts : List Stp) (room : Nat) : Bool := decide ((sumS (shOf room sts)).1 ≤ (sumS (shOf room sts)).2)
def inOk (r : Nat) (x : Option Nat) : Bool := match x with | some i => decide (i < r) | none => false
/-- a piece that is one -/
def vPiece (r s o : Nat) (ins : List (Option Nat)) (sts : List Stp) : Bool :=
  decide (r ≤ 12) && decide (s ≤ 3) && decide (o ≤ 3) && decide (ins.length ≤ 3) && ins.all (inOk r) && decide (sts.length ≤ 40) && sts.all (stOk r s o) && (List.range r).all (sumOk sts)
def vP (r s o : Option Nat) (ins : List (Option Nat)) (sts : List Stp) : Bool := match r, s, o with
  | some r, some s, some o => vPiece r s o ins sts
  | _, _, _ => false
theorem stOk_part {r s o : Nat} {t : Stp} (h : stOk r s o t = true) : part t.2.2.2 := by
  unfold stOk at h
  simp only [Bool.and_eq_true, decide_eq_true_eq] at h
  obtain ⟨⟨⟨_, h1⟩, h2⟩, h3⟩ := h
  obtain ⟨a, _, c, d⟩ := small_bd h1
  exact ⟨by omega, d, by omega, h3⟩
theorem shOf_part {r s o : Nat} {sts : List Stp} (h : sts.all (stOk r s o) = true) (room : Nat) : (∀ q ∈ shOf room sts, part q) ∧ (shOf room sts).length ≤ sts.length := by
  refine ⟨fun q hq => ?_, ?_⟩
  · obtain ⟨t, ht, rfl⟩ := List.mem_map.mp hq
    exact stOk_part (List.all_eq_true.mp h t (List.mem_filter.mp ht).1)
  · unfold shOf; rw [List.length_map]; exact List.length_filter_le _ _
/-- the chances out of a room, as both take them -/
theorem comp_shares (F : Call) (i10 i9 : Nat) (env : Env) (sts : List Stp) (room : Nat) (S : Store) (hi : i10 < env.length) (hne : i10 ≠ i9) (h9 : (blkE env [i10])[i9]? = some (some (.d (.int room)))) (hl : sts.length ≤ 16777216) :
    compB pg F (.nm i10) [(.cmp .eq (.idx (.var i10) (.int 0)) (.var i9))] (.idx (.var i10) (.int 3)) (blkE env [i10]) (sts.map stD) [] S = .ok ((shOf room sts).map sh) S := by
  have hlen : (blkE env [i10]).length = env.length := by simp [blkE, wipeE]
  rw [compB_filter (fun d => match d with | .tup (.int a :: _) => decide (a = room) | _ => false) (fun d => match d with | .tup [_, _, _, p] => p | _ => .non) (fun x hx => ?_) (by simpa using hl)]
  · congr 1
    rw [List.nil_append, List.filter_map, List.map_map]
    unfold shOf
    rw [List.map_map]
    have : ((fun d => match d with | .tup (.int a :: _) => decide (a = (room : Int)) | _ => false) ∘ stD) = fun t : Stp => t.1 == room := by
      funext t
      show decide ((t.1 : Int) = room) = (t.1 == room)
      rw [show (t.1 == room) = decide (t.1 = room) from rfl]
      exact decide_eq_decide.mpr (by omega)
    rw [this]
    exact List.map_congr_left fun t _ => rfl
  · obtain ⟨t, _, rfl⟩ := List.mem_map.mp hx
    refine ⟨(blkE env [i10]).set i10 (some (.d (stD t))), by simp [hlen, hi], ?_, ?_⟩
    · have g1 : ((blkE env [i10]).set i10 (some (.d (stD t))))[i10]? = some (some (.d (stD t))) := by rw [List.getElem?_set_self (by rw [hlen]; exact hi)]
      have g2 : ((blkE env [i10]).set i10 (some (.d (stD t))))[i9]? = some (some (.d (.int room))) := by rw [List.getElem?_set_ne hne]; exact h9
      simp [g1, g2]
    · intro _
      have g1 : ((blkE env [i10]).set i10 (some (.d (stD t))))[i10]? = some (some (.d (stD t))) := by rw [List.getElem?_set_self (by rw [hlen]; exact hi)]
      simp [g1]
end K83
set_option linter.all false
set_option maxRecDepth 100000
namespace K83
open Mi
open PySem (Str)
theorem among_opt_lt (o : Option Nat) (k : Nat) : amongB (optN o) 0 ((k : Int) - 1) = inOk k o := by
  cases o with
  | none => rfl
  | some a => exact among_lt a k
def optLe (o : Option Nat) (k : Nat) : Bool := match o with | some n => decide (n ≤ k) | none => false
theorem among_optLe (o : Option Nat) (k : Nat) : amongB (optN o) 0 k = optLe o k := by rw [among_opt]; rfl
@[simp] theorem optN_some (n : Nat) : optN (some n) = .int n := rfl
@[simp] theorem optN_none : optN none = .non := rfl
theorem fits11 : fits (1, 1) := ⟨by decide +kernel, by decide +kernel, by decide +kernel⟩
theorem step_f {P : Pg} {F : Call} {s : St} {r : List St} {env : Env} {S : Store} {f : Fl} {g : Fl} (h : exS P F s env S = g) (h2 : seqF g (fun env1 S1 => exSs P F r env1 S1) = f) : exSs P F (s :: r) env S = f := by rw [exSs_cons, h, h2]
/-- the program's look at a piece -/
theorem s_need_piece (n : Nat) (r s o : Option Nat) (ins : List (Option Nat)) (sts : List Stp) (S : Store) (hb : ∀ t ∈ sts, t.2.2.2.2 < big) :
    (vP r s o ins sts = true ∧ callF pg (n+6) 11 [.d (pcD (optN r) (optN s) (sts.map stD) (ins.map optN) (optN o))] S = .ok (.d (pcD (optN r) (optN s) (sts.map stD) (ins.map optN) (optN o))) S) ∨
    (vP r s o ins sts = false ∧ ∃ d, callF pg (n+6) 11 [.d (pcD (optN r) (optN s) (sts.map stD) (ins.map optN) (optN o))] S = .exc 1 d S) := by
  rw [c_need_piece]
  have main : (vP r s o ins sts = true ∧ exSs pg (callF pg (n+5)) b_need_piece [some (.d (pcD (optN r) (optN s) (sts.map stD) (ins.map optN) (optN o))), none, none, none, none, none, none, none, none, none, none] S = .rt (.d (pcD (optN r) (optN s) (sts.map stD) (ins.map optN) (optN o))) S) ∨
      (vP r s o ins sts = false ∧ IsExc 1 S (exSs pg (callF pg (n+5)) b_need_piece [some (.d (pcD (optN r) (optN s) (sts.map stD) (ins.map optN) (optN o))), none, none, none, none, none, none, none, none, none, none] S)) := by
    generalize hpc : pcD (optN r) (optN s) (sts.map stD) (ins.map optN) (optN o) = pc
    have hE : ∀ (x : List D), isLam (.d (D.tup x)) = false := fun _ => rfl
    rw [b_need_piece]
    have g3 : pg.gls[3]? = some (.int 12) := rfl
    have g4 : pg.gls[4]? = some (.int 3) := rfl
    have g5 : pg.gls[5]? = some (.int 40) := rfl
    have g6 : pg.gls[6]? = some (.int 3) := rfl
    have g2 : pg.gls[2]? = some (sh (1, 1)) := rfl
    have e1 : exS pg (callF pg (n+5)) (.iff (.not (.call 2 [(.var 0), (.int 5), (.int 5)] [])) [(.rse 1 .non)] []) [some (.d pc), none, none, none, none, none, none, none, none, none, none] S = .nx [some (.d pc), none, none, none, none, none, none, none, none, none, none] S := by
      subst hpc; simp [tupB]
    have e2 : exS pg (callF pg (n+5)) (.asg (.tp [(.nm 1), (.nm 2), (.nm 3), (.nm 4), (.nm 5)]) (.var 0)) [some (.d pc), none, none, none, none, none, none, none, none, none, none] S = .nx [some (.d pc), some (.d (optN r)), some (.d (optN s)), some (.d (.tup (sts.map stD))), some (.d (.tup (ins.map optN))), some (.d (optN o)), none, none, none, none, none] S := by
      subst hpc; simp
    let I : Env → Prop := fun env => ∃ v6 v7 v8 v9 v10, env = [some (.d pc), some (.d (optN r)), some (.d (optN s)), some (.d (.tup (sts.map stD))), some (.d (.tup (ins.map optN))), some (.d (optN o)), v6, v7, v8, v9, v10]
    -- the three numbers
    have e3 := forB_all (P := pg) (F := callF pg (n+5)) (t := .tp [(.nm 6), (.nm 7)]) (b := [(.iff (.not (.call 1 [(.idx (.var 0) (.var 6)), (.int 0), (.var 7)] [])) [(.rse 1 (.var 6))] [])]) (S := S) (R := fun x (a : Int × Option Nat × Nat) => x = .d (.tup [.int a.1, .int a.2.2]) ∧ idxD (.d pc) (.d (.int a.1)) S = some (optN a.2.1)) (I := I) (Ex := IsExc 1 S)
      (g := fun a => optLe a.2.1 a.2.2) IsExc.loop (xs := dl [.tup [.int 0, .int 12], .tup [.int 1, .int 3], .tup [.int 4, .int 3]]) (as := [((0:Int), r, 12), ((1:Int), s, 3), ((4:Int), o, 3)])
      ⟨⟨rfl, by subst hpc; simp⟩, ⟨rfl, by subst hpc; simp⟩, ⟨rfl, by subst hpc; simp⟩, trivial⟩ (by
        rintro x ⟨i, v, k⟩ ⟨rfl, hi⟩ _ env ⟨v6, v7, v8, v9, v10, rfl⟩
        refine ⟨[some (.d pc), some (.d (optN r)), some (.d (optN s)), some (.d (.tup (sts.map stD))), some (.d (.tup (ins.map optN))), some (.d (optN o)), some (.d (.int i)), some (.d (.int k)), v8, v9, v10], by simp, ?_⟩
        have ha := among_optLe v k
        dsimp only at hi ⊢
        cases hg : optLe v k with
        | true =>
          left; rw [hg] at ha
          exact ⟨rfl, [some (.d pc), some (.d (optN r)), some (.d (optN s)), some (.d (.tup (sts.map stD))), some (.d (.tup (ins.map optN))), some (.d (optN o)), some (.d (.int i)), some (.d (.int k)), v8, v9, v10], by simp [hi, ha], _, _, _, _, _, rfl⟩
        | false =>
          right; rw [hg] at ha
          exact ⟨rfl, .int i, [some (.d pc), some (.d (optN r)), some (.d (optN s)), some (.d (.tup (sts.map stD))), some (.d (.tup (ins.map optN))), some (.d (optN o)), some (.d (.int i)), some (.d (.int k)), v8, v9, v10], by simp [hi, ha]⟩) _ ⟨none, none, none, none, none, rfl⟩
    have e3f : ∀ env, exS pg (callF pg (n+5)) (.for_ (.tp [(.nm 6), (.nm 7)]) .it [(.tup [(.tup [(.int 0), (.gl 3)]), (.tup [(.int 1), (.gl 4)]), (.tup [(.int 4), (.gl 6)])])] [(.iff (.not (.call 1 [(.idx (.var 0) (.var 6)), (.int 0), (.var 7)] [])) [(.rse 1 (.var 6))] [])]) env S = forB pg (callF pg (n+5)) (.tp [(.nm 6), (.nm 7)]) [(.iff (.not (.call 1 [(.idx (.var 0) (.var 6)), (.int 0), (.var 7)] [])) [(.rse 1 (.var 6))] [])] (dl [.tup [.int 0, .int 12], .tup [.int 1, .int 3], .tup [.int 4, .int 3]]) env S := fun env => by
      simp [-forB_dcons, g3, g4, g6]
    rcases e3 with ⟨h3, env3, e3, v6, v7, v8, v9, v10, rfl⟩ | ⟨h3, e3⟩
    rotate_left
    · right
      refine ⟨?_, ?_⟩
      · cases r with
        | none => rfl
        | some r => cases s with
          | none => rfl
          | some s => cases o with
            | none => rfl
            | some o =>
              simp [optLe] at h3
              show vPiece r s o ins sts = false
              unfold vPiece
              by_cases h1 : r ≤ 12
              · by_cases h2 : s ≤ 3
                · have := h3 h1 h2
                  simp [show ¬ o ≤ 3 by omega]
                · simp [h2]
              · simp [h1]
      · rw [step_nx _ _ e1 rfl, step_nx _ _ e2 rfl]
        exact IsExc.step (by rw [e3f]; exact e3)
    cases r with
    | none => simp [optLe] at h3
    | some r =>
    cases s with
    | none => simp [optLe] at h3
    | some s =>
    cases o with
    | none => simp [optLe] at h3
    | some o =>
    simp [optLe] at h3
    obtain ⟨h31, h32, h33⟩ := h3
    rw [step_nx _ _ e1 rfl, step_nx _ _ e2 rfl, step_nx _ _ ((e3f _).trans e3) rfl]
    show (vPiece r s o ins sts = true ∧ _) ∨ (vPiece r s o ins sts = false ∧ _)
    -- the doors in
    by_cases h4 : ins.length ≤ 3
    rotate_left
    · right
      refine ⟨by simp [vPiece, h4], IsExc.step ?_⟩
      exact ⟨.int 3, [some (.d pc), some (.d (optN (some r))), some (.d (optN (some s))), some (.d (.tup (sts.map stD))), some (.d (.tup (ins.map optN))), some (.d (optN (some o))), v6, v7, v8, v9, v10], by simp [tupB, g6, show ¬ ((ins.length : Int) ≤ 3) by omega]⟩
    have e4 : exS pg (callF pg (n+5)) (.iff (.not (.call 2 [(.var 4), (.int 0), (.gl 6)] [])) [(.rse 1 (.int 3))] []) [some (.d pc), some (.d (optN (some r))), some (.d (optN (some s))), some (.d (.tup (sts.map stD))), some (.d (.tup (ins.map optN))), some (.d (optN (some o))), v6, v7, v8, v9, v10] S = .nx [some (.d pc), some (.d (optN (some r))), some (.d (optN (some s))), some (.d (.tup (sts.map stD))), some (.d (.tup (ins.map optN))), some (.d (optN (some o))), v6, v7, v8, v9, v10] S := by
      simp [tupB, g6, show ((ins.length : Int) ≤ 3) by omega, show ((0:Int) ≤ (ins.length : Int)) by omega]
    rw [step_nx _ _ e4 rfl]
    have e5 := forB_all (P := pg) (F := callF pg (n+5)) (t := .tp [(.nm 8), (.nm 9)]) (b := [(.iff (.not (.call 1 [(.var 9), (.int 0), (.bin .sub false (.var 1) (.int 1))] [])) [(.rse 1 (.tup [(.int 3), (.var 8)]))] [])]) (S := S) (I := I) (Ex := IsExc 1 S) (g := inOk r) IsExc.loop (all2_enum optN ins 0) (by
        rintro x a ⟨k, rfl⟩ _ env ⟨v6, v7, v8, v9, v10, rfl⟩
        refine ⟨[some (.d pc), some (.d (optN (some r))), some (.d (optN (some s))), some (.d (.tup (sts.map stD))), some (.d (.tup (ins.map optN))), some (.d (optN (some o))), v6, v7, some (.d (.int k)), some (.d (optN a)), v10], by simp, ?_⟩
        have ha := among_opt_lt a r
        cases hg : inOk r a with
        | true => left; rw [hg] at ha; exact ⟨rfl, [some (.d pc), some (.d (optN (some r))), some (.d (optN (some s))), some (.d (.tup (sts.map stD))), some (.d (.tup (ins.map optN))), some (.d (optN (some o))), v6, v7, some (.d (.int k)), some (.d (optN a)), v10], by simp [ha], _, _, _, _, _, rfl⟩
        | false => right; rw [hg] at ha; exact ⟨rfl, .tup [.int 3, .int k], [some (.d pc), some (.d (optN (some r))), some (.d (optN (some s))), some (.d (.tup (sts.map stD))), some (.d (.tup (ins.map optN))), some (.d (optN (some o))), v6, v7, some (.d (.int k)), some (.d (optN a)), v10], by simp [ha]⟩) _ ⟨v6, v7, v8, v9, v10, rfl⟩
    have e5f : ∀ v6 v7 v8 v9 v10, exS pg (callF pg (n+5)) (.for_ (.tp [(.nm 8), (.nm 9)]) .enum [(.var 4)] [(.iff (.not (.call 1 [(.var 9), (.int 0), (.bin .sub false (.var 1) (.int 1))] [])) [(.rse 1 (.tup [(.int 3), (.var 8)]))] [])]) [some (.d pc), some (.d (optN (some r))), some (.d (optN (some s))), some (.d (.tup (sts.map stD))), some (.d (.tup (ins.map optN))), some (.d (optN (some o))), v6, v7, v8, v9, v10] S = forB pg (callF pg (n+5)) (.tp [(.nm 8), (.nm 9)]) [(.iff (.not (.call 1 [(.var 9), (.int 0), (.bin .sub false (.var 1) (.int 1))] [])) [(.rse 1 (.tup [(.int 3), (.var 8)]))] [])] (dl (enumD 0 (ins.map optN))) [some (.d pc), some (.d (optN (some r))), some (.d (optN (some s))), some (.d (.tup (sts.map stD))), some (.d (.tup (ins.map optN))), some (.d (optN (some o))), v6, v7, v8, v9, v10] S := fun v6 v7 v8 v9 v10 => by simp
    rcases e5 with ⟨h5, env5, e5, w6, w7, w8, w9, w10, rfl⟩ | ⟨h5, e5⟩
    rotate_left
    · right
      exact ⟨by simp only [vPiece, h5]; simp, IsExc.step (by rw [e5f]; exact e5)⟩
    rw [step_nx _ _ ((e5f ..).trans e5) rfl]
    -- the steps
    by_cases h6 : sts.length ≤ 40
    rotate_left
    · right
      refine ⟨by simp [vPiece, h6], IsExc.step ?_⟩
      exact ⟨.int 2, [some (.d pc), some (.d (optN (some r))), some (.d (optN (some s))), some (.d (.tup (sts.map stD))), some (.d (.tup (ins.map optN))), some (.d (optN (some o))), w6, w7, w8, w9, w10], by simp [tupB, g5, show ¬ ((sts.length : Int) ≤ 40) by omega]⟩
    have e6 : exS pg (callF pg (n+5)) (.iff (.not (.call 2 [(.var 3), (.int 0), (.gl 5)] [])) [(.rse 1 (.int 2))] []) [some (.d pc), some (.d (optN (some r))), some (.d (optN (some s))), some (.d (.tup (sts.map stD))), some (.d (.tup (ins.map optN))), some (.d (optN (some o))), w6, w7, w8, w9, w10] S = .nx [some (.d pc), some (.d (optN (some r))), some (.d (optN (some s))), some (.d (.tup (sts.map stD))), some (.d (.tup (ins.map optN))), some (.d (optN (some o))), w6, w7, w8, w9, w10] S := by
      simp [tupB, g5, show ((sts.length : Int) ≤ 40) by omega, show ((0:Int) ≤ (sts.length : Int)) by omega]
    rw [step_nx _ _ e6 rfl]
    have e7 := forB_all (P := pg) (F := callF pg (n+5)) (t := .tp [(.nm 8), (.nm 10)]) (b := [(.iff (.not (.call 10 [(.var 10), (.var 1), (.var 2), (.var 5)] [])) [(.rse 1 (.tup [(.int 2), (.var 8)]))] [])]) (S := S) (I := I) (Ex := IsExc 1 S) (g := stOk r s o) IsExc.loop (all2_enum stD sts 0) (by
        rintro x a ⟨k, rfl⟩ hmem env ⟨v6, v7, v8, v9, v10, rfl⟩
        refine ⟨[some (.d pc), some (.d (optN (some r))), some (.d (optN (some s))), some (.d (.tup (sts.map stD))), some (.d (.tup (ins.map optN))), some (.d (optN (some o))), v6, v7, some (.d (.int k)), v9, some (.d (stD a))], by simp, ?_⟩
        have ha := s_is_step n a r s o S (hb a hmem)
        cases hg : stOk r s o a with
        | true => left; rw [hg] at ha; exact ⟨rfl, [some (.d pc), some (.d (optN (some r))), some (.d (optN (some s))), some (.d (.tup (sts.map stD))), some (.d (.tup (ins.map optN))), some (.d (optN (some o))), v6, v7, some (.d (.int k)), v9, some (.d (stD a))], by simp [ha], _, _, _, _, _, rfl⟩
        | false => right; rw [hg] at ha; exact ⟨rfl, .tup [.int 2, .int k], [some (.d pc), some (.d (optN (some r))), some (.d (optN (some s))), some (.d (.tup (sts.map stD))), some (.d (.tup (ins.map optN))), some (.d (optN (some o))), v6, v7, some (.d (.int k)), v9, some (.d (stD a))], by simp [ha]⟩) _ ⟨w6, w7, w8, w9, w10, rfl⟩
    have e7f : ∀ v6 v7 v8 v9 v10, exS pg (callF pg (n+5)) (.for_ (.tp [(.nm 8), (.nm 10)]) .enum [(.var 3)] [(.iff (.not (.call 10 [(.var 10), (.var 1), (.var 2), (.var 5)] [])) [(.rse 1 (.tup [(.int 2), (.var 8)]))] [])]) [some (.d pc), some (.d (optN (some r))), some (.d (optN (some s))), some (.d (.tup (sts.map stD))), some (.d (.tup (ins.map optN))), some (.d (optN (some o))), v6, v7, v8, v9, v10] S = forB pg (callF pg (n+5)) (.tp [(.nm 8), (.nm 10)]) [(.iff (.not (.call 10 [(.var 10), (.var 1), (.var 2), (.var 5)] [])) [(.rse 1 (.tup [(.int 2), (.var 8)]))] [])] (dl (enumD 0 (sts.map stD))) [some (.d pc), some (.d (optN (some r))), some (.d (optN (some s))), some (.d (.tup (sts.map stD))), some (.d (.tup (ins.map optN))), some (.d (optN (some o))), v6, v7, v8, v9, v10] S := fun v6 v7 v8 v9 v10 => by simp
    rcases e7 with ⟨h7, env7, e7, w6, w7, w8, w9, w10, rfl⟩ | ⟨h7, e7⟩
    rotate_left
    · right
      exact ⟨by simp only [vPiece, h7]; simp, IsExc.step (by rw [e7f]; exact e7)⟩
    rw [step_nx _ _ ((e7f ..).trans e7) rfl]
    -- the sums
    have e8 := forB_all (P := pg) (F := callF pg (n+5)) (t := .nm 9) (b := [(.iff (.call 8 [(.gl 2), (.call 9 [(.comp false [10] (.nm 10) .it [(.var 3)] [(.cmp .eq (.idx (.var 10) (.int 0)) (.var 9))] (.idx (.var 10) (.int 3)))] [])] []) [(.rse 1 (.tup [(.str [115,117,109]), (.var 9)]))] [])]) (S := S) (I := I) (Ex := IsExc 1 S) (g := sumOk sts) IsExc.loop (all2_mapv (fun (i : Nat) => Vl.d (.int (i : Int))) (List.range r)) (by
        rintro x a rfl hmem env ⟨v6, v7, v8, v9, v10, rfl⟩
        refine ⟨[some (.d pc), some (.d (optN (some r))), some (.d (optN (some s))), some (.d (.tup (sts.map stD))), some (.d (.tup (ins.map optN))), some (.d (optN (some o))), v6, v7, v8, some (.d (.int a)), v10], by simp, ?_⟩
        obtain ⟨p1, p2⟩ := shOf_part h7 a
        have hc := comp_shares (callF pg (n+5)) 10 9 [some (.d pc), some (.d (optN (some r))), some (.d (optN (some s))), some (.d (.tup (sts.map stD))), some (.d (.tup (ins.map optN))), some (.d (optN (some o))), v6, v7, v8, some (.d (.int a)), v10] sts a S (by simp) (by decide) (by rfl) (by omega)
        simp only [optN_some] at hc
        have hs := s_sum_by (n+1) (shOf a sts) S p1 (by omega)
        have hf := (sumS_acc p1 (by omega)).fits (by omega)
        have hl := s_is_less_by (n+4) (1, 1) (sumS (shOf a sts)) S fits11 hf
        have hg' : sumOk sts a = !(decide ((sumS (shOf a sts)).2 < (sumS (shOf a sts)).1)) := by
          unfold sumOk
          by_cases h : (sumS (shOf a sts)).1 ≤ (sumS (shOf a sts)).2
          · simp [h, show ¬ (sumS (shOf a sts)).2 < (sumS (shOf a sts)).1 by omega]
          · simp [h, show (sumS (shOf a sts)).2 < (sumS (shOf a sts)).1 by omega]
        simp only [Int.one_mul, Int.mul_one] at hl
        have hnl : ((shOf a sts).map sh).length ≤ 16777216 := by rw [List.length_map]; omega
        cases hg : sumOk sts a with
        | true =>
          left
          rw [hg] at hg'
          have hq : decide ((sumS (shOf a sts)).2 < (sumS (shOf a sts)).1) = false := by revert hg'; cases decide ((sumS (shOf a sts)).2 < (sumS (shOf a sts)).1) <;> simp
          rw [hq] at hl
          exact ⟨rfl, [some (.d pc), some (.d (optN (some r))), some (.d (optN (some s))), some (.d (.tup (sts.map stD))), some (.d (.tup (ins.map optN))), some (.d (optN (some o))), v6, v7, v8, some (.d (.int a)), v10], by simp [-compB_consIf, hc, newL_f _ _ hnl, hs, g2, hl], _, _, _, _, _, rfl⟩
        | false =>
          right
          rw [hg] at hg'
          have hq : decide ((sumS (shOf a sts)).2 < (sumS (shOf a sts)).1) = true := by revert hg'; cases decide ((sumS (shOf a sts)).2 < (sumS (shOf a sts)).1) <;> simp
          rw [hq] at hl
          exact ⟨rfl, .tup [.str [115,117,109], .int a], [some (.d pc), some (.d (optN (some r))), some (.d (optN (some s))), some (.d (.tup (sts.map stD))), some (.d (.tup (ins.map optN))), some (.d (optN (some o))), v6, v7, v8, some (.d (.int a)), v10], by simp [-compB_consIf, hc, newL_f _ _ hnl, hs, g2, hl]⟩) _ ⟨w6, w7, w8, w9, w10, rfl⟩
    have e8f : ∀ v6 v7 v8 v9 v10, exS pg (callF pg (n+5)) (.for_ (.nm 9) .rng1 [(.var 1)] [(.iff (.call 8 [(.gl 2), (.call 9 [(.comp false [10] (.nm 10) .it [(.var 3)] [(.cmp .eq (.idx (.var 10) (.int 0)) (.var 9))] (.idx (.var 10) (.int 3)))] [])] []) [(.rse 1 (.tup [(.str [115,117,109]), (.var 9)]))] [])]) [some (.d pc), some (.d (optN (some r))), some (.d (optN (some s))), some (.d (.tup (sts.map stD))), some (.d (.tup (ins.map optN))), some (.d (optN (some o))), v6, v7, v8, v9, v10] S = forB pg (callF pg (n+5)) (.nm 9) [(.iff (.call 8 [(.gl 2), (.call 9 [(.comp false [10] (.nm 10) .it [(.var 3)] [(.cmp .eq (.idx (.var 10) (.int 0)) (.var 9))] (.idx (.var 10) (.int 3)))] [])] []) [(.rse 1 (.tup [(.str [115,117,109]), (.var 9)]))] [])] ((List.range r).map fun (i : Nat) => Vl.d (.int (i : Int))) [some (.d pc), some (.d (optN (some r))), some (.d (optN (some s))), some (.d (.tup (sts.map stD))), some (.d (.tup (ins.map optN))), some (.d (optN (some o))), v6, v7, v8, v9, v10] S := fun v6 v7 v8 v9 v10 => by
      exact rng1_var rfl (Nat.lt_of_le_of_lt h31 (by decide))
    rcases e8 with ⟨h8, env8, e8, w6, w7, w8, w9, w10, rfl⟩ | ⟨h8, e8⟩
    · left
      rw [step_nx _ _ ((e8f ..).trans e8) rfl]
      exact ⟨by simp only [vPiece, h5, h7, h8, h31, h32, h33, h4, h6]; simp, step_rt (by simp)⟩
    · right
      exact ⟨by simp only [vPiece, h8]; simp, IsExc.step (by rw [e8f]; exact e8)⟩
  rcases main with ⟨h, e⟩ | ⟨h, d, env, e⟩
  · exact .inl ⟨h, fin_rt e⟩
  · exact .inr ⟨h, d, fin_ex e⟩
end K83
set_option linter.all false
set_option maxRecDepth 100000
namespace K83
open Mi
open PySem (Str)
@[simp] theorem optT_some (t : Stp) : optT (some t) = stD t := rfl
@[simp] theorem optT_none : optT none = .non := rfl
def stOkO (r s o : Nat) (x : Option Stp) : Bool := match x with | some t => stOk r s o t | none => false
def vPieceO (r s o : Nat) (ins : List (Option Nat)) (sts : List (Option Stp)) : Bool :=
  decide (r ≤ 12) && decide (s ≤ 3) && decide (o ≤ 3) && decide (ins.length ≤ 3) && ins.all (inOk r) && decide (sts.length ≤ 40) && sts.all (stOkO r s o) && (List.range r).all (sumOk (sts.filterMap id))
def vPO (r s o : Option Nat) (ins : List (Option Nat)) (sts : List (Option Stp)) : Bool := match r, s, o with
  | some r, some s, some o => vPieceO r s o ins sts
  | _, _, _ => false
theorem vPO_some (r s o : Option Nat) (ins : List (Option Nat)) (l : List Stp) : vPO r s o ins (l.map some) = vP r s o ins l := by
  have e1 : (l.map some).filterMap id = l := by simp [List.filterMap_map]
  have e2 : ∀ r s o, (l.map some).all (stOkO r s o) = l.all (stOk r s o) := fun r s o => by rw [List.all_map]; rfl
  unfold vPO vP vPieceO vPiece
  cases r <;> cases s <;> cases o <;> simp only [e1, e2, List.length_map]
theorem all_some {r s o : Nat} : ∀ {sts : List (Option Stp)}, sts.all (stOkO r s o) = true → ∃ l : List Stp, sts = l.map some ∧ l.all (stOk r s o) = true
  | [], _ => ⟨[], rfl, rfl⟩
  | none :: _, h => by simp [stOkO] at h
  | some t :: r, h => by
    rw [List.all_cons, Bool.and_eq_true] at h
    obtain ⟨l, rfl, h2⟩ := all_some h.2
    exact ⟨t :: l, rfl, by rw [List.all_cons, h2, Bool.and_true]; exact h.1⟩
theorem lst0 (x : D) (h : D.shp 59 x = true) : eqOk (.lst [x]) (.lst []) = true := by
  unfold eqOk
  have : D.shp 60 (.lst [x]) = true := by show (D.shp 59 x && true) = true; rw [h]; rfl
  rw [this]; rfl
/-- the law's look at a piece -/
theorem s_law_fault (n : Nat) (r s o : Option Nat) (ins : List (Option Nat)) (sts : List (Option Stp)) (S : Store) (hb : ∀ t, some t ∈ sts → t.2.2.2.2 < big) :
    ∃ d, callF pg (n+5) 32 [.d (pcD (optN r) (optN s) (sts.map optT) (ins.map optN) (optN o))] S = .ok (.d d) S ∧ isN (.d d) = vPO r s o ins sts := by
  rw [c__law_piece_fault]
  have main : (vPO r s o ins sts = true ∧ exSs pg (callF pg (n+4)) b__law_piece_fault [some (.d (pcD (optN r) (optN s) (sts.map optT) (ins.map optN) (optN o))), none, none, none, none, none, none, none, none, none, none, none, none] S = .rt (.d .non) S) ∨
      (vPO r s o ins sts = false ∧ IsBadRt S (exSs pg (callF pg (n+4)) b__law_piece_fault [some (.d (pcD (optN r) (optN s) (sts.map optT) (ins.map optN) (optN o))), none, none, none, none, none, none, none, none, none, none, none, none] S)) := by
    generalize hpc : pcD (optN r) (optN s) (sts.map optT) (ins.map optN) (optN o) = pc
    rw [b__law_piece_fault]
    have e1 : exS pg (callF pg (n+4)) (.iff (.or [(.not (.isi (.var 0) .tuple)), (.cmp .ne (.blt .len false [(.var 0)]) (.int 5))]) [(.ret (.lst false [.non]))] []) [some (.d pc), none, none, none, none, none, none, none, none, none, none, none, none] S = .nx [some (.d pc), none, none, none, none, none, none, none, none, none, none, none, none] S := by
      subst hpc; simp
    let J : Env → Prop := fun env => ∃ v1 v2, env = [some (.d pc), v1, v2, none, none, none, none, none, none, none, none, none, none]
    have e3 := forB_all (P := pg) (F := (callF pg (n+4))) (t := (.tp [(.nm 1), (.nm 2)])) (b := [(.iff (.or [(.not (.isi (.idx (.var 0) (.var 1)) .int)), (.isi (.idx (.var 0) (.var 1)) .bool), (.not (.chn .le .le (.int 0) (.idx (.var 0) (.var 1)) (.var 2)))]) [(.ret (.lst false [(.var 1)]))] [])]) (S := S) (R := fun x (a : Int × Option Nat × Nat) => x = .d (.tup [.int a.1, .int a.2.2]) ∧ idxD (.d pc) (.d (.int a.1)) S = some (optN a.2.1)) (I := J) (Ex := IsBadRt S)
      (g := fun a => optLe a.2.1 a.2.2) IsBadRt.loop (xs := dl [.tup [.int 0, .int 12], .tup [.int 1, .int 3], .tup [.int 4, .int 3]]) (as := [((0:Int), r, 12), ((1:Int), s, 3), ((4:Int), o, 3)])
      ⟨⟨rfl, by subst hpc; simp⟩, ⟨rfl, by subst hpc; simp⟩, ⟨rfl, by subst hpc; simp⟩, trivial⟩ (by
        rintro x ⟨i, v, k⟩ ⟨rfl, hi⟩ _ env ⟨v1, v2, rfl⟩
        refine ⟨[some (.d pc), some (.d (.int i)), some (.d (.int k)), none, none, none, none, none, none, none, none, none, none], by simp, ?_⟩
        dsimp only at hi ⊢
        cases v with
        | none =>
          right
          exact ⟨rfl, .lst [.int i], by simp [hi], rfl⟩
        | some v =>
          cases hg : optLe (some v) k with
          | true =>
            left
            simp only [optLe, decide_eq_true_eq] at hg
            exact ⟨rfl, [some (.d pc), some (.d (.int i)), some (.d (.int k)), none, none, none, none, none, none, none, none, none, none], by simp [hi, hg], _, _, rfl⟩
          | false =>
            right
            simp only [optLe, decide_eq_false_iff_not] at hg
            exact ⟨rfl, .lst [.int i], by simp [hi, hg, show k < v by omega], rfl⟩) _ ⟨none, none, rfl⟩
    have e3f : ∀ env, exS pg (callF pg (n+4)) (.for_ (.tp [(.nm 1), (.nm 2)]) .it [(.tup [(.tup [(.int 0), (.int 12)]), (.tup [(.int 1), (.int 3)]), (.tup [(.int 4), (.int 3)])])] [(.iff (.or [(.not (.isi (.idx (.var 0) (.var 1)) .int)), (.isi (.idx (.var 0) (.var 1)) .bool), (.not (.chn .le .le (.int 0) (.idx (.var 0) (.var 1)) (.var 2)))]) [(.ret (.lst false [(.var 1)]))] [])]) env S = forB pg (callF pg (n+4)) (.tp [(.nm 1), (.nm 2)]) [(.iff (.or [(.not (.isi (.idx (.var 0) (.var 1)) .int)), (.isi (.idx (.var 0) (.var 1)) .bool), (.not (.chn .le .le (.int 0) (.idx (.var 0) (.var 1)) (.var 2)))]) [(.ret (.lst false [(.var 1)]))] [])] (dl [.tup [.int 0, .int 12], .tup [.int 1, .int 3], .tup [.int 4, .int 3]]) env S := fun env => by
      simp [-forB_dcons]
    rcases e3 with ⟨h3, env3, e3, v1, v2, rfl⟩ | ⟨h3, e3⟩
    rotate_left
    · right
      refine ⟨?_, ?_⟩
      · cases r with
        | none => rfl
        | some r => cases s with
          | none => rfl
          | some s => cases o with
            | none => rfl
            | some o =>
              simp [optLe] at h3
              show vPieceO r s o ins sts = false
              unfold vPieceO
              by_cases h1 : r ≤ 12
              · by_cases h2 : s ≤ 3
                · have := h3 h1 h2
                  simp [show ¬ o ≤ 3 by omega]
                · simp [h2]
              · simp [h1]
      · rw [step_nx _ _ e1 rfl]
        exact IsBadRt.step (by rw [e3f]; exact e3)
    cases r with
    | none => simp [optLe] at h3
    | some r =>
    cases s with
    | none => simp [optLe] at h3
    | some s =>
    cases o with
    | none => simp [optLe] at h3
    | some o =>
    simp [optLe] at h3
    obtain ⟨h31, h32, h33⟩ := h3
    have e2 : exS pg (callF pg (n+4)) (.asg (.tp [(.nm 3), (.nm 4), (.nm 5), (.nm 6), (.nm 7)]) (.var 0)) [some (.d pc), v1, v2, none, none, none, none, none, none, none, none, none, none] S = .nx [some (.d pc), v1, v2, some (.d (optN (some r))), some (.d (optN (some s))), some (.d (.tup (sts.map optT))), some (.d (.tup (ins.map optN))), some (.d (optN (some o))), none, none, none, none, none] S := by
      subst hpc; simp
    let I : Env → Prop := fun env => ∃ v1 v2 v8 v9 v10 v11 v12, env = [some (.d pc), v1, v2, some (.d (optN (some r))), some (.d (optN (some s))), some (.d (.tup (sts.map optT))), some (.d (.tup (ins.map optN))), some (.d (optN (some o))), v8, v9, v10, v11, v12]
    rw [step_nx _ _ e1 rfl, step_nx _ _ ((e3f _).trans e3) rfl, step_nx _ _ e2 rfl]
    show (vPieceO r s o ins sts = true ∧ _) ∨ (vPieceO r s o ins sts = false ∧ _)
    by_cases h4 : ins.length ≤ 3
    rotate_left
    · right
      refine ⟨by simp [vPieceO, h4], IsBadRt.step ?_⟩
      exact ⟨.lst [.int 3], by simp [show ((3:Int) < (ins.length : Int)) by omega], rfl⟩
    have e4 : exS pg (callF pg (n+4)) (.iff (.or [(.not (.isi (.var 6) .tuple)), (.cmp .gt (.blt .len false [(.var 6)]) (.int 3))]) [(.ret (.lst false [(.int 3)]))] []) [some (.d pc), v1, v2, some (.d (optN (some r))), some (.d (optN (some s))), some (.d (.tup (sts.map optT))), some (.d (.tup (ins.map optN))), some (.d (optN (some o))), none, none, none, none, none] S = .nx [some (.d pc), v1, v2, some (.d (optN (some r))), some (.d (optN (some s))), some (.d (.tup (sts.map optT))), some (.d (.tup (ins.map optN))), some (.d (optN (some o))), none, none, none, none, none] S := by
      simp [show ¬ ((3:Int) < (ins.length : Int)) by omega]
    rw [step_nx _ _ e4 rfl]
    have e5 := forB_all (P := pg) (F := (callF pg (n+4))) (t := (.tp [(.nm 8), (.nm 9)])) (b := [(.iff (.or [(.not (.isi (.var 9) .int)), (.isi (.var 9) .bool), (.not (.chn .le .lt (.int 0) (.var 9) (.var 3)))]) [(.ret (.lst false [(.tup [(.int 3), (.var 8)])]))] [])]) (S := S) (I := I) (Ex := IsBadRt S) (g := inOk r) IsBadRt.loop (all2_enum optN ins 0) (by
        rintro x a ⟨k, rfl⟩ _ env ⟨v1, v2, v8, v9, v10, v11, v12, rfl⟩
        refine ⟨[some (.d pc), v1, v2, some (.d (optN (some r))), some (.d (optN (some s))), some (.d (.tup (sts.map optT))), some (.d (.tup (ins.map optN))), some (.d (optN (some o))), some (.d (.int k)), some (.d (optN a)), v10, v11, v12], by simp, ?_⟩
        cases a with
        | none => right; exact ⟨rfl, .lst [.tup [.int 3, .int k]], by simp, rfl⟩
        | some a =>
          cases hg : inOk r (some a) with
          | true =>
            left
            simp only [inOk, decide_eq_true_eq] at hg
            exact ⟨rfl, [some (.d pc), v1, v2, some (.d (optN (some r))), some (.d (optN (some s))), some (.d (.tup (sts.map optT))), some (.d (.tup (ins.map optN))), some (.d (optN (some o))), some (.d (.int k)), some (.d (optN (some a))), v10, v11, v12], by simp [hg], _, _, _, _, _, _, _, rfl⟩
          | false =>
            right
            simp only [inOk, decide_eq_false_iff_not] at hg
            exact ⟨rfl, .lst [.tup [.int 3, .int k]], by simp [hg, show r ≤ a by omega], rfl⟩) _ ⟨v1, v2, none, none, none, none, none, rfl⟩
    have e5f : ∀ v1 v2 v8 v9 v10 v11 v12, exS pg (callF pg (n+4)) (.for_ (.tp [(.nm 8), (.nm 9)]) .enum [(.var 6)] [(.iff (.or [(.not (.isi (.var 9) .int)), (.isi (.var 9) .bool), (.not (.chn .le .lt (.int 0) (.var 9) (.var 3)))]) [(.ret (.lst false [(.tup [(.int 3), (.var 8)])]))] [])]) [some (.d pc), v1, v2, some (.d (optN (some r))), some (.d (optN (some s))), some (.d (.tup (sts.map optT))), some (.d (.tup (ins.map optN))), some (.d (optN (some o))), v8, v9, v10, v11, v12] S = forB pg (callF pg (n+4)) (.tp [(.nm 8), (.nm 9)]) [(.iff (.or [(.not (.isi (.var 9) .int)), (.isi (.var 9) .bool), (.not (.chn .le .lt (.int 0) (.var 9) (.var 3)))]) [(.ret (.lst false [(.tup [(.int 3), (.var 8)])]))] [])] (dl (enumD 0 (ins.map optN))) [some (.d pc), v1, v2, some (.d (optN (some r))), some (.d (optN (some s))), some (.d (.tup (sts.map optT))), some (.d (.tup (ins.map optN))), some (.d (optN (some o))), v8, v9, v10, v11, v12] S := fun v1 v2 v8 v9 v10 v11 v12 => by simp
    rcases e5 with ⟨h5, env5, e5, w1, w2, w8, w9, w10, w11, w12, rfl⟩ | ⟨h5, e5⟩
    rotate_left
    · right
      exact ⟨by simp only [vPieceO, h5]; simp, IsBadRt.step (by rw [e5f]; exact e5)⟩
    rw [step_nx _ _ ((e5f ..).trans e5) rfl]
    by_cases h6 : sts.length ≤ 40
    rotate_left
    · right
      refine ⟨by simp [vPieceO, h6], IsBadRt.step ?_⟩
      exact ⟨.lst [.int 2], by simp [show ((40:Int) < (sts.length : Int)) by omega], rfl⟩
    have e6 : exS pg (callF pg (n+4)) (.iff (.or [(.not (.isi (.var 5) .tuple)), (.cmp .gt (.blt .len false [(.var 5)]) (.int 40))]) [(.ret (.lst false [(.int 2)]))] []) [some (.d pc), w1, w2, some (.d (optN (some r))), some (.d (optN (some s))), some (.d (.tup (sts.map optT))), some (.d (.tup (ins.map optN))), some (.d (optN (some o))), w8, w9, w10, w11, w12] S = .nx [some (.d pc), w1, w2, some (.d (optN (some r))), some (.d (optN (some s))), some (.d (.tup (sts.map optT))), some (.d (.tup (ins.map optN))), some (.d (optN (some o))), w8, w9, w10, w11, w12] S := by
      simp [show ¬ ((40:Int) < (sts.length : Int)) by omega]
    rw [step_nx _ _ e6 rfl]
    have e7 := forB_all (P := pg) (F := (callF pg (n+4))) (t := (.tp [(.nm 8), (.nm 10)])) (b := [(.iff (.or [(.not (.isi (.var 10) .tuple)), (.cmp .ne (.blt .len false [(.var 10)]) (.int 4)), (.cmp .ne (.comp false [11] (.nm 11) .it [(.sl false (.var 10) [] [(.int 3)])] [(.or [(.not (.isi (.var 11) .int)), (.isi (.var 11) .bool), (.cmp .lt (.var 11) (.int 0))])] (.int 1)) (.lst false []))]) [(.ret (.lst false [(.tup [(.int 2), (.var 8)])]))] []), (.iff (.or [(.cmp .ge (.idx (.var 10) (.int 0)) (.var 3)), (.cmp .gt (.idx (.var 10) (.int 1)) (.var 4)), (.cmp .ge (.idx (.var 10) (.int 2)) (.bin .add false (.var 3) (.var 7))), (.not (.call 31 [(.idx (.var 10) (.int 3))] [])), (.not (.chn .lt .le (.int 0) (.idx (.idx (.var 10) (.int 3)) (.int 0)) (.idx (.idx (.var 10) (.int 3)) (.int 1))))]) [(.ret (.lst false [(.tup [(.int 2), (.var 8)])]))] [])]) (S := S) (I := I) (Ex := IsBadRt S) (g := stOkO r s o) IsBadRt.loop (all2_enum optT sts 0) (by
        rintro x a ⟨k, rfl⟩ hmem env ⟨v1, v2, v8, v9, v10, v11, v12, rfl⟩
        refine ⟨[some (.d pc), v1, v2, some (.d (optN (some r))), some (.d (optN (some s))), some (.d (.tup (sts.map optT))), some (.d (.tup (ins.map optN))), some (.d (optN (some o))), some (.d (.int k)), v9, some (.d (optT a)), v11, v12], by simp, ?_⟩
        cases a with
        | none => right; exact ⟨rfl, .lst [.tup [.int 2, .int k]], by simp, rfl⟩
        | some a =>
          have ha := s_law_is_share (n+2) a.2.2.2 S (hb a hmem)
          have q1 : eqOk (.lst []) (.lst []) = true := rfl
          have q2 : D.eqv (.lst []) (.lst []) = true := rfl
          refine (?_ : (stOkO r s o (some a) = true ∧ exSs pg (callF pg (n+4)) [(.iff (.or [(.not (.isi (.var 10) .tuple)), (.cmp .ne (.blt .len false [(.var 10)]) (.int 4)), (.cmp .ne (.comp false [11] (.nm 11) .it [(.sl false (.var 10) [] [(.int 3)])] [(.or [(.not (.isi (.var 11) .int)), (.isi (.var 11) .bool), (.cmp .lt (.var 11) (.int 0))])] (.int 1)) (.lst false []))]) [(.ret (.lst false [(.tup [(.int 2), (.var 8)])]))] []), (.iff (.or [(.cmp .ge (.idx (.var 10) (.int 0)) (.var 3)), (.cmp .gt (.idx (.var 10) (.int 1)) (.var 4)), (.cmp .ge (.idx (.var 10) (.int 2)) (.bin .add false (.var 3) (.var 7))), (.not (.call 31 [(.idx (.var 10) (.int 3))] [])), (.not (.chn .lt .le (.int 0) (.idx (.idx (.var 10) (.int 3)) (.int 0)) (.idx (.idx (.var 10) (.int 3)) (.int 1))))]) [(.ret (.lst false [(.tup [(.int 2), (.var 8)])]))] [])] [some (.d pc), v1, v2, some (.d (optN (some r))), some (.d (optN (some s))), some (.d (.tup (sts.map optT))), some (.d (.tup (ins.map optN))), some (.d (optN (some o))), some (.d (.int k)), v9, some (.d (stD a)), v11, v12] S = .nx [some (.d pc), v1, v2, some (.d (optN (some r))), some (.d (optN (some s))), some (.d (.tup (sts.map optT))), some (.d (.tup (ins.map optN))), some (.d (optN (some o))), some (.d (.int k)), v9, some (.d (stD a)), v11, v12] S) ∨ (stOkO r s o (some a) = false ∧ exSs pg (callF pg (n+4)) [(.iff (.or [(.not (.isi (.var 10) .tuple)), (.cmp .ne (.blt .len false [(.var 10)]) (.int 4)), (.cmp .ne (.comp false [11] (.nm 11) .it [(.sl false (.var 10) [] [(.int 3)])] [(.or [(.not (.isi (.var 11) .int)), (.isi (.var 11) .bool), (.cmp .lt (.var 11) (.int 0))])] (.int 1)) (.lst false []))]) [(.ret (.lst false [(.tup [(.int 2), (.var 8)])]))] []), (.iff (.or [(.cmp .ge (.idx (.var 10) (.int 0)) (.var 3)), (.cmp .gt (.idx (.var 10) (.int 1)) (.var 4)), (.cmp .ge (.idx (.var 10) (.int 2)) (.bin .add false (.var 3) (.var 7))), (.not (.call 31 [(.idx (.var 10) (.int 3))] [])), (.not (.chn .lt .le (.int 0) (.idx (.idx (.var 10) (.int 3)) (.int 0)) (.idx (.idx (.var 10) (.int 3)) (.int 1))))]) [(.ret (.lst false [(.tup [(.int 2), (.var 8)])]))] [])] [some (.d pc), v1, v2, some (.d (optN (some r))), some (.d (optN (some s))), some (.d (.tup (sts.map optT))), some (.d (.tup (ins.map optN))), some (.d (optN (some o))), some (.d (.int k)), v9, some (.d (stD a)), v11, v12] S = .rt (.d (.lst [.tup [.int 2, .int k]])) S)).imp (fun h => ⟨h.1, _, h.2, _, _, _, _, _, _, _, rfl⟩) (fun h => ⟨h.1, .lst [.tup [.int 2, .int k]], h.2, rfl⟩)
          have f1 : exS pg (callF pg (n+4)) (.iff (.or [(.not (.isi (.var 10) .tuple)), (.cmp .ne (.blt .len false [(.var 10)]) (.int 4)), (.cmp .ne (.comp false [11] (.nm 11) .it [(.sl false (.var 10) [] [(.int 3)])] [(.or [(.not (.isi (.var 11) .int)), (.isi (.var 11) .bool), (.cmp .lt (.var 11) (.int 0))])] (.int 1)) (.lst false []))]) [(.ret (.lst false [(.tup [(.int 2), (.var 8)])]))] []) [some (.d pc), v1, v2, some (.d (optN (some r))), some (.d (optN (some s))), some (.d (.tup (sts.map optT))), some (.d (.tup (ins.map optN))), some (.d (optN (some o))), some (.d (.int k)), v9, some (.d (stD a)), v11, v12] S = .nx [some (.d pc), v1, v2, some (.d (optN (some r))), some (.d (optN (some s))), some (.d (.tup (sts.map optT))), some (.d (.tup (ins.map optN))), some (.d (optN (some o))), some (.d (.int k)), v9, some (.d (stD a)), v11, v12] S := by
            simp [blkE, wipeE, q1, q2, show ¬ ((a.1 : Int) < 0) by omega, show ¬ ((a.2.1 : Int) < 0) by omega, show ¬ ((a.2.2.1 : Int) < 0) by omega]
          rw [step_nx _ _ f1 rfl]
          unfold stOkO stOk
          dsimp only
          by_cases h1 : a.1 < r
          · by_cases h2 : a.2.1 ≤ s
            · by_cases h3 : a.2.2.1 < r + o
              · cases h4 : small a.2.2.2 with
                | true =>
                  by_cases h5 : 0 < a.2.2.2.1
                  · by_cases h6 : a.2.2.2.1 ≤ a.2.2.2.2
                    · left
                      exact ⟨by simp [h1, h2, h3, h5, h6], step_nx [some (.d pc), v1, v2, some (.d (optN (some r))), some (.d (optN (some s))), some (.d (.tup (sts.map optT))), some (.d (.tup (ins.map optN))), some (.d (optN (some o))), some (.d (.int k)), v9, some (.d (stD a)), v11, v12] S (by simp [ha, h1, h4, h5, h6, show ¬ ((s : Int) < a.2.1) by omega, show ¬ ((r : Int) + o ≤ a.2.2.1) by omega, show ¬ ((r : Int) ≤ a.1) by omega]) (exSs_nil ..)⟩
                    · right
                      exact ⟨by simp [h6], step_rt (by simp [ha, h1, h4, h5, h6, show ¬ ((s : Int) < a.2.1) by omega, show ¬ ((r : Int) + o ≤ a.2.2.1) by omega, show ¬ ((r : Int) ≤ a.1) by omega])⟩
                  · right
                    exact ⟨by simp [h5], step_rt (by simp [ha, h1, h4, h5, show ¬ ((s : Int) < a.2.1) by omega, show ¬ ((r : Int) + o ≤ a.2.2.1) by omega, show ¬ ((r : Int) ≤ a.1) by omega])⟩
                | false =>
                  right
                  exact ⟨by simp, step_rt (by simp [ha, h1, h4, show ¬ ((s : Int) < a.2.1) by omega, show ¬ ((r : Int) + o ≤ a.2.2.1) by omega, show ¬ ((r : Int) ≤ a.1) by omega])⟩
              · right
                exact ⟨by simp [h3], step_rt (by simp [h1, show ¬ ((s : Int) < a.2.1) by omega, show ((r : Int) + o ≤ a.2.2.1) by omega, show ¬ ((r : Int) ≤ a.1) by omega])⟩
            · right
              exact ⟨by simp [h2], step_rt (by simp [h1, show ((s : Int) < a.2.1) by omega, show ¬ ((r : Int) ≤ a.1) by omega])⟩
          · right
            exact ⟨by simp [h1], step_rt (by simp [show ((r : Int) ≤ a.1) by omega])⟩) _ ⟨w1, w2, w8, w9, w10, w11, w12, rfl⟩
    have e7f : ∀ v1 v2 v8 v9 v10 v11 v12, exS pg (callF pg (n+4)) (.for_ (.tp [(.nm 8), (.nm 10)]) .enum [(.var 5)] [(.iff (.or [(.not (.isi (.var 10) .tuple)), (.cmp .ne (.blt .len false [(.var 10)]) (.int 4)), (.cmp .ne (.comp false [11] (.nm 11) .it [(.sl false (.var 10) [] [(.int 3)])] [(.or [(.not (.isi (.var 11) .int)), (.isi (.var 11) .bool), (.cmp .lt (.var 11) (.int 0))])] (.int 1)) (.lst false []))]) [(.ret (.lst false [(.tup [(.int 2), (.var 8)])]))] []), (.iff (.or [(.cmp .ge (.idx (.var 10) (.int 0)) (.var 3)), (.cmp .gt (.idx (.var 10) (.int 1)) (.var 4)), (.cmp .ge (.idx (.var 10) (.int 2)) (.bin .add false (.var 3) (.var 7))), (.not (.call 31 [(.idx (.var 10) (.int 3))] [])), (.not (.chn .lt .le (.int 0) (.idx (.idx (.var 10) (.int 3)) (.int 0)) (.idx (.idx (.var 10) (.int 3)) (.int 1))))]) [(.ret (.lst false [(.tup [(.int 2), (.var 8)])]))] [])]) [some (.d pc), v1, v2, some (.d (optN (some r))), some (.d (optN (some s))), some (.d (.tup (sts.map optT))), some (.d (.tup (ins.map optN))), some (.d (optN (some o))), v8, v9, v10, v11, v12] S = forB pg (callF pg (n+4)) (.tp [(.nm 8), (.nm 10)]) [(.iff (.or [(.not (.isi (.var 10) .tuple)), (.cmp .ne (.blt .len false [(.var 10)]) (.int 4)), (.cmp .ne (.comp false [11] (.nm 11) .it [(.sl false (.var 10) [] [(.int 3)])] [(.or [(.not (.isi (.var 11) .int)), (.isi (.var 11) .bool), (.cmp .lt (.var 11) (.int 0))])] (.int 1)) (.lst false []))]) [(.ret (.lst false [(.tup [(.int 2), (.var 8)])]))] []), (.iff (.or [(.cmp .ge (.idx (.var 10) (.int 0)) (.var 3)), (.cmp .gt (.idx (.var 10) (.int 1)) (.var 4)), (.cmp .ge (.idx (.var 10) (.int 2)) (.bin .add false (.var 3) (.var 7))), (.not (.call 31 [(.idx (.var 10) (.int 3))] [])), (.not (.chn .lt .le (.int 0) (.idx (.idx (.var 10) (.int 3)) (.int 0)) (.idx (.idx (.var 10) (.int 3)) (.int 1))))]) [(.ret (.lst false [(.tup [(.int 2), (.var 8)])]))] [])] (dl (enumD 0 (sts.map optT))) [some (.d pc), v1, v2, some (.d (optN (some r))), some (.d (optN (some s))), some (.d (.tup (sts.map optT))), some (.d (.tup (ins.map optN))), some (.d (optN (some o))), v8, v9, v10, v11, v12] S := fun v1 v2 v8 v9 v10 v11 v12 => by simp
    rcases e7 with ⟨h7, env7, e7, w1, w2, w8, w9, w10, w11, w12, rfl⟩ | ⟨h7, e7⟩
    rotate_left
    · right
      exact ⟨by simp only [vPieceO, h7]; simp, IsBadRt.step (by rw [e7f]; exact e7)⟩
    rw [step_nx _ _ ((e7f ..).trans e7) rfl]
    have h7' := h7
    obtain ⟨l, rfl, hl7⟩ := all_some h7
    have e1l : (l.map some).filterMap id = l := by simp [List.filterMap_map]
    have e2l : (l.map some).map optT = l.map stD := by rw [List.map_map]; rfl
    rw [List.length_map] at h6
    have e8 := forB_all (P := pg) (F := (callF pg (n+4))) (t := (.nm 9)) (b := [(.asg (.nm 12) (.call 28 [(.comp false [10] (.nm 10) .it [(.var 5)] [(.cmp .eq (.idx (.var 10) (.int 0)) (.var 9))] (.idx (.var 10) (.int 3)))] [])), (.iff (.cmp .gt (.idx (.var 12) (.int 0)) (.idx (.var 12) (.int 1))) [(.ret (.lst false [(.tup [(.str [115,117,109]), (.var 9)])]))] [])]) (S := S) (I := I) (Ex := IsBadRt S) (g := sumOk l) IsBadRt.loop (all2_mapv (fun (i : Nat) => Vl.d (.int (i : Int))) (List.range r)) (by
        rintro x a rfl hmem env ⟨v1, v2, v8, v9, v10, v11, v12, rfl⟩
        rw [e2l]
        refine ⟨[some (.d pc), v1, v2, some (.d (optN (some r))), some (.d (optN (some s))), some (.d (.tup (l.map stD))), some (.d (.tup (ins.map optN))), some (.d (optN (some o))), v8, some (.d (.int a)), v10, v11, v12], by simp, ?_⟩
        obtain ⟨p1, p2⟩ := shOf_part hl7 a
        have hc := comp_shares (callF pg (n+4)) 10 9 [some (.d pc), v1, v2, some (.d (optN (some r))), some (.d (optN (some s))), some (.d (.tup (l.map stD))), some (.d (.tup (ins.map optN))), some (.d (optN (some o))), v8, some (.d (.int a)), v10, v11, v12] l a S (by simp) (by decide) (by rfl) (by omega)
        have hs := s_law_sum (n+1) (shOf a l) S p1 (by omega)
        have hnl : ((shOf a l).map sh).length ≤ 16777216 := by rw [List.length_map]; omega
        have f1 : exS pg (callF pg (n+4)) (.asg (.nm 12) (.call 28 [(.comp false [10] (.nm 10) .it [(.var 5)] [(.cmp .eq (.idx (.var 10) (.int 0)) (.var 9))] (.idx (.var 10) (.int 3)))] [])) [some (.d pc), v1, v2, some (.d (optN (some r))), some (.d (optN (some s))), some (.d (.tup (l.map stD))), some (.d (.tup (ins.map optN))), some (.d (optN (some o))), v8, some (.d (.int a)), v10, v11, v12] S = .nx [some (.d pc), v1, v2, some (.d (optN (some r))), some (.d (optN (some s))), some (.d (.tup (l.map stD))), some (.d (.tup (ins.map optN))), some (.d (optN (some o))), v8, some (.d (.int a)), v10, v11, some (.d (sh (sumS (shOf a l))))] S := by
          simp only [optN_some] at hc
          simp [-compB_consIf, hc, newL_f _ _ hnl, hs]
        rw [step_nx _ _ f1 rfl]
        unfold sumOk
        by_cases hq : (sumS (shOf a l)).1 ≤ (sumS (shOf a l)).2
        · left
          exact ⟨by simp [hq], _, step_nx [some (.d pc), v1, v2, some (.d (optN (some r))), some (.d (optN (some s))), some (.d (.tup (l.map stD))), some (.d (.tup (ins.map optN))), some (.d (optN (some o))), v8, some (.d (.int a)), v10, v11, some (.d (sh (sumS (shOf a l))))] S (by simp [show ¬ ((sumS (shOf a l)).2 < (sumS (shOf a l)).1) by omega]) (exSs_nil ..), v1, v2, v8, some (.d (.int a)), v10, v11, some (.d (sh (sumS (shOf a l)))), by rw [e2l]⟩
        · right
          exact ⟨by simp [hq], .lst [.tup [.str [115,117,109], .int a]], step_rt (by simp [show ((sumS (shOf a l)).2 < (sumS (shOf a l)).1) by omega]), rfl⟩) _ ⟨w1, w2, w8, w9, w10, w11, w12, rfl⟩
    have e8f : ∀ v1 v2 v8 v9 v10 v11 v12, exS pg (callF pg (n+4)) (.for_ (.nm 9) .rng1 [(.var 3)] [(.asg (.nm 12) (.call 28 [(.comp false [10] (.nm 10) .it [(.var 5)] [(.cmp .eq (.idx (.var 10) (.int 0)) (.var 9))] (.idx (.var 10) (.int 3)))] [])), (.iff (.cmp .gt (.idx (.var 12) (.int 0)) (.idx (.var 12) (.int 1))) [(.ret (.lst false [(.tup [(.str [115,117,109]), (.var 9)])]))] [])]) [some (.d pc), v1, v2, some (.d (optN (some r))), some (.d (optN (some s))), some (.d (.tup ((l.map some).map optT))), some (.d (.tup (ins.map optN))), some (.d (optN (some o))), v8, v9, v10, v11, v12] S = forB pg (callF pg (n+4)) (.nm 9) [(.asg (.nm 12) (.call 28 [(.comp false [10] (.nm 10) .it [(.var 5)] [(.cmp .eq (.idx (.var 10) (.int 0)) (.var 9))] (.idx (.var 10) (.int 3)))] [])), (.iff (.cmp .gt (.idx (.var 12) (.int 0)) (.idx (.var 12) (.int 1))) [(.ret (.lst false [(.tup [(.str [115,117,109]), (.var 9)])]))] [])] ((List.range r).map fun (i : Nat) => Vl.d (.int (i : Int))) [some (.d pc), v1, v2, some (.d (optN (some r))), some (.d (optN (some s))), some (.d (.tup ((l.map some).map optT))), some (.d (.tup (ins.map optN))), some (.d (optN (some o))), v8, v9, v10, v11, v12] S := fun v1 v2 v8 v9 v10 v11 v12 => by
      exact rng1_var rfl (Nat.lt_of_le_of_lt h31 (by decide))
    rcases e8 with ⟨h8, env8, e8, w1, w2, w8, w9, w10, w11, w12, rfl⟩ | ⟨h8, e8⟩
    · left
      rw [step_nx _ _ ((e8f ..).trans e8) rfl]
      exact ⟨by simp only [vPieceO, h5, h7', e1l, h8, h31, h32, h33, h4, List.length_map, h6]; simp, step_rt (by simp)⟩
    · right
      exact ⟨by simp only [vPieceO, e1l, h8]; simp, IsBadRt.step (by rw [e8f]; exact e8)⟩
  rcases main with ⟨h, e⟩ | ⟨h, d, e, hd⟩
  · exact ⟨.non, fin_rt e, h.symm⟩
  · exact ⟨d, fin_rt e, hd.trans h.symm⟩
end K83
set_option linter.all false
set_option maxRecDepth 100000
namespace K83
open Mi
open PySem (Str)
def allS : List (Option Stp) → Option (List Stp)
  | [] => some []
  | none :: _ => none
  | some t :: r => (allS r).map (t :: ·)
theorem allS_some : ∀ {x : List (Option Stp)} {l : List Stp}, allS x = some l → x = l.map some
  | [], l, h => by cases h; rfl
  | none :: _, l, h => by cases h
  | some t :: r, l, h => by
    unfold allS at h
    cases q : allS r with
    | none => rw [q] at h; cases h
    | some m => rw [q] at h; cases h; rw [allS_some q]; rfl
theorem allS_none {r s o : Nat} : ∀ {x : List (Option Stp)}, allS x = none → x.all (stOkO r s o) = false
  | none :: _, _ => rfl
  | some t :: r, h => by
    unfold allS at h
    cases q : allS r with
    | none => rw [List.all_cons, allS_none q, Bool.and_false]
    | some m => rw [q] at h; cases h
theorem vPO_none {r s o : Option Nat} {ins : List (Option Nat)} {x : List (Option Stp)} (h : allS x = none) : vPO r s o ins x = false := by
  unfold vPO vPieceO
  cases r <;> cases s <;> cases o <;> simp only [allS_none h] <;> simp
def dIns (w : List Nat) : List (Option Nat) := if w = [110,111,110,101] then [] else (TL.spl [44] 0 [] w).map figs
def rdP2 : List (List Nat) → Option D
  | a :: b :: c :: d :: ws => match allS (ws.map rdStep) with
    | some l => if vP (figs a) (figs b) (figs c) (dIns d) l = true then some (pcD (optN (figs a)) (optN (figs b)) (l.map stD) ((dIns d).map optN) (optN (figs c))) else none
    | none => none
  | _ => none
/-- a piece's text, read -/
def rdPiece (t : List Nat) : Option D := rdP2 (TL.spl [32] 0 [] t)
def optD : Option D → D | none => .non | some p => p
def dRes (o : Option D) (S : Store) : Res Vl := match o with
  | some p => .ok (.d p) S
  | none => .exc 2 .non S
theorem mapM_steps : ∀ ws : List (List Nat), (ws.map D.str).mapM (fun d => match d with | .str w => (rdStep w).map stD | _ => none) = (allS (ws.map rdStep)).map (·.map stD)
  | [] => rfl
  | w :: r => by
    rw [List.map_cons, List.mapM_cons, List.map_cons, mapM_steps r]
    cases hq : rdStep w with
    | none => simp [hq, allS]
    | some t => rw [allS]; cases allS (r.map rdStep) <;> simp [hq]
theorem rdStep_small {t : List Nat} {p : Stp} (h : rdStep t = some p) : small p.2.2.2 = true := by
  unfold rdStep at h
  generalize TL.spl [58] 0 [] t = ps at h
  generalize TL.spl [62] 0 [] (ps.headD []) = es at h
  unfold rdS2 at h
  split at h
  · rename_i x y z u v
    cases hq : rdShare z with
    | none => rw [hq] at h; unfold mkStep at h; split at h <;> simp_all
    | some q =>
      rw [hq] at h
      unfold mkStep at h
      split at h
      · rename_i e
        cases e
        split at h
        · cases h; exact rdShare_small hq
        · cases h
      · cases h
  · cases h
theorem comp_figs (n : Nat) (env : Env) (i : Nat) (own : List Nat) (ws : List (List Nat)) (S : Store) (hi : i < env.length) (hl : ws.length ≤ 16777216) (hw : ∀ w ∈ ws, TOk w) :
    compB pg (callF pg (n+1)) (.nm i) [] (.call 13 [(.var i)] []) (blkE env own) (ws.map .str) [] S = .ok ((ws.map figs).map optN) S := by
  have hlen : ∀ own env, (blkE env own).length = env.length := fun own env => by
    simp only [blkE, List.length_map]
    induction own generalizing env with
    | nil => rfl
    | cons a r ih => simp only [wipeE]; rw [ih]; simp
  rw [compB_map (fun d => match d with | .str w => optN (figs w) | _ => .non) (fun x hx => ?_) (by simpa using hl)]
  · rw [List.nil_append, List.map_map, List.map_map]; rfl
  · obtain ⟨w, h, rfl⟩ := List.mem_map.mp hx
    refine ⟨(blkE env own).set i (some (.d (.str w))), by simp [hlen, hi], ?_⟩
    have g1 : ((blkE env own).set i (some (.d (.str w))))[i]? = some (some (.d (.str w))) := by rw [List.getElem?_set_self (by rw [hlen]; exact hi)]
    simp [g1, s_read_figures n w S (hw w h).lz]
theorem comp_lfigs (n : Nat) (env : Env) (i : Nat) (own : List Nat) (ws : List (List Nat)) (S : Store) (hi : i < env.length) (hl : ws.length ≤ 16777216) (hw : ∀ w ∈ ws, TOk w) :
    compB pg (callF pg (n+1)) (.nm i) [] (.call 37 [(.var i)] []) (blkE env own) (ws.map .str) [] S = .ok ((ws.map figs).map optN) S := by
  have hlen : ∀ own env, (blkE env own).length = env.length := fun own env => by
    simp only [blkE, List.length_map]
    induction own generalizing env with
    | nil => rfl
    | cons a r ih => simp only [wipeE]; rw [ih]; simp
  rw [compB_map (fun d => match d with | .str w => optN (figs w) | _ => .non) (fun x hx => ?_) (by simpa using hl)]
  · rw [List.nil_append, List.map_map, List.map_map]; rfl
  · obtain ⟨w, h, rfl⟩ := List.mem_map.mp hx
    refine ⟨(blkE env own).set i (some (.d (.str w))), by simp [hlen, hi], ?_⟩
    have g1 : ((blkE env own).set i (some (.d (.str w))))[i]? = some (some (.d (.str w))) := by rw [List.getElem?_set_self (by rw [hlen]; exact hi)]
    simp [g1, s_law_figures n w S (hw w h).lz (hw w h).asc]
theorem comp_lsteps (n : Nat) (env : Env) (i : Nat) (own : List Nat) (ws : List (List Nat)) (S : Store) (hi : i < env.length) (hl : ws.length ≤ 16777216) (hw : ∀ w ∈ ws, TOk w) :
    compB pg (callF pg (n+4)) (.nm i) [] (.call 39 [(.var i)] []) (blkE env own) (ws.map .str) [] S = .ok ((ws.map rdStep).map optT) S := by
  have hlen : ∀ own env, (blkE env own).length = env.length := fun own env => by
    simp only [blkE, List.length_map]
    induction own generalizing env with
    | nil => rfl
    | cons a r ih => simp only [wipeE]; rw [ih]; simp
  rw [compB_map (fun d => match d with | .str w => optT (rdStep w) | _ => .non) (fun x hx => ?_) (by simpa using hl)]
  · rw [List.nil_append, List.map_map, List.map_map]; rfl
  · obtain ⟨w, h, rfl⟩ := List.mem_map.mp hx
    refine ⟨(blkE env own).set i (some (.d (.str w))), by simp [hlen, hi], ?_⟩
    have g1 : ((blkE env own).set i (some (.d (.str w))))[i]? = some (some (.d (.str w))) := by rw [List.getElem?_set_self (by rw [hlen]; exact hi)]
    simp [g1, s_law_read_step n w S (hw w h)]
theorem comp_steps (n : Nat) (env : Env) (i : Nat) (own : List Nat) (ws : List (List Nat)) (S : Store) (hi : i < env.length) (hl : ws.length ≤ 16777216) (hw : ∀ w ∈ ws, TOk w) :
    compB pg (callF pg (n+7)) (.nm i) [] (.call 19 [(.var i)] []) (blkE env own) (ws.map .str) [] S = (match allS (ws.map rdStep) with | some l => .ok (l.map stD) S | none => .exc 2 .non S) := by
  have hlen : ∀ own env, (blkE env own).length = env.length := fun own env => by
    simp only [blkE, List.length_map]
    induction own generalizing env with
    | nil => rfl
    | cons a r ih => simp only [wipeE]; rw [ih]; simp
  rw [compB_opt (fun d => match d with | .str w => (rdStep w).map stD | _ => none) (c := 2) (d := .non) (fun x hx => ?_) (by simpa using hl), mapM_steps]
  · cases allS (ws.map rdStep) <;> simp
  · obtain ⟨w, h, rfl⟩ := List.mem_map.mp hx
    refine ⟨(blkE env own).set i (some (.d (.str w))), by simp [hlen, hi], ?_⟩
    have g1 : ((blkE env own).set i (some (.d (.str w))))[i]? = some (some (.d (.str w))) := by rw [List.getElem?_set_self (by rw [hlen]; exact hi)]
    have := s_read_step n w S (hw w h)
    cases hq : rdStep w with
    | none => rw [hq] at this; simp [g1, this, stRes, hq]
    | some p => rw [hq] at this; simp [g1, this, stRes, hq]
theorem try_1 (d env S) : tryK pg (.ex 1 d env S) [⟨[1], none, .rs 2 .non⟩] = .ex 2 .non env S := rfl
theorem try_2 (d env S) : tryK pg (.ex 2 d env S) [⟨[1], none, .rs 2 .non⟩] = .ex 2 d env S := rfl
theorem put3 (a b c : D) (env : Env) (i j k : Nat) (h1 : i < env.length) (h2 : j < env.length) (h3 : k < env.length) : T.put (.tp [.nm i, .nm j, .nm k]) (.d (.lst [a, b, c])) env = some (((env.set i (some (.d a))).set j (some (.d b))).set k (some (.d c))) := by
  simp [h1, h2, h3]
theorem s_read_piece (n : Nat) (t : List Nat) (S : Store) (hx : TOk t) : callF pg (n+8) 21 [.d (.str t)] S = dRes (rdPiece t) S := by
  rw [c_read_piece]
  have hsp := hx.split S 32 (by decide)
  have hpt := hx.part (s := 32)
  have hln := (spl_len (s := 32) [] t).1
  have hxl := hx.len
  unfold rdPiece
  generalize TL.spl [32] 0 [] t = ps at *
  rw [b_read_piece]
  have e1 : exS pg (callF pg (n+7)) (.iff (.not (.isi (.var 0) .str)) [(.rse 2 .non)] []) [some (.d (.str t)), none, none, none, none, none, none, none] S = .nx [some (.d (.str t)), none, none, none, none, none, none, none] S := by simp
  have e2 : exS pg (callF pg (n+7)) (.asg (.nm 1) (.mth .split (.var 0) [(.str [32])])) [some (.d (.str t)), none, none, none, none, none, none, none] S = .nx [some (.d (.str t)), some (.d (.lst (ps.map .str))), none, none, none, none, none, none] S := by simp [hsp]
  rw [step_nx _ _ e1 rfl, step_nx _ _ e2 rfl]
  match ps, hpt, hln with
  | [], hpt, hln => exact fin_ex (step_ex (by simp; rfl))
  | [_], hpt, hln => exact fin_ex (step_ex (by simp; rfl))
  | [_, _], hpt, hln => exact fin_ex (step_ex (by simp; rfl))
  | [_, _, _], hpt, hln => exact fin_ex (step_ex (by simp; rfl))
  | a :: b :: c :: d :: ws, hpt, hln =>
    have e3 : exS pg (callF pg (n+7)) (.iff (.cmp .lt (.blt .len false [(.var 1)]) (.int 4)) [(.rse 2 .non)] []) [some (.d (.str t)), some (.d (.lst ((a :: b :: c :: d :: ws).map .str))), none, none, none, none, none, none] S = .nx [some (.d (.str t)), some (.d (.lst ((a :: b :: c :: d :: ws).map .str))), none, none, none, none, none, none] S := by
      simp [show ¬ ((ws.length : Int) + 1 + 1 + 1 + 1 < 4) by omega]
    have c1 := comp_figs (n+6) [some (.d (.str t)), some (.d (.lst ((a :: b :: c :: d :: ws).map .str))), none, none, none, none, none, none] 5 [5] [a, b, c] S (by simp) (by simp) (fun w hw => hpt w (by simp at hw; rcases hw with e | e | e <;> simp [e]))
    have e4 : exS pg (callF pg (n+7)) (.asg (.tp [(.nm 2), (.nm 3), (.nm 4)]) (.comp false [5] (.nm 5) .it [(.sl false (.var 1) [] [(.int 3)])] [] (.call 13 [(.var 5)] []))) [some (.d (.str t)), some (.d (.lst ((a :: b :: c :: d :: ws).map .str))), none, none, none, none, none, none] S = .nx [some (.d (.str t)), some (.d (.lst ((a :: b :: c :: d :: ws).map .str))), some (.d (optN (figs a))), some (.d (optN (figs b))), some (.d (optN (figs c))), none, none, none] S := by
      simp only [List.map_cons, List.map_nil] at c1
      simp [-compB_cons, c1]
    have hd := hpt d (by simp)
    have hsd := hd.split S 44 (by decide)
    have hdl := (spl_len (s := 44) [] d).1
    have hdl2 := hd.len
    have e5 : exS pg (callF pg (n+7)) (.asg (.nm 6) (.ife (.cmp .ne (.idx (.var 1) (.int 3)) (.str [110,111,110,101])) (.blt .tuple false [(.comp false [7] (.nm 7) .it [(.mth .split (.idx (.var 1) (.int 3)) [(.str [44])])] [] (.call 13 [(.var 7)] []))]) (.tup []))) [some (.d (.str t)), some (.d (.lst ((a :: b :: c :: d :: ws).map .str))), some (.d (optN (figs a))), some (.d (optN (figs b))), some (.d (optN (figs c))), none, none, none] S = .nx [some (.d (.str t)), some (.d (.lst ((a :: b :: c :: d :: ws).map .str))), some (.d (optN (figs a))), some (.d (optN (figs b))), some (.d (optN (figs c))), none, some (.d (.tup ((dIns d).map optN))), none] S := by
      unfold dIns
      by_cases hn : d = [110,111,110,101]
      · rw [if_pos hn]; simp [eq_true hn]
      · rw [if_neg hn]
        have c2 := comp_figs (n+6) [some (.d (.str t)), some (.d (.lst ((a :: b :: c :: d :: ws).map .str))), some (.d (optN (figs a))), some (.d (optN (figs b))), some (.d (optN (figs c))), none, none, none] 7 [7] (TL.spl [44] 0 [] d) S (by simp) (by omega) (hd.part (s := 44))
        have hnl : (((TL.spl [44] 0 [] d).map figs).map optN).length ≤ 16777216 := by simp at hdl ⊢; omega
        simp only [List.map_cons] at c2
        simp [-List.map_map, hn, hsd, c2, newL_f _ _ hnl]
    rw [step_nx _ _ e3 rfl, step_nx _ _ e4 rfl, step_nx _ _ e5 rfl]
    have hwl : ws.length ≤ 16777216 := by simp at hln; omega
    have c3 := comp_steps n [some (.d (.str t)), some (.d (.lst ((a :: b :: c :: d :: ws).map .str))), some (.d (optN (figs a))), some (.d (optN (figs b))), some (.d (optN (figs c))), none, some (.d (.tup ((dIns d).map optN))), none] 5 [5] ws S (by simp) hwl (fun w hw => hpt w (by simp [hw]))
    show finish false S.length _ = dRes (match allS (ws.map rdStep) with
      | some l => if vP (figs a) (figs b) (figs c) (dIns d) l = true then some (pcD (optN (figs a)) (optN (figs b)) (l.map stD) ((dIns d).map optN) (optN (figs c))) else none
      | none => none) S
    have hnl4 : (ws.map D.str).length ≤ 16777216 := by simpa using hwl
    cases hq : allS (ws.map rdStep) with
    | none =>
      rw [hq] at c3
      simp only [List.map_cons] at c3
      have : exS pg (callF pg (n+7)) (.ret (.call 11 [(.tup [(.var 2), (.var 3), (.blt .tuple false [(.comp false [5] (.nm 5) .it [(.sl false (.var 1) [(.int 4)] [])] [] (.call 19 [(.var 5)] []))]), (.var 6), (.var 4)])] [])) [some (.d (.str t)), some (.d (.lst ((a :: b :: c :: d :: ws).map .str))), some (.d (optN (figs a))), some (.d (optN (figs b))), some (.d (optN (figs c))), none, some (.d (.tup ((dIns d).map optN))), none] S = .ex 2 .non [some (.d (.str t)), some (.d (.lst ((a :: b :: c :: d :: ws).map .str))), some (.d (optN (figs a))), some (.d (optN (figs b))), some (.d (optN (figs c))), none, some (.d (.tup ((dIns d).map optN))), none] S := by
        simp [-List.map_map, newL_f _ _ hnl4, c3]
      exact fin_ex (step_ex (by rw [exS_try, step_ex this, try_2]))
    | some l =>
      rw [hq] at c3
      simp only [List.map_cons] at c3
      have hll : (l.map stD).length ≤ 16777216 := by
        have := congrArg List.length (allS_some hq)
        simp at this ⊢; omega
      have hnp := s_need_piece (n+1) (figs a) (figs b) (figs c) (dIns d) l S (fun x hx => by
        have : some x ∈ ws.map rdStep := by rw [allS_some hq]; exact List.mem_map.mpr ⟨x, hx, rfl⟩
        obtain ⟨w, _, hw⟩ := List.mem_map.mp this
        exact (small_bd' (rdStep_small hw)).2.2)
      dsimp only
      rcases hnp with ⟨hv, hn⟩ | ⟨hv, dd, hn⟩
      · rw [if_pos hv]
        refine fin_rt (step_rt ?_)
        rw [exS_try, step_rt (v := .d (pcD (optN (figs a)) (optN (figs b)) (l.map stD) ((dIns d).map optN) (optN (figs c)))) (S1 := S) (by simp [-List.map_map, newL_f _ _ hnl4, c3, newL_f _ _ hll, hn]), tryK_rt]
      · rw [hv]
        refine fin_ex (step_ex (env1 := [some (.d (.str t)), some (.d (.lst ((a :: b :: c :: d :: ws).map .str))), some (.d (optN (figs a))), some (.d (optN (figs b))), some (.d (optN (figs c))), none, some (.d (.tup ((dIns d).map optN))), none]) ?_)
        rw [exS_try, step_ex (c := 1) (d := dd) (env1 := [some (.d (.str t)), some (.d (.lst ((a :: b :: c :: d :: ws).map .str))), some (.d (optN (figs a))), some (.d (optN (figs b))), some (.d (optN (figs c))), none, some (.d (.tup ((dIns d).map optN))), none]) (S1 := S) (by simp [-List.map_map, newL_f _ _ hnl4, c3, newL_f _ _ hll, hn]), try_1]
theorem s_law_read_piece (n : Nat) (t : List Nat) (S : Store) (hx : TOk t) : callF pg (n+6) 40 [.d (.str t)] S = .ok (.d (optD (rdPiece t))) S := by
  rw [c__law_read_piece]
  refine fin_rt ?_
  have hsp := hx.split S 32 (by decide)
  have hpt := hx.part (s := 32)
  have hln := (spl_len (s := 32) [] t).1
  have hxl := hx.len
  unfold rdPiece
  generalize TL.spl [32] 0 [] t = ps at *
  rw [b__law_read_piece]
  have e2 : exS pg (callF pg (n+5)) (.asg (.nm 1) (.mth .split (.var 0) [(.str [32])])) [some (.d (.str t)), none, none, none, none, none] S = .nx [some (.d (.str t)), some (.d (.lst (ps.map .str))), none, none, none, none] S := by simp [hsp]
  rw [step_nx _ _ e2 rfl]
  match ps, hpt, hln with
  | [], hpt, hln => exact step_rt (by simp [optD, rdP2])
  | [_], hpt, hln => exact step_rt (by simp [optD, rdP2])
  | [_, _], hpt, hln => exact step_rt (by simp [optD, rdP2])
  | [_, _, _], hpt, hln => exact step_rt (by simp [optD, rdP2])
  | a :: b :: c :: d :: ws, hpt, hln =>
    show _ = Fl.rt (.d (optD (match allS (ws.map rdStep) with
      | some l => if vP (figs a) (figs b) (figs c) (dIns d) l = true then some (pcD (optN (figs a)) (optN (figs b)) (l.map stD) ((dIns d).map optN) (optN (figs c))) else none
      | none => none))) S
    by_cases h40 : 40 < ws.length
    · have : (match allS (ws.map rdStep) with
        | some l => if vP (figs a) (figs b) (figs c) (dIns d) l = true then some (pcD (optN (figs a)) (optN (figs b)) (l.map stD) ((dIns d).map optN) (optN (figs c))) else none
        | none => none) = none := by
        cases hq : allS (ws.map rdStep) with
        | none => rfl
        | some l =>
          have hll := congrArg List.length (allS_some hq)
          simp at hll
          have : vP (figs a) (figs b) (figs c) (dIns d) l = false := by
            unfold vP vPiece
            cases figs a <;> cases figs b <;> cases figs c <;> simp only [show decide (l.length ≤ 40) = false from decide_eq_false (by omega)] <;> simp
          dsimp only
          rw [this]; rfl
      rw [this]
      exact step_rt (by simp [optD, show ¬ ((ws.length : Int) + 1 + 1 + 1 + 1 < 4) by omega, show ((44 : Int) < (ws.length : Int) + 1 + 1 + 1 + 1) by omega])
    · have e3 : exS pg (callF pg (n+5)) (.iff (.or [(.cmp .lt (.blt .len false [(.var 1)]) (.int 4)), (.cmp .gt (.blt .len false [(.var 1)]) (.int 44))]) [(.ret .non)] []) [some (.d (.str t)), some (.d (.lst ((a :: b :: c :: d :: ws).map .str))), none, none, none, none] S = .nx [some (.d (.str t)), some (.d (.lst ((a :: b :: c :: d :: ws).map .str))), none, none, none, none] S := by
        simp [show ¬ ((ws.length : Int) + 1 + 1 + 1 + 1 < 4) by omega, show ¬ ((44 : Int) < (ws.length : Int) + 1 + 1 + 1 + 1) by omega]
      have hd := hpt d (by simp)
      have hsd := hd.split S 44 (by decide)
      have hdl := (spl_len (s := 44) [] d).1
      have hdl2 := hd.len
      have e4 : exS pg (callF pg (n+5)) (.asg (.nm 2) (.ife (.cmp .ne (.idx (.var 1) (.int 3)) (.str [110,111,110,101])) (.blt .tuple false [(.comp false [3] (.nm 3) .it [(.mth .split (.idx (.var 1) (.int 3)) [(.str [44])])] [] (.call 37 [(.var 3)] []))]) (.tup []))) [some (.d (.str t)), some (.d (.lst ((a :: b :: c :: d :: ws).map .str))), none, none, none, none] S = .nx [some (.d (.str t)), some (.d (.lst ((a :: b :: c :: d :: ws).map .str))), some (.d (.tup ((dIns d).map optN))), none, none, none] S := by
        unfold dIns
        by_cases hn : d = [110,111,110,101]
        · rw [if_pos hn]; simp [eq_true hn]
        · rw [if_neg hn]
          have c2 := comp_lfigs (n+4) [some (.d (.str t)), some (.d (.lst ((a :: b :: c :: d :: ws).map .str))), none, none, none, none] 3 [3] (TL.spl [44] 0 [] d) S (by simp) (by omega) (hd.part (s := 44))
          have hnl : (((TL.spl [44] 0 [] d).map figs).map optN).length ≤ 16777216 := by simp at hdl ⊢; omega
          simp only [List.map_cons] at c2
          simp [-List.map_map, hn, hsd, c2, newL_f _ _ hnl]
      have c3 := comp_lsteps (n+1) [some (.d (.str t)), some (.d (.lst ((a :: b :: c :: d :: ws).map .str))), some (.d (.tup ((dIns d).map optN))), none, none, none] 5 [5] ws S (by simp) (by omega) (fun w hw => hpt w (by simp [hw]))
      have hnl4 : (ws.map D.str).length ≤ 16777216 := by simp; omega
      have hnl5 : ((ws.map rdStep).map optT).length ≤ 16777216 := by simp; omega
      have ha := hpt a (by simp)
      have hb := hpt b (by simp)
      have hc := hpt c (by simp)
      have f1 := s_law_figures (n+4) a S ha.lz ha.asc
      have f2 := s_law_figures (n+4) b S hb.lz hb.asc
      have f3 := s_law_figures (n+4) c S hc.lz hc.asc
      have e5 : exS pg (callF pg (n+5)) (.asg (.nm 4) (.tup [(.call 37 [(.idx (.var 1) (.int 0))] []), (.call 37 [(.idx (.var 1) (.int 1))] []), (.blt .tuple false [(.comp false [5] (.nm 5) .it [(.sl false (.var 1) [(.int 4)] [])] [] (.call 39 [(.var 5)] []))]), (.var 2), (.call 37 [(.idx (.var 1) (.int 2))] [])])) [some (.d (.str t)), some (.d (.lst ((a :: b :: c :: d :: ws).map .str))), some (.d (.tup ((dIns d).map optN))), none, none, none] S = .nx [some (.d (.str t)), some (.d (.lst ((a :: b :: c :: d :: ws).map .str))), some (.d (.tup ((dIns d).map optN))), none, some (.d (pcD (optN (figs a)) (optN (figs b)) ((ws.map rdStep).map optT) ((dIns d).map optN) (optN (figs c)))), none] S := by
        simp only [List.map_cons] at c3
        simp [-List.map_map, f1, f2, f3, newL_f _ _ hnl4, c3, newL_f _ _ hnl5]
      rw [step_nx _ _ e3 rfl, step_nx _ _ e4 rfl, step_nx _ _ e5 rfl]
      obtain ⟨dd, hf, hn⟩ := s_law_fault n (figs a) (figs b) (figs c) (dIns d) (ws.map rdStep) S (fun x hx => by
        obtain ⟨w, _, hw⟩ := List.mem_map.mp hx
        exact (small_bd' (rdStep_small hw)).2.2)
      refine step_rt ?_
      cases hq : allS (ws.map rdStep) with
      | none =>
        rw [vPO_none hq] at hn
        simp [-List.map_map, hf, hn, optD]
      | some l =>
        have hm := allS_some hq
        rw [hm, vPO_some] at hn
        have hm2 : (ws.map rdStep).map optT = l.map stD := by rw [hm, List.map_map]; rfl
        rw [hm2] at hf ⊢
        cases hv : vP (figs a) (figs b) (figs c) (dIns d) l with
        | true => rw [hv] at hn; simp [-List.map_map, hf, hn, optD, hv]
        | false => rw [hv] at hn; simp [-List.map_map, hf, hn, optD, hv]
end K83
set_option linter.all false
set_option maxRecDepth 100000
namespace K83
open Mi
open PySem (Str)
mutual
/-- plain data, no deeper than n -/
def gd : Nat → D → Bool
  | _, .non => true | _, .bl _ => true | _, .int _ => true | _, .str _ => true
  | n + 1, .tup xs => gds n xs
  | _, _ => false
def gds : Nat → List D → Bool
  | _, [] => true
  | n, x :: xs => gd n x && gds n xs
end
@[simp] theorem zpD_tup (a b) : zpD [.d (.tup a), .d (.tup b)] = some (dl (zipD a b)) := rfl
theorem s_like : ∀ (k n : Nat) (v : D) (S : Store), gd k v = true → callF pg (n+k+1) 24 [.d v, .d v] S = .ok (.d (.bl true)) S
  | k, n, .non, S, h => by rw [c__law_like]; exact fin_rt (by simp [b__law_like])
  | k, n, .bl b, S, h => by
    rw [c__law_like]
    have q1 : eqOk (.bl b) (.bl b) = true := rfl
    have q2 : D.eqv (.bl b) (.bl b) = true := by cases b <;> rfl
    exact fin_rt (by simp [b__law_like, q1, q2])
  | k, n, .int i, S, h => by rw [c__law_like]; exact fin_rt (by simp [b__law_like])
  | k, n, .str x, S, h => by rw [c__law_like]; exact fin_rt (by simp [b__law_like])
  | 0, n, .tup xs, S, h => by simp [gd] at h
  | k + 1, n, .tup xs, S, h => by
    rw [c__law_like]
    have hxs : gds k xs = true := by simpa [gd] using h
    have loop : ∀ (ys : List D), gds k ys = true → ∀ v2 v3, ∃ w2 w3, forB pg (callF pg (n + (k + 1))) (.tp [.nm 2, .nm 3]) [(.iff (.not (.call 24 [(.var 2), (.var 3)] [])) [(.ret (.bl false))] [])] (dl (zipD ys ys)) [some (.d (.tup xs)), some (.d (.tup xs)), v2, v3] S = .nx [some (.d (.tup xs)), some (.d (.tup xs)), w2, w3] S := fun ys => by
      induction ys with
      | nil => intro _ v2 v3; exact ⟨v2, v3, rfl⟩
      | cons y r ih =>
        intro hy v2 v3
        unfold gds at hy
        rw [Bool.and_eq_true] at hy
        obtain ⟨w2, w3, e⟩ := ih hy.2 (some (.d y)) (some (.d y))
        have hl := s_like k n y S hy.1
        refine ⟨w2, w3, ?_⟩
        show forB pg (callF pg (n + (k + 1))) (.tp [.nm 2, .nm 3]) _ (dl (.tup [y, y] :: zipD r r)) _ S = _
        rw [forB_dcons]
        rw [show n + (k + 1) = n + k + 1 from rfl] at e ⊢
        simp [hl, e]
    obtain ⟨w2, w3, e⟩ := loop xs hxs none none
    refine fin_rt ?_
    rw [b__law_like]
    refine step_rt ?_
    simp [e]
  | k, n, .lst _, S, h => by cases k <;> simp [gd] at h
  | k, n, .dks _, S, h => by cases k <;> simp [gd] at h
theorem s_told_ok (n k : Nat) (caps : List Vl) (S : Store) (v : D) (h : callF pg n k caps S = .ok (.d v) S) : callF pg (n+1) 33 [.clo k caps] S = .ok (.d (.tup [.str [105,115], v])) S := by
  rw [c__law_told]
  exact fin_rt (by rw [b__law_told]; exact step_rt (by rw [exS_try, step_rt (v := .d (.tup [.str [105,115], v])) (S1 := S) (by simp [h]), tryK_rt]))
theorem s_told_exc (n k : Nat) (caps : List Vl) (S : Store) (d : D) (h : callF pg n k caps S = .exc 2 d S) : callF pg (n+1) 33 [.clo k caps] S = .ok (.d (.tup [.str [66,97,100,84,101,120,116], d])) S := by
  rw [c__law_told]
  exact fin_rt (by rw [b__law_told]; exact step_rt (by rw [exS_try, step_ex (c := 2) (d := d) (env1 := [some (.clo k caps), none]) (S1 := S) (by simp [h])]; rfl))
@[simp] theorem bindVs_clo (env k c r) : bindVs env (.clo k c :: r) = (bindVs env r).map (.clo k c :: ·) := by rw [bindVs]; simp only [bindV]
theorem s_is_ok (n m k : Nat) (caps : List Vl) (S : Store) (v : D) (h : callF pg (n+m) k caps S = .ok (.d v) S) (hg : gd m v = true) : callF pg (n+m+2) 25 [.clo k caps, .d (.tup [.str [105,115], v])] S = .ok (.d (.bl true)) S := by
  rw [c__law_is]
  have h1 := s_told_ok (n+m) k caps S v h
  have h2 := s_like m n v S hg
  exact fin_rt (by simp [b__law_is, h1, h2])
theorem s_is_exc (n k : Nat) (caps : List Vl) (S : Store) (h : callF pg (n+1) k caps S = .exc 2 .non S) : callF pg (n+3) 25 [.clo k caps, .d (.tup [.str [66,97,100,84,101,120,116], .non])] S = .ok (.d (.bl true)) S := by
  rw [c__law_is]
  have h1 := s_told_exc (n+1) k caps S .non h
  have h2 := s_like 0 (n+1) .non S rfl
  exact fin_rt (by simp [b__law_is, h1, h2])
theorem gd_sh (k : Nat) (p : Int × Int) : gd (k+1) (sh p) = true := by simp [gd, gds]
theorem gd_st (k : Nat) (p : Stp) : gd (k+2) (stD p) = true := by simp [gd, gds]
theorem gds_map {α : Type} (k : Nat) (f : α → D) (h : ∀ a, gd k (f a) = true) : ∀ l : List α, gds k (l.map f) = true
  | [] => by simp [gds]
  | a :: r => by simp [gds, h a, gds_map k f h r]
theorem gd_optN (k : Nat) (o) : gd k (optN o) = true := by cases o <;> simp [optN, gd]
theorem gd_pc (r s o : Option Nat) (sts : List Stp) (ins : List (Option Nat)) : gd 4 (pcD (optN r) (optN s) (sts.map stD) (ins.map optN) (optN o)) = true := by
  have h1 := gds_map 2 stD (gd_st 0) sts
  have h2 := gds_map 2 optN (gd_optN 2) ins
  simp [gd, gds, gd_optN, h1, h2]
theorem rdP2_pc {ps : List (List Nat)} {d : D} (h : rdP2 ps = some d) : gd 4 d = true := by
  unfold rdP2 at h
  split at h
  · split at h
    · split at h
      · cases h; exact gd_pc ..
      · cases h
    · cases h
  · cases h
theorem s_read_right (n : Nat) (t : List Nat) (S : Store) (hx : TOk t) : callF pg (n+12) 41 [.d (.str t)] S = .ok (.d (.bl true)) S := by
  rw [c__law_read_right]
  have f1 := s_law_read_share (n+8) t S hx
  have f2 := s_law_read_step (n+7) t S hx
  have f3 := s_law_read_piece (n+5) t S hx
  have r1 := s_read_share (n+2) t S hx
  have r2 := s_read_step (n+1) t S hx
  have r3 := s_read_piece n t S hx
  refine fin_rt ?_
  rw [b__law_read_right]
  refine step_nx [some (.d (.str t)), some (.d (optS (rdShare t))), some (.d (optT (rdStep t))), some (.d (optD (rdPiece t)))] S (by simp [f1, f2, f3]) ?_
  have g1 : callF pg (n+11) 25 [.clo 47 [.d (.str t)], .d (match rdShare t with | some p => .tup [.str [105,115], sh p] | none => .tup [.str [66,97,100,84,101,120,116], .non])] S = .ok (.d (.bl true)) S := by
    cases hq : rdShare t with
    | some p =>
      rw [hq] at r1
      exact s_is_ok (n+8) 1 47 _ S (sh p) (by rw [c_l0]; simp [l0, r1, shRes]) (gd_sh 0 p)
    | none =>
      rw [hq] at r1
      exact s_is_exc (n+8) 47 _ S (by rw [c_l0]; simp [l0, r1, shRes])
  have g2 : callF pg (n+11) 25 [.clo 48 [.d (.str t)], .d (match rdStep t with | some p => .tup [.str [105,115], stD p] | none => .tup [.str [66,97,100,84,101,120,116], .non])] S = .ok (.d (.bl true)) S := by
    cases hq : rdStep t with
    | some p =>
      rw [hq] at r2
      exact s_is_ok (n+7) 2 48 _ S (stD p) (by rw [c_l1]; simp [l1, r2, stRes]) (gd_st 0 p)
    | none =>
      rw [hq] at r2
      exact s_is_exc (n+8) 48 _ S (by rw [c_l1]; simp [l1, r2, stRes])
  have g3 : callF pg (n+11) 25 [.clo 49 [.d (.str t)], .d (match rdPiece t with | some p => .tup [.str [105,115], p] | none => .tup [.str [66,97,100,84,101,120,116], .non])] S = .ok (.d (.bl true)) S := by
    cases hq : rdPiece t with
    | some p =>
      rw [hq] at r3
      exact s_is_ok (n+5) 4 49 _ S p (by rw [c_l2]; simp [l2, r3, dRes]) (rdP2_pc hq)
    | none =>
      rw [hq] at r3
      exact s_is_exc (n+8) 49 _ S (by rw [c_l2]; simp [l2, r3, dRes])
  have ga : ∀ (env : Env) (x : D), env[0]? = some (some (.d x)) → getAll env [0] = some [.d x] := fun env x h => by simp [getAll, h]
  have hpn : ∀ d, rdPiece t = some d → isN (.d d) = false := fun d h => by
    unfold rdPiece rdP2 at h
    split at h
    · split at h
      · split at h
        · cases h; rfl
        · cases h
      · cases h
    · cases h
  refine step_nx [some (.d (.str t)), some (.d (optS (rdShare t))), some (.d (optT (rdStep t))), some (.d (optD (rdPiece t)))] S ?_ ?_
  · cases hq : rdShare t with
    | none => rw [hq] at g1; simp [optS, ga, g1]
    | some p => rw [hq] at g1; simp [optS, ga, g1]
  refine step_nx [some (.d (.str t)), some (.d (optS (rdShare t))), some (.d (optT (rdStep t))), some (.d (optD (rdPiece t)))] S ?_ ?_
  · cases hq : rdStep t with
    | none => rw [hq] at g2; simp [ga, g2]
    | some p => rw [hq] at g2; simp [ga, g2]
  refine step_rt ?_
  cases hq : rdPiece t with
  | none => rw [hq] at g3; simp [optD, ga, g3]
  | some p => rw [hq] at g3; simp [optD, ga, g3, hpn p hq]
end K83
set_option linter.all false
set_option maxRecDepth 100000
namespace K83
open Mi
open PySem (Str)
def wrStep (t : Stp) : List Nat := numI t.1 ++ [62] ++ numI t.2.2.1 ++ [58] ++ numI t.2.1 ++ [58] ++ wr t.2.2.2
theorem len99 {n : Nat} (h : n ≤ 99) : (numI (n : Int)).length ≤ 3 := numI_len _ 1 (by omega)
theorem wr_len_small {p : Int × Int} (h : small p = true) : (wr p).length ≤ 29 := by
  obtain ⟨a, _, c, d⟩ := small_bd h
  have e : far = 1000000000000 := rfl
  have b1 := numI_len p.1 12 (by have : (1000000000000 : Nat) < 10 ^ 13 := by decide
                                 omega)
  have b2 := numI_len p.2 12 (by have : (1000000000000 : Nat) < 10 ^ 13 := by decide
                                 omega)
  unfold wr
  split
  · omega
  · simp; omega
theorem wrStep_len {t : Stp} (h1 : t.1 ≤ 99) (h2 : t.2.1 ≤ 99) (h3 : t.2.2.1 ≤ 99) (hp : small t.2.2.2 = true) : (wrStep t).length ≤ 41 := by
  have a := len99 h1
  have b := len99 h2
  have c := len99 h3
  have d := wr_len_small hp
  unfold wrStep
  simp only [List.length_append, List.length_singleton]
  omega
theorem str99 (S) {n : Nat} (h : n ≤ 99) : strD S [.d (.int n)] = .ok (.d (.str (numI n))) S := strD_int S n (log_of (Nat.lt_of_le_of_lt (show (n : Int).natAbs ≤ 99 by omega) (by decide +kernel)))
/-- a text put together, seven parts -/
theorem seven (P : Pg) (F : Call) (env : Env) (S : Store) (e1 e2 e3 e4 : Mi.E) (a b c d : List Nat) (h1 : evE P F e1 env S = .ok (.d (.str a)) S) (h2 : evE P F e2 env S = .ok (.d (.str b)) S) (h3 : evE P F e3 env S = .ok (.d (.str c)) S) (h4 : evE P F e4 env S = .ok (.d (.str d)) S)
    (hl : a.length + b.length + c.length + d.length + 3 ≤ 16777216) :
    evE P F (.bin .add false (.bin .add false (.bin .add false (.bin .add false (.bin .add false (.bin .add false e1 (.str [62])) e2) (.str [58])) e3) (.str [58])) e4) env S = .ok (.d (.str (a ++ [62] ++ b ++ [58] ++ c ++ [58] ++ d))) S := by
  have q1 := binD_addS false a [62] S (by simp only [List.length_singleton]; show _ ≤ 16777216; omega)
  have q2 := binD_addS false (a ++ [62]) b S (by simp only [List.length_append, List.length_singleton]; show _ ≤ 16777216; omega)
  have q3 := binD_addS false (a ++ [62] ++ b) [58] S (by simp only [List.length_append, List.length_singleton]; show _ ≤ 16777216; omega)
  have q4 := binD_addS false (a ++ [62] ++ b ++ [58]) c S (by simp only [List.length_append, List.length_singleton]; show _ ≤ 16777216; omega)
  have q5 := binD_addS false (a ++ [62] ++ b ++ [58] ++ c) [58] S (by simp only [List.length_append, List.length_singleton]; show _ ≤ 16777216; omega)
  have q6 := binD_addS false (a ++ [62] ++ b ++ [58] ++ c ++ [58]) d S (by simp only [List.length_append, List.length_singleton]; show _ ≤ 16777216; omega)
  simp only [evE_bin, evE_str, h1, h2, h3, h4, bindR_ok, q1, q2, q3, q4, q5, q6]
theorem stepOk_le {t : Stp} (h : stepOk t = true) : t.1 ≤ 99 ∧ t.2.1 ≤ 99 ∧ t.2.2.1 ≤ 99 ∧ 0 < t.2.2.2.1 ∧ t.2.2.2.1 ≤ t.2.2.2.2 := by
  unfold stepOk at h
  simp only [Bool.and_eq_true, decide_eq_true_eq] at h
  exact ⟨h.1.1.1.1, h.1.1.1.2, h.1.1.2, h.1.2, h.2⟩
theorem s_step_text (n : Nat) (t : Stp) (S : Store) (h : stepOk t = true) (hp : small t.2.2.2 = true) : callF pg (n+7) 18 [.d (stD t)] S = .ok (.d (.str (wrStep t))) S := by
  rw [c_step_text]
  obtain ⟨h1, h2, h3, _, _⟩ := stepOk_le h
  have hs := s_is_some_step n (some t.1) (some t.2.1) (some t.2.2.1) t.2.2.2 S hp
  rw [← stepOk_eq, h] at hs
  simp only [optN_some] at hs
  have hw := s_written_share (n+5) t.2.2.2 S (small_bd' hp).1 (small_bd' hp).2.1
  have hl := wrStep_len h1 h2 h3 hp
  refine fin_rt ?_
  rw [b_step_text]
  refine step_nx [some (.d (stD t))] S (by simp [hs]) ?_
  refine step_rt ?_
  rw [exS_ret, seven pg _ _ S _ _ _ _ (numI t.1) (numI t.2.2.1) (numI t.2.1) (wr t.2.2.2) (by simp [str99 S h1]) (by simp [str99 S h3]) (by simp [str99 S h2]) (by simp [hw]) (by unfold wrStep at hl; simp only [List.length_append, List.length_singleton] at hl; omega)]
  rfl
theorem s_law_step_text (n : Nat) (t : Stp) (S : Store) (h1 : t.1 ≤ 99) (h2 : t.2.1 ≤ 99) (h3 : t.2.2.1 ≤ 99) (hp : small t.2.2.2 = true) : callF pg (n+2) 35 [.d (stD t)] S = .ok (.d (.str (wrStep t))) S := by
  rw [c__law_step_text]
  have hw := s_law_share_text n t.2.2.2 S (small_bd' hp).1 (small_bd' hp).2.1
  have hl := wrStep_len h1 h2 h3 hp
  refine fin_rt ?_
  rw [b__law_step_text]
  refine step_rt ?_
  rw [exS_ret, seven pg _ _ S _ _ _ _ (numI t.1) (numI t.2.2.1) (numI t.2.1) (wr t.2.2.2) (by simp [str99 S h1]) (by simp [str99 S h3]) (by simp [str99 S h2]) (by simp [hw]) (by unfold wrStep at hl; simp only [List.length_append, List.length_singleton] at hl; omega)]
  rfl
def intN (n : Nat) : D := .int n
def wrDoors (ins : List Nat) : List Nat := if ins = [] then [110,111,110,101] else TL.joinL [44] (ins.map fun n : Nat => numI (n : Int))
def wrPiece (r s o : Nat) (ins : List Nat) (sts : List Stp) : List Nat := TL.joinL [32] ([numI r, numI s, numI o, wrDoors ins] ++ sts.map wrStep)
theorem joinL_len (y : List Nat) : ∀ ps : List (List Nat), (TL.joinL y ps).length ≤ (ps.map (·.length)).sum + ps.length * y.length
  | [] => by simp [TL.joinL]
  | [p] => by simp [TL.joinL]
  | p :: q :: r => by
    have := joinL_len y (q :: r)
    simp only [TL.joinL, List.length_append, List.map_cons, List.sum_cons, List.length_cons] at this ⊢
    rw [Nat.add_mul (r.length + 1) 1, Nat.one_mul]
    omega
theorem sum_le (f : List Nat → Nat) (k : Nat) : ∀ ps : List (List Nat), (∀ p ∈ ps, p.length ≤ k) → (ps.map (·.length)).sum ≤ ps.length * k
  | [], _ => by simp
  | p :: r, h => by
    have h1 := h p (by simp)
    have := sum_le f k r (fun q hq => h q (by simp [hq]))
    simp only [List.map_cons, List.sum_cons, List.length_cons, Nat.add_mul, Nat.one_mul]
    omega
theorem eqv_nil (l : List Nat) : eqOk (.tup (l.map intN)) (.tup []) = true ∧ D.eqv (.tup (l.map intN)) (.tup []) = decide (l = []) := by
  constructor
  · unfold eqOk
    have : ∀ l : List Nat, D.shps 59 (l.map intN) = true := fun l => by
      induction l with
      | nil => rfl
      | cons a r ih => show (D.shp 59 (.int a) && D.shps 59 (r.map intN)) = true; rw [ih]; rfl
    have h : D.shp 60 (.tup (l.map intN)) = true := this l
    rw [h]; cases l <;> rfl
  · cases l with
    | nil => rfl
    | cons a r => simp [D.eqv, D.eqvs]
/-- what is asked of a drawn piece -/
structure POk (r s o : Nat) (ins : List Nat) (sts : List Stp) : Prop where
  v : vPiece r s o (ins.map some) sts = true
  le : ∀ t ∈ sts, t.1 ≤ 99 ∧ t.2.1 ≤ 99 ∧ t.2.2.1 ≤ 99 ∧ small t.2.2.2 = true ∧ stepOk t = true
theorem POk.of {r s o : Nat} {ins : List Nat} {sts : List Stp} (v : vPiece r s o (ins.map some) sts = true) : POk r s o ins sts := by
  refine ⟨v, fun t ht => ?_⟩
  unfold vPiece at v
  simp only [Bool.and_eq_true, decide_eq_true_eq] at v
  obtain ⟨⟨⟨⟨⟨⟨⟨a, b⟩, c⟩, d⟩, e⟩, f⟩, g⟩, h⟩ := v
  have := List.all_eq_true.mp g t ht
  unfold stOk at this
  simp only [Bool.and_eq_true, decide_eq_true_eq] at this
  obtain ⟨⟨⟨⟨⟨p1, p2⟩, p3⟩, p4⟩, p5⟩, p6⟩ := this
  exact ⟨by omega, by omega, by omega, p4, by simp [stepOk, p5, p6]; omega⟩
theorem POk.nums {r s o : Nat} {ins : List Nat} {sts : List Stp} (h : POk r s o ins sts) : r ≤ 12 ∧ s ≤ 3 ∧ o ≤ 3 ∧ ins.length ≤ 3 ∧ (∀ i ∈ ins, i ≤ 99) ∧ sts.length ≤ 40 := by
  have v := h.v
  unfold vPiece at v
  simp only [Bool.and_eq_true, decide_eq_true_eq] at v
  obtain ⟨⟨⟨⟨⟨⟨⟨a, b⟩, c⟩, d⟩, e⟩, f⟩, g⟩, h⟩ := v
  refine ⟨a, b, c, by simpa using d, fun i hi => ?_, f⟩
  have := List.all_eq_true.mp e (some i) (List.mem_map.mpr ⟨i, hi, rfl⟩)
  simp [inOk] at this; omega
theorem POk.doors {r s o : Nat} {ins : List Nat} {sts : List Stp} (h : POk r s o ins sts) : (wrDoors ins).length ≤ 12 ∧ ((ins.map fun n : Nat => numI (n : Int)).map (·.length)).sum + (ins.map fun n : Nat => numI (n : Int)).length * 1 ≤ 12 := by
  obtain ⟨_, _, _, a, b, _⟩ := h.nums
  have h1 := sum_le (fun l => l.length) 3 (ins.map fun n : Nat => numI (n : Int)) (fun p hp => by
    obtain ⟨i, hi, rfl⟩ := List.mem_map.mp hp
    exact len99 (b i hi))
  simp only [List.length_map] at h1 ⊢
  refine ⟨?_, by omega⟩
  unfold wrDoors
  split
  · simp
  · have := joinL_len [44] (ins.map fun n : Nat => numI (n : Int))
    simp only [List.length_map, List.length_singleton] at this
    omega
theorem POk.len {r s o : Nat} {ins : List Nat} {sts : List Stp} (h : POk r s o ins sts) : (([numI r, numI s, numI o, wrDoors ins] ++ sts.map wrStep).map (·.length)).sum + ([numI r, numI s, numI o, wrDoors ins] ++ sts.map wrStep).length * 1 ≤ 2000 := by
  obtain ⟨a, b, c, _, _, d⟩ := h.nums
  have h1 := sum_le (fun l => l.length) 41 (sts.map wrStep) (fun p hp => by
    obtain ⟨t, ht, rfl⟩ := List.mem_map.mp hp
    obtain ⟨q1, q2, q3, q4, _⟩ := h.le t ht
    exact wrStep_len q1 q2 q3 q4)
  have e := h.doors.1
  have f1 := len99 (n := r) (by omega)
  have f2 := len99 (n := s) (by omega)
  have f3 := len99 (n := o) (by omega)
  simp only [List.map_append, List.map_cons, List.map_nil, List.sum_append, List.sum_cons, List.sum_nil, List.length_append, List.length_cons, List.length_nil, List.length_map] at h1 ⊢
  omega
theorem comp_strs (P : Pg) (F : Call) (env : Env) (i : Nat) (own : List Nat) (ns : List Nat) (S : Store) (hi : i < env.length) (hl : ns.length ≤ 16777216) (hw : ∀ w ∈ ns, w ≤ 99) :
    compB P F (.nm i) [] (.blt .str false [(.var i)]) (blkE env own) (ns.map intN) [] S = .ok ((ns.map fun n : Nat => numI (n : Int)).map .str) S := by
  have hlen : ∀ own env, (blkE env own).length = env.length := fun own env => by
    simp only [blkE, List.length_map]
    induction own generalizing env with
    | nil => rfl
    | cons a r ih => simp only [wipeE]; rw [ih]; simp
  rw [compB_map (fun d => match d with | .int w => .str (numI w) | _ => .non) (fun x hx => ?_) (by simpa using hl)]
  · rw [List.nil_append, List.map_map, List.map_map]; rfl
  · obtain ⟨w, h, rfl⟩ := List.mem_map.mp hx
    refine ⟨(blkE env own).set i (some (.d (intN w))), by simp [hlen, hi], ?_⟩
    have g1 : ((blkE env own).set i (some (.d (intN w))))[i]? = some (some (.d (intN w))) := by rw [List.getElem?_set_self (by rw [hlen]; exact hi)]
    have g2 := str99 S (hw w h)
    show evE P F _ _ S = .ok (.d (.str (numI w))) S
    rw [evE_blt, evEs_cons, evE_var, g1]
    simp [intN, g2]
theorem comp_wsteps (f k : Nat) (F : Call) (env : Env) (i : Nat) (own : List Nat) (sts : List Stp) (S : Store) (hi : i < env.length) (hl : sts.length ≤ 16777216) (hw : ∀ w ∈ sts, F f [.d (stD w)] S = .ok (.d (.str (wrStep w))) S) :
    compB pg F (.nm i) [] (.call f [(.var i)] []) (blkE env own) (sts.map stD) [] S = .ok ((sts.map wrStep).map .str) S := by
  have hlen : ∀ own env, (blkE env own).length = env.length := fun own env => by
    simp only [blkE, List.length_map]
    induction own generalizing env with
    | nil => rfl
    | cons a r ih => simp only [wipeE]; rw [ih]; simp
  rw [compB_map (fun d => match d with | .tup [.int a, .int b, .int c, .tup [.int x, .int y]] => .str (numI a ++ [62] ++ numI c ++ [58] ++ numI b ++ [58] ++ wr (x, y)) | _ => .non) (fun x hx => ?_) (by simpa using hl)]
  · rw [List.nil_append, List.map_map, List.map_map]; rfl
  · obtain ⟨w, h, rfl⟩ := List.mem_map.mp hx
    refine ⟨(blkE env own).set i (some (.d (stD w))), by simp [hlen, hi], ?_⟩
    have g1 : ((blkE env own).set i (some (.d (stD w))))[i]? = some (some (.d (stD w))) := by rw [List.getElem?_set_self (by rw [hlen]; exact hi)]
    show evE pg F _ _ S = .ok (.d (.str (wrStep w))) S
    simp [g1, hw w h]
theorem binD_addL (a b : List D) (S) (h : a.length + b.length ≤ 16777216) : binD .add false (.d (.lst a)) (.d (.lst b)) S = .ok (.d (.lst (a ++ b))) S := by
  show newL false (a ++ b) S = _
  exact newL_f _ _ (by simpa using h)
abbrev pcN (r s o : Nat) (ins : List Nat) (sts : List Stp) : D := pcD (.int r) (.int s) (sts.map stD) (ins.map intN) (.int o)
theorem s_law_piece_text (n : Nat) (r s o : Nat) (ins : List Nat) (sts : List Stp) (S : Store) (h : POk r s o ins sts) : callF pg (n+3) 36 [.d (pcN r s o ins sts)] S = .ok (.d (.str (wrPiece r s o ins sts))) S := by
  rw [c__law_piece_text]
  obtain ⟨a, b, c, d, e, f⟩ := h.nums
  obtain ⟨q1, q2⟩ := eqv_nil ins
  have c1 := comp_strs pg (callF pg (n+2)) [some (.d (pcN r s o ins sts)), none, none, none] 2 [2] ins S (by simp) (by omega) e
  have hd := h.doors
  have hj := joinD_str S [44] (ins.map fun n : Nat => numI (n : Int)) (by simp only [List.length_singleton]; omega)
  have hnl : ((ins.map fun n : Nat => numI (n : Int)).map D.str).length ≤ 16777216 := by simp; omega
  refine fin_rt ?_
  rw [b__law_piece_text]
  refine step_nx [some (.d (pcN r s o ins sts)), some (.d (.str (wrDoors ins))), none, none] S ?_ ?_
  · by_cases hz : ins = []
    · simp [-List.map_map, q1, q2, eq_true hz, wrDoors]
    · simp [-List.map_map, q1, q2, hz, c1, newL_f _ _ hnl, hj, wrDoors]
  have c2 := comp_wsteps 35 0 (callF pg (n+2)) [some (.d (pcN r s o ins sts)), some (.d (.str (wrDoors ins))), none, none] 3 [3] sts S (by simp) (by omega) (fun w hw => by
    obtain ⟨x1, x2, x3, x4, _⟩ := h.le w hw
    exact s_law_step_text n w S x1 x2 x3 x4)
  have hnl2 : ((sts.map wrStep).map D.str).length ≤ 16777216 := by simp; omega
  have ha := binD_addL [.str (numI r), .str (numI s), .str (numI o), .str (wrDoors ins)] ((sts.map wrStep).map .str) S (by simp; omega)
  have hj2 := joinD_str S [32] ([numI r, numI s, numI o, wrDoors ins] ++ sts.map wrStep) (by have := h.len; simp only [List.length_singleton]; omega)
  rw [show (([numI r, numI s, numI o, wrDoors ins] ++ sts.map wrStep).map D.str) = [.str (numI r), .str (numI s), .str (numI o), .str (wrDoors ins)] ++ (sts.map wrStep).map .str from by rw [List.map_append]; rfl] at hj2
  refine step_rt ?_
  simp only [List.cons_append, List.nil_append] at ha hj2
  simp [-List.map_map, str99 S (show r ≤ 99 by omega), str99 S (show s ≤ 99 by omega), str99 S (show o ≤ 99 by omega), c2, newL_f _ _ hnl2, ha, hj2, wrPiece]
theorem s_piece_text (n : Nat) (r s o : Nat) (ins : List Nat) (sts : List Stp) (S : Store) (h : POk r s o ins sts) : callF pg (n+8) 20 [.d (pcN r s o ins sts)] S = .ok (.d (.str (wrPiece r s o ins sts))) S := by
  rw [c_piece_text]
  obtain ⟨a, b, c, d, e, f⟩ := h.nums
  obtain ⟨q1, q2⟩ := eqv_nil ins
  have hnp : callF pg (n+7) 11 [.d (pcN r s o ins sts)] S = .ok (.d (pcN r s o ins sts)) S := by
    have hmm : (ins.map some).map optN = ins.map intN := by rw [List.map_map]; rfl
    rcases s_need_piece (n+1) (some r) (some s) (some o) (ins.map some) sts S (fun t ht => (small_bd' (h.le t ht).2.2.2.1).2.2) with ⟨_, hh⟩ | ⟨hv, _⟩
    · rw [hmm] at hh; exact hh
    · have : vPiece r s o (ins.map some) sts = false := hv
      rw [h.v] at this; cases this
  have hd := h.doors
  refine fin_rt ?_
  rw [b_piece_text]
  refine step_nx [some (.d (pcN r s o ins sts)), some (.d (.int r)), some (.d (.int s)), some (.d (.tup (sts.map stD))), some (.d (.tup (ins.map intN))), some (.d (.int o)), none, none, none] S (by
    rw [exS_try, step_nx [some (.d (pcN r s o ins sts)), some (.d (.int r)), some (.d (.int s)), some (.d (.tup (sts.map stD))), some (.d (.tup (ins.map intN))), some (.d (.int o)), none, none, none] S (by simp [-List.map_map, hnp]) (exSs_nil ..)]; rfl) ?_
  have c1 := comp_strs pg (callF pg (n+7)) [some (.d (pcN r s o ins sts)), some (.d (.int r)), some (.d (.int s)), some (.d (.tup (sts.map stD))), some (.d (.tup (ins.map intN))), some (.d (.int o)), none, none, none] 7 [7] ins S (by simp) (by omega) e
  have hj := joinD_str S [44] (ins.map fun n : Nat => numI (n : Int)) (by simp only [List.length_singleton]; omega)
  have hnl : ((ins.map fun n : Nat => numI (n : Int)).map D.str).length ≤ 16777216 := by simp; omega
  refine step_nx [some (.d (pcN r s o ins sts)), some (.d (.int r)), some (.d (.int s)), some (.d (.tup (sts.map stD))), some (.d (.tup (ins.map intN))), some (.d (.int o)), some (.d (.str (wrDoors ins))), none, none] S ?_ ?_
  · by_cases hz : ins = []
    · simp [-List.map_map, q1, q2, eq_true hz, wrDoors]
    · simp [-List.map_map, q1, q2, hz, c1, newL_f _ _ hnl, hj, wrDoors]
  have c2 := comp_wsteps 18 0 (callF pg (n+7)) [some (.d (pcN r s o ins sts)), some (.d (.int r)), some (.d (.int s)), some (.d (.tup (sts.map stD))), some (.d (.tup (ins.map intN))), some (.d (.int o)), some (.d (.str (wrDoors ins))), none, none] 8 [8] sts S (by simp) (by omega) (fun w hw => by
    obtain ⟨x1, x2, x3, x4, x5⟩ := h.le w hw
    exact s_step_text n w S x5 x4)
  have hnl2 : ((sts.map wrStep).map D.str).length ≤ 16777216 := by simp; omega
  have ha := binD_addL [.str (numI r), .str (numI s), .str (numI o), .str (wrDoors ins)] ((sts.map wrStep).map .str) S (by simp; omega)
  have hj2 := joinD_str S [32] ([numI r, numI s, numI o, wrDoors ins] ++ sts.map wrStep) (by have := h.len; simp only [List.length_singleton]; omega)
  rw [show (([numI r, numI s, numI o, wrDoors ins] ++ sts.map wrStep).map D.str) = [.str (numI r), .str (numI s), .str (numI o), .str (wrDoors ins)] ++ (sts.map wrStep).map .str from by rw [List.map_append]; rfl] at hj2
  refine step_rt ?_
  simp only [List.cons_append, List.nil_append] at ha hj2
  simp [-List.map_map, str99 S (show r ≤ 99 by omega), str99 S (show s ≤ 99 by omega), str99 S (show o ≤ 99 by omega), c2, newL_f _ _ hnl2, ha, hj2, wrPiece]
end K83
set_option linter.all false
set_option maxRecDepth 100000
namespace K83
open Mi
open PySem (Str)
/-! draws off a tape -/
def tO (tp : List Nat) : O := .lst (tp.map intN)
def tkV (L : Nat) (tp : List Nat) : Nat := match tp.getLast? with | some x => x % L | none => 0
def tkT (tp : List Nat) : List Nat := tp.dropLast
theorem tkV_lt {L : Nat} (h : 0 < L) (tp) : tkV L tp < L := by
  unfold tkV; split
  · exact Nat.mod_lt _ h
  · exact h
theorem shps_ints (l : List Nat) : D.shps 59 (l.map intN) = true := by
  induction l with
  | nil => rfl
  | cons a r ih => show (D.shp 59 (.int a) && D.shps 59 (r.map intN)) = true; rw [ih]; rfl
theorem eqv_nil' (l : List Nat) : eqOk (.lst (l.map intN)) (.lst []) = true ∧ D.eqv (.lst (l.map intN)) (.lst []) = decide (l = []) := by
  constructor
  · unfold eqOk
    have h : D.shp 60 (.lst (l.map intN)) = true := shps_ints l
    rw [h]; cases l <;> rfl
  · cases l with
    | nil => rfl
    | cons a r => simp [D.eqv, D.eqvs]
theorem s_take (n : Nat) (L : Nat) (hL : 0 < L) (tp : List Nat) (R : Store) : callF pg (n+1) 23 [.loc 0, .d (.int L)] (tO tp :: R) = .ok (.d (.int (tkV L tp))) (tO (tkT tp) :: R) := by
  rw [c__law_take]
  obtain ⟨q1, q2⟩ := eqv_nil' tp
  have hv : dview (tO tp :: R) (.loc 0) = some (.lst (tp.map intN)) := rfl
  have hc : cmpD .eq (.loc 0) (.d (.lst [])) (tO tp :: R) = some (decide (tp = [])) := by
    show (match dview (tO tp :: R) (.loc 0), dview (tO tp :: R) (.d (.lst [])) with | some a, some b => if eqOk a b then some (D.eqv a b) else none | _, _ => none) = _
    rw [hv, dview_d]; dsimp only; rw [q1, q2]; rfl
  rw [b__law_take]
  cases hl : tp.getLast? with
  | none =>
    have ht : tp = [] := by simpa using hl
    subst ht
    rw [step_rt (v := .d (.int 0)) (S1 := tO [] :: R) (by simp [hc])]
    simp [tkV, tkT]
  | some x =>
    have ht : ¬ tp = [] := fun e => by simp [e] at hl
    have hp : popD (tO tp :: R) (.loc 0) [] = .ok (.d (.int x)) (tO (tkT tp) :: R) := by
      show (match (tp.map intN).getLast? with | some x => Res.ok (Vl.d x) ((tO tp :: R).set 0 (.lst (tp.map intN).dropLast)) | none => .bad) = _
      rw [List.getLast?_map, hl]
      unfold tO tkT; rw [List.map_dropLast]; rfl
    rw [step_nx [some (.loc 0), some (.d (.int L))] (tO tp :: R) (by simp [hc, ht]) rfl]
    rw [step_rt (v := .d (.int (x % L : Nat))) (S1 := tO (tkT tp) :: R) (by simp [hp, binD_modI _ (x : Int) (L : Int) _ (by omega)])]
    simp [tkV, hl]
theorem s_takeI (n : Nat) (L : Nat) (i : Int) (hi : (L : Int) = i) (hL : 0 < L) (tp : List Nat) (R : Store) : callF pg (n+1) 23 [.loc 0, .d (.int i)] (tO tp :: R) = .ok (.d (.int (tkV L tp))) (tO (tkT tp) :: R) := by
  subst hi; exact s_take n L hL tp R
theorem mk_small {a b : Int} (h0 : 0 < b) (h1 : b ≤ far) (h2 : (a.natAbs : Int) ≤ far) : small (mk a b) = true := by
  unfold small isShareB
  have p := mk_pos (a := a) h0
  have q := mk_le (a := a) h0
  have r := mk_abs_le (a := a) h0
  have g := mk_gcd (a := a) h0
  simp only [Bool.and_eq_true, decide_eq_true_eq]
  exact ⟨⟨⟨by omega, g⟩, by omega⟩, by omega⟩
theorem far_big : far < big := by decide +kernel
theorem s_drawn_share (n : Nat) (tp : List Nat) : ∃ p tp', small p = true ∧ callF pg (n+2) 42 [.loc 0] [tO tp] = .ok (.d (sh p)) [tO tp'] := by
  rw [c__law_drawn_share, b__law_drawn_share]
  have t3 := fun tp => s_takeI n 3 3 rfl (by decide) tp []
  have t19 := fun tp => s_takeI n 19 19 rfl (by decide) tp []
  have t9 := fun tp => s_takeI n 9 9 rfl (by decide) tp []
  have t5 := fun tp => s_takeI n 5 5 rfl (by decide) tp []
  have t900 := fun tp => s_takeI n 900 900 rfl (by decide) tp []
  have t6 := fun tp => s_takeI n 6 6 rfl (by decide) tp []
  have e12 : ∀ S, binD .pow false (.d (.int 10)) (.d (.int 12)) S = .ok (.d (.int far)) S := fun S => rfl
  have b0 := tkV_lt (L := 3) (by decide) tp
  generalize hf : (far - (tkV 3 tp : Int)) = f
  generalize hT : tkT tp = tp1
  have e1 : exS pg (callF pg (n+1)) (.asg (.nm 1) (.bin .sub false (.bin .pow false (.int 10) (.int 12)) (.call 23 [(.var 0), (.int 3)] []))) [some (.loc 0), none, none, none, none] [tO tp] = .nx [some (.loc 0), some (.d (.int f)), none, none, none] [tO tp1] := by
    simp [e12, t3, hf, hT]
  have hff : 0 < f ∧ f ≤ far := by have : far = 1000000000000 := rfl; omega
  have x1 := tkV_lt (L := 19) (by decide) tp1
  have x2 := tkV_lt (L := 9) (by decide) (tkT tp1)
  have x3 := tkV_lt (L := 5) (by decide) (tkT (tkT tp1))
  have x4 := tkV_lt (L := 900) (by decide) (tkT (tkT (tkT tp1)))
  have x5 := tkV_lt (L := 5) (by decide) (tkT (tkT (tkT (tkT tp1))))
  have e2 : exS pg (callF pg (n+1)) (.asg (.nm 2) (.lst false [(.tup [(.bin .sub false (.call 23 [(.var 0), (.int 19)] []) (.int 9)), (.bin .add false (.int 1) (.call 23 [(.var 0), (.int 9)] []))]), (.tup [(.var 1), (.bin .add false (.int 1) (.call 23 [(.var 0), (.int 5)] []))]), (.tup [(.bin .sub false (.int 0) (.var 1)), (.int 7)]), (.tup [(.bin .add false (.int 1) (.call 23 [(.var 0), (.int 900)] [])), (.var 1)]), (.tup [(.int 0), (.int 1)]), (.tup [(.bin .sub false (.int 0) (.call 23 [(.var 0), (.int 5)] [])), (.int 1)])])) [some (.loc 0), some (.d (.int f)), none, none, none] [tO tp1]
      = .nx [some (.loc 0), some (.d (.int f)), some (.d (.lst [.tup [.int ((tkV 19 tp1 : Int) - 9), .int (1 + (tkV 9 (tkT tp1) : Int))], .tup [.int f, .int (1 + (tkV 5 (tkT (tkT tp1)) : Int))], .tup [.int (-f), .int 7], .tup [.int (1 + (tkV 900 (tkT (tkT (tkT tp1))) : Int)), .int f], .tup [.int 0, .int 1], .tup [.int (-(tkV 5 (tkT (tkT (tkT (tkT tp1)))) : Int)), .int 1]])), none, none] [tO (tkT (tkT (tkT (tkT (tkT tp1)))))] := by
    simp [t19, t9, t5, t900]
  rw [step_nx _ _ e1 rfl, step_nx _ _ e2 rfl]
  generalize hL : ([.tup [.int ((tkV 19 tp1 : Int) - 9), .int (1 + (tkV 9 (tkT tp1) : Int))], .tup [.int f, .int (1 + (tkV 5 (tkT (tkT tp1)) : Int))], .tup [.int (-f), .int 7], .tup [.int (1 + (tkV 900 (tkT (tkT (tkT tp1))) : Int)), .int f], .tup [.int 0, .int 1], .tup [.int (-(tkV 5 (tkT (tkT (tkT (tkT tp1)))) : Int)), .int 1]] : List D) = L
  generalize tkT (tkT (tkT (tkT (tkT tp1)))) = tp2
  have hv := tkV_lt (L := 6) (by decide) tp2
  have key : ∃ a b : Int, L2.atI L (tkV 6 tp2 : Int) = some (.tup [.int a, .int b]) ∧ 0 < b ∧ b ≤ far ∧ (a.natAbs : Int) ≤ far := by
    rw [atI_nat]
    have hfar : far = 1000000000000 := rfl
    generalize tkV 6 tp2 = v at hv
    subst hL
    match v, hv with
    | 0, _ => exact ⟨_, _, rfl, by omega, by omega, by omega⟩
    | 1, _ => exact ⟨_, _, rfl, by omega, by omega, by omega⟩
    | 2, _ => exact ⟨_, _, rfl, by omega, by omega, by omega⟩
    | 3, _ => exact ⟨_, _, rfl, by omega, by omega, by omega⟩
    | 4, _ => exact ⟨_, _, rfl, by omega, by omega, by omega⟩
    | 5, _ => exact ⟨_, _, rfl, by omega, by omega, by omega⟩
    | v + 6, h => omega
  obtain ⟨a, b, h1, h2, h3, h4⟩ := key
  refine ⟨mk a b, tkT tp2, mk_small h2 h3 h4, ?_⟩
  have e3 : exS pg (callF pg (n+1)) (.asg (.tp [(.nm 3), (.nm 4)]) (.idx (.var 2) (.call 23 [(.var 0), (.int 6)] []))) [some (.loc 0), some (.d (.int f)), some (.d (.lst L)), none, none] [tO tp2] = .nx [some (.loc 0), some (.d (.int f)), some (.d (.lst L)), some (.d (.int a)), some (.d (.int b))] [tO (tkT tp2)] := by
    simp [t6, h1]
  rw [step_nx _ _ e3 rfl]
  have hs := s_law_share n a b [tO (tkT tp2)] h2 (Int.lt_of_le_of_lt h3 far_big)
  rw [step_rt (v := .d (sh (mk a b))) (S1 := [tO (tkT tp2)]) (by simp [hs])]
  simp
end K83
set_option linter.all false
set_option maxRecDepth 100000
namespace K83
open Mi
open PySem (Str)
theorem appD_1 (a : O) (ds : List D) (x : D) (h : ds.length < 16777216) : appD [a, .lst ds] (.loc 1) [.d x] = .ok (.d .non) [a, .lst (ds ++ [x])] := by
  show (if ds.length < line then _ else _) = _
  rw [if_pos h]; rfl
theorem appD_2 (a b : O) (ds : List D) (x : D) (h : ds.length < 16777216) : appD [a, b, .lst ds] (.loc 2) [.d x] = .ok (.d .non) [a, b, .lst (ds ++ [x])] := by
  show (if ds.length < line then _ else _) = _
  rw [if_pos h]; rfl
def lpB : List Mi.St := [(.asg (.nm 6) (.call 23 [(.var 0), (.bin .add false (.var 4) (.int 1))] [])),
  (.iff (.cmp .gt (.var 6) (.int 0)) [(.ex (.mth .append (.var 3) [(.call 26 [(.var 6), (.var 1)] [])])),
  (.asg (.nm 4) (.bin .sub false (.var 4) (.var 6)))] [])]
theorem s_parts_loop (n : Nat) (w : Nat) (hw : 0 < w) (hw6 : w ≤ 6) (st : O) (m : Vl) : ∀ (is : List Nat) (ps : List Nat) (tp : List Nat) (rest : Nat) (v5 v6 : Option Vl), (∀ p ∈ ps, 0 < p) → ps.sum + rest = w → ps.length + is.length ≤ 100 →
    ∃ (ps' tp' : List Nat) (rest' : Nat) (v5' v6' : Option Vl), (∀ p ∈ ps', 0 < p) ∧ ps'.sum + rest' = w ∧ ps'.length ≤ ps.length + is.length ∧
      forB pg (callF pg (n+1)) (.nm 5) lpB (is.map fun (i : Nat) => Vl.d (.int (i : Int))) [some (.loc 0), some (.d (.int w)), some m, some (.loc 2), some (.d (.int rest)), v5, v6] [tO tp, st, .lst (ps.map fun p : Nat => sh (mk p w))]
      = .nx [some (.loc 0), some (.d (.int w)), some m, some (.loc 2), some (.d (.int rest')), v5', v6'] [tO tp', st, .lst (ps'.map fun p : Nat => sh (mk p w))]
  | [], ps, tp, rest, v5, v6, h1, h2, _ => ⟨ps, tp, rest, v5, v6, h1, h2, by simp, rfl⟩
  | i :: is, ps, tp, rest, v5, v6, h1, h2, h3 => by
    simp only [List.length_cons] at h3 ⊢
    have tk := s_takeI n (rest + 1) ((rest : Int) + 1) (by omega) (by omega) tp [st, .lst (ps.map fun p : Nat => sh (mk p w))]
    have hv := tkV_lt (L := rest + 1) (by omega) tp
    generalize tkV (rest + 1) tp = v at tk hv
    rw [List.map_cons, forB_cons]
    by_cases h0 : 0 < v
    · have hs := s_law_share n (v : Int) (w : Int) [tO (tkT tp), st, .lst (ps.map fun p : Nat => sh (mk p w))] (by omega) (Int.lt_of_le_of_lt (show (w : Int) ≤ far by have : far = 1000000000000 := rfl; omega) far_big)
      have ha := appD_2 (tO (tkT tp)) st (ps.map fun p : Nat => sh (mk p w)) (sh (mk v w)) (by simp; omega)
      obtain ⟨ps', tp', rest', v5', v6', q1, q2, q3, e⟩ := s_parts_loop n w hw hw6 st m is (ps ++ [v]) (tkT tp) (rest - v) (some (.d (.int i))) (some (.d (.int v))) (fun p hp => by
        rcases List.mem_append.mp hp with h | h
        · exact h1 p h
        · rw [List.mem_singleton.mp h]; exact h0) (by simp; omega) (by simp; omega)
      refine ⟨ps', tp', rest', v5', v6', q1, q2, by simp at q3; omega, ?_⟩
      rw [List.map_append, List.map_cons, List.map_nil, show ((rest - v : Nat) : Int) = (rest : Int) - v by omega] at e
      have e' := e
      rw [lpB] at e' ⊢
      simp [tk, h0, hs, ha, e']
    · have h0' : v = 0 := by omega
      subst h0'
      obtain ⟨ps', tp', rest', v5', v6', q1, q2, q3, e⟩ := s_parts_loop n w hw hw6 st m is ps (tkT tp) rest (some (.d (.int i))) (some (.d (.int 0))) h1 h2 (by omega)
      refine ⟨ps', tp', rest', v5', v6', q1, q2, by omega, ?_⟩
      rw [lpB] at e ⊢
      simp [tk, e]
theorem s_law_parts (n : Nat) (w m : Nat) (hw : 0 < w) (hw6 : w ≤ 6) (hm : m ≤ 3) (tp : List Nat) (st : O) :
    ∃ (ps : List Nat) (tp' : List Nat), (∀ p ∈ ps, 0 < p) ∧ ps.sum ≤ w ∧ ps.length ≤ m ∧ callF pg (n+2) 29 [.loc 0, .d (.int w), .d (.int m)] [tO tp, st] = .ok (.d (.lst (ps.map fun p : Nat => sh (mk p w)))) [tO tp', st] := by
  obtain ⟨ps', tp', rest', v5', v6', q1, q2, q3, e⟩ := s_parts_loop n w hw hw6 st (.d (.int m)) (List.range m) [] tp w none none (by simp) (by simp) (by simp; omega)
  refine ⟨ps', tp', q1, by omega, by simpa using q3, ?_⟩
  rw [lpB, List.map_nil] at e
  rw [c__law_parts, b__law_parts]
  have e0 : exS pg (callF pg (n+1)) (.par [3, 4] [(.lst true []), (.var 1)]) [some (.loc 0), some (.d (.int w)), some (.d (.int m)), none, none, none, none] [tO tp, st] = .nx [some (.loc 0), some (.d (.int w)), some (.d (.int m)), some (.loc 2), some (.d (.int w)), none, none] [tO tp, st, .lst []] := by
    simp [newL]
  rw [step_nx _ _ e0 rfl, step_nx _ _ ((rng1_var rfl (by show m < _; have : (3:Nat) < 2 ^ 62 := by decide
                                                         omega)).trans e) rfl]
  rw [step_rt (v := .loc 2) (S1 := [tO tp', st, .lst (ps'.map fun p : Nat => sh (mk p w))]) (by simp)]
  rfl
/-- so many parts of w, summed -/
theorem sum_parts (w : Nat) (hw : 0 < w) : ∀ (ps : List Nat) (A : Nat) (acc : Int × Int), 0 < acc.2 → acc.1 * w = A * acc.2 → 0 < (List.foldl plus acc (ps.map fun p : Nat => mk p w)).2 ∧ (List.foldl plus acc (ps.map fun p : Nat => mk p w)).1 * w = ((A + ps.sum : Nat) : Int) * (List.foldl plus acc (ps.map fun p : Nat => mk p w)).2
  | [], A, acc, h, e => by simpa using ⟨h, e⟩
  | p :: ps, A, acc, h, e => by
    have hw' : (0 : Int) < w := by omega
    have q0 := mk_pos (a := (p : Int)) hw'
    have qc := mk_cross (a := (p : Int)) hw'
    generalize hq : mk (p : Int) (w : Int) = q at *
    have m : 0 < acc.2 * q.2 := Int.mul_pos h q0
    have N0 := mk_pos (a := acc.1 * q.2 + q.1 * acc.2) m
    have Nc := mk_cross (a := acc.1 * q.2 + q.1 * acc.2) m
    have hp : plus acc q = mk (acc.1 * q.2 + q.1 * acc.2) (acc.2 * q.2) := rfl
    have := sum_parts w hw ps (A + p) (plus acc q) (by rw [hp]; exact N0) (by
      rw [hp]
      generalize mk (acc.1 * q.2 + q.1 * acc.2) (acc.2 * q.2) = N at *
      refine Int.eq_of_mul_eq_mul_right (Int.ne_of_gt m) ?_
      calc N.1 * w * (acc.2 * q.2) = N.1 * (acc.2 * q.2) * w := by rw [Int.mul_right_comm]
        _ = (acc.1 * q.2 + q.1 * acc.2) * N.2 * w := by rw [Nc]
        _ = ((acc.1 * w) * q.2 + (q.1 * w) * acc.2) * N.2 := by simp only [Int.add_mul, Int.mul_assoc, Int.mul_comm, Int.mul_left_comm]
        _ = ((A * acc.2) * q.2 + (p * q.2) * acc.2) * N.2 := by rw [e, qc]
        _ = ((A + p : Nat) : Int) * N.2 * (acc.2 * q.2) := by
          rw [Int.natCast_add]; simp only [Int.add_mul, Int.mul_add, Int.mul_assoc, Int.mul_comm, Int.mul_left_comm])
    rw [List.map_cons, List.foldl_cons, List.sum_cons, ← Nat.add_assoc, hq]
    exact this
theorem sum_parts_ok (w : Nat) (hw : 0 < w) (ps : List Nat) (h : ps.sum ≤ w) : (sumS (ps.map fun p : Nat => mk p w)).1 ≤ (sumS (ps.map fun p : Nat => mk p w)).2 := by
  obtain ⟨a, b⟩ := sum_parts w hw ps 0 (0, 1) (by decide) (by simp)
  unfold sumS
  generalize List.foldl plus (0, 1) (ps.map fun p : Nat => mk p w) = N at *
  rw [Nat.zero_add] at b
  have : ((ps.sum : Nat) : Int) * N.2 ≤ (w : Int) * N.2 := Int.mul_le_mul_of_nonneg_right (by omega) (by omega)
  rw [← b, Int.mul_comm (w : Int)] at this
  exact Int.le_of_mul_le_mul_right this (by omega)
end K83
set_option linter.all false
set_option maxRecDepth 100000
namespace K83
open Mi
open PySem (Str)
def inB : List Mi.St := [(.ex (.mth .append (.var 7) [(.tup [(.var 8), (.call 23 [(.var 0), (.bin .add false (.var 4) (.int 1))] []), (.call 23 [(.var 0), (.bin .add false (.var 3) (.var 6))] []), (.var 9)])]))]
def outB : List Mi.St := [(.iff (.cmp .gt (.bin .add false (.var 3) (.var 6)) (.int 0)) [(.for_ (.nm 9) .it [(.call 29 [(.var 0), (.idx (.tup [(.int 2), (.int 3), (.int 4), (.int 6), (.int 1)]) (.call 23 [(.var 0), (.int 5)] [])), (.bin .add false (.int 1) (.call 23 [(.var 0), (.int 3)] []))] [])] inB)] [])]
abbrev pEnv (m : Nat) (r s i o : Nat) (v7 v8 v9 v10 : Option Vl) : Env := [some (.loc 0), some (.d (.int m)), some (.d (.int 3)), some (.d (.int r)), some (.d (.int s)), some (.d (.int i)), some (.d (.int o)), v7, v8, v9, v10]
theorem shOf_append (room : Nat) (a b : List Stp) : shOf room (a ++ b) = shOf room a ++ shOf room b := by simp [shOf]
theorem le_sum {p : Nat} : ∀ {ps : List Nat}, p ∈ ps → p ≤ ps.sum
  | q :: r, h => by
    rw [List.sum_cons]
    rcases List.mem_cons.mp h with e | e
    · omega
    · have := le_sum e; omega
/-- a room's shares, gone through -/
theorem s_in_loop (n m r s i o k w : Nat) (hw : 0 < w) (hk : k < r) (v10 : Option Vl) : ∀ (ps : List Nat) (sts : List Stp) (tp : List Nat) (v9 : Option Vl), (∀ p ∈ ps, 0 < p ∧ p ≤ w) → w ≤ 6 → sts.length + ps.length ≤ 100 →
    ∃ (l : List Stp) (tp' : List Nat) (v9' : Option Vl), l.length = ps.length ∧ l.map (·.2.2.2) = ps.map (fun p : Nat => mk p w) ∧ (∀ t ∈ l, t.1 = k ∧ t.2.1 ≤ s ∧ t.2.2.1 < r + o ∧ stOk r s o t = true) ∧
      forB pg (callF pg (n+2)) (.nm 9) inB (dl (ps.map fun p : Nat => sh (mk p w))) (pEnv m r s i o (some (.loc 1)) (some (.d (.int k))) v9 v10) [tO tp, .lst (sts.map stD)]
      = .nx (pEnv m r s i o (some (.loc 1)) (some (.d (.int k))) v9' v10) [tO tp', .lst ((sts ++ l).map stD)]
  | [], sts, tp, v9, h, _, _ => ⟨[], tp, v9, rfl, rfl, by simp, by simp⟩
  | p :: ps, sts, tp, v9, h, h6, hl => by
    simp only [List.length_cons] at hl
    obtain ⟨hp0, hpw⟩ := h p (by simp)
    have t1 := s_takeI (n+1) (s + 1) ((s : Int) + 1) (by omega) (by omega) tp [.lst (sts.map stD)]
    have t2 := s_takeI (n+1) (r + o) ((r : Int) + o) (by omega) (by omega) (tkT tp) [.lst (sts.map stD)]
    have v1 := tkV_lt (L := s + 1) (by omega) tp
    have v2 := tkV_lt (L := r + o) (by omega) (tkT tp)
    generalize tkV (s + 1) tp = x1 at *
    generalize tkV (r + o) (tkT tp) = x2 at *
    have ha := appD_1 (tO (tkT (tkT tp))) (sts.map stD) (stD (k, x1, x2, mk p w)) (by simp; omega)
    have hfar : far = 1000000000000 := rfl
    have hsm := mk_small (a := (p : Int)) (b := (w : Int)) (by omega) (by omega) (by omega)
    have hmp := mk_pos (a := (p : Int)) (b := (w : Int)) (by omega)
    have hmc := mk_cross (a := (p : Int)) (b := (w : Int)) (by omega)
    have hm1 : 0 < (mk (p : Int) (w : Int)).1 := by
      have : 0 < (mk (p : Int) (w : Int)).1 * w := by rw [hmc]; exact Int.mul_pos (by omega) hmp
      exact Int.pos_of_mul_pos_left this (by omega) |> fun h => h
    have hm2 : (mk (p : Int) (w : Int)).1 ≤ (mk (p : Int) (w : Int)).2 := by
      refine Int.le_of_mul_le_mul_right (a := (w : Int)) ?_ (by omega)
      rw [hmc, Int.mul_comm (mk (p : Int) (w : Int)).2]
      exact Int.mul_le_mul_of_nonneg_right (by omega) (by omega)
    obtain ⟨l, tp', v9', q1, q2, q3, e⟩ := s_in_loop n m r s i o k w hw hk v10 ps (sts ++ [(k, x1, x2, mk p w)]) (tkT (tkT tp)) (some (.d (sh (mk p w)))) (fun q hq => h q (by simp [hq])) h6 (by simp; omega)
    refine ⟨(k, x1, x2, mk p w) :: l, tp', v9', by simp [q1], by simp [q2], ?_, ?_⟩
    · intro t ht
      rcases List.mem_cons.mp ht with e | e
      · subst e
        exact ⟨rfl, by show x1 ≤ s; omega, v2, by simp [stOk, hk, hsm, hm1, hm2]; omega⟩
      · exact q3 t e
    · rw [List.map_append, List.map_cons, List.map_nil] at e
      rw [show sts ++ (k, x1, x2, mk p w) :: l = (sts ++ [(k, x1, x2, mk p w)]) ++ l by simp]
      rw [List.map_cons, forB_dcons]
      rw [inB] at e ⊢
      simp [t1, t2, ha]
      simpa using e
/-- what stands behind k rooms -/
structure Rms (r s o k : Nat) (sts : List Stp) : Prop where
  len : sts.length ≤ 3 * k
  ok : ∀ t ∈ sts, t.1 < k ∧ stOk r s o t = true
  sum : ∀ room, ∃ (w : Nat) (ps : List Nat), 0 < w ∧ ps.sum ≤ w ∧ shOf room sts = ps.map fun p : Nat => mk p w
theorem ev29 (F : Call) (w : Nat) (ds : List D) (tp tp1 : List Nat) (st : O) (r1 : List (Option Vl))
  (t5 : F 23 [.loc 0, .d (.int 5)] [tO tp, st] = .ok (.d (.int (tkV 5 tp))) [tO (tkT tp), st])
  (t3 : F 23 [.loc 0, .d (.int 3)] [tO (tkT tp), st] = .ok (.d (.int (tkV 3 (tkT tp)))) [tO (tkT (tkT tp)), st])
  (hw : L2.atI [D.int 2, .int 3, .int 4, .int 6, .int 1] (tkV 5 tp : Int) = some (.int (w : Nat)))
  (ep : F 29 [.loc 0, .d (.int w), .d (.int (1 + (tkV 3 (tkT tp) : Int)))] [tO (tkT (tkT tp)), st] = .ok (.d (.lst ds)) [tO tp1, st]) :
  evE pg F (.call 29 [(.var 0), (.idx (.tup [(.int 2), (.int 3), (.int 4), (.int 6), (.int 1)]) (.call 23 [(.var 0), (.int 5)] [])), (.bin .add false (.int 1) (.call 23 [(.var 0), (.int 3)] []))] []) (some (.loc 0) :: r1) [tO tp, st] = .ok (.d (.lst ds)) [tO tp1, st] := by
  simp [t5, t3, hw, ep]
theorem s_out_loop (n m r s i o : Nat) (hm : r ≤ 12) (v10 : Option Vl) : ∀ (j k : Nat) (sts : List Stp) (tp : List Nat) (v8 v9 : Option Vl), k + j = r → Rms r s o k sts →
    ∃ (sts' : List Stp) (tp' : List Nat) (v8' v9' : Option Vl), Rms r s o r sts' ∧
      forB pg (callF pg (n+3)) (.nm 8) outB ((List.range' k j).map fun (i : Nat) => Vl.d (.int (i : Int))) (pEnv m r s i o (some (.loc 1)) v8 v9 v10) [tO tp, .lst (sts.map stD)]
      = .nx (pEnv m r s i o (some (.loc 1)) v8' v9' v10) [tO tp', .lst (sts'.map stD)]
  | 0, k, sts, tp, v8, v9, h, R => by
    have hk : k = r := by omega
    subst hk
    exact ⟨sts, tp, v8, v9, R, rfl⟩
  | j + 1, k, sts, tp, v8, v9, h, R => by
    have t5 := s_takeI (n+2) 5 5 rfl (by decide) tp [.lst (sts.map stD)]
    have t3 := s_takeI (n+2) 3 3 rfl (by decide) (tkT tp) [.lst (sts.map stD)]
    have v5 := tkV_lt (L := 5) (by decide) tp
    have v3 := tkV_lt (L := 3) (by decide) (tkT tp)
    have key : ∃ w : Nat, 0 < w ∧ w ≤ 6 ∧ L2.atI [D.int 2, .int 3, .int 4, .int 6, .int 1] (tkV 5 tp : Int) = some (.int (w : Nat)) := by
      rw [atI_nat]
      generalize tkV 5 tp = v at v5
      match v, v5 with
      | 0, _ => exact ⟨2, by omega, by omega, rfl⟩
      | 1, _ => exact ⟨3, by omega, by omega, rfl⟩
      | 2, _ => exact ⟨4, by omega, by omega, rfl⟩
      | 3, _ => exact ⟨6, by omega, by omega, rfl⟩
      | 4, _ => exact ⟨1, by omega, by omega, rfl⟩
      | v + 5, h => omega
    obtain ⟨w, hw0, hw6, hw⟩ := key
    obtain ⟨ps, tp1, p1, p2, p3, ep⟩ := s_law_parts (n+1) w (1 + tkV 3 (tkT tp)) hw0 hw6 (by omega) (tkT (tkT tp)) (.lst (sts.map stD))
    rw [show ((1 + tkV 3 (tkT tp) : Nat) : Int) = 1 + (tkV 3 (tkT tp) : Int) by omega] at ep
    have hle : ∀ p ∈ ps, 0 < p ∧ p ≤ w := fun p hp => ⟨p1 p hp, Nat.le_trans (le_sum hp) p2⟩
    have hsl := R.len
    obtain ⟨l, tp2, v9', q1, q2, q3, e⟩ := s_in_loop (n+1) m r s i o k w hw0 (by omega) v10 ps sts tp1 v9 hle hw6 (by omega)
    have R' : Rms r s o (k + 1) (sts ++ l) := by
      refine ⟨by simp; omega, fun t ht => ?_, fun room => ?_⟩
      · rcases List.mem_append.mp ht with h | h
        · exact ⟨by have := (R.ok t h).1; omega, (R.ok t h).2⟩
        · obtain ⟨a, _, _, b⟩ := q3 t h; exact ⟨by omega, b⟩
      · rw [shOf_append]
        by_cases hr : room = k
        · subst hr
          have e1 : shOf room sts = [] := by
            unfold shOf
            rw [List.filter_eq_nil_iff.mpr (fun t ht => by have := (R.ok t ht).1; simp; omega)]; rfl
          have e2 : shOf room l = ps.map fun p : Nat => mk p w := by
            unfold shOf
            rw [List.filter_eq_self.mpr (fun t ht => by have := (q3 t ht).1; simpa using this)]; exact q2
          exact ⟨w, ps, hw0, p2, by rw [e1, e2]; rfl⟩
        · have e2 : shOf room l = [] := by
            unfold shOf
            rw [List.filter_eq_nil_iff.mpr (fun t ht => by have := (q3 t ht).1; simp; omega)]; rfl
          obtain ⟨w', ps', a, b, c⟩ := R.sum room
          exact ⟨w', ps', a, b, by rw [e2, List.append_nil, c]⟩
    obtain ⟨sts', tp', v8', v9'', z1, z2⟩ := s_out_loop n m r s i o hm v10 j (k + 1) (sts ++ l) tp2 (some (.d (.int k))) v9' (by omega) R'
    refine ⟨sts', tp', v8', v9'', z1, ?_⟩
    rw [List.range'_succ, List.map_cons, forB_cons]
    have hpos : decide ((0 : Int) < (r : Int) + o) = true := decide_eq_true (by omega)
    have body : exSs pg (callF pg (n+3)) outB (pEnv m r s i o (some (.loc 1)) (some (.d (.int k))) v9 v10) [tO tp, .lst (sts.map stD)] = .nx (pEnv m r s i o (some (.loc 1)) (some (.d (.int k))) v9' v10) [tO tp2, .lst ((sts ++ l).map stD)] := by
      rw [outB]
      refine step_nx _ _ ?_ (exSs_nil ..)
      rw [exS_iff]
      simp only [evE_cmp, evE_bin, evE_var, evE_int]
      have hfor : exS pg (callF pg (n+3)) (.for_ (.nm 9) .it [(.call 29 [(.var 0), (.idx (.tup [(.int 2), (.int 3), (.int 4), (.int 6), (.int 1)]) (.call 23 [(.var 0), (.int 5)] [])), (.bin .add false (.int 1) (.call 23 [(.var 0), (.int 3)] []))] [])] inB) (pEnv m r s i o (some (.loc 1)) (some (.d (.int k))) v9 v10) [tO tp, .lst (sts.map stD)] = forB pg (callF pg (n+3)) (.nm 9) inB (dl (ps.map fun p : Nat => sh (mk p w))) (pEnv m r s i o (some (.loc 1)) (some (.d (.int k))) v9 v10) [tO tp1, .lst (sts.map stD)] := by
        exact for_lst (ev29 _ w _ tp tp1 _ _ t5 t3 hw ep)
      have hif : exSs pg (callF pg (n+3)) [(.for_ (.nm 9) .it [(.call 29 [(.var 0), (.idx (.tup [(.int 2), (.int 3), (.int 4), (.int 6), (.int 1)]) (.call 23 [(.var 0), (.int 5)] [])), (.bin .add false (.int 1) (.call 23 [(.var 0), (.int 3)] []))] [])] inB)] (pEnv m r s i o (some (.loc 1)) (some (.d (.int k))) v9 v10) [tO tp, .lst (sts.map stD)] = .nx (pEnv m r s i o (some (.loc 1)) (some (.d (.int k))) v9' v10) [tO tp2, .lst ((sts ++ l).map stD)] :=
        step_nx _ _ (hfor.trans e) (exSs_nil ..)
      simp only [List.getElem?_cons_succ, List.getElem?_cons_zero, varK_some, bindR_ok, binD_addI, cmpD_gt, hpos, Option.map_some, ofD_some, bindF_ok, asBf_bl, ite'_t, hif]
    rw [show T.put (.nm 8) (Vl.d (.int (k : Int))) (pEnv m r s i o (some (.loc 1)) v8 v9 v10) = some (pEnv m r s i o (some (.loc 1)) (some (.d (.int k))) v9 v10) from by simp, putK_some, body, loopK_nx]
    exact z2
end K83
set_option linter.all false
set_option maxRecDepth 100000
namespace K83
open Mi
open PySem (Str)
theorem itK_rng (i : Nat) (h : i < 2 ^ 62) (k : List D → Res Vl) : itK (r1D [.d (.int i)]) k = k ((List.range i).map intN) := by
  rw [r1D_nat i h, show ((List.range i).map fun (i : Nat) => Vl.d (.int (i : Int))) = dl ((List.range i).map intN) by rw [dl_eq, List.map_map]; rfl, itK_d]
theorem s_doors (F : Call) (r : Nat) (R : Store) (tk : ∀ tp, F 23 [.loc 0, .d (.int r)] (tO tp :: R) = .ok (.d (.int (tkV r tp))) (tO (tkT tp) :: R)) (hr : 0 < r) (v0 : List (Option Vl)) (env : Env) (h0 : env[0]? = some (some (.loc 0))) (h3 : env[3]? = some (some (.d (.int r)))) (hlen : 10 < env.length) :
    ∀ (its : List D) (acc : List Nat) (tp : List Nat), acc.length + its.length ≤ 100 → ∃ (l : List Nat) (tp' : List Nat), l.length = its.length ∧ (∀ x ∈ l, x < r) ∧
      compB pg F (.nm 10) [] (.call 23 [(.var 0), (.var 3)] []) env its (acc.map intN) (tO tp :: R) = .ok ((acc ++ l).map intN) (tO tp' :: R)
  | [], acc, tp, _ => ⟨[], tp, rfl, by simp, by simp⟩
  | x :: its, acc, tp, h => by
    simp only [List.length_cons] at h
    obtain ⟨l, tp', a, b, e⟩ := s_doors F r R tk hr v0 env h0 h3 hlen its (acc ++ [tkV r tp]) (tkT tp) (by simp; omega)
    refine ⟨tkV r tp :: l, tp', by simp [a], ?_, ?_⟩
    · intro y hy
      rcases List.mem_cons.mp hy with h | h
      · rw [h]; exact tkV_lt hr tp
      · exact b y h
    · have g0 : (env.set 10 (some (.d x)))[0]? = some (some (.loc 0)) := by rw [List.getElem?_set_ne (by decide)]; exact h0
      have g3 : (env.set 10 (some (.d x)))[3]? = some (some (.d (.int r))) := by rw [List.getElem?_set_ne (by decide)]; exact h3
      rw [compB_cons, put_nm, if_pos hlen, putR_some, evE_call]
      simp only [evEs_cons, evE_var, g0, g3, varK_some, bindR_ok, evEs_nil, List.append_nil, bindVs_loc, bindVs_d, bindVs_nil, Option.map_some, callK_some, tk, appK_d]
      rw [if_pos (by simp; omega)]
      rw [List.map_append] at e
      rw [show acc ++ tkV r tp :: l = (acc ++ [tkV r tp]) ++ l by simp]
      exact e
theorem s_law_piece (n m : Nat) (hm : m ≤ 12) (tp : List Nat) : ∃ (r s o : Nat) (ins : List Nat) (sts : List Stp) (tp' : List Nat), POk r s o ins sts ∧
    callF pg (n+4) 30 [.loc 0, .d (.int m), .d (.int 3)] [tO tp] = .ok (.d (pcN r s o ins sts)) [tO tp'] := by
  have t1 := s_takeI (n+2) (m + 1) ((m : Int) + 1) (by omega) (by omega) tp []
  have t2 := s_takeI (n+2) 3 3 rfl (by decide) (tkT tp) []
  have t3 := s_takeI (n+2) 4 (3 + 1) rfl (by decide) (tkT (tkT tp)) []
  have t4 := s_takeI (n+2) 4 (3 + 1) rfl (by decide) (tkT (tkT (tkT tp))) []
  have v1 := tkV_lt (L := m + 1) (by omega) tp
  have v2 := tkV_lt (L := 3) (by decide) (tkT tp)
  have v3 := tkV_lt (L := 4) (by decide) (tkT (tkT tp))
  have v4 := tkV_lt (L := 4) (by decide) (tkT (tkT (tkT tp)))
  generalize tkT (tkT (tkT (tkT tp))) = tp1 at *
  generalize tkV (m + 1) tp = r at *
  generalize tkV 3 (tkT tp) = s at *
  generalize tkV 4 (tkT (tkT tp)) = i at *
  generalize tkV 4 (tkT (tkT (tkT tp))) = o at *
  obtain ⟨sts, tp2, v8, v9, R, eo⟩ := s_out_loop n m r s i o (by omega) none r 0 [] tp1 none none (by omega) ⟨by simp, by simp, fun room => ⟨1, [], by decide, by decide, rfl⟩⟩
  have hdoors : ∃ (ins : List Nat) (tp' : List Nat), ins.length ≤ 3 ∧ (∀ x ∈ ins, x < r) ∧
      evE pg (callF pg (n+3)) (.ife (.cmp .gt (.var 3) (.int 0)) (.blt .tuple false [(.comp false [10] (.nm 10) .rng1 [(.var 5)] [] (.call 23 [(.var 0), (.var 3)] []))]) (.tup [])) (pEnv m r s i o (some (.loc 1)) v8 v9 none) [tO tp2, .lst (sts.map stD)] = .ok (.d (.tup (ins.map intN))) [tO tp', .lst (sts.map stD)] := by
    by_cases h0 : 0 < r
    · have tk := fun tp => s_takeI (n+2) r (r : Int) rfl h0 tp [.lst (sts.map stD)]
      obtain ⟨l, tp', a, b, e⟩ := s_doors (callF pg (n+3)) r [.lst (sts.map stD)] tk h0 [] (blkE (pEnv m r s i o (some (.loc 1)) v8 v9 none) [10]) (by rfl) (by rfl) (by simp [blkE, wipeE]) ((List.range i).map intN) [] tp2 (by simp; omega)
      refine ⟨l, tp', by simp at a; omega, b, ?_⟩
      rw [List.nil_append] at e
      have hl : (l.map intN).length ≤ 16777216 := by simp at a ⊢; omega
      have hc : evE pg (callF pg (n+3)) (.comp false [10] (.nm 10) .rng1 [(.var 5)] [] (.call 23 [(.var 0), (.var 3)] [])) (pEnv m r s i o (some (.loc 1)) v8 v9 none) [tO tp2, .lst (sts.map stD)] = .ok (.d (.lst (l.map intN))) [tO tp', .lst (sts.map stD)] := by
        have := itK_rng i (Nat.lt_trans v3 (by decide))
        rw [evE_comp, evEs_cons, evE_var]
        simp only [List.getElem?_cons_succ, List.getElem?_cons_zero, varK_some, bindR_ok, evEs_nil, items_rng1, this]
        rw [List.map_nil] at e
        rw [e, bindR_ok, newL_f _ _ hl]
      generalize callF pg (n+3) = F at *
      have hcnd : evE pg F (.cmp .gt (.var 3) (.int 0)) (pEnv m r s i o (some (.loc 1)) v8 v9 none) [tO tp2, .lst (sts.map stD)] = .ok (.d (.bl true)) [tO tp2, .lst (sts.map stD)] := by simp [h0]
      rw [evE_ife, hcnd, bindR_ok, asBk_bl, ite'_t, evE_blt, evEs_cons, hc, bindR_ok, evEs_nil, bindR_ok, bindR_ok, bltD_tuple, tupleD_lst]
    · refine ⟨[], tp2, by simp, by simp, ?_⟩
      generalize callF pg (n+3) = F at *
      simp [h0]
  obtain ⟨ins, tp3, d1, d2, ed⟩ := hdoors
  refine ⟨r, s, o, ins, sts, tp3, POk.of ?_, ?_⟩
  · unfold vPiece
    simp only [Bool.and_eq_true, decide_eq_true_eq, List.length_map]
    have hl := R.len
    refine ⟨⟨⟨⟨⟨⟨⟨by omega, by omega⟩, by omega⟩, d1⟩, ?_⟩, by omega⟩, ?_⟩, ?_⟩
    · rw [List.all_map, List.all_eq_true]
      intro x hx
      simpa [inOk] using d2 x hx
    · exact List.all_eq_true.mpr fun t ht => (R.ok t ht).2
    · refine List.all_eq_true.mpr fun room _ => ?_
      obtain ⟨w, ps, a, b, c⟩ := R.sum room
      unfold sumOk
      rw [c]
      exact decide_eq_true (sum_parts_ok w a ps b)
  · rw [c__law_piece, b__law_piece]
    have e1 : exS pg (callF pg (n+3)) (.asg (.tp [(.nm 3), (.nm 4)]) (.tup [(.call 23 [(.var 0), (.bin .add false (.var 1) (.int 1))] []), (.call 23 [(.var 0), (.int 3)] [])])) [some (.loc 0), some (.d (.int m)), some (.d (.int 3)), none, none, none, none, none, none, none, none] [tO tp] = .nx [some (.loc 0), some (.d (.int m)), some (.d (.int 3)), some (.d (.int r)), some (.d (.int s)), none, none, none, none, none, none] [tO (tkT (tkT tp))] := by
      generalize callF pg (n+3) = F at *
      simp [t1, t2]
    have e2 : exS pg (callF pg (n+3)) (.asg (.tp [(.nm 5), (.nm 6)]) (.ife (.isi (.var 2) .tuple) (.var 2) (.tup [(.call 23 [(.var 0), (.bin .add false (.var 2) (.int 1))] []), (.call 23 [(.var 0), (.bin .add false (.var 2) (.int 1))] [])]))) [some (.loc 0), some (.d (.int m)), some (.d (.int 3)), some (.d (.int r)), some (.d (.int s)), none, none, none, none, none, none] [tO (tkT (tkT tp))] = .nx (pEnv m r s i o none none none none) [tO tp1] := by
      generalize callF pg (n+3) = F at *
      simp at t3 t4
      simp [t3, t4]
    have e3 : exS pg (callF pg (n+3)) (.asg (.nm 3) (.ife (.and [(.isi (.var 2) .tuple), (.cmp .gt (.var 5) (.int 0))]) (.blt .max false [(.var 3), (.int 1)]) (.var 3))) (pEnv m r s i o none none none none) [tO tp1] = .nx (pEnv m r s i o none none none none) [tO tp1] := by
      generalize callF pg (n+3) = F at *
      simp
    have e4 : exS pg (callF pg (n+3)) (.asg (.nm 7) (.lst true [])) (pEnv m r s i o none none none none) [tO tp1] = .nx (pEnv m r s i o (some (.loc 1)) none none none) [tO tp1, .lst []] := by
      generalize callF pg (n+3) = F at *
      simp [newL]
    rw [step_nx _ _ e1 rfl, step_nx _ _ e2 rfl, step_nx _ _ e3 rfl, step_nx _ _ e4 rfl]
    rw [outB, inB, List.map_nil] at eo
    have hr : r < 2 ^ 62 := Nat.lt_of_le_of_lt (show r ≤ 12 by omega) (by decide)
    rw [step_nx _ _ ((rng1_var rfl hr).trans (by rw [List.range_eq_range']; exact eo)) rfl]
    have e6 : exS pg (callF pg (n+3)) (.ret (.tup [(.var 3), (.var 4), (.blt .tuple false [(.var 7)]), (.ife (.cmp .gt (.var 3) (.int 0)) (.blt .tuple false [(.comp false [10] (.nm 10) .rng1 [(.var 5)] [] (.call 23 [(.var 0), (.var 3)] []))]) (.tup [])), (.var 6)])) (pEnv m r s i o (some (.loc 1)) v8 v9 none) [tO tp2, .lst (sts.map stD)] = .rt (.d (pcN r s o ins sts)) [tO tp3, .lst (sts.map stD)] := by
      generalize callF pg (n+3) = F at *
      have ht : tupleD [tO tp2, .lst (sts.map stD)] [.loc 1] = .ok (.d (.tup (sts.map stD))) [tO tp2, .lst (sts.map stD)] := rfl
      rw [exS_ret, evE_tup]
      simp only [evEs_cons, evE_blt, evE_var, List.getElem?_cons_succ, List.getElem?_cons_zero, varK_some, bindR_ok, evEs_nil, bltD_tuple, ht, ed]
      simp
    rw [step_rt e6]
    rfl
end K83
set_option linter.all false
set_option maxRecDepth 100000
namespace K83
open Mi
open PySem (Str)
/-- a list that a name holds takes more texts -/
theorem grow {P : Pg} {F : Call} {env : Env} {S : Store} {es : List Mi.E} {xs : List (List Nat)} {N B i : Nat} (hv : env[i]? = some (some (.d (.lst (xs.map .str))))) (hx : xs.length ≤ N ∧ ∀ x ∈ xs, x.length ≤ B ∧ Sg x) (h : IsTs P F env S es B) (h6 : N + es.length ≤ 16777216)
    (hi : i < env.length) : ∃ ys : List (List Nat), (ys.length ≤ N + es.length ∧ xs.length ≤ ys.length ∧ ∀ x ∈ ys, x.length ≤ B ∧ Sg x) ∧ exS P F (.asg (.nm i) (.bin .add false (.var i) (.lst false es))) env S = .nx (env.set i (some (.d (.lst (ys.map .str))))) S := by
  obtain ⟨zs, z1, z2, z3⟩ := h.lst (N := es.length) (Nat.le_refl _) (by omega)
  refine ⟨xs ++ zs, ⟨by simp; omega, by simp, fun x hx' => (List.mem_append.mp hx').elim (hx.2 x) (z3 x)⟩, ?_⟩
  have hb : binD .add false (.d (.lst (xs.map D.str))) (.d (.lst (zs.map .str))) S = .ok (.d (.lst ((xs ++ zs).map .str))) S := by
    rw [List.map_append]; exact binD_addL _ _ _ (by simp; omega)
  rw [exS_asg, evE_bin, evE_var, hv, varK_some, bindR_ok, z1, bindR_ok, hb, bindF_ok, put_nm, if_pos hi, putF_some]
/-- what is bent -/
structure BOk (t : List Nat) : Prop where
  ne : t ≠ []
  len : t.length ≤ 2000
  asc : t.all (· < 128) = true
theorem BOk.sg {t : List Nat} (h : BOk t) : Sg t := fun c hc => by have := List.all_eq_true.mp h.asc c hc; simp at this; omega
theorem BOk.tok {t : List Nat} (h : BOk t) : TOk t := ⟨by have := h.len; omega, h.sg⟩
abbrev CC : Nat := 15999998
theorem s_law_bent (n : Nat) (t : List Nat) (ht : BOk t) (tp : List Nat) : ∃ (u tp' : List Nat), TOk u ∧ callF pg (n+2) 43 [.loc 0, .d (.str t)] [tO tp] = .ok (.d (.str u)) [tO tp'] := by
  have hlt := ht.len
  have hsg := ht.sg
  have hlp : 0 < t.length := List.length_pos_iff.mpr ht.ne
  obtain ⟨w1, w2⟩ := spl_len (s := 32) [] t
  have hsp := fun S => ht.tok.split S 32 (by decide)
  have hpt := ht.tok.part (s := 32)
  have hwne := spl_ne (S := [32]) 0 [] t
  have hwpos : 0 < (TL.spl [32] 0 [] t).length := List.length_pos_iff.mpr hwne
  generalize TL.spl [32] 0 [] t = ws at *
  have hws : ∀ x ∈ ws, x.length ≤ 2000 ∧ Sg x := fun x hx => ⟨by have := w2 x hx; simp at this; omega, (hpt x hx).asc⟩
  have hwl : ws.length ≤ 2001 := by omega
  have t1 := s_takeI n t.length (t.length : Int) rfl hlp tp []
  have t2 := s_takeI n 19 19 rfl (by decide) (tkT tp) []
  have t3 := s_takeI n ws.length (ws.length : Int) rfl hwpos (tkT (tkT tp)) []
  have tl := fun N i h1 h2 => s_takeI n N i h1 h2 (tkT (tkT (tkT tp))) []
  have v2 := tkV_lt (L := 19) (by decide) (tkT tp)
  have v3 := tkV_lt (L := ws.length) hwpos (tkT (tkT tp))
  have vl := fun N h => tkV_lt (L := N) h (tkT (tkT (tkT tp)))
  generalize tkT (tkT (tkT tp)) = tp3 at *
  generalize tkV t.length tp = at_ at *
  generalize tkV ws.length (tkT (tkT tp)) = spot at *
  rw [c__law_bent]
  generalize callF pg (n+1) = F at *
  rw [b__law_bent]
  have hlen : ∀ S, lenD S [.d (.str t)] = .ok (.d (.int t.length)) S := fun S => lenD_str _ _ (by show _ ≤ 16777216; omega)
  have hsgn : ∃ c : Nat, c < 128 ∧ idxD (.d (.str [32,44,59,46,62,58,47,45,48,49,50,57,97,122,90,95,43,10,9])) (.d (.int (tkV 19 (tkT tp)))) [tO (tkT (tkT tp))] = some (.str [c]) := by
    generalize tkV 19 (tkT tp) = v at v2
    have hh : v < [32,44,59,46,62,58,47,45,48,49,50,57,97,122,90,95,43,10,9].length := v2
    refine ⟨[32,44,59,46,62,58,47,45,48,49,50,57,97,122,90,95,43,10,9][v], ?_, ?_⟩
    · have : ∀ c ∈ [32,44,59,46,62,58,47,45,48,49,50,57,97,122,90,95,43,10,9], c < 128 := by decide
      exact this _ (List.getElem_mem hh)
    · unfold idxD; dsimp only; rw [if_pos (by decide), atI_nat, List.getElem?_eq_getElem hh]; rfl
  obtain ⟨c, hc, hci⟩ := hsgn
  have e1 : exS pg F (.par [2, 3] [(.call 23 [(.var 0), (.blt .len false [(.var 1)])] []), (.str [32,44,59,46,62,58,47,45,48,49,50,57,97,122,90,95,43,10,9])]) [some (.loc 0), some (.d (.str t)), none, none, none, none, none, none] [tO tp] = .nx [some (.loc 0), some (.d (.str t)), some (.d (.int at_)), some (.d (.str [32,44,59,46,62,58,47,45,48,49,50,57,97,122,90,95,43,10,9])), none, none, none, none] [tO (tkT tp)] := by
    simp [hlen, t1]
  have hl19 : lenD [tO (tkT tp)] [.d (.str [32,44,59,46,62,58,47,45,48,49,50,57,97,122,90,95,43,10,9])] = .ok (.d (.int 19)) [tO (tkT tp)] := lenD_str _ _ (by decide)
  have e2 : exS pg F (.asg (.nm 4) (.idx (.var 3) (.call 23 [(.var 0), (.blt .len false [(.var 3)])] []))) [some (.loc 0), some (.d (.str t)), some (.d (.int at_)), some (.d (.str [32,44,59,46,62,58,47,45,48,49,50,57,97,122,90,95,43,10,9])), none, none, none, none] [tO (tkT tp)] = .nx [some (.loc 0), some (.d (.str t)), some (.d (.int at_)), some (.d (.str [32,44,59,46,62,58,47,45,48,49,50,57,97,122,90,95,43,10,9])), some (.d (.str [c])), none, none, none] [tO (tkT (tkT tp))] := by
    simp [hl19, t2, hci]
  have e3 : exS pg F (.asg (.nm 5) (.mth .split (.var 1) [(.str [32])])) [some (.loc 0), some (.d (.str t)), some (.d (.int at_)), some (.d (.str [32,44,59,46,62,58,47,45,48,49,50,57,97,122,90,95,43,10,9])), some (.d (.str [c])), none, none, none] [tO (tkT (tkT tp))] = .nx [some (.loc 0), some (.d (.str t)), some (.d (.int at_)), some (.d (.str [32,44,59,46,62,58,47,45,48,49,50,57,97,122,90,95,43,10,9])), some (.d (.str [c])), some (.d (.lst (ws.map .str))), none, none] [tO (tkT (tkT tp))] := by
    simp [hsp]
  have e4 : exS pg F (.asg (.nm 6) (.call 23 [(.var 0), (.blt .len false [(.var 5)])] [])) [some (.loc 0), some (.d (.str t)), some (.d (.int at_)), some (.d (.str [32,44,59,46,62,58,47,45,48,49,50,57,97,122,90,95,43,10,9])), some (.d (.str [c])), some (.d (.lst (ws.map .str))), none, none] [tO (tkT (tkT tp))] = .nx [some (.loc 0), some (.d (.str t)), some (.d (.int at_)), some (.d (.str [32,44,59,46,62,58,47,45,48,49,50,57,97,122,90,95,43,10,9])), some (.d (.str [c])), some (.d (.lst (ws.map .str))), some (.d (.int spot)), none] [tO tp3] := by
    simp [t3]
  rw [step_nx _ _ e1 rfl, step_nx _ _ e2 rfl, step_nx _ _ e3 rfl, step_nx _ _ e4 rfl]
  -- the texts
  let E7 : Option Vl → Env := fun v7 => [some (.loc 0), some (.d (.str t)), some (.d (.int at_)), some (.d (.str [32,44,59,46,62,58,47,45,48,49,50,57,97,122,90,95,43,10,9])), some (.d (.str [c])), some (.d (.lst (ws.map .str))), some (.d (.int spot)), v7]
  have T : ∀ v, IsT pg F (E7 v) [tO tp3] (.var 1) 2000 := fun v => IsT.var rfl hlt hsg
  have C : ∀ v, IsT pg F (E7 v) [tO tp3] (.var 4) 1 := fun v => IsT.var rfl (by simp) (fun d hd => by rw [List.mem_singleton.mp hd]; omega)
  have A : ∀ v, IsI pg F (E7 v) [tO tp3] (.var 2) := fun v => IsI.var rfl
  have A1 : ∀ v, IsI pg F (E7 v) [tO tp3] (.bin .add false (.var 2) (.int 1)) := fun v => IsI.add1 rfl
  have Sp : ∀ v, IsI pg F (E7 v) [tO tp3] (.var 6) := fun v => IsI.var rfl
  have Sp1 : ∀ v, IsI pg F (E7 v) [tO tp3] (.bin .add false (.var 6) (.int 1)) := fun v => IsI.add1 rfl
  have W : ∀ v, IsL pg F (E7 v) [tO tp3] (.var 5) 2001 2000 := fun v => IsL.var rfl hwl hws
  have W1 : ∀ v, IsT pg F (E7 v) [tO tp3] (.idx (.var 5) (.var 6)) 2000 := fun v => IsT.idx (k := spot) rfl rfl v3 hws
  have L : ∀ v (x : List Nat), x.all (· < 1114112) = true → IsT pg F (E7 v) [tO tp3] (.str x) x.length := fun v x hx => IsT.lit hx
  have q1 : IsTs pg F (E7 none) [tO tp3] [(.bin .add false (.bin .add false (.sl false (.var 1) [] [(.var 2)]) (.var 4)) (.sl false (.var 1) [(.var 2)] [])), (.bin .add false (.sl false (.var 1) [] [(.var 2)]) (.sl false (.var 1) [(.bin .add false (.var 2) (.int 1))] [])), (.bin .add false (.bin .add false (.sl false (.var 1) [] [(.var 2)]) (.var 4)) (.sl false (.var 1) [(.bin .add false (.var 2) (.int 1))] [])), (.bin .add false (.var 1) (.str [32]))] CC :=
    .cons (((((T _).to (A _) (by decide)).add (C _) (by decide)).add ((T _).from_ (A _) (by decide)) (by decide)).mono (by decide))
    (.cons ((((T _).to (A _) (by decide)).add ((T _).from_ (A1 _) (by decide)) (by decide)).mono (by decide))
    (.cons (((((T _).to (A _) (by decide)).add (C _) (by decide)).add ((T _).from_ (A1 _) (by decide)) (by decide)).mono (by decide))
    (.cons (((T _).add (L _ [32] rfl) (by decide)).mono (by decide)) .nil)))
  obtain ⟨x1, y1, y2, y3⟩ := q1.lst (N := 4) (by decide) (by decide)
  have e5 : exS pg F (.asg (.nm 7) (.lst false [(.bin .add false (.bin .add false (.sl false (.var 1) [] [(.var 2)]) (.var 4)) (.sl false (.var 1) [(.var 2)] [])), (.bin .add false (.sl false (.var 1) [] [(.var 2)]) (.sl false (.var 1) [(.bin .add false (.var 2) (.int 1))] [])), (.bin .add false (.bin .add false (.sl false (.var 1) [] [(.var 2)]) (.var 4)) (.sl false (.var 1) [(.bin .add false (.var 2) (.int 1))] [])), (.bin .add false (.var 1) (.str [32]))])) (E7 none) [tO tp3] = .nx (E7 (some (.d (.lst (x1.map .str))))) [tO tp3] := by
    rw [exS_asg, y1, bindF_ok]; rfl
  have q2 : ∀ v, IsTs pg F (E7 v) [tO tp3] [(.bin .add false (.str [32]) (.var 1)), (.mth .upper (.var 1) []), (.sl false (.var 1) [] [(.var 2)]), (.rev false (.var 1)), (.bin .add false (.str [45]) (.var 1)), (.bin .add false (.var 1) (.str [47,49])), (.bin .add false (.var 1) (.str [48]))] CC := fun v =>
    .cons (((L _ [32] rfl).add (T _) (by decide)).mono (by decide))
    (.cons ((IsT.upper rfl hlt (by decide) ht.asc).mono (by decide))
    (.cons (((T _).to (A _) (by decide)).mono (by decide))
    (.cons (((T _).rev (by decide)).mono (by decide))
    (.cons (((L _ [45] rfl).add (T _) (by decide)).mono (by decide))
    (.cons (((T _).add (L _ [47,49] rfl) (by decide)).mono (by decide))
    (.cons (((T _).add (L _ [48] rfl) (by decide)).mono (by decide)) .nil))))))
  obtain ⟨x2, ⟨y4, y5, y6⟩, e6⟩ := grow (i := 7) (env := E7 (some (.d (.lst (x1.map .str))))) rfl ⟨y2, y3⟩ (q2 _) (by decide) (by show 7 < 8; decide)
  have q3 : ∀ v, IsTs pg F (E7 v) [tO tp3] [(.mth .join (.str [32]) [(.bin .add false (.sl false (.var 5) [] [(.var 6)]) (.sl false (.var 5) [(.bin .add false (.var 6) (.int 1))] []))]), (.mth .join (.str [32]) [(.bin .add false (.bin .add false (.sl false (.var 5) [] [(.var 6)]) (.lst false [(.idx (.var 5) (.var 6))])) (.sl false (.var 5) [(.var 6)] []))])] CC := fun v =>
    .cons ((((W _).to (Sp _) (by decide)).add ((W _).from_ (Sp1 _) (by decide)) (by decide)).join (C := CC) rfl (by decide) (by decide))
    (.cons (((((W _).to (Sp _) (by decide)).add (IsTs.lst (N := 1) (.cons (W1 _) .nil) (by decide) (by decide)) (by decide)).add ((W _).from_ (Sp _) (by decide)) (by decide)).join (C := CC) rfl (by decide) (by decide)) .nil)
  obtain ⟨x3, ⟨y7, y8, y9⟩, e7⟩ := grow (i := 7) (env := E7 (some (.d (.lst (x2.map .str))))) rfl ⟨y4, y6⟩ (q3 _) (by decide) (by show 7 < 8; decide)
  have hzz : ∀ z : List Nat, z.length ≤ 10 → 2000 + (2000 + 1) * z.length ≤ CC := fun z h4 => by
    have : (2000 + 1) * z.length ≤ 2001 * 10 := Nat.mul_le_mul_left _ h4
    show _ ≤ 15999998
    omega
  have R1 : ∀ v (y z : List Nat), z.all (· < 1114112) = true → y ≠ [] → (y == z) = false → z.length ≤ 10 → IsT pg F (E7 v) [tO tp3] (.mth .replace (.var 1) [.str y, .str z, .int 1]) CC := fun v y z h1 h2 h3 h4 => IsT.repl1 (B := 2000) rfl hlt hsg h1 h2 h3 (hzz z h4) (by decide)
  have R0 : ∀ v (y z : List Nat), z.all (· < 1114112) = true → y ≠ [] → (y == z) = false → z.length ≤ 10 → IsT pg F (E7 v) [tO tp3] (.mth .replace (.var 1) [.str y, .str z]) CC := fun v y z h1 h2 h3 h4 => IsT.repl (B := 2000) rfl hlt hsg h1 h2 h3 (hzz z h4) (by decide)
  have q4 : ∀ v, IsTs pg F (E7 v) [tO tp3] [(.mth .replace (.var 1) [(.str [62]), (.str [62,62]), (.int 1)]), (.mth .replace (.var 1) [(.str [58]), (.str [58,58]), (.int 1)]), (.mth .replace (.var 1) [(.str [47]), (.str [47,47]), (.int 1)]), (.mth .replace (.var 1) [(.str [32]), (.str [32,32]), (.int 1)])] CC := fun v =>
    .cons (R1 _ [62] [62,62] rfl (by decide) rfl (by decide)) (.cons (R1 _ [58] [58,58] rfl (by decide) rfl (by decide)) (.cons (R1 _ [47] [47,47] rfl (by decide) rfl (by decide)) (.cons (R1 _ [32] [32,32] rfl (by decide) rfl (by decide)) .nil)))
  obtain ⟨x4, ⟨z1, z2, z3⟩, e8⟩ := grow (i := 7) (env := E7 (some (.d (.lst (x3.map .str))))) rfl ⟨y7, y9⟩ (q4 _) (by decide) (by show 7 < 8; decide)
  have q5 : ∀ v, IsTs pg F (E7 v) [tO tp3] [(.mth .replace (.var 1) [(.str [58]), (.str [58,48]), (.int 1)]), (.mth .replace (.var 1) [(.str [62]), (.str [60])]), (.mth .replace (.var 1) [(.str [110,111,110,101]), (.str [48])]), (.mth .replace (.var 1) [(.str [58,48,58]), (.str [58,48,48,58])])] CC := fun v =>
    .cons (R1 _ [58] [58,48] rfl (by decide) rfl (by decide)) (.cons (R0 _ [62] [60] rfl (by decide) rfl (by decide)) (.cons (R0 _ [110,111,110,101] [48] rfl (by decide) rfl (by decide)) (.cons (R0 _ [58,48,58] [58,48,48,58] rfl (by decide) rfl (by decide)) .nil)))
  obtain ⟨x5, ⟨z4, z5, z6⟩, e9⟩ := grow (i := 7) (env := E7 (some (.d (.lst (x4.map .str))))) rfl ⟨z1, z3⟩ (q5 _) (by decide) (by show 7 < 8; decide)
  have q6 : ∀ v, IsTs pg F (E7 v) [tO tp3] [(.mth .replace (.var 1) [(.str [49,47,50]), (.str [50,47,52])]), (.mth .replace (.var 1) [(.str [44]), (.str [44,32]), (.int 1)]), (.bin .add false (.var 1) (.str [10])), (.bin .add false (.str [48]) (.var 1)), (.bin .add false (.var 1) (.str [32,48,62,48,58,48,58,49,47,57]))] CC := fun v =>
    .cons (R0 _ [49,47,50] [50,47,52] rfl (by decide) rfl (by decide)) (.cons (R1 _ [44] [44,32] rfl (by decide) rfl (by decide))
    (.cons (((T _).add (L _ [10] rfl) (by decide)).mono (by decide)) (.cons (((L _ [48] rfl).add (T _) (by decide)).mono (by decide)) (.cons (((T _).add (L _ [32,48,62,48,58,48,58,49,47,57] rfl) (by decide)).mono (by decide)) .nil))))
  obtain ⟨x6, ⟨z7, z8, z9⟩, e10⟩ := grow (i := 7) (env := E7 (some (.d (.lst (x5.map .str))))) rfl ⟨z4, z6⟩ (q6 _) (by decide) (by show 7 < 8; decide)
  have hx1 : 0 < x1.length := by
    obtain ⟨xs, a, b, _⟩ := q1
    have : evE pg F _ (E7 none) [tO tp3] = _ := y1
    rw [evE_lst, a, bindR_ok] at this
    cases xs with
    | nil => simp at b
    | cons x r =>
      rw [List.map_cons, lstK_d, datas_strs] at this
      dsimp only at this
      rw [newL_f _ _ (by simp at b ⊢; omega)] at this
      simp only [Res.ok.injEq, Vl.d.injEq, D.lst.injEq] at this
      have := congrArg List.length this.1
      simp at this
      omega
  have hpos : 0 < x6.length := by omega
  have tk := tl x6.length (x6.length : Int) rfl hpos
  have vk := vl x6.length hpos
  generalize tkV x6.length tp3 = k at *
  refine ⟨x6[k], tkT tp3, ⟨(z9 _ (List.getElem_mem vk)).1, (z9 _ (List.getElem_mem vk)).2⟩, ?_⟩
  refine (congrArg (finish false _) (step_nx _ _ e5 (step_nx _ _ e6 (step_nx _ _ e7 (step_nx _ _ e8 (step_nx _ _ e9 (step_nx _ _ e10 (step_rt (v := .d (.str x6[k])) (S1 := [tO (tkT tp3)]) ?_)))))))).trans rfl
  have hat : L2.atI (x6.map D.str) (k : Int) = some (.str x6[k]) := by rw [atI_nat, List.getElem?_map, List.getElem?_eq_getElem vk]; rfl
  show exS pg F _ (E7 (some (.d (.lst (x6.map .str))))) [tO tp3] = _
  rw [exS_ret, evE_idx]
  simp only [E7, evE_var, List.getElem?_cons_succ, List.getElem?_cons_zero, varK_some, bindR_ok, evE_call, evEs_cons, evE_blt, evEs_nil, bltD_len, lenD_lst, List.length_map, List.append_nil, bindVs_loc, bindVs_d, bindVs_nil, Option.map_some, callK_some, tk, idxD_lst, hat, ofD_some, bindF_ok]
end K83
set_option linter.all false
set_option maxRecDepth 100000
namespace K83
open Mi
open PySem (Str)
theorem flat_len (x : List Nat) : ∀ k : Nat, (List.replicate k x).flatten.length = x.length * k
  | 0 => by simp
  | k + 1 => by rw [List.replicate_succ, List.flatten_cons, List.length_append, flat_len x k, Nat.mul_succ]; omega
theorem IsT.mulC {P : Pg} {F : Call} {env : Env} {S : Store} {x : List Nat} {k : Nat} {i : Int} (hi : i = (k : Int)) (h1 : x.length * k ≤ 16777216) (h2 : k < 2 ^ 62) (hs : x.all (· < 1114112) = true) : IsT P F env S (.bin .mul false (.str x) (.int i)) (x.length * k) := by
  subst hi
  refine ⟨(List.replicate k x).flatten, ?_, by rw [flat_len]; exact Nat.le_refl _, fun c hc => ?_⟩
  · rw [evE_bin, evE_str, bindR_ok, evE_int, bindR_ok]
    show (if 0 ≤ (k : Int) ∧ x.length * (k : Int).toNat ≤ line ∧ (k : Int) < 2 ^ 62 then Res.ok (Vl.d (.str (List.replicate (k : Int).toNat x).flatten)) S else .bad) = _
    rw [Int.toNat_natCast, if_pos ⟨by omega, h1, by have : ((k : Nat) : Int) < ((2 ^ 62 : Nat) : Int) := Int.ofNat_lt.mpr h2
                                                    exact_mod_cast this⟩]
  · obtain ⟨l, hl, hc⟩ := List.mem_flatten.mp hc
    rw [(List.mem_replicate.mp hl).2] at hc
    simpa using List.all_eq_true.mp hs c hc
theorem IsL.mulC {P : Pg} {F : Call} {env : Env} {S : Store} {x : List Nat} {k : Nat} {i : Int} (hi : i = (k : Int)) (h1 : 1 * k ≤ 16777216) (h2 : k < 2 ^ 62) (hs : x.all (· < 1114112) = true) : IsL P F env S (.bin .mul false (.lst false [.str x]) (.int i)) k x.length := by
  subst hi
  refine ⟨List.replicate k x, ?_, by simp, fun y hy => ?_⟩
  · rw [evE_bin, evE_lst, evEs_cons, evE_str, bindR_ok, evEs_nil, bindR_ok, bindR_ok, lstK_d]
    show bindR (newL false [D.str x] S) _ = _
    rw [newL_f _ _ (by simp), bindR_ok, evE_int, bindR_ok]
    show (if 0 ≤ (k : Int) ∧ [D.str x].length * (k : Int).toNat ≤ line ∧ (k : Int) < 2 ^ 62 then newL false (List.replicate (k : Int).toNat [D.str x]).flatten S else .bad) = _
    rw [Int.toNat_natCast, if_pos ⟨by omega, h1, by have : ((k : Nat) : Int) < ((2 ^ 62 : Nat) : Int) := Int.ofNat_lt.mpr h2
                                                    exact_mod_cast this⟩]
    have : (List.replicate k [D.str x]).flatten = (List.replicate k x).map .str := by
      rw [List.map_replicate]
      clear h1 h2
      induction k with
      | zero => rfl
      | succ k ih => rw [List.replicate_succ, List.flatten_cons, ih, List.replicate_succ]; rfl
    rw [this, newL_f _ _ (by simp; omega)]
  · rw [(List.mem_replicate.mp hy).2]
    exact ⟨Nat.le_refl _, fun c hc => by simpa using List.all_eq_true.mp hs c hc⟩
abbrev farT : List Nat := [49,48,48,48,48,48,48,48,48,48,48,48,48]
theorem s_law_by_hand (n : Nat) (tp : List Nat) : callF pg (n+13) 44 [] [tO tp] = .ok (.d (.bl true)) [tO tp] := by
  rw [c__law_by_hand_right]
  refine fin_rt ?_
  have hlast : ∀ v0 v1 v2, exSs pg (callF pg (n+12)) [(.for_ (.nm 3) .it [(.tup [.non, (.int 5), (.lst false [(.str [48])]), (.tup [(.str [48])]), (.bl true), .dic])] [(.for_ (.nm 4) .it [(.tup [(.lam 50 [3]), (.lam 51 [3]), (.lam 52 [3])])] [(.iff (.not (.call 25 [(.var 4), (.tup [(.str [66,97,100,84,101,120,116]), .non])] [])) [(.ret (.bl false))] [])])]), (.ret (.bl true))] [v0, v1, v2, none, none] [tO tp] = .rt (.d (.bl true)) [tO tp] := fun v0 v1 v2 => by kernel_rfl
  have hread := fun t ht => s_read_right n t [tO tp] ht
  generalize callF pg (n+12) = F at *
  rw [b__law_by_hand_right]
  let E1 : Option Vl → Env := fun v1 => [some (.d (.str farT)), v1, none, none, none]
  have e0 : exS pg F (.asg (.nm 0) (.blt .str false [(.bin .pow false (.int 10) (.int 12))])) [none, none, none, none, none] [tO tp] = .nx (E1 none) [tO tp] := by
    have : strD [tO tp] [.d (.int 1000000000000)] = .ok (.d (.str farT)) [tO tp] := by kernel_rfl
    rw [exS_asg, evE_blt, evEs_cons, evE_bin, evE_int, bindR_ok, evE_int, bindR_ok, show binD .pow false (.d (.int 10)) (.d (.int 12)) [tO tp] = .ok (.d (.int 1000000000000)) [tO tp] from rfl, bindR_ok, evEs_nil, bindR_ok, bindR_ok, bltD_str, this]
    rfl
  have Fa : ∀ v, IsT pg F (E1 v) [tO tp] (.var 0) 13 := fun v => IsT.var rfl (by decide) (show ∀ c ∈ farT, c < 1114112 by decide)
  have L : ∀ v (x : List Nat), x.all (· < 1114112) = true → IsT pg F (E1 v) [tO tp] (.str x) x.length := fun v x hx => IsT.lit hx
  have St : ∀ v, IsT pg F (E1 v) [tO tp] (.blt .str false [(.bin .add false (.bin .pow false (.int 10) (.int 12)) (.int 1))]) 13 := fun v => by
    have : strD [tO tp] [.d (.int (1000000000000 + 1))] = .ok (.d (.str [49,48,48,48,48,48,48,48,48,48,48,48,49])) [tO tp] := by kernel_rfl
    refine ⟨[49,48,48,48,48,48,48,48,48,48,48,48,49], ?_, by decide, show ∀ c ∈ [49,48,48,48,48,48,48,48,48,48,48,48,49], c < 1114112 by decide⟩
    rw [evE_blt, evEs_cons, evE_bin, evE_bin, evE_int, bindR_ok, evE_int, bindR_ok, show binD .pow false (.d (.int 10)) (.d (.int 12)) [tO tp] = .ok (.d (.int 1000000000000)) [tO tp] from rfl, bindR_ok, evE_int, bindR_ok, binD_addI, bindR_ok, evEs_nil, bindR_ok, bindR_ok, bltD_str, this]
  rw [step_nx _ _ e0 rfl]
  have q1 : ∀ v, IsTs pg F (E1 v) [tO tp] [(.str [48]), (.str [49]), (.str [45,49]), (.str [49,47,50]), (.str [45,55,47,51]), (.var 0), (.bin .add false (.str [45]) (.var 0)), (.bin .add false (.str [49,47]) (.var 0)), (.str [48,62,48,58,48,58,49]), (.str [57,57,62,57,57,58,57,57,58,49,47,50]), (.str [48,32,48,32,48,32,110,111,110,101])] CC := fun v =>
    .cons ((L v [48] rfl).mono (by decide)) (.cons ((L v [49] rfl).mono (by decide)) (.cons ((L v [45,49] rfl).mono (by decide)) (.cons ((L v [49,47,50] rfl).mono (by decide)) (.cons ((L v [45,55,47,51] rfl).mono (by decide)) (.cons ((Fa v).mono (by decide)) (.cons (((L v [45] rfl).add (Fa v) (by decide)).mono (by decide)) (.cons (((L v [49,47] rfl).add (Fa v) (by decide)).mono (by decide)) (.cons ((L v [48,62,48,58,48,58,49] rfl).mono (by decide)) (.cons ((L v [57,57,62,57,57,58,57,57,58,49,47,50] rfl).mono (by decide)) (.cons ((L v [48,32,48,32,48,32,110,111,110,101] rfl).mono (by decide)) (.nil)))))))))))
  obtain ⟨x1, y1, y2, y3⟩ := (q1 none).lst (N := 11) (by decide) (by decide)
  have e1 : exS pg F (.asg (.nm 1) (.lst false [(.str [48]), (.str [49]), (.str [45,49]), (.str [49,47,50]), (.str [45,55,47,51]), (.var 0), (.bin .add false (.str [45]) (.var 0)), (.bin .add false (.str [49,47]) (.var 0)), (.str [48,62,48,58,48,58,49]), (.str [57,57,62,57,57,58,57,57,58,49,47,50]), (.str [48,32,48,32,48,32,110,111,110,101])])) (E1 none) [tO tp] = .nx (E1 (some (.d (.lst (x1.map .str))))) [tO tp] := by
    rw [exS_asg, y1, bindF_ok]; rfl
  have z1 : x1.length ≤ 11 ∧ ∀ x ∈ x1, x.length ≤ CC ∧ Sg x := ⟨y2, y3⟩
  rw [step_nx _ _ e1 rfl]
  have q2 : ∀ v, IsTs pg F (E1 v) [tO tp] [(.str [49,50,32,51,32,51,32,48,44,48,44,49,49]), (.str [50,32,49,32,49,32,48,44,48,32,48,62,49,58,49,58,49,47,50,32,48,62,50,58,48,58,49,47,51,32,49,62,48,58,48,58,49]), (.bin .add false (.str [49,32,48,32,48,32,48,32]) (.mth .join (.str [32]) [(.bin .mul false (.lst false [(.str [48,62,48,58,48,58,49,47,52,48])]) (.int 40))]))] CC := fun v =>
    .cons ((L v [49,50,32,51,32,51,32,48,44,48,44,49,49] rfl).mono (by decide)) (.cons ((L v [50,32,49,32,49,32,48,44,48,32,48,62,49,58,49,58,49,47,50,32,48,62,50,58,48,58,49,47,51,32,49,62,48,58,48,58,49] rfl).mono (by decide)) (.cons (((L v [49,32,48,32,48,32,48,32] rfl).add (IsL.join (N := 40) (B := 10) (C := 10000) (IsL.mulC (x := [48,62,48,58,48,58,49,47,52,48]) (k := 40) rfl (by decide) (by decide) rfl) rfl (by decide) (by decide)) (by decide)).mono (by decide)) (.nil)))
  obtain ⟨x2, w2, e2⟩ := grow (i := 1) (env := E1 (some (.d (.lst (x1.map .str))))) rfl z1 (q2 _) (by decide) (by show 1 < 5; decide)
  have z2 : x2.length ≤ _ ∧ ∀ x ∈ x2, x.length ≤ CC ∧ Sg x := ⟨w2.1, w2.2.2⟩
  have e2' : exS pg F (.asg (.nm 1) (.bin .add false (.var 1) (.lst false [(.str [49,50,32,51,32,51,32,48,44,48,44,49,49]), (.str [50,32,49,32,49,32,48,44,48,32,48,62,49,58,49,58,49,47,50,32,48,62,50,58,48,58,49,47,51,32,49,62,48,58,48,58,49]), (.bin .add false (.str [49,32,48,32,48,32,48,32]) (.mth .join (.str [32]) [(.bin .mul false (.lst false [(.str [48,62,48,58,48,58,49,47,52,48])]) (.int 40))]))]))) (E1 (some (.d (.lst (x1.map .str))))) [tO tp] = .nx (E1 (some (.d (.lst (x2.map .str))))) [tO tp] := e2
  rw [step_nx _ _ e2' rfl]
  have q3 : ∀ v, IsTs pg F (E1 v) [tO tp] [(.str []), (.str [32]), (.str [45,48]), (.str [43,49]), (.str [48,49]), (.str [49,47,49]), (.str [50,47,52]), (.str [49,47,48]), (.str [48,47,53]), (.str [49,47,45,50]), (.str [49,47,50,47,51]), (.str [47,50]), (.str [49,47]), (.str [45,45,49]), (.str [45]), (.str [49,95,48])] CC := fun v =>
    .cons ((L v [] rfl).mono (by decide)) (.cons ((L v [32] rfl).mono (by decide)) (.cons ((L v [45,48] rfl).mono (by decide)) (.cons ((L v [43,49] rfl).mono (by decide)) (.cons ((L v [48,49] rfl).mono (by decide)) (.cons ((L v [49,47,49] rfl).mono (by decide)) (.cons ((L v [50,47,52] rfl).mono (by decide)) (.cons ((L v [49,47,48] rfl).mono (by decide)) (.cons ((L v [48,47,53] rfl).mono (by decide)) (.cons ((L v [49,47,45,50] rfl).mono (by decide)) (.cons ((L v [49,47,50,47,51] rfl).mono (by decide)) (.cons ((L v [47,50] rfl).mono (by decide)) (.cons ((L v [49,47] rfl).mono (by decide)) (.cons ((L v [45,45,49] rfl).mono (by decide)) (.cons ((L v [45] rfl).mono (by decide)) (.cons ((L v [49,95,48] rfl).mono (by decide)) (.nil))))))))))))))))
  obtain ⟨x3, w3, e3⟩ := grow (i := 1) (env := E1 (some (.d (.lst (x2.map .str))))) rfl z2 (q3 _) (by decide) (by show 1 < 5; decide)
  have z3 : x3.length ≤ _ ∧ ∀ x ∈ x3, x.length ≤ CC ∧ Sg x := ⟨w3.1, w3.2.2⟩
  have e3' : exS pg F (.asg (.nm 1) (.bin .add false (.var 1) (.lst false [(.str []), (.str [32]), (.str [45,48]), (.str [43,49]), (.str [48,49]), (.str [49,47,49]), (.str [50,47,52]), (.str [49,47,48]), (.str [48,47,53]), (.str [49,47,45,50]), (.str [49,47,50,47,51]), (.str [47,50]), (.str [49,47]), (.str [45,45,49]), (.str [45]), (.str [49,95,48])]))) (E1 (some (.d (.lst (x2.map .str))))) [tO tp] = .nx (E1 (some (.d (.lst (x3.map .str))))) [tO tp] := e3
  rw [step_nx _ _ e3' rfl]
  have q4 : ∀ v, IsTs pg F (E1 v) [tO tp] [(.blt .str false [(.bin .add false (.bin .pow false (.int 10) (.int 12)) (.int 1))]), (.bin .add false (.str [49,47]) (.blt .str false [(.bin .add false (.bin .pow false (.int 10) (.int 12)) (.int 1))])), (.str [48,62,48,58,48,58,48]), (.str [48,62,48,58,48,58,45,49,47,50]), (.str [48,62,48,58,48,58,51,47,50]), (.str [48,62,48,58,48]), (.str [48,62,48,58,48,58,49,58,49])] CC := fun v =>
    .cons ((St v).mono (by decide)) (.cons (((L v [49,47] rfl).add (St v) (by decide)).mono (by decide)) (.cons ((L v [48,62,48,58,48,58,48] rfl).mono (by decide)) (.cons ((L v [48,62,48,58,48,58,45,49,47,50] rfl).mono (by decide)) (.cons ((L v [48,62,48,58,48,58,51,47,50] rfl).mono (by decide)) (.cons ((L v [48,62,48,58,48] rfl).mono (by decide)) (.cons ((L v [48,62,48,58,48,58,49,58,49] rfl).mono (by decide)) (.nil)))))))
  obtain ⟨x4, w4, e4⟩ := grow (i := 1) (env := E1 (some (.d (.lst (x3.map .str))))) rfl z3 (q4 _) (by decide) (by show 1 < 5; decide)
  have z4 : x4.length ≤ _ ∧ ∀ x ∈ x4, x.length ≤ CC ∧ Sg x := ⟨w4.1, w4.2.2⟩
  have e4' : exS pg F (.asg (.nm 1) (.bin .add false (.var 1) (.lst false [(.blt .str false [(.bin .add false (.bin .pow false (.int 10) (.int 12)) (.int 1))]), (.bin .add false (.str [49,47]) (.blt .str false [(.bin .add false (.bin .pow false (.int 10) (.int 12)) (.int 1))])), (.str [48,62,48,58,48,58,48]), (.str [48,62,48,58,48,58,45,49,47,50]), (.str [48,62,48,58,48,58,51,47,50]), (.str [48,62,48,58,48]), (.str [48,62,48,58,48,58,49,58,49])]))) (E1 (some (.d (.lst (x3.map .str))))) [tO tp] = .nx (E1 (some (.d (.lst (x4.map .str))))) [tO tp] := e4
  rw [step_nx _ _ e4' rfl]
  have q5 : ∀ v, IsTs pg F (E1 v) [tO tp] [(.str [48,62,48,62,48,58,48,58,49]), (.str [49,48,48,62,48,58,48,58,49]), (.str [48,62,49,48,48,58,48,58,49]), (.str [48,62,48,58,49,48,48,58,49]), (.str [45,49,62,48,58,48,58,49]), (.str [48,48,62,48,58,48,58,49]), (.str [48,62,48,58,48,58,50,47,52])] CC := fun v =>
    .cons ((L v [48,62,48,62,48,58,48,58,49] rfl).mono (by decide)) (.cons ((L v [49,48,48,62,48,58,48,58,49] rfl).mono (by decide)) (.cons ((L v [48,62,49,48,48,58,48,58,49] rfl).mono (by decide)) (.cons ((L v [48,62,48,58,49,48,48,58,49] rfl).mono (by decide)) (.cons ((L v [45,49,62,48,58,48,58,49] rfl).mono (by decide)) (.cons ((L v [48,48,62,48,58,48,58,49] rfl).mono (by decide)) (.cons ((L v [48,62,48,58,48,58,50,47,52] rfl).mono (by decide)) (.nil)))))))
  obtain ⟨x5, w5, e5⟩ := grow (i := 1) (env := E1 (some (.d (.lst (x4.map .str))))) rfl z4 (q5 _) (by decide) (by show 1 < 5; decide)
  have z5 : x5.length ≤ _ ∧ ∀ x ∈ x5, x.length ≤ CC ∧ Sg x := ⟨w5.1, w5.2.2⟩
  have e5' : exS pg F (.asg (.nm 1) (.bin .add false (.var 1) (.lst false [(.str [48,62,48,62,48,58,48,58,49]), (.str [49,48,48,62,48,58,48,58,49]), (.str [48,62,49,48,48,58,48,58,49]), (.str [48,62,48,58,49,48,48,58,49]), (.str [45,49,62,48,58,48,58,49]), (.str [48,48,62,48,58,48,58,49]), (.str [48,62,48,58,48,58,50,47,52])]))) (E1 (some (.d (.lst (x4.map .str))))) [tO tp] = .nx (E1 (some (.d (.lst (x5.map .str))))) [tO tp] := e5
  rw [step_nx _ _ e5' rfl]
  have q6 : ∀ v, IsTs pg F (E1 v) [tO tp] [(.str [49,51,32,48,32,48,32,110,111,110,101]), (.str [48,32,52,32,48,32,110,111,110,101]), (.str [48,32,48,32,52,32,110,111,110,101]), (.str [48,32,48,32,48,32,48]), (.str [49,32,48,32,48,32,49]), (.str [49,32,48,32,48,32,48,44,48,44,48,44,48]), (.str [49,32,48,32,48,32,48,44]), (.str [49,32,48,32,48])] CC := fun v =>
    .cons ((L v [49,51,32,48,32,48,32,110,111,110,101] rfl).mono (by decide)) (.cons ((L v [48,32,52,32,48,32,110,111,110,101] rfl).mono (by decide)) (.cons ((L v [48,32,48,32,52,32,110,111,110,101] rfl).mono (by decide)) (.cons ((L v [48,32,48,32,48,32,48] rfl).mono (by decide)) (.cons ((L v [49,32,48,32,48,32,49] rfl).mono (by decide)) (.cons ((L v [49,32,48,32,48,32,48,44,48,44,48,44,48] rfl).mono (by decide)) (.cons ((L v [49,32,48,32,48,32,48,44] rfl).mono (by decide)) (.cons ((L v [49,32,48,32,48] rfl).mono (by decide)) (.nil))))))))
  obtain ⟨x6, w6, e6⟩ := grow (i := 1) (env := E1 (some (.d (.lst (x5.map .str))))) rfl z5 (q6 _) (by decide) (by show 1 < 5; decide)
  have z6 : x6.length ≤ _ ∧ ∀ x ∈ x6, x.length ≤ CC ∧ Sg x := ⟨w6.1, w6.2.2⟩
  have e6' : exS pg F (.asg (.nm 1) (.bin .add false (.var 1) (.lst false [(.str [49,51,32,48,32,48,32,110,111,110,101]), (.str [48,32,52,32,48,32,110,111,110,101]), (.str [48,32,48,32,52,32,110,111,110,101]), (.str [48,32,48,32,48,32,48]), (.str [49,32,48,32,48,32,49]), (.str [49,32,48,32,48,32,48,44,48,44,48,44,48]), (.str [49,32,48,32,48,32,48,44]), (.str [49,32,48,32,48])]))) (E1 (some (.d (.lst (x5.map .str))))) [tO tp] = .nx (E1 (some (.d (.lst (x6.map .str))))) [tO tp] := e6
  rw [step_nx _ _ e6' rfl]
  have q7 : ∀ v, IsTs pg F (E1 v) [tO tp] [(.str [48,32,48,32,48,32,78,111,110,101]), (.str [49,32,48,32,48,32,48,32,48,62,49,58,48,58,49]), (.str [49,32,48,32,48,32,48,32,48,62,48,58,49,58,49]), (.str [49,32,48,32,48,32,48,32,48,62,48,58,48,58,49,32,48,62,48,58,48,58,49,47,57])] CC := fun v =>
    .cons ((L v [48,32,48,32,48,32,78,111,110,101] rfl).mono (by decide)) (.cons ((L v [49,32,48,32,48,32,48,32,48,62,49,58,48,58,49] rfl).mono (by decide)) (.cons ((L v [49,32,48,32,48,32,48,32,48,62,48,58,49,58,49] rfl).mono (by decide)) (.cons ((L v [49,32,48,32,48,32,48,32,48,62,48,58,48,58,49,32,48,62,48,58,48,58,49,47,57] rfl).mono (by decide)) (.nil))))
  obtain ⟨x7, w7, e7⟩ := grow (i := 1) (env := E1 (some (.d (.lst (x6.map .str))))) rfl z6 (q7 _) (by decide) (by show 1 < 5; decide)
  have z7 : x7.length ≤ _ ∧ ∀ x ∈ x7, x.length ≤ CC ∧ Sg x := ⟨w7.1, w7.2.2⟩
  have e7' : exS pg F (.asg (.nm 1) (.bin .add false (.var 1) (.lst false [(.str [48,32,48,32,48,32,78,111,110,101]), (.str [49,32,48,32,48,32,48,32,48,62,49,58,48,58,49]), (.str [49,32,48,32,48,32,48,32,48,62,48,58,49,58,49]), (.str [49,32,48,32,48,32,48,32,48,62,48,58,48,58,49,32,48,62,48,58,48,58,49,47,57])]))) (E1 (some (.d (.lst (x6.map .str))))) [tO tp] = .nx (E1 (some (.d (.lst (x7.map .str))))) [tO tp] := e7
  rw [step_nx _ _ e7' rfl]
  have q8 : ∀ v, IsTs pg F (E1 v) [tO tp] [(.bin .add false (.str [49,32,48,32,48,32,48,32]) (.mth .join (.str [32]) [(.bin .mul false (.lst false [(.str [48,62,48,58,48,58,49,47,52,49])]) (.int 41))])), (.str [49,32,48,32,48,32,48,32,32,48,62,48,58,48,58,49]), (.str [48,32,48,32,48,32,110,111,110,101,32]), (.str [48,49,32,48,32,48,32,110,111,110,101]), (.str [48,32,48,32,48,9,110,111,110,101])] CC := fun v =>
    .cons (((L v [49,32,48,32,48,32,48,32] rfl).add (IsL.join (N := 41) (B := 10) (C := 10000) (IsL.mulC (x := [48,62,48,58,48,58,49,47,52,49]) (k := 41) rfl (by decide) (by decide) rfl) rfl (by decide) (by decide)) (by decide)).mono (by decide)) (.cons ((L v [49,32,48,32,48,32,48,32,32,48,62,48,58,48,58,49] rfl).mono (by decide)) (.cons ((L v [48,32,48,32,48,32,110,111,110,101,32] rfl).mono (by decide)) (.cons ((L v [48,49,32,48,32,48,32,110,111,110,101] rfl).mono (by decide)) (.cons ((L v [48,32,48,32,48,9,110,111,110,101] rfl).mono (by decide)) (.nil)))))
  obtain ⟨x8, w8, e8⟩ := grow (i := 1) (env := E1 (some (.d (.lst (x7.map .str))))) rfl z7 (q8 _) (by decide) (by show 1 < 5; decide)
  have z8 : x8.length ≤ _ ∧ ∀ x ∈ x8, x.length ≤ CC ∧ Sg x := ⟨w8.1, w8.2.2⟩
  have e8' : exS pg F (.asg (.nm 1) (.bin .add false (.var 1) (.lst false [(.bin .add false (.str [49,32,48,32,48,32,48,32]) (.mth .join (.str [32]) [(.bin .mul false (.lst false [(.str [48,62,48,58,48,58,49,47,52,49])]) (.int 41))])), (.str [49,32,48,32,48,32,48,32,32,48,62,48,58,48,58,49]), (.str [48,32,48,32,48,32,110,111,110,101,32]), (.str [48,49,32,48,32,48,32,110,111,110,101]), (.str [48,32,48,32,48,9,110,111,110,101])]))) (E1 (some (.d (.lst (x7.map .str))))) [tO tp] = .nx (E1 (some (.d (.lst (x8.map .str))))) [tO tp] := e8
  rw [step_nx _ _ e8' rfl]
  have q9 : ∀ v, IsTs pg F (E1 v) [tO tp] [(.bin .mul false (.str [57]) (.int 9000)), (.bin .add false (.str [49,47]) (.bin .mul false (.str [57]) (.int 9000))), (.bin .add false (.str [48,62,48,58,48,58]) (.bin .mul false (.str [49]) (.int 9000))), (.bin .mul false (.str [49,32]) (.int 9000)), (.bin .mul false (.str [47]) (.int 9000)), (.bin .mul false (.str [62]) (.int 9000)), (.bin .mul false (.str [58]) (.int 9000)), (.bin .add false (.str [48,32,48,32,48,32]) (.bin .mul false (.str [48,44]) (.int 9000))), (.bin .add false (.str [49,32,48,32,48,32,48,32]) (.bin .mul false (.str [48,62,48,58,48,58,49,47,57,32]) (.int 2000)))] CC := fun v =>
    .cons ((IsT.mulC (x := [57]) (k := 9000) rfl (by decide) (by decide) rfl).mono (by decide)) (.cons (((L v [49,47] rfl).add (IsT.mulC (x := [57]) (k := 9000) rfl (by decide) (by decide) rfl) (by decide)).mono (by decide)) (.cons (((L v [48,62,48,58,48,58] rfl).add (IsT.mulC (x := [49]) (k := 9000) rfl (by decide) (by decide) rfl) (by decide)).mono (by decide)) (.cons ((IsT.mulC (x := [49,32]) (k := 9000) rfl (by decide) (by decide) rfl).mono (by decide)) (.cons ((IsT.mulC (x := [47]) (k := 9000) rfl (by decide) (by decide) rfl).mono (by decide)) (.cons ((IsT.mulC (x := [62]) (k := 9000) rfl (by decide) (by decide) rfl).mono (by decide)) (.cons ((IsT.mulC (x := [58]) (k := 9000) rfl (by decide) (by decide) rfl).mono (by decide)) (.cons (((L v [48,32,48,32,48,32] rfl).add (IsT.mulC (x := [48,44]) (k := 9000) rfl (by decide) (by decide) rfl) (by decide)).mono (by decide)) (.cons (((L v [49,32,48,32,48,32,48,32] rfl).add (IsT.mulC (x := [48,62,48,58,48,58,49,47,57,32]) (k := 2000) rfl (by decide) (by decide) rfl) (by decide)).mono (by decide)) (.nil)))))))))
  obtain ⟨x9, w9, e9⟩ := grow (i := 1) (env := E1 (some (.d (.lst (x8.map .str))))) rfl z8 (q9 _) (by decide) (by show 1 < 5; decide)
  have z9 : x9.length ≤ _ ∧ ∀ x ∈ x9, x.length ≤ CC ∧ Sg x := ⟨w9.1, w9.2.2⟩
  have e9' : exS pg F (.asg (.nm 1) (.bin .add false (.var 1) (.lst false [(.bin .mul false (.str [57]) (.int 9000)), (.bin .add false (.str [49,47]) (.bin .mul false (.str [57]) (.int 9000))), (.bin .add false (.str [48,62,48,58,48,58]) (.bin .mul false (.str [49]) (.int 9000))), (.bin .mul false (.str [49,32]) (.int 9000)), (.bin .mul false (.str [47]) (.int 9000)), (.bin .mul false (.str [62]) (.int 9000)), (.bin .mul false (.str [58]) (.int 9000)), (.bin .add false (.str [48,32,48,32,48,32]) (.bin .mul false (.str [48,44]) (.int 9000))), (.bin .add false (.str [49,32,48,32,48,32,48,32]) (.bin .mul false (.str [48,62,48,58,48,58,49,47,57,32]) (.int 2000)))]))) (E1 (some (.d (.lst (x8.map .str))))) [tO tp] = .nx (E1 (some (.d (.lst (x9.map .str))))) [tO tp] := e9
  rw [step_nx _ _ e9' rfl]
  have lp := forB_all (P := pg) (F := F) (t := (.nm 2)) (b := [(.iff (.not (.call 41 [(.var 2)] [])) [(.ret (.bl false))] [])]) (S := [tO tp]) (I := fun env => ∃ v2, env = [some (.d (.str farT)), some (.d (.lst (x9.map .str))), v2, none, none]) (Ex := fun _ => False) (g := fun _ => true) (fun _ _ h => h.elim) (all2_map (fun x : List Nat => D.str x) x9) (by
    rintro x a rfl ha env ⟨v2, rfl⟩
    have hr := hread a ⟨(z9.2 a ha).1, (z9.2 a ha).2⟩
    refine ⟨[some (.d (.str farT)), some (.d (.lst (x9.map .str))), some (.d (.str a)), none, none], by simp, .inl ⟨rfl, [some (.d (.str farT)), some (.d (.lst (x9.map .str))), some (.d (.str a)), none, none], by simp [hr], _, rfl⟩⟩) (E1 (some (.d (.lst (x9.map .str))))) ⟨none, rfl⟩
  rcases lp with ⟨_, env', e, v2, rfl⟩ | ⟨_, h⟩
  · have e10 : exS pg F (.for_ (.nm 2) .it [(.var 1)] [(.iff (.not (.call 41 [(.var 2)] [])) [(.ret (.bl false))] [])]) (E1 (some (.d (.lst (x9.map .str))))) [tO tp] = _ := (for_lst (by rw [evE_var]; rfl)).trans e
    rw [step_nx _ _ e10 rfl]
    exact hlast _ _ _
  · exact h.elim
theorem s_law_refused (n : Nat) (tp : List Nat) : callF pg (n+13) 45 [] [tO tp] = .ok (.d (.bl true)) [tO tp] := by kernel_rfl
end K83
set_option linter.all false
set_option maxRecDepth 100000
namespace K83
open Mi
open PySem (Str)
theorem appD_0 (ds : List D) (x : D) (h : ds.length < 16777216) : appD [.lst ds] (.loc 0) [.d x] = .ok (.d .non) [.lst (ds ++ [x])] := by
  show (if ds.length < line then _ else _) = _
  rw [if_pos h]; rfl
theorem app_t (fs : List Nat) (k : Nat) (h : fs.length < 16777216) : appD [tO fs] (.loc 0) [.d (.int (k : Int))] = .ok (.d .non) [tO (fs ++ [k])] := by
  unfold tO; rw [appD_0 _ _ (by simpa using h), List.map_append]; rfl
def iB : List Mi.St := [(.iff (.cmp .eq (.var 5) (.int 0)) [.brk] []),
  (.ex (.mth .append (.var 3) [(.bin .mod false (.var 5) (.int 1000))])),
  (.asg (.nm 5) (.bin .fdiv false (.var 5) (.int 1000)))]
theorem tape_in (F : Call) (a0 a1 a2 v4 v7 v8 : Option Vl) : ∀ (is : List Nat) (fs : List Nat) (rest : Nat) (v6 : Option Vl), fs.length + is.length < 16000000 →
    ∃ (fs' : List Nat) (rest' : Nat) (v6' : Option Vl), fs'.length ≤ fs.length + is.length ∧
      forB pg F (.nm 6) iB (is.map fun (i : Nat) => Vl.d (.int (i : Int))) [a0, a1, a2, some (.loc 0), v4, some (.d (.int rest)), v6, v7, v8] [tO fs] = .nx [a0, a1, a2, some (.loc 0), v4, some (.d (.int rest')), v6', v7, v8] [tO fs']
  | [], fs, rest, v6, _ => ⟨fs, rest, v6, by simp, rfl⟩
  | i :: is, fs, rest, v6, h => by
    simp only [List.length_cons] at h
    rw [List.map_cons, forB_cons, put_nm, if_pos (by show 6 < 9; decide), putK_some]
    by_cases h0 : (rest : Int) = 0
    · refine ⟨fs, rest, some (.d (.int i)), by simp, ?_⟩
      rw [iB]
      simp only [List.set_cons_succ, List.set_cons_zero]
      rw [show exSs pg F [(.iff (.cmp .eq (.var 5) (.int 0)) [.brk] []), (.ex (.mth .append (.var 3) [(.bin .mod false (.var 5) (.int 1000))])), (.asg (.nm 5) (.bin .fdiv false (.var 5) (.int 1000)))] [a0, a1, a2, some (.loc 0), v4, some (.d (.int rest)), some (.d (.int i)), v7, v8] [tO fs] = .bk [a0, a1, a2, some (.loc 0), v4, some (.d (.int rest)), some (.d (.int i)), v7, v8] [tO fs] from by simp [eq_true (show rest = 0 by omega)], loopK_bk]
    · have e1 := binD_modI false (rest : Int) 1000 [tO fs] (by decide)
      rw [show (rest : Int) % 1000 = ((rest % 1000 : Nat) : Int) by omega] at e1
      have e2 := binD_divI false (rest : Int) 1000 [tO (fs ++ [rest % 1000])] (by decide) (by decide)
      rw [show (rest : Int) / 1000 = ((rest / 1000 : Nat) : Int) by omega] at e2
      have e3 := app_t fs (rest % 1000) (by omega)
      obtain ⟨fs', rest', v6', l, e⟩ := tape_in F a0 a1 a2 v4 v7 v8 is (fs ++ [rest % 1000]) (rest / 1000) (some (.d (.int i))) (by simp; omega)
      refine ⟨fs', rest', v6', by simp at l ⊢; omega, ?_⟩
      simp only [List.set_cons_succ, List.set_cons_zero]
      rw [show exSs pg F iB [a0, a1, a2, some (.loc 0), v4, some (.d (.int rest)), some (.d (.int i)), v7, v8] [tO fs] = .nx [a0, a1, a2, some (.loc 0), v4, some (.d (.int (rest / 1000 : Nat))), some (.d (.int i)), v7, v8] [tO (fs ++ [rest % 1000])] from by rw [iB]; simp only [exSs_cons, exS_iff, evE_cmp, evE_var, evE_int, List.getElem?_cons_succ, List.getElem?_cons_zero, varK_some, bindR_ok, cmpD_eq, eqOkI, if_true, eqvI, decide_eq_false h0, Option.map_some, ofD_some, bindF_ok, asBf_bl, ite'_f, exSs_nil, seqF_nx, exS_ex, evE_mth, mthO_app, ite'_t, evEs_cons, evE_bin, e1, evEs_nil, mthD_append, e3, exS_asg, e2, put_nm, List.length_cons, List.length_nil, List.set_cons_succ, List.set_cons_zero]; rfl, loopK_nx]
      exact e
def oB : List Mi.St := [(.asg (.nm 5) (.blt .abs false [(.var 4)])),
  (.iff (.cmp .ge (.var 5) (.bin .pow false (.int 10) (.int 18))) [(.for_ (.nm 6) .rng1 [(.int 60)] iB)] [])]
theorem tape_out (F : Call) (a0 a1 a2 v7 v8 : Option Vl) : ∀ (cs : List Int) (fs : List Nat) (v4 v5 v6 : Option Vl), fs.length + 60 * cs.length < 16000000 →
    ∃ (fs' : List Nat) (v4' v5' v6' : Option Vl), fs'.length ≤ fs.length + 60 * cs.length ∧
      forB pg F (.nm 4) oB (dl (cs.map D.int)) [a0, a1, a2, some (.loc 0), v4, v5, v6, v7, v8] [tO fs] = .nx [a0, a1, a2, some (.loc 0), v4', v5', v6', v7, v8] [tO fs']
  | [], fs, v4, v5, v6, _ => ⟨fs, v4, v5, v6, by simp, rfl⟩
  | c :: cs, fs, v4, v5, v6, h => by
    simp only [List.length_cons] at h
    rw [List.map_cons, forB_dcons, put_nm, if_pos (by show 4 < 9; decide), putK_some]
    simp only [List.set_cons_succ, List.set_cons_zero]
    have e0 : exS pg F (.asg (.nm 5) (.blt .abs false [(.var 4)])) [a0, a1, a2, some (.loc 0), some (.d (.int c)), v5, v6, v7, v8] [tO fs] = .nx [a0, a1, a2, some (.loc 0), some (.d (.int c)), some (.d (.int c.natAbs)), v6, v7, v8] [tO fs] := by simp
    have e18 : binD .pow false (.d (.int 10)) (.d (.int 18)) [tO fs] = .ok (.d (.int 1000000000000000000)) [tO fs] := rfl
    obtain ⟨fs1, rest1, v61, l1, ei⟩ := tape_in F a0 a1 a2 (some (.d (.int c))) v7 v8 (List.range 60) fs c.natAbs v6 (by simp; omega)
    by_cases hge : (1000000000000000000 : Int) ≤ (c.natAbs : Int)
    · obtain ⟨fs', w4, w5, w6, l, e⟩ := tape_out F a0 a1 a2 v7 v8 cs fs1 (some (.d (.int c))) (some (.d (.int rest1))) v61 (by simp at l1; omega)
      refine ⟨fs', w4, w5, w6, by simp at l1 ⊢; omega, ?_⟩
      have hfor : exS pg F (.for_ (.nm 6) .rng1 [(.int 60)] iB) [a0, a1, a2, some (.loc 0), some (.d (.int c)), some (.d (.int c.natAbs)), v6, v7, v8] [tO fs] = _ := (rng1_e (r := 60) (by rw [evE_int]; rfl) (by decide)).trans ei
      have e1 : exS pg F (.iff (.cmp .ge (.var 5) (.bin .pow false (.int 10) (.int 18))) [(.for_ (.nm 6) .rng1 [(.int 60)] iB)] []) [a0, a1, a2, some (.loc 0), some (.d (.int c)), some (.d (.int c.natAbs)), v6, v7, v8] [tO fs] = .nx [a0, a1, a2, some (.loc 0), some (.d (.int c)), some (.d (.int rest1)), v61, v7, v8] [tO fs1] := by
        rw [exS_iff, evE_cmp, evE_var]
        simp only [List.getElem?_cons_succ, List.getElem?_cons_zero, varK_some, bindR_ok, evE_bin, evE_int, e18, cmpD_ge, decide_eq_true hge, Option.map_some, ofD_some, bindF_ok, asBf_bl, ite'_t]
        rw [step_nx _ _ hfor (exSs_nil ..)]
      rw [oB, step_nx _ _ e0 (step_nx _ _ e1 (exSs_nil ..)), loopK_nx]
      exact e
    · obtain ⟨fs', w4, w5, w6, l, e⟩ := tape_out F a0 a1 a2 v7 v8 cs fs (some (.d (.int c))) (some (.d (.int c.natAbs))) v6 (by omega)
      refine ⟨fs', w4, w5, w6, by simp at l ⊢; omega, ?_⟩
      have e1 : exS pg F (.iff (.cmp .ge (.var 5) (.bin .pow false (.int 10) (.int 18))) [(.for_ (.nm 6) .rng1 [(.int 60)] iB)] []) [a0, a1, a2, some (.loc 0), some (.d (.int c)), some (.d (.int c.natAbs)), v6, v7, v8] [tO fs] = .nx [a0, a1, a2, some (.loc 0), some (.d (.int c)), some (.d (.int c.natAbs)), v6, v7, v8] [tO fs] := by
        rw [exS_iff, evE_cmp, evE_var]
        simp only [List.getElem?_cons_succ, List.getElem?_cons_zero, varK_some, bindR_ok, evE_bin, evE_int, e18, cmpD_ge, decide_eq_false hge, Option.map_some, ofD_some, bindF_ok, asBf_bl, ite'_f, exSs_nil]
      rw [oB, step_nx _ _ e0 (step_nx _ _ e1 (exSs_nil ..)), loopK_nx]
      exact e
def sB : List Mi.St := [(.asg (.nm 7) (.bin .mod false (.blt .int false [(.bin .add false (.bin .add false (.bin .mul false (.var 7) (.int 48271)) (.bin .mod false (.blt .int false [(.var 4)]) (.int 1000003))) (.int 11))]) (.int 2147483647)))]
theorem lg (a : Nat) (h : a < 2147483647) (b : Int) (hb : b.natAbs < 2147483700) : (a : Int).natAbs.log2 + b.natAbs.log2 < 1000000 := by
  have h1 := log2_lt' (b := (a : Int)) (k := 32) (by decide) (by have : (a : Int).natAbs = a := by omega
                                                                 rw [this]; exact Nat.lt_trans h (by decide))
  have h2 := log2_lt' (b := b) (k := 32) (by decide) (Nat.lt_trans hb (by decide))
  omega
theorem tape_seed (F : Call) (a0 a1 a2 a3 v5 v6 v8 : Option Vl) (S : Store) : ∀ (cs : List Int) (start : Nat) (v4 : Option Vl), start < 2147483647 →
    ∃ (start' : Nat) (v4' : Option Vl), start' < 2147483647 ∧ forB pg F (.nm 4) sB (dl (cs.map D.int)) [a0, a1, a2, a3, v4, v5, v6, some (.d (.int start)), v8] S = .nx [a0, a1, a2, a3, v4', v5, v6, some (.d (.int start')), v8] S
  | [], start, v4, h => ⟨start, v4, h, rfl⟩
  | c :: cs, start, v4, h => by
    rw [List.map_cons, forB_dcons, put_nm, if_pos (by show 4 < 9; decide), putK_some]
    simp only [List.set_cons_succ, List.set_cons_zero]
    have q := Int.emod_nonneg c (show (1000003 : Int) ≠ 0 by decide)
    have m1 := binD_mulI false (start : Int) 48271 S (lg start h 48271 (by decide))
    have m2 := binD_modI false c 1000003 S (by decide)
    have m3 := binD_modI false ((start : Int) * 48271 + c % 1000003 + 11) 2147483647 S (by decide)
    have hn0 : 0 ≤ ((start : Int) * 48271 + c % 1000003 + 11) % 2147483647 := Int.emod_nonneg _ (by decide)
    have hn1 : ((start : Int) * 48271 + c % 1000003 + 11) % 2147483647 < 2147483647 := Int.emod_lt_of_pos _ (by decide)
    generalize ((start : Int) * 48271 + c % 1000003 + 11) % 2147483647 = z at *
    obtain ⟨zn, rfl⟩ : ∃ zn : Nat, z = (zn : Int) := ⟨z.toNat, by omega⟩
    obtain ⟨s', w4, l, e⟩ := tape_seed F a0 a1 a2 a3 v5 v6 v8 S cs zn (some (.d (.int c))) (by omega)
    refine ⟨s', w4, l, ?_⟩
    have e0 : exS pg F (.asg (.nm 7) (.bin .mod false (.blt .int false [(.bin .add false (.bin .add false (.bin .mul false (.var 7) (.int 48271)) (.bin .mod false (.blt .int false [(.var 4)]) (.int 1000003))) (.int 11))]) (.int 2147483647))) [a0, a1, a2, a3, some (.d (.int c)), v5, v6, some (.d (.int start)), v8] S = .nx [a0, a1, a2, a3, some (.d (.int c)), v5, v6, some (.d (.int zn)), v8] S := by
      simp [m1, m2, m3, intD]
    rw [sB, step_nx _ _ e0 (exSs_nil ..), loopK_nx]
    exact e
def gB : List Mi.St := [(.iff (.cmp .ge (.blt .len false [(.var 3)]) (.var 1)) [.brk] []),
  (.asg (.nm 7) (.bin .mod false (.blt .int false [(.bin .add false (.bin .add false (.bin .mul false (.var 7) (.int 69621)) (.var 6)) (.int 12345))]) (.int 2147483647))),
  (.asg (.nm 8) (.bin .mod false (.blt .int false [(.bin .mul false (.var 7) (.bin .add false (.var 7) (.int 7)))]) (.int 2147483629))),
  (.ex (.mth .append (.var 3) [(.bin .mod false (.bin .fdiv false (.var 8) (.int 13)) (.int 1000))]))]
theorem tape_gen (F : Call) (a0 a2 v4 v5 : Option Vl) : ∀ (is : List Nat) (fs : List Nat) (start : Nat) (v6 v8 : Option Vl), start < 2147483647 → fs.length + is.length < 16000000 →
    ∃ (fs' : List Nat) (v6' v7' v8' : Option Vl), fs'.length < 16000000 ∧ forB pg F (.nm 6) gB (is.map fun (i : Nat) => Vl.d (.int (i : Int))) [a0, some (.d (.int 900)), a2, some (.loc 0), v4, v5, v6, some (.d (.int start)), v8] [tO fs] = .nx [a0, some (.d (.int 900)), a2, some (.loc 0), v4, v5, v6', v7', v8'] [tO fs']
  | [], fs, start, v6, v8, h, hl => ⟨fs, v6, some (.d (.int start)), v8, by simpa using hl, rfl⟩
  | i :: is, fs, start, v6, v8, h, hl => by
    simp only [List.length_cons] at hl
    rw [List.map_cons, forB_cons, put_nm, if_pos (by show 6 < 9; decide), putK_some]
    simp only [List.set_cons_succ, List.set_cons_zero]
    have hln : lenD [tO fs] [.loc 0] = .ok (.d (.int fs.length)) [tO fs] := by
      show Res.ok (Vl.d (.int ((fs.map intN).length : Nat))) [tO fs] = _
      rw [List.length_map]
    by_cases hge : (900 : Int) ≤ (fs.length : Int)
    · refine ⟨fs, some (.d (.int i)), some (.d (.int start)), v8, by omega, ?_⟩
      rw [gB, exSs_cons, show exS pg F (.iff (.cmp .ge (.blt .len false [(.var 3)]) (.var 1)) [.brk] []) [a0, some (.d (.int 900)), a2, some (.loc 0), v4, v5, some (.d (.int i)), some (.d (.int start)), v8] [tO fs] = .bk [a0, some (.d (.int 900)), a2, some (.loc 0), v4, v5, some (.d (.int i)), some (.d (.int start)), v8] [tO fs] from by simp [hln, hge], seqF_bk, loopK_bk]
    · have e0 : exS pg F (.iff (.cmp .ge (.blt .len false [(.var 3)]) (.var 1)) [.brk] []) [a0, some (.d (.int 900)), a2, some (.loc 0), v4, v5, some (.d (.int i)), some (.d (.int start)), v8] [tO fs] = .nx [a0, some (.d (.int 900)), a2, some (.loc 0), v4, v5, some (.d (.int i)), some (.d (.int start)), v8] [tO fs] := by simp [hln, hge]
      have m1 := binD_mulI false (start : Int) 69621 [tO fs] (lg start h 69621 (by decide))
      have m3 := binD_modI false ((start : Int) * 69621 + (i : Int) + 12345) 2147483647 [tO fs] (by decide)
      have hn0 : 0 ≤ ((start : Int) * 69621 + (i : Int) + 12345) % 2147483647 := Int.emod_nonneg _ (by decide)
      have hn1 : ((start : Int) * 69621 + (i : Int) + 12345) % 2147483647 < 2147483647 := Int.emod_lt_of_pos _ (by decide)
      generalize ((start : Int) * 69621 + (i : Int) + 12345) % 2147483647 = z at *
      obtain ⟨zn, rfl⟩ : ∃ zn : Nat, z = (zn : Int) := ⟨z.toNat, by omega⟩
      have e1 : exS pg F (.asg (.nm 7) (.bin .mod false (.blt .int false [(.bin .add false (.bin .add false (.bin .mul false (.var 7) (.int 69621)) (.var 6)) (.int 12345))]) (.int 2147483647))) [a0, some (.d (.int 900)), a2, some (.loc 0), v4, v5, some (.d (.int i)), some (.d (.int start)), v8] [tO fs] = .nx [a0, some (.d (.int 900)), a2, some (.loc 0), v4, v5, some (.d (.int i)), some (.d (.int zn)), v8] [tO fs] := by
        simp [m1, m3, intD]
      have m4 := binD_mulI false (zn : Int) ((zn : Int) + 7) [tO fs] (lg zn (by omega) _ (by omega))
      have m5 := binD_modI false ((zn : Int) * ((zn : Int) + 7)) 2147483629 [tO fs] (by decide)
      have hm0 : 0 ≤ ((zn : Int) * ((zn : Int) + 7)) % 2147483629 := Int.emod_nonneg _ (by decide)
      generalize ((zn : Int) * ((zn : Int) + 7)) % 2147483629 = y at *
      obtain ⟨yn, rfl⟩ : ∃ yn : Nat, y = (yn : Int) := ⟨y.toNat, by omega⟩
      have e2 : exS pg F (.asg (.nm 8) (.bin .mod false (.blt .int false [(.bin .mul false (.var 7) (.bin .add false (.var 7) (.int 7)))]) (.int 2147483629))) [a0, some (.d (.int 900)), a2, some (.loc 0), v4, v5, some (.d (.int i)), some (.d (.int zn)), v8] [tO fs] = .nx [a0, some (.d (.int 900)), a2, some (.loc 0), v4, v5, some (.d (.int i)), some (.d (.int zn)), some (.d (.int yn))] [tO fs] := by
        simp [m4, m5, intD]
      have m6 := binD_divI false (yn : Int) 13 [tO fs] (by decide) (by decide)
      have m7 := binD_modI false ((yn : Int) / 13) 1000 [tO fs] (by decide)
      rw [show (yn : Int) / 13 % 1000 = ((yn / 13 % 1000 : Nat) : Int) by omega] at m7
      have m8 := app_t fs (yn / 13 % 1000) (by omega)
      have e3 : exS pg F (.ex (.mth .append (.var 3) [(.bin .mod false (.bin .fdiv false (.var 8) (.int 13)) (.int 1000))])) [a0, some (.d (.int 900)), a2, some (.loc 0), v4, v5, some (.d (.int i)), some (.d (.int zn)), some (.d (.int yn))] [tO fs] = .nx [a0, some (.d (.int 900)), a2, some (.loc 0), v4, v5, some (.d (.int i)), some (.d (.int zn)), some (.d (.int yn))] [tO (fs ++ [yn / 13 % 1000])] := by
        rw [exS_ex, evE_mth, evE_var]
        simp only [List.getElem?_cons_succ, List.getElem?_cons_zero, varK_some, bindR_ok, mthO_app, ite'_t, evEs_cons, evE_bin, evE_var, evE_int, m6, m7, evEs_nil, mthD_append, m8, bindF_ok]
      obtain ⟨fs', w6, w7, w8, l, e⟩ := tape_gen F a0 a2 v4 v5 is (fs ++ [yn / 13 % 1000]) zn (some (.d (.int i))) (some (.d (.int yn))) (by omega) (by simp; omega)
      refine ⟨fs', w6, w7, w8, l, ?_⟩
      rw [gB, step_nx _ _ e0 (step_nx _ _ e1 (step_nx _ _ e2 (step_nx _ _ e3 (exSs_nil ..)))), loopK_nx]
      exact e
theorem s_law_tape (n : Nat) (cs : List Int) (v0 : Vl) (hv0 : v0 = .ro (cs.map D.int) ∨ v0 = .d (.lst (cs.map D.int))) (hl : cs.length ≤ 63) : ∃ tp : List Nat, callF pg (n+1) 22 [v0, .d (.int 900), .d (.int 283)] [] = .ok (.loc 0) [tO tp] := by
  rw [c__law_tape]
  generalize callF pg n = F at *
  have htk : (cs.map D.int).take 63 = cs.map D.int := List.take_of_length_le (by simpa using hl)
  have hsl : ∀ S, slD false v0 none (some 63) S = .ok (.d (.lst (cs.map D.int))) S := fun S => by
    have : slD false v0 none (some 63) S = newL false (cutL (cs.map D.int) none (some 63)) S := by rcases hv0 with rfl | rfl <;> rfl
    rw [this]
    rw [show (63 : Int) = ((63 : Nat) : Int) from rfl, cut_take, htk, newL_f _ _ (by simp; omega)]
  have hsv : ∀ env S, env[0]? = some (some v0) → evE pg F (.sl false (.var 0) [] [(.int 63)]) env S = .ok (.d (.lst (cs.map D.int))) S := fun env S h => by
    rw [evE_sl, evE_var, h, varK_some, bindR_ok, evEs_nil, bindR_ok, parts_nil, partK_some, evEs_cons, evE_int, bindR_ok, evEs_nil, bindR_ok, bindR_ok, parts_one, partK_some, hsl]
  let a0 : Option Vl := some v0
  obtain ⟨fs1, v4, v5, v6, l1, e2⟩ := tape_out F a0 (some (.d (.int 900))) (some (.d (.int 283))) none none cs [] none none none (by simp; omega)
  have hst : ∃ s0 : Nat, s0 < 2147483647 ∧ ((cs.length : Int) * 31 + 283 * 7919) = (s0 : Int) := ⟨cs.length * 31 + 283 * 7919, by omega, by omega⟩
  obtain ⟨s0, hs0, hse⟩ := hst
  obtain ⟨s1, w4, hs1, e4⟩ := tape_seed F a0 (some (.d (.int 900))) (some (.d (.int 283))) (some (.loc 0)) v5 v6 none [tO fs1] cs s0 v4 hs0
  obtain ⟨fs2, x6, x7, x8, l2, e5⟩ := tape_gen F a0 (some (.d (.int 283))) w4 v5 (List.range 900) fs1 s1 v6 none hs1 (by simp at l1 ⊢; omega)
  refine ⟨(fs2.take 900).reverse, ?_⟩
  have e1 : exS pg F (.asg (.nm 3) (.lst true [])) [a0, some (.d (.int 900)), some (.d (.int 283)), none, none, none, none, none, none] [] = .nx [a0, some (.d (.int 900)), some (.d (.int 283)), some (.loc 0), none, none, none, none, none] [tO []] := by
    simp [newL]; rfl
  have e2' : exS pg F (.for_ (.nm 4) .it [(.sl false (.var 0) [] [(.int 63)])] oB) [a0, some (.d (.int 900)), some (.d (.int 283)), some (.loc 0), none, none, none, none, none] [tO []] = _ := (for_lst (hsv _ _ rfl)).trans e2
  have hln : lenD [tO fs1] [v0] = .ok (.d (.int cs.length)) [tO fs1] := by
    have : lenD [tO fs1] [v0] = Res.ok (Vl.d (.int ((cs.map D.int).length : Nat))) [tO fs1] := by rcases hv0 with rfl | rfl <;> rfl
    rw [this, List.length_map]
  have e3 : exS pg F (.asg (.nm 7) (.bin .add false (.bin .mul false (.blt .len false [(.var 0)]) (.int 31)) (.bin .mul false (.var 2) (.int 7919)))) [a0, some (.d (.int 900)), some (.d (.int 283)), some (.loc 0), v4, v5, v6, none, none] [tO fs1] = .nx [a0, some (.d (.int 900)), some (.d (.int 283)), some (.loc 0), v4, v5, v6, some (.d (.int s0)), none] [tO fs1] := by
    have m1 := binD_mulI false (cs.length : Int) 31 [tO fs1] (lg cs.length (by omega) 31 (by decide))
    have m2 := binD_mulI false 283 7919 [tO fs1] (lg 283 (by decide) 7919 (by decide))
    simp [a0, hln, m1, m2]
    rw [← hse]; rfl
  have e4' : exS pg F (.for_ (.nm 4) .it [(.sl false (.var 0) [] [(.int 63)])] sB) [a0, some (.d (.int 900)), some (.d (.int 283)), some (.loc 0), v4, v5, v6, some (.d (.int s0)), none] [tO fs1] = _ := (for_lst (hsv _ _ rfl)).trans e4
  have e5' : exS pg F (.for_ (.nm 6) .rng1 [(.var 1)] gB) [a0, some (.d (.int 900)), some (.d (.int 283)), some (.loc 0), w4, v5, v6, some (.d (.int s1)), none] [tO fs1] = _ := (rng1_e (r := 900) (by rw [evE_var]; rfl) (by decide)).trans e5
  have hmt : cutL (fs2.map intN) none (some 900) = (fs2.take 900).map intN := by
    rw [show (900 : Int) = ((900 : Nat) : Int) from rfl, cut_take, List.map_take]
  have hsl9 : slD false (.loc 0) none (some 900) [tO fs2] = .ok (.d (.lst ((fs2.take 900).map intN))) [tO fs2] := by
    show newL false (cutL (fs2.map intN) none (some 900)) [tO fs2] = _
    rw [hmt, newL_f _ _ (by simp; omega)]
  have hrv : revD true (.d (.lst ((fs2.take 900).map intN))) [tO fs2] = .ok (.loc 1) [tO fs2, tO (fs2.take 900).reverse] := by
    show newL true ((fs2.take 900).map intN).reverse [tO fs2] = _
    unfold newL
    rw [if_pos (by simp; show _ ≤ 16777216; omega), if_pos rfl]
    unfold tO
    rw [List.map_reverse]; rfl
  have e6 : exS pg F (.ret (.rev true (.sl false (.var 3) [] [(.var 1)]))) [a0, some (.d (.int 900)), some (.d (.int 283)), some (.loc 0), w4, v5, x6, x7, x8] [tO fs2] = .rt (.loc 1) [tO fs2, tO (fs2.take 900).reverse] := by
    rw [exS_ret, evE_rev, evE_sl, evE_var]
    simp only [List.getElem?_cons_succ, List.getElem?_cons_zero, varK_some, bindR_ok, evEs_nil, parts_nil, partK_some, evEs_cons, evE_var, parts_one, hsl9, hrv, bindF_ok]
  rw [b__law_tape]
  have hb : exSs pg F [(.asg (.nm 3) (.lst true [])), (.for_ (.nm 4) .it [(.sl false (.var 0) [] [(.int 63)])] oB), (.asg (.nm 7) (.bin .add false (.bin .mul false (.blt .len false [(.var 0)]) (.int 31)) (.bin .mul false (.var 2) (.int 7919)))), (.for_ (.nm 4) .it [(.sl false (.var 0) [] [(.int 63)])] sB), (.for_ (.nm 6) .rng1 [(.var 1)] gB), (.ret (.rev true (.sl false (.var 3) [] [(.var 1)])))] [a0, some (.d (.int 900)), some (.d (.int 283)), none, none, none, none, none, none] [] = .rt (.loc 1) [tO fs2, tO (fs2.take 900).reverse] :=
    step_nx _ _ e1 (step_nx _ _ e2' (step_nx _ _ e3 (step_nx _ _ e4' (step_nx _ _ e5' (step_rt e6)))))
  rw [oB, iB, sB, gB] at hb
  exact (congrArg (finish true 0) hb).trans rfl
end K83
set_option linter.all false
set_option maxRecDepth 100000
namespace K83
open Mi
open PySem (Str)
theorem as_digit {c : Nat} (h : c = 45 ∨ (48 ≤ c ∧ c ≤ 57)) : c < 128 := by omega
def As (x : List Nat) : Prop := ∀ c ∈ x, c < 128
theorem As.app {x y : List Nat} (h : As x) (k : As y) : As (x ++ y) := fun c hc => (List.mem_append.mp hc).elim (h c) (k c)
theorem as_num (i : Int) : As (numI i) := fun c hc => as_digit (numI_mem i c hc)
theorem as_wr (p : Int × Int) : As (wr p) := by
  unfold wr
  split
  · exact as_num _
  · exact ((as_num _).app (show ∀ c ∈ [47], c < 128 by decide)).app (as_num _)
theorem as_step (t : Stp) : As (wrStep t) :=
  (((((as_num _).app (show ∀ c ∈ [62], c < 128 by decide)).app (as_num _)).app (show ∀ c ∈ [58], c < 128 by decide)).app (as_num _)).app (show ∀ c ∈ [58], c < 128 by decide) |>.app (as_wr _)
theorem as_join (y : List Nat) (hy : As y) : ∀ ps : List (List Nat), (∀ p ∈ ps, As p) → As (TL.joinL y ps)
  | [], _ => by simp [TL.joinL, As]
  | [p], h => h p (by simp)
  | p :: q :: r, h => (h p (by simp)).app (hy.app (as_join y hy (q :: r) fun x hx => h x (by simp [hx])))
theorem as_piece (r s o : Nat) (ins : List Nat) (sts : List Stp) : As (wrPiece r s o ins sts) := by
  unfold wrPiece
  refine as_join [32] (show ∀ c ∈ [32], c < 128 by decide) _ fun p hp => ?_
  rcases List.mem_append.mp hp with h | h
  · simp only [List.mem_cons, List.not_mem_nil, or_false] at h
    rcases h with rfl | rfl | rfl | rfl
    · exact as_num _
    · exact as_num _
    · exact as_num _
    · unfold wrDoors
      split
      · exact (show ∀ c ∈ [110,111,110,101], c < 128 by decide)
      · refine as_join [44] (show ∀ c ∈ [44], c < 128 by decide) _ fun p hp => ?_
        obtain ⟨i, _, rfl⟩ := List.mem_map.mp hp
        exact as_num _
  · obtain ⟨t, _, rfl⟩ := List.mem_map.mp h
    exact as_step t
theorem as_all {x : List Nat} (h : As x) : x.all (· < 128) = true := List.all_eq_true.mpr fun c hc => by simpa using h c hc
theorem wr_ne (p : Int × Int) : wr p ≠ [] := by
  unfold wr; split
  · exact numI_ne _
  · simp
theorem bok_share {p : Int × Int} (h : small p = true) : BOk (wr p) := ⟨wr_ne p, Nat.le_trans (wr_len_small h) (by decide), as_all (as_wr p)⟩
theorem bok_step {t : Stp} (h1 : t.1 ≤ 99) (h2 : t.2.1 ≤ 99) (h3 : t.2.2.1 ≤ 99) (hp : small t.2.2.2 = true) : BOk (wrStep t) := ⟨by unfold wrStep; simp, Nat.le_trans (wrStep_len h1 h2 h3 hp) (by decide), as_all (as_step t)⟩
theorem bok_piece {r s o : Nat} {ins : List Nat} {sts : List Stp} (h : POk r s o ins sts) : BOk (wrPiece r s o ins sts) := by
  refine ⟨?_, Nat.le_trans (joinL_len _ _) ?_, as_all (as_piece r s o ins sts)⟩
  · unfold wrPiece
    simp [TL.joinL, numI_ne]
  · have := h.len
    simp only [List.length_singleton]; exact this
theorem mk_part {a b : Int} (ha : 0 < a) (hab : a ≤ b) : 0 < (mk a b).1 ∧ (mk a b).1 ≤ (mk a b).2 := by
  have hb : 0 < b := by omega
  have hmp := mk_pos (a := a) hb
  have hmc := mk_cross (a := a) hb
  constructor
  · have : 0 < (mk a b).1 * b := by rw [hmc]; exact Int.mul_pos ha hmp
    exact Int.pos_of_mul_pos_left this hb
  · refine Int.le_of_mul_le_mul_right (a := b) ?_ hb
    rw [hmc, Int.mul_comm (mk a b).2]
    exact Int.mul_le_mul_of_nonneg_right hab (by omega)
/-- texts and bent ones, read -/
def lapB : List Mi.St := [(.iff (.not (.call 41 [(.call 43 [(.var 1), (.var 7)] [])] [])) [(.ret (.bl false))] [])]
def txtB : List Mi.St := [(.iff (.not (.call 41 [(.var 7)] [])) [(.ret (.bl false))] []), (.for_ (.nm 8) .rng1 [(.int 5)] lapB)]
theorem lap_loop (F : Call) (t : List Nat) (ht : BOk t) (a0 a2 a3 a4 a5 a6 : Option Vl)
    (hb : ∀ tp, ∃ (u tp' : List Nat), TOk u ∧ F 43 [.loc 0, .d (.str t)] [tO tp] = .ok (.d (.str u)) [tO tp'])
    (hr : ∀ u tp, TOk u → F 41 [.d (.str u)] [tO tp] = .ok (.d (.bl true)) [tO tp]) : ∀ (is : List Nat) (tp : List Nat) (v8 : Option Vl),
    ∃ (tp' : List Nat) (v8' : Option Vl), forB pg F (.nm 8) lapB (is.map fun (i : Nat) => Vl.d (.int (i : Int))) [a0, some (.loc 0), a2, a3, a4, a5, a6, some (.d (.str t)), v8] [tO tp] = .nx [a0, some (.loc 0), a2, a3, a4, a5, a6, some (.d (.str t)), v8'] [tO tp']
  | [], tp, v8 => ⟨tp, v8, rfl⟩
  | i :: is, tp, v8 => by
    obtain ⟨u, tp1, hu, e1⟩ := hb tp
    have e2 := hr u tp1 hu
    obtain ⟨tp', v8', e⟩ := lap_loop F t ht a0 a2 a3 a4 a5 a6 hb hr is tp1 (some (.d (.int i)))
    refine ⟨tp', v8', ?_⟩
    rw [List.map_cons, forB_cons, put_nm, if_pos (by show 8 < 9; decide), putK_some]
    simp only [List.set_cons_succ, List.set_cons_zero]
    rw [show exSs pg F lapB [a0, some (.loc 0), a2, a3, a4, a5, a6, some (.d (.str t)), some (.d (.int i))] [tO tp] = .nx [a0, some (.loc 0), a2, a3, a4, a5, a6, some (.d (.str t)), some (.d (.int i))] [tO tp1] from by rw [lapB]; simp [e1, e2], loopK_nx]
    exact e
theorem txt_loop (F : Call) (a0 a2 a3 a4 a5 a6 : Option Vl)
    (hb : ∀ t, BOk t → ∀ tp, ∃ (u tp' : List Nat), TOk u ∧ F 43 [.loc 0, .d (.str t)] [tO tp] = .ok (.d (.str u)) [tO tp'])
    (hr : ∀ u tp, TOk u → F 41 [.d (.str u)] [tO tp] = .ok (.d (.bl true)) [tO tp]) : ∀ (ts : List (List Nat)) (tp : List Nat) (v7 v8 : Option Vl), (∀ t ∈ ts, BOk t) →
    ∃ (tp' : List Nat) (v7' v8' : Option Vl), forB pg F (.nm 7) txtB (dl (ts.map .str)) [a0, some (.loc 0), a2, a3, a4, a5, a6, v7, v8] [tO tp] = .nx [a0, some (.loc 0), a2, a3, a4, a5, a6, v7', v8'] [tO tp']
  | [], tp, v7, v8, _ => ⟨tp, v7, v8, rfl⟩
  | t :: ts, tp, v7, v8, h => by
    have ht := h t (by simp)
    have e1 := hr t tp ht.tok
    obtain ⟨tp1, w8, e2⟩ := lap_loop F t ht a0 a2 a3 a4 a5 a6 (hb t ht) hr (List.range 5) tp v8
    obtain ⟨tp', w7, x8, e⟩ := txt_loop F a0 a2 a3 a4 a5 a6 hb hr ts tp1 (some (.d (.str t))) w8 (fun x hx => h x (by simp [hx]))
    refine ⟨tp', w7, x8, ?_⟩
    rw [List.map_cons, forB_dcons, put_nm, if_pos (by show 7 < 9; decide), putK_some]
    simp only [List.set_cons_succ, List.set_cons_zero]
    have s1 : exS pg F (.iff (.not (.call 41 [(.var 7)] [])) [(.ret (.bl false))] []) [a0, some (.loc 0), a2, a3, a4, a5, a6, some (.d (.str t)), v8] [tO tp] = .nx [a0, some (.loc 0), a2, a3, a4, a5, a6, some (.d (.str t)), v8] [tO tp] := by simp [e1]
    have s2 : exS pg F (.for_ (.nm 8) .rng1 [(.int 5)] lapB) [a0, some (.loc 0), a2, a3, a4, a5, a6, some (.d (.str t)), v8] [tO tp] = _ := (rng1_e (r := 5) (by rw [evE_int]; rfl) (by decide)).trans e2
    rw [txtB, step_nx _ _ s1 (step_nx _ _ s2 (exSs_nil ..)), loopK_nx]
    exact e
def trnB : List Mi.St := [(.asg (.tp [(.nm 3), (.nm 4)]) (.tup [(.call 42 [(.var 1)] []), (.call 30 [(.var 1), (.idx (.tup [(.int 3), (.int 12)]) (.call 23 [(.var 1), (.int 2)] [])), (.int 3)] [])])), (.asg (.nm 5) (.tup [(.call 23 [(.var 1), (.int 100)] []), (.call 23 [(.var 1), (.int 100)] []), (.call 23 [(.var 1), (.int 100)] []), (.call 26 [(.bin .add false (.int 1) (.call 23 [(.var 1), (.int 5)] [])), (.bin .add false (.int 6) (.call 23 [(.var 1), (.int 900)] []))] [])])), (.asg (.nm 6) (.tup [(.call 34 [(.var 3)] []), (.call 35 [(.var 5)] []), (.call 36 [(.var 4)] [])])), (.iff (.or [(.not (.call 25 [(.lam 57 [3]), (.tup [(.str [105,115]), (.idx (.var 6) (.int 0))])] [])), (.not (.call 25 [(.lam 58 [5]), (.tup [(.str [105,115]), (.idx (.var 6) (.int 1))])] []))]) [(.ret (.bl false))] []), (.iff (.not (.call 25 [(.lam 59 [4]), (.tup [(.str [105,115]), (.idx (.var 6) (.int 2))])] [])) [(.ret (.bl false))] []), (.for_ (.nm 7) .it [(.var 6)] txtB)]
theorem trn_loop (n : Nat) (a0 : Option Vl) : ∀ (is : List Nat) (tp : List Nat) (v2 v3 v4 v5 v6 v7 v8 : Option Vl),
    ∃ (tp' : List Nat) (w2 w3 w4 w5 w6 w7 w8 : Option Vl), forB pg (callF pg (n+13)) (.nm 2) trnB (is.map fun (i : Nat) => Vl.d (.int (i : Int))) [a0, some (.loc 0), v2, v3, v4, v5, v6, v7, v8] [tO tp] = .nx [a0, some (.loc 0), w2, w3, w4, w5, w6, w7, w8] [tO tp']
  | [], tp, v2, v3, v4, v5, v6, v7, v8 => ⟨tp, v2, v3, v4, v5, v6, v7, v8, rfl⟩
  | i :: is, tp, v2, v3, v4, v5, v6, v7, v8 => by
    obtain ⟨p, tp1, hp, e1⟩ := s_drawn_share (n+11) tp
    have t2 := s_takeI (n+12) 2 2 rfl (by decide) tp1 []
    have w2 := tkV_lt (L := 2) (by decide) tp1
    have key : ∃ m : Nat, m ≤ 12 ∧ L2.atI [D.int 3, .int 12] (tkV 2 tp1 : Int) = some (.int (m : Nat)) := by
      rw [atI_nat]
      generalize tkV 2 tp1 = v at w2
      match v, w2 with
      | 0, _ => exact ⟨3, by omega, rfl⟩
      | 1, _ => exact ⟨12, by omega, rfl⟩
      | v + 2, h => omega
    obtain ⟨m, hm, hmi⟩ := key
    obtain ⟨r, s, o, ins, sts, tp2, po, e2⟩ := s_law_piece (n+9) m hm (tkT tp1)
    have t3 := s_takeI (n+12) 100 100 rfl (by decide) tp2 []
    have t4 := s_takeI (n+12) 100 100 rfl (by decide) (tkT tp2) []
    have t5 := s_takeI (n+12) 100 100 rfl (by decide) (tkT (tkT tp2)) []
    have t6 := s_takeI (n+12) 5 5 rfl (by decide) (tkT (tkT (tkT tp2))) []
    have t7 := s_takeI (n+12) 900 900 rfl (by decide) (tkT (tkT (tkT (tkT tp2)))) []
    have u3 := tkV_lt (L := 100) (by decide) tp2
    have u4 := tkV_lt (L := 100) (by decide) (tkT tp2)
    have u5 := tkV_lt (L := 100) (by decide) (tkT (tkT tp2))
    have u6 := tkV_lt (L := 5) (by decide) (tkT (tkT (tkT tp2)))
    have u7 := tkV_lt (L := 900) (by decide) (tkT (tkT (tkT (tkT tp2))))
    generalize tkV 100 tp2 = x3 at *
    generalize tkV 100 (tkT tp2) = x4 at *
    generalize tkV 100 (tkT (tkT tp2)) = x5 at *
    generalize tkV 5 (tkT (tkT (tkT tp2))) = x6 at *
    generalize tkV 900 (tkT (tkT (tkT (tkT tp2)))) = x7 at *
    have hfar : far = 1000000000000 := rfl
    have q0 := mk_part (a := 1 + (x6 : Int)) (b := 6 + (x7 : Int)) (by omega) (by omega)
    have qs := mk_small (a := 1 + (x6 : Int)) (b := 6 + (x7 : Int)) (by omega) (by omega) (by omega)
    have els := s_law_share (n+12) (1 + (x6 : Int)) (6 + (x7 : Int)) [tO (tkT (tkT (tkT (tkT (tkT tp2)))))] (by omega) (Int.lt_of_le_of_lt (show 6 + (x7 : Int) ≤ far by omega) far_big)
    generalize hst : ((x3, x4, x5, mk (1 + (x6 : Int)) (6 + (x7 : Int))) : Stp) = st at *
    generalize tkT (tkT (tkT (tkT (tkT tp2)))) = tp3 at *
    have k1 : st.1 ≤ 99 := by subst hst; show x3 ≤ 99; omega
    have k2 : st.2.1 ≤ 99 := by subst hst; show x4 ≤ 99; omega
    have k3 : st.2.2.1 ≤ 99 := by subst hst; show x5 ≤ 99; omega
    have k4 : small st.2.2.2 = true := by subst hst; exact qs
    have k5 : stepOk st = true := by
      subst hst
      simp [stepOk, q0.1, q0.2]; omega
    have f1 := s_law_share_text (n+12) p [tO tp3] (small_bd' hp).1 (small_bd' hp).2.1
    have f2 := s_law_step_text (n+11) st [tO tp3] k1 k2 k3 k4
    have f3 := s_law_piece_text (n+10) r s o ins sts [tO tp3] po
    have g1 : callF pg (n+13) 25 [.clo 57 [.d (sh p)], .d (.tup [.str [105,115], .str (wr p)])] [tO tp3] = .ok (.d (.bl true)) [tO tp3] :=
      s_is_ok (n+11) 0 57 _ _ (.str (wr p)) (by
        have := s_share_text (n+5) p [tO tp3] hp
        rw [c_l10]
        rw [l10, evE_call, evEs_nil, bindR_ok, evEs_cons, evE_var]
        simp only [List.getElem?_cons_zero, varK_some, bindR_ok, evEs_nil, List.nil_append, bindVs_d, bindVs_nil, Option.map_some, callK_some, this]
        rfl) rfl
    have g2 : callF pg (n+13) 25 [.clo 58 [.d (stD st)], .d (.tup [.str [105,115], .str (wrStep st)])] [tO tp3] = .ok (.d (.bl true)) [tO tp3] :=
      s_is_ok (n+11) 0 58 _ _ (.str (wrStep st)) (by
        have := s_step_text (n+3) st [tO tp3] k5 k4
        rw [c_l11]
        rw [l11, evE_call, evEs_nil, bindR_ok, evEs_cons, evE_var]
        simp only [List.getElem?_cons_succ, List.getElem?_cons_zero, varK_some, bindR_ok, evEs_nil, List.nil_append, bindVs_d, bindVs_nil, Option.map_some, callK_some, this]
        rfl) rfl
    have g3 : callF pg (n+13) 25 [.clo 59 [.d (pcN r s o ins sts)], .d (.tup [.str [105,115], .str (wrPiece r s o ins sts)])] [tO tp3] = .ok (.d (.bl true)) [tO tp3] :=
      s_is_ok (n+11) 0 59 _ _ (.str (wrPiece r s o ins sts)) (by
        have := s_piece_text (n+2) r s o ins sts [tO tp3] po
        rw [c_l12]
        rw [l12, evE_call, evEs_nil, bindR_ok, evEs_cons, evE_var]
        simp only [List.getElem?_cons_zero, varK_some, bindR_ok, evEs_nil, List.nil_append, bindVs_d, bindVs_nil, Option.map_some, callK_some, this]
        rfl) rfl
    have hb : ∀ t, BOk t → ∀ tp, ∃ (u tp' : List Nat), TOk u ∧ callF pg (n+13) 43 [.loc 0, .d (.str t)] [tO tp] = .ok (.d (.str u)) [tO tp'] := fun t ht tp => s_law_bent (n+11) t ht tp
    have hr : ∀ u tp, TOk u → callF pg (n+13) 41 [.d (.str u)] [tO tp] = .ok (.d (.bl true)) [tO tp] := fun u tp hu => s_read_right (n+1) u [tO tp] hu
    obtain ⟨tp4, y7, y8, e6⟩ := txt_loop (callF pg (n+13)) a0 (some (.d (.int i))) (some (.d (sh p))) (some (.d (pcN r s o ins sts))) (some (.d (stD st))) (some (.d (.tup [.str (wr p), .str (wrStep st), .str (wrPiece r s o ins sts)]))) hb hr [wr p, wrStep st, wrPiece r s o ins sts] tp3 v7 v8 (fun t ht => by
      simp only [List.mem_cons, List.not_mem_nil, or_false] at ht
      rcases ht with rfl | rfl | rfl
      · exact bok_share hp
      · exact bok_step k1 k2 k3 k4
      · exact bok_piece po)
    obtain ⟨tp', z2, z3, z4, z5, z6, z7, z8, e⟩ := trn_loop n a0 is tp4 (some (.d (.int i))) (some (.d (sh p))) (some (.d (pcN r s o ins sts))) (some (.d (stD st))) (some (.d (.tup [.str (wr p), .str (wrStep st), .str (wrPiece r s o ins sts)]))) y7 y8
    refine ⟨tp', z2, z3, z4, z5, z6, z7, z8, ?_⟩
    rw [List.map_cons, forB_cons, put_nm, if_pos (by show 2 < 9; decide), putK_some]
    simp only [List.set_cons_succ, List.set_cons_zero]
    have s1 : exS pg (callF pg (n+13)) (.asg (.tp [(.nm 3), (.nm 4)]) (.tup [(.call 42 [(.var 1)] []), (.call 30 [(.var 1), (.idx (.tup [(.int 3), (.int 12)]) (.call 23 [(.var 1), (.int 2)] [])), (.int 3)] [])])) [a0, some (.loc 0), some (.d (.int i)), v3, v4, v5, v6, v7, v8] [tO tp] = .nx [a0, some (.loc 0), some (.d (.int i)), some (.d (sh p)), some (.d (pcN r s o ins sts)), v5, v6, v7, v8] [tO tp2] := by
      generalize callF pg (n+13) = F at *
      simp [e1, t2, hmi, e2]
    have s2 : exS pg (callF pg (n+13)) (.asg (.nm 5) (.tup [(.call 23 [(.var 1), (.int 100)] []), (.call 23 [(.var 1), (.int 100)] []), (.call 23 [(.var 1), (.int 100)] []), (.call 26 [(.bin .add false (.int 1) (.call 23 [(.var 1), (.int 5)] [])), (.bin .add false (.int 6) (.call 23 [(.var 1), (.int 900)] []))] [])])) [a0, some (.loc 0), some (.d (.int i)), some (.d (sh p)), some (.d (pcN r s o ins sts)), v5, v6, v7, v8] [tO tp2] = .nx [a0, some (.loc 0), some (.d (.int i)), some (.d (sh p)), some (.d (pcN r s o ins sts)), some (.d (stD st)), v6, v7, v8] [tO tp3] := by
      generalize callF pg (n+13) = F at *
      subst hst
      simp [t3, t4, t5, t6, t7, els]
    have s3 : exS pg (callF pg (n+13)) (.asg (.nm 6) (.tup [(.call 34 [(.var 3)] []), (.call 35 [(.var 5)] []), (.call 36 [(.var 4)] [])])) [a0, some (.loc 0), some (.d (.int i)), some (.d (sh p)), some (.d (pcN r s o ins sts)), some (.d (stD st)), v6, v7, v8] [tO tp3] = .nx [a0, some (.loc 0), some (.d (.int i)), some (.d (sh p)), some (.d (pcN r s o ins sts)), some (.d (stD st)), some (.d (.tup [.str (wr p), .str (wrStep st), .str (wrPiece r s o ins sts)])), v7, v8] [tO tp3] := by
      generalize callF pg (n+13) = F at *
      simp [f1, f2, f3]
    have s4 : exS pg (callF pg (n+13)) (.iff (.or [(.not (.call 25 [(.lam 57 [3]), (.tup [(.str [105,115]), (.idx (.var 6) (.int 0))])] [])), (.not (.call 25 [(.lam 58 [5]), (.tup [(.str [105,115]), (.idx (.var 6) (.int 1))])] []))]) [(.ret (.bl false))] []) [a0, some (.loc 0), some (.d (.int i)), some (.d (sh p)), some (.d (pcN r s o ins sts)), some (.d (stD st)), some (.d (.tup [.str (wr p), .str (wrStep st), .str (wrPiece r s o ins sts)])), v7, v8] [tO tp3] = .nx [a0, some (.loc 0), some (.d (.int i)), some (.d (sh p)), some (.d (pcN r s o ins sts)), some (.d (stD st)), some (.d (.tup [.str (wr p), .str (wrStep st), .str (wrPiece r s o ins sts)])), v7, v8] [tO tp3] := by
      generalize callF pg (n+13) = F at *
      simp [getAll, g1, g2]
    have s5 : exS pg (callF pg (n+13)) (.iff (.not (.call 25 [(.lam 59 [4]), (.tup [(.str [105,115]), (.idx (.var 6) (.int 2))])] [])) [(.ret (.bl false))] []) [a0, some (.loc 0), some (.d (.int i)), some (.d (sh p)), some (.d (pcN r s o ins sts)), some (.d (stD st)), some (.d (.tup [.str (wr p), .str (wrStep st), .str (wrPiece r s o ins sts)])), v7, v8] [tO tp3] = .nx [a0, some (.loc 0), some (.d (.int i)), some (.d (sh p)), some (.d (pcN r s o ins sts)), some (.d (stD st)), some (.d (.tup [.str (wr p), .str (wrStep st), .str (wrPiece r s o ins sts)])), v7, v8] [tO tp3] := by
      generalize callF pg (n+13) = F at *
      simp [getAll, g3]
    have s6 : exS pg (callF pg (n+13)) (.for_ (.nm 7) .it [(.var 6)] txtB) [a0, some (.loc 0), some (.d (.int i)), some (.d (sh p)), some (.d (pcN r s o ins sts)), some (.d (stD st)), some (.d (.tup [.str (wr p), .str (wrStep st), .str (wrPiece r s o ins sts)])), v7, v8] [tO tp3] = _ := (for_tup (ds := [.str (wr p), .str (wrStep st), .str (wrPiece r s o ins sts)]) (by rw [evE_var]; rfl)).trans e6
    rw [trnB, step_nx _ _ s1 (step_nx _ _ s2 (step_nx _ _ s3 (step_nx _ _ s4 (step_nx _ _ s5 (step_nx _ _ s6 (exSs_nil ..)))))), loopK_nx]
    exact e
/-- the law -/
theorem k83_law (n : Nat) (cs : List Int) (v0 : Vl) (hv0 : v0 = .ro (cs.map D.int) ∨ v0 = .d (.lst (cs.map D.int))) (hl : cs.length ≤ 63) : callF pg (n+14) 46 [v0] [] = .ok (.d (.bl true)) [] := by
  rw [c_law]
  obtain ⟨tp, e1⟩ := s_law_tape (n+12) cs v0 hv0 hl
  obtain ⟨tp', w2, w3, w4, w5, w6, w7, w8, e2⟩ := trn_loop n (some v0) (List.range 7) tp none none none none none none none
  have h1 := s_law_by_hand n tp'
  have h2 := s_law_refused n tp'
  have e2' : exS pg (callF pg (n+13)) (.for_ (.nm 2) .rng1 [(.int 7)] trnB) [some v0, some (.loc 0), none, none, none, none, none, none, none] [tO tp] = _ := (rng1_e (r := 7) (by rw [evE_int]; rfl) (by decide)).trans e2
  have e1' : exS pg (callF pg (n+13)) (.asg (.nm 1) (.call 22 [(.var 0), (.int 900), (.int 283)] [])) [some v0, none, none, none, none, none, none, none, none] [] = .nx [some v0, some (.loc 0), none, none, none, none, none, none, none] [tO tp] := by
    generalize callF pg (n+13) = F at *
    rcases hv0 with rfl | rfl <;> simp [e1]
  have e3 : exS pg (callF pg (n+13)) (.ret (.and [(.call 44 [] []), (.call 45 [] [])])) [some v0, some (.loc 0), w2, w3, w4, w5, w6, w7, w8] [tO tp'] = .rt (.d (.bl true)) [tO tp'] := by
    generalize callF pg (n+13) = F at *
    simp [h1, h2]
  have hb : exSs pg (callF pg (n+13)) [(.asg (.nm 1) (.call 22 [(.var 0), (.int 900), (.int 283)] [])), (.for_ (.nm 2) .rng1 [(.int 7)] trnB), (.ret (.and [(.call 44 [] []), (.call 45 [] [])]))] [some v0, none, none, none, none, none, none, none, none] [] = .rt (.d (.bl true)) [tO tp'] :=
    step_nx _ _ e1' (step_nx _ _ e2' (step_rt e3))
  rw [trnB, txtB, lapB] at hb
  rw [b_law]
  exact (congrArg (finish false 0) hb).trans rfl
end K83
set_option linter.all false
set_option Elab.async false
set_option maxRecDepth 100000
set_option maxHeartbeats 0
namespace K83H
open PySem PySem.W PySem.Calls PyProof.Rows Mi
abbrev R : OpenRow := OpenLaw.row PySem.Challenge.rw_oddsrooms_k83_whole_texts_of_pieces
def top (i : Nat) : Stmt := PySem.Challenge.pw_oddsrooms_k83_whole_texts_of_pieces.main.body.getD i (.Pass ⟨0, 0, 0, 0⟩)
def clsBody : Stmt → List Stmt
  | .ClassDef (body := b) .. => b
  | _ => []
def mth (i j : Nat) : Stmt := (clsBody (top i)).getD j (.Pass ⟨0, 0, 0, 0⟩)
def d0 : He.DefD := ⟨("is_number", none), "is_number", "is_number", L2.defArgs (top 5), L2.defBody (top 5), L2.defScope (top 5), [], []⟩
def d1 : He.DefD := ⟨("is_among", none), "is_among", "is_among", L2.defArgs (top 6), L2.defBody (top 6), L2.defScope (top 6), [], []⟩
def d2 : He.DefD := ⟨("is_tuple_of", none), "is_tuple_of", "is_tuple_of", L2.defArgs (top 7), L2.defBody (top 7), L2.defScope (top 7), [], []⟩
def d3 : He.DefD := ⟨("common_factor", none), "common_factor", "common_factor", L2.defArgs (top 12), L2.defBody (top 12), L2.defScope (top 12), [], []⟩
def d4 : He.DefD := ⟨("made_share", none), "made_share", "made_share", L2.defArgs (top 13), L2.defBody (top 13), L2.defScope (top 13), [], []⟩
def d5 : He.DefD := ⟨("is_share", none), "is_share", "is_share", L2.defArgs (top 14), L2.defBody (top 14), L2.defScope (top 14), [], []⟩
def d6 : He.DefD := ⟨("is_small_share", none), "is_small_share", "is_small_share", L2.defArgs (top 15), L2.defBody (top 15), L2.defScope (top 15), [], []⟩
def d7 : He.DefD := ⟨("plus_by", none), "plus_by", "plus_by", L2.defArgs (top 16), L2.defBody (top 16), L2.defScope (top 16), [], []⟩
def d8 : He.DefD := ⟨("is_less_by", none), "is_less_by", "is_less_by", L2.defArgs (top 17), L2.defBody (top 17), L2.defScope (top 17), [], []⟩
def d9 : He.DefD := ⟨("sum_by", none), "sum_by", "sum_by", L2.defArgs (top 18), L2.defBody (top 18), L2.defScope (top 18), [], []⟩
def d10 : He.DefD := ⟨("is_step", none), "is_step", "is_step", L2.defArgs (top 24), L2.defBody (top 24), L2.defScope (top 24), [], []⟩
def d11 : He.DefD := ⟨("need_piece", none), "need_piece", "need_piece", L2.defArgs (top 25), L2.defBody (top 25), L2.defScope (top 25), [], []⟩
def d12 : He.DefD := ⟨("is_small_chance", none), "is_small_chance", "is_small_chance", L2.defArgs (top 27), L2.defBody (top 27), L2.defScope (top 27), [], []⟩
def d13 : He.DefD := ⟨("read_figures", none), "read_figures", "read_figures", L2.defArgs (top 32), L2.defBody (top 32), L2.defScope (top 32), [], []⟩
def d14 : He.DefD := ⟨("written_share", none), "written_share", "written_share", L2.defArgs (top 33), L2.defBody (top 33), L2.defScope (top 33), [], []⟩
def d15 : He.DefD := ⟨("share_text", none), "share_text", "share_text", L2.defArgs (top 34), L2.defBody (top 34), L2.defScope (top 34), [], []⟩
def d16 : He.DefD := ⟨("read_share", none), "read_share", "read_share", L2.defArgs (top 35), L2.defBody (top 35), L2.defScope (top 35), [], []⟩
def d17 : He.DefD := ⟨("is_some_step", none), "is_some_step", "is_some_step", L2.defArgs (top 36), L2.defBody (top 36), L2.defScope (top 36), [], []⟩
def d18 : He.DefD := ⟨("step_text", none), "step_text", "step_text", L2.defArgs (top 37), L2.defBody (top 37), L2.defScope (top 37), [], []⟩
def d19 : He.DefD := ⟨("read_step", none), "read_step", "read_step", L2.defArgs (top 38), L2.defBody (top 38), L2.defScope (top 38), [], []⟩
def d20 : He.DefD := ⟨("piece_text", none), "piece_text", "piece_text", L2.defArgs (top 39), L2.defBody (top 39), L2.defScope (top 39), [], []⟩
def d21 : He.DefD := ⟨("read_piece", none), "read_piece", "read_piece", L2.defArgs (top 40), L2.defBody (top 40), L2.defScope (top 40), [], []⟩
def d22 : He.DefD := ⟨("_law_tape", none), "_law_tape", "_law_tape", L2.defArgs (top 42), L2.defBody (top 42), L2.defScope (top 42), [], []⟩
def d23 : He.DefD := ⟨("_law_take", none), "_law_take", "_law_take", L2.defArgs (top 43), L2.defBody (top 43), L2.defScope (top 43), [], []⟩
def d24 : He.DefD := ⟨("_law_like", none), "_law_like", "_law_like", L2.defArgs (top 44), L2.defBody (top 44), L2.defScope (top 44), [], []⟩
def d25 : He.DefD := ⟨("_law_is", none), "_law_is", "_law_is", L2.defArgs (top 45), L2.defBody (top 45), L2.defScope (top 45), [], []⟩
def d26 : He.DefD := ⟨("_law_share", none), "_law_share", "_law_share", L2.defArgs (top 46), L2.defBody (top 46), L2.defScope (top 46), [], []⟩
def d27 : He.DefD := ⟨("_law_plus", none), "_law_plus", "_law_plus", L2.defArgs (top 47), L2.defBody (top 47), L2.defScope (top 47), [], []⟩
def d28 : He.DefD := ⟨("_law_sum", none), "_law_sum", "_law_sum", L2.defArgs (top 48), L2.defBody (top 48), L2.defScope (top 48), [], []⟩
def d29 : He.DefD := ⟨("_law_parts", none), "_law_parts", "_law_parts", L2.defArgs (top 49), L2.defBody (top 49), L2.defScope (top 49), [], []⟩
def d30 : He.DefD := ⟨("_law_piece", none), "_law_piece", "_law_piece", L2.defArgs (top 50), L2.defBody (top 50), L2.defScope (top 50), [], []⟩
def d31 : He.DefD := ⟨("_law_is_share", none), "_law_is_share", "_law_is_share", L2.defArgs (top 51), L2.defBody (top 51), L2.defScope (top 51), [], []⟩
def d32 : He.DefD := ⟨("_law_piece_fault", none), "_law_piece_fault", "_law_piece_fault", L2.defArgs (top 52), L2.defBody (top 52), L2.defScope (top 52), [], []⟩
def d33 : He.DefD := ⟨("_law_told", none), "_law_told", "_law_told", L2.defArgs (top 53), L2.defBody (top 53), L2.defScope (top 53), [], []⟩
def d34 : He.DefD := ⟨("_law_share_text", none), "_law_share_text", "_law_share_text", L2.defArgs (top 54), L2.defBody (top 54), L2.defScope (top 54), [], []⟩
def d35 : He.DefD := ⟨("_law_step_text", none), "_law_step_text", "_law_step_text", L2.defArgs (top 55), L2.defBody (top 55), L2.defScope (top 55), [], []⟩
def d36 : He.DefD := ⟨("_law_piece_text", none), "_law_piece_text", "_law_piece_text", L2.defArgs (top 56), L2.defBody (top 56), L2.defScope (top 56), [], []⟩
def d37 : He.DefD := ⟨("_law_figures", none), "_law_figures", "_law_figures", L2.defArgs (top 57), L2.defBody (top 57), L2.defScope (top 57), [], []⟩
def d38 : He.DefD := ⟨("_law_read_share", none), "_law_read_share", "_law_read_share", L2.defArgs (top 58), L2.defBody (top 58), L2.defScope (top 58), [], []⟩
def d39 : He.DefD := ⟨("_law_read_step", none), "_law_read_step", "_law_read_step", L2.defArgs (top 59), L2.defBody (top 59), L2.defScope (top 59), [], []⟩
def d40 : He.DefD := ⟨("_law_read_piece", none), "_law_read_piece", "_law_read_piece", L2.defArgs (top 60), L2.defBody (top 60), L2.defScope (top 60), [], []⟩
def d41 : He.DefD := ⟨("_law_read_right", none), "_law_read_right", "_law_read_right", L2.defArgs (top 61), L2.defBody (top 61), L2.defScope (top 61), [], []⟩
def d42 : He.DefD := ⟨("_law_drawn_share", none), "_law_drawn_share", "_law_drawn_share", L2.defArgs (top 62), L2.defBody (top 62), L2.defScope (top 62), [], []⟩
def d43 : He.DefD := ⟨("_law_bent", none), "_law_bent", "_law_bent", L2.defArgs (top 63), L2.defBody (top 63), L2.defScope (top 63), [], []⟩
def d44 : He.DefD := ⟨("_law_by_hand_right", none), "_law_by_hand_right", "_law_by_hand_right", L2.defArgs (top 64), L2.defBody (top 64), L2.defScope (top 64), [], []⟩
def d45 : He.DefD := ⟨("_law_refused_right", none), "_law_refused_right", "_law_refused_right", L2.defArgs (top 65), L2.defBody (top 65), L2.defScope (top 65), [], []⟩
def d46 : He.DefD := ⟨("law", none), "law", "law", L2.defArgs (top 66), L2.defBody (top 66), L2.defScope (top 66), [], []⟩
def fnL : List He.DefD := [d0, d1, d2, d3, d4, d5, d6, d7, d8, d9, d10, d11, d12, d13, d14, d15, d16, d17, d18, d19, d20, d21, d22, d23, d24, d25, d26, d27, d28, d29, d30, d31, d32, d33, d34, d35, d36, d37, d38, d39, d40, d41, d42, d43, d44, d45, d46]
def fa : List He.Fa := [.glo "is_number", .glo "is_among", .glo "is_tuple_of", .glo "common_factor", .glo "made_share", .glo "is_share", .glo "is_small_share", .glo "plus_by", .glo "is_less_by", .glo "sum_by", .glo "is_step", .glo "need_piece", .glo "is_small_chance", .glo "read_figures", .glo "written_share", .glo "share_text", .glo "read_share", .glo "is_some_step", .glo "step_text", .glo "read_step", .glo "piece_text", .glo "read_piece", .glo "_law_tape", .glo "_law_take", .glo "_law_like", .glo "_law_is", .glo "_law_share", .glo "_law_plus", .glo "_law_sum", .glo "_law_parts", .glo "_law_piece", .glo "_law_is_share", .glo "_law_piece_fault", .glo "_law_told", .glo "_law_share_text", .glo "_law_step_text", .glo "_law_piece_text", .glo "_law_figures", .glo "_law_read_share", .glo "_law_read_step", .glo "_law_read_piece", .glo "_law_read_right", .glo "_law_drawn_share", .glo "_law_bent", .glo "_law_by_hand_right", .glo "_law_refused_right", .glo "law", .int "MOST_NUMBER" 1000000000000, .int "MOST_ROOMS" 12, .int "MOST_SIGNS" 3, .int "MOST_STEPS" 40, .int "MOST_DOORS" 3, .str "FIGURES" "0123456789", .int "MOST_FIGURES" 41, .int "MOST_IN_STEP" 99, .glo "BadPiece", .glo "BadText", .free "len", .free "abs", .free "int", .free "str", .free "tuple", .free "list", .free "max", .free "all", .free "any", .free "range", .free "enumerate", .free "zip", .free "isinstance", .free "repr", .free "bool", .free "super", .glo "ZERO", .glo "ONE"]
def i_BadPiece : InD := ⟨"BadPiece", "BadPiece.__init__", L2.defArgs (mth 2 0), L2.defBody (mth 2 0), L2.defScope (mth 2 0)⟩
def i_BadText : InD := ⟨"BadText", "BadText.__init__", L2.defArgs (mth 3 0), L2.defBody (mth 3 0), L2.defScope (mth 3 0)⟩
def ciL : List InD := [i_BadPiece, i_BadText]
def tbL : List (Str × Option Str) := [("_law_read_right", none), ("_law_by_hand_right", none), ("_law_refused_right", none), ("law", none)]
def ex (K : Frag) : Bool := (iniB "/claim/cut.py" K (He.ga K "BadPiece") "place") && (iniB "/claim/cut.py" K (He.ga K "BadText") "place") && (He.tupB K "ZERO" [.int 0, .int 1]) && (He.tupB K "ONE" [.int 1, .int 1]) && (decide ((tbL.map fun p => (tabOf K p).2).Nodup)) && (decide (exmOne K (.ref (He.ga K "BadPiece")) (.ref (He.ga K "BadPiece")) = some true)) && (decide (exmOne K (.ref (He.ga K "BadPiece")) (.ref (He.ga K "BadText")) = some false)) && (decide (exmOne K (.ref (He.ga K "BadText")) (.ref (He.ga K "BadPiece")) = some false)) && (decide (exmOne K (.ref (He.ga K "BadText")) (.ref (He.ga K "BadText")) = some true))
def nm0 : List Str := ["ChanceError", "BadPiece", "BadText", "MOST_NUMBER", "ZERO", "ONE", "MOST_ROOMS", "MOST_SIGNS", "MOST_STEPS", "MOST_DOORS", "FIGURES", "MOST_FIGURES", "MOST_IN_STEP", "is_number", "is_among", "is_tuple_of", "common_factor", "made_share", "is_share", "is_small_share", "plus_by", "is_less_by", "sum_by", "is_step", "need_piece", "is_small_chance", "read_figures", "written_share", "share_text", "read_share"]
def nm1 : List Str := ["is_some_step", "step_text", "read_step", "piece_text", "read_piece", "_law_tape", "_law_take", "_law_like", "_law_is", "_law_share", "_law_plus", "_law_sum", "_law_parts", "_law_piece", "_law_is_share", "_law_piece_fault", "_law_told", "_law_share_text", "_law_step_text", "_law_piece_text", "_law_figures", "_law_read_share", "_law_read_step", "_law_read_piece", "_law_read_right", "_law_drawn_share", "_law_bent", "_law_by_hand_right", "_law_refused_right"]
def names : List Str := nm0 ++ nm1
abbrev qv : Program := view R.prog [66]
abbrev hk : Hook := hookX 5 fa fnL ciL tbL ex
def ob (s : SharedT) : AlX := obsX 5 fa fnL ciL tbL ex (HandSHeadRun.getT s)
theorem ob_eq (s : SharedT) : ob s = hk.obs s.abs := obsX_eq (HandSHeadRun.getT_eq s)
theorem run (w : World) : HandSHeadRun.RunEq R qv hk ob 20000 names w := by
  intro os
  kernel_rfl
end K83H
set_option linter.all false
set_option Elab.async false
set_option maxRecDepth 100000
set_option maxHeartbeats 0
namespace K83H
open PySem PySem.W PySem.Calls PyProof.Rows Mi
def fnTN : Nat → Option (Str × List Str)
  | 0 => some ("is_number", ["thing"])
  | 1 => some ("is_among", ["thing", "least", "most"])
  | 2 => some ("is_tuple_of", ["thing", "least", "most"])
  | 3 => some ("common_factor", ["one", "other"])
  | 4 => some ("made_share", ["top", "bottom"])
  | 5 => some ("is_share", ["thing"])
  | 6 => some ("is_small_share", ["thing"])
  | 7 => some ("plus_by", ["one", "other"])
  | 8 => some ("is_less_by", ["one", "other"])
  | 9 => some ("sum_by", ["shares"])
  | 10 => some ("is_step", ["thing", "rooms", "signs", "outs"])
  | 11 => some ("need_piece", ["piece"])
  | 12 => some ("is_small_chance", ["thing"])
  | 13 => some ("read_figures", ["text"])
  | 14 => some ("written_share", ["share"])
  | 15 => some ("share_text", ["share"])
  | 16 => some ("read_share", ["text"])
  | 17 => some ("is_some_step", ["thing"])
  | 18 => some ("step_text", ["step"])
  | 19 => some ("read_step", ["text"])
  | _ => none
def clT2 : Nat → Option Str
  | 1 => some "BadPiece"
  | 2 => some "BadText"
  | _ => none
abbrev cf : Cf := ⟨⟨K83.fnT, K83.glT, true⟩, ⟨fnTN, K83.glT, false⟩, clT2, "place"⟩
def lam41 : List (Nat × LamI) := lamsSs K83.N__law_read_right K83.b__law_read_right d41.body
def lam44 : List (Nat × LamI) := lamsSs K83.N__law_by_hand_right K83.b__law_by_hand_right d44.body
def lam45 : List (Nat × LamI) := lamsSs K83.N__law_refused_right K83.b__law_refused_right d45.body
def lam46 : List (Nat × LamI) := lamsSs K83.N_law K83.b_law d46.body
def lamL : List (Nat × LamI) := lam41 ++ lam44 ++ lam45 ++ lam46
def LI : LamT := fun k => lamL.lookup k
def CI (K : Frag) : Nat → Option (Addr × Str)
  | 1 => some (He.ga K "BadPiece", "place")
  | 2 => some (He.ga K "BadText", "place")
  | _ => none
def gOf (K : Frag) : Gi := ⟨K, TT K tbL, LI, CI K⟩
theorem lam_nd : (lamL.map (·.1)).Nodup := by decide +kernel
theorem t0f : DefT LI K83.pg cf false d0 0 ["thing"] K83.N_is_number false K83.b_is_number false false := ⟨⟨rfl, rfl, rfl, by decide +kernel, rfl, by decide +kernel, by decide +kernel⟩, fun kV doc pm an cdv ct => sp1 (fun _ => by kernel_rfl) (fun _ => by kernel_rfl), rfl, .inl (by decide +kernel), isE (by decide +kernel)⟩
theorem t0t : DefT LI K83.pg cf true d0 0 ["thing"] K83.N_is_number false K83.b_is_number false false := ⟨⟨rfl, rfl, rfl, by decide +kernel, rfl, by decide +kernel, by decide +kernel⟩, fun kV doc pm an cdv ct => sp1 (fun _ => by kernel_rfl) (fun _ => by kernel_rfl), rfl, .inl (by decide +kernel), isE (by decide +kernel)⟩
theorem t1f : DefT LI K83.pg cf false d1 1 ["thing", "least", "most"] K83.N_is_among false K83.b_is_among false false := ⟨⟨rfl, rfl, rfl, by decide +kernel, rfl, by decide +kernel, by decide +kernel⟩, fun kV doc pm an cdv ct => sp3 (fun _ _ _ => by kernel_rfl) (fun _ _ _ => by kernel_rfl) (fun _ _ _ => by kernel_rfl) (fun _ _ _ => by kernel_rfl), rfl, .inl (by decide +kernel), isE (by decide +kernel)⟩
theorem t1t : DefT LI K83.pg cf true d1 1 ["thing", "least", "most"] K83.N_is_among false K83.b_is_among false false := ⟨⟨rfl, rfl, rfl, by decide +kernel, rfl, by decide +kernel, by decide +kernel⟩, fun kV doc pm an cdv ct => sp3 (fun _ _ _ => by kernel_rfl) (fun _ _ _ => by kernel_rfl) (fun _ _ _ => by kernel_rfl) (fun _ _ _ => by kernel_rfl), rfl, .inl (by decide +kernel), isE (by decide +kernel)⟩
theorem t2f : DefT LI K83.pg cf false d2 2 ["thing", "least", "most"] K83.N_is_tuple_of false K83.b_is_tuple_of false false := ⟨⟨rfl, rfl, rfl, by decide +kernel, rfl, by decide +kernel, by decide +kernel⟩, fun kV doc pm an cdv ct => sp3 (fun _ _ _ => by kernel_rfl) (fun _ _ _ => by kernel_rfl) (fun _ _ _ => by kernel_rfl) (fun _ _ _ => by kernel_rfl), rfl, .inl (by decide +kernel), isE (by decide +kernel)⟩
theorem t2t : DefT LI K83.pg cf true d2 2 ["thing", "least", "most"] K83.N_is_tuple_of false K83.b_is_tuple_of false false := ⟨⟨rfl, rfl, rfl, by decide +kernel, rfl, by decide +kernel, by decide +kernel⟩, fun kV doc pm an cdv ct => sp3 (fun _ _ _ => by kernel_rfl) (fun _ _ _ => by kernel_rfl) (fun _ _ _ => by kernel_rfl) (fun _ _ _ => by kernel_rfl), rfl, .inl (by decide +kernel), isE (by decide +kernel)⟩
theorem t3f : DefT LI K83.pg cf false d3 3 ["one", "other"] K83.N_common_factor false K83.b_common_factor false false := ⟨⟨rfl, rfl, rfl, by decide +kernel, rfl, by decide +kernel, by decide +kernel⟩, fun kV doc pm an cdv ct => sp2 (fun _ _ => by kernel_rfl) (fun _ _ => by kernel_rfl) (fun _ _ => by kernel_rfl), rfl, .inl (by decide +kernel), isE (by decide +kernel)⟩
theorem t3t : DefT LI K83.pg cf true d3 3 ["one", "other"] K83.N_common_factor false K83.b_common_factor false false := ⟨⟨rfl, rfl, rfl, by decide +kernel, rfl, by decide +kernel, by decide +kernel⟩, fun kV doc pm an cdv ct => sp2 (fun _ _ => by kernel_rfl) (fun _ _ => by kernel_rfl) (fun _ _ => by kernel_rfl), rfl, .inl (by decide +kernel), isE (by decide +kernel)⟩
theorem t4f : DefT LI K83.pg cf false d4 4 ["top", "bottom"] K83.N_made_share false K83.b_made_share false false := ⟨⟨rfl, rfl, rfl, by decide +kernel, rfl, by decide +kernel, by decide +kernel⟩, fun kV doc pm an cdv ct => sp2 (fun _ _ => by kernel_rfl) (fun _ _ => by kernel_rfl) (fun _ _ => by kernel_rfl), rfl, .inl (by decide +kernel), isE (by decide +kernel)⟩
theorem t4t : DefT LI K83.pg cf true d4 4 ["top", "bottom"] K83.N_made_share false K83.b_made_share false false := ⟨⟨rfl, rfl, rfl, by decide +kernel, rfl, by decide +kernel, by decide +kernel⟩, fun kV doc pm an cdv ct => sp2 (fun _ _ => by kernel_rfl) (fun _ _ => by kernel_rfl) (fun _ _ => by kernel_rfl), rfl, .inl (by decide +kernel), isE (by decide +kernel)⟩
theorem t5f : DefT LI K83.pg cf false d5 5 ["thing"] K83.N_is_share false K83.b_is_share false false := ⟨⟨rfl, rfl, rfl, by decide +kernel, rfl, by decide +kernel, by decide +kernel⟩, fun kV doc pm an cdv ct => sp1 (fun _ => by kernel_rfl) (fun _ => by kernel_rfl), rfl, .inl (by decide +kernel), isE (by decide +kernel)⟩
theorem t5t : DefT LI K83.pg cf true d5 5 ["thing"] K83.N_is_share false K83.b_is_share false false := ⟨⟨rfl, rfl, rfl, by decide +kernel, rfl, by decide +kernel, by decide +kernel⟩, fun kV doc pm an cdv ct => sp1 (fun _ => by kernel_rfl) (fun _ => by kernel_rfl), rfl, .inl (by decide +kernel), isE (by decide +kernel)⟩
theorem t6f : DefT LI K83.pg cf false d6 6 ["thing"] K83.N_is_small_share false K83.b_is_small_share false false := ⟨⟨rfl, rfl, rfl, by decide +kernel, rfl, by decide +kernel, by decide +kernel⟩, fun kV doc pm an cdv ct => sp1 (fun _ => by kernel_rfl) (fun _ => by kernel_rfl), rfl, .inl (by decide +kernel), isE (by decide +kernel)⟩
theorem t6t : DefT LI K83.pg cf true d6 6 ["thing"] K83.N_is_small_share false K83.b_is_small_share false false := ⟨⟨rfl, rfl, rfl, by decide +kernel, rfl, by decide +kernel, by decide +kernel⟩, fun kV doc pm an cdv ct => sp1 (fun _ => by kernel_rfl) (fun _ => by kernel_rfl), rfl, .inl (by decide +kernel), isE (by decide +kernel)⟩
theorem t7f : DefT LI K83.pg cf false d7 7 ["one", "other"] K83.N_plus_by false K83.b_plus_by false false := ⟨⟨rfl, rfl, rfl, by decide +kernel, rfl, by decide +kernel, by decide +kernel⟩, fun kV doc pm an cdv ct => sp2 (fun _ _ => by kernel_rfl) (fun _ _ => by kernel_rfl) (fun _ _ => by kernel_rfl), rfl, .inl (by decide +kernel), isE (by decide +kernel)⟩
theorem t7t : DefT LI K83.pg cf true d7 7 ["one", "other"] K83.N_plus_by false K83.b_plus_by false false := ⟨⟨rfl, rfl, rfl, by decide +kernel, rfl, by decide +kernel, by decide +kernel⟩, fun kV doc pm an cdv ct => sp2 (fun _ _ => by kernel_rfl) (fun _ _ => by kernel_rfl) (fun _ _ => by kernel_rfl), rfl, .inl (by decide +kernel), isE (by decide +kernel)⟩
theorem t8f : DefT LI K83.pg cf false d8 8 ["one", "other"] K83.N_is_less_by false K83.b_is_less_by false false := ⟨⟨rfl, rfl, rfl, by decide +kernel, rfl, by decide +kernel, by decide +kernel⟩, fun kV doc pm an cdv ct => sp2 (fun _ _ => by kernel_rfl) (fun _ _ => by kernel_rfl) (fun _ _ => by kernel_rfl), rfl, .inl (by decide +kernel), isE (by decide +kernel)⟩
theorem t8t : DefT LI K83.pg cf true d8 8 ["one", "other"] K83.N_is_less_by false K83.b_is_less_by false false := ⟨⟨rfl, rfl, rfl, by decide +kernel, rfl, by decide +kernel, by decide +kernel⟩, fun kV doc pm an cdv ct => sp2 (fun _ _ => by kernel_rfl) (fun _ _ => by kernel_rfl) (fun _ _ => by kernel_rfl), rfl, .inl (by decide +kernel), isE (by decide +kernel)⟩
theorem t9f : DefT LI K83.pg cf false d9 9 ["shares"] K83.N_sum_by false K83.b_sum_by false false := ⟨⟨rfl, rfl, rfl, by decide +kernel, rfl, by decide +kernel, by decide +kernel⟩, fun kV doc pm an cdv ct => sp1 (fun _ => by kernel_rfl) (fun _ => by kernel_rfl), rfl, .inl (by decide +kernel), isE (by decide +kernel)⟩
theorem t9t : DefT LI K83.pg cf true d9 9 ["shares"] K83.N_sum_by false K83.b_sum_by false false := ⟨⟨rfl, rfl, rfl, by decide +kernel, rfl, by decide +kernel, by decide +kernel⟩, fun kV doc pm an cdv ct => sp1 (fun _ => by kernel_rfl) (fun _ => by kernel_rfl), rfl, .inl (by decide +kernel), isE (by decide +kernel)⟩
theorem t10f : DefT LI K83.pg cf false d10 10 ["thing", "rooms", "signs", "outs"] K83.N_is_step false K83.b_is_step false false := ⟨⟨rfl, rfl, rfl, by decide +kernel, rfl, by decide +kernel, by decide +kernel⟩, fun kV doc pm an cdv ct => sp4 (fun _ _ _ _ => by kernel_rfl) (fun _ _ _ _ => by kernel_rfl) (fun _ _ _ _ => by kernel_rfl) (fun _ _ _ _ => by kernel_rfl) (fun _ _ _ _ => by kernel_rfl), rfl, .inl (by decide +kernel), isE (by decide +kernel)⟩
theorem t10t : DefT LI K83.pg cf true d10 10 ["thing", "rooms", "signs", "outs"] K83.N_is_step false K83.b_is_step false false := ⟨⟨rfl, rfl, rfl, by decide +kernel, rfl, by decide +kernel, by decide +kernel⟩, fun kV doc pm an cdv ct => sp4 (fun _ _ _ _ => by kernel_rfl) (fun _ _ _ _ => by kernel_rfl) (fun _ _ _ _ => by kernel_rfl) (fun _ _ _ _ => by kernel_rfl) (fun _ _ _ _ => by kernel_rfl), rfl, .inl (by decide +kernel), isE (by decide +kernel)⟩
theorem t11f : DefT LI K83.pg cf false d11 11 ["piece"] K83.N_need_piece false K83.b_need_piece false false := ⟨⟨rfl, rfl, rfl, by decide +kernel, rfl, by decide +kernel, by decide +kernel⟩, fun kV doc pm an cdv ct => sp1 (fun _ => by kernel_rfl) (fun _ => by kernel_rfl), rfl, .inl (by decide +kernel), isE (by decide +kernel)⟩
theorem t11t : DefT LI K83.pg cf true d11 11 ["piece"] K83.N_need_piece false K83.b_need_piece false false := ⟨⟨rfl, rfl, rfl, by decide +kernel, rfl, by decide +kernel, by decide +kernel⟩, fun kV doc pm an cdv ct => sp1 (fun _ => by kernel_rfl) (fun _ => by kernel_rfl), rfl, .inl (by decide +kernel), isE (by decide +kernel)⟩
theorem t12f : DefT LI K83.pg cf false d12 12 ["thing"] K83.N_is_small_chance false K83.b_is_small_chance false false := ⟨⟨rfl, rfl, rfl, by decide +kernel, rfl, by decide +kernel, by decide +kernel⟩, fun kV doc pm an cdv ct => sp1 (fun _ => by kernel_rfl) (fun _ => by kernel_rfl), rfl, .inl (by decide +kernel), isE (by decide +kernel)⟩
theorem t12t : DefT LI K83.pg cf true d12 12 ["thing"] K83.N_is_small_chance false K83.b_is_small_chance false false := ⟨⟨rfl, rfl, rfl, by decide +kernel, rfl, by decide +kernel, by decide +kernel⟩, fun kV doc pm an cdv ct => sp1 (fun _ => by kernel_rfl) (fun _ => by kernel_rfl), rfl, .inl (by decide +kernel), isE (by decide +kernel)⟩
theorem t13f : DefT LI K83.pg cf false d13 13 ["text"] K83.N_read_figures false K83.b_read_figures false false := ⟨⟨rfl, rfl, rfl, by decide +kernel, rfl, by decide +kernel, by decide +kernel⟩, fun kV doc pm an cdv ct => sp1 (fun _ => by kernel_rfl) (fun _ => by kernel_rfl), rfl, .inl (by decide +kernel), isE (by decide +kernel)⟩
theorem t13t : DefT LI K83.pg cf true d13 13 ["text"] K83.N_read_figures false K83.b_read_figures false false := ⟨⟨rfl, rfl, rfl, by decide +kernel, rfl, by decide +kernel, by decide +kernel⟩, fun kV doc pm an cdv ct => sp1 (fun _ => by kernel_rfl) (fun _ => by kernel_rfl), rfl, .inl (by decide +kernel), isE (by decide +kernel)⟩
theorem t14f : DefT LI K83.pg cf false d14 14 ["share"] K83.N_written_share false K83.b_written_share false false := ⟨⟨rfl, rfl, rfl, by decide +kernel, rfl, by decide +kernel, by decide +kernel⟩, fun kV doc pm an cdv ct => sp1 (fun _ => by kernel_rfl) (fun _ => by kernel_rfl), rfl, .inl (by decide +kernel), isE (by decide +kernel)⟩
theorem t14t : DefT LI K83.pg cf true d14 14 ["share"] K83.N_written_share false K83.b_written_share false false := ⟨⟨rfl, rfl, rfl, by decide +kernel, rfl, by decide +kernel, by decide +kernel⟩, fun kV doc pm an cdv ct => sp1 (fun _ => by kernel_rfl) (fun _ => by kernel_rfl), rfl, .inl (by decide +kernel), isE (by decide +kernel)⟩
theorem t15f : DefT LI K83.pg cf false d15 15 ["share"] K83.N_share_text false K83.b_share_text false false := ⟨⟨rfl, rfl, rfl, by decide +kernel, rfl, by decide +kernel, by decide +kernel⟩, fun kV doc pm an cdv ct => sp1 (fun _ => by kernel_rfl) (fun _ => by kernel_rfl), rfl, .inl (by decide +kernel), isE (by decide +kernel)⟩
theorem t15t : DefT LI K83.pg cf true d15 15 ["share"] K83.N_share_text false K83.b_share_text false false := ⟨⟨rfl, rfl, rfl, by decide +kernel, rfl, by decide +kernel, by decide +kernel⟩, fun kV doc pm an cdv ct => sp1 (fun _ => by kernel_rfl) (fun _ => by kernel_rfl), rfl, .inl (by decide +kernel), isE (by decide +kernel)⟩
theorem t16f : DefT LI K83.pg cf false d16 16 ["text"] K83.N_read_share false K83.b_read_share false false := ⟨⟨rfl, rfl, rfl, by decide +kernel, rfl, by decide +kernel, by decide +kernel⟩, fun kV doc pm an cdv ct => sp1 (fun _ => by kernel_rfl) (fun _ => by kernel_rfl), rfl, .inl (by decide +kernel), isE (by decide +kernel)⟩
theorem t16t : DefT LI K83.pg cf true d16 16 ["text"] K83.N_read_share false K83.b_read_share false false := ⟨⟨rfl, rfl, rfl, by decide +kernel, rfl, by decide +kernel, by decide +kernel⟩, fun kV doc pm an cdv ct => sp1 (fun _ => by kernel_rfl) (fun _ => by kernel_rfl), rfl, .inl (by decide +kernel), isE (by decide +kernel)⟩
theorem t17f : DefT LI K83.pg cf false d17 17 ["thing"] K83.N_is_some_step false K83.b_is_some_step false false := ⟨⟨rfl, rfl, rfl, by decide +kernel, rfl, by decide +kernel, by decide +kernel⟩, fun kV doc pm an cdv ct => sp1 (fun _ => by kernel_rfl) (fun _ => by kernel_rfl), rfl, .inl (by decide +kernel), isE (by decide +kernel)⟩
theorem t17t : DefT LI K83.pg cf true d17 17 ["thing"] K83.N_is_some_step false K83.b_is_some_step false false := ⟨⟨rfl, rfl, rfl, by decide +kernel, rfl, by decide +kernel, by decide +kernel⟩, fun kV doc pm an cdv ct => sp1 (fun _ => by kernel_rfl) (fun _ => by kernel_rfl), rfl, .inl (by decide +kernel), isE (by decide +kernel)⟩
theorem t18f : DefT LI K83.pg cf false d18 18 ["step"] K83.N_step_text false K83.b_step_text false false := ⟨⟨rfl, rfl, rfl, by decide +kernel, rfl, by decide +kernel, by decide +kernel⟩, fun kV doc pm an cdv ct => sp1 (fun _ => by kernel_rfl) (fun _ => by kernel_rfl), rfl, .inl (by decide +kernel), isE (by decide +kernel)⟩
theorem t18t : DefT LI K83.pg cf true d18 18 ["step"] K83.N_step_text false K83.b_step_text false false := ⟨⟨rfl, rfl, rfl, by decide +kernel, rfl, by decide +kernel, by decide +kernel⟩, fun kV doc pm an cdv ct => sp1 (fun _ => by kernel_rfl) (fun _ => by kernel_rfl), rfl, .inl (by decide +kernel), isE (by decide +kernel)⟩
theorem t19f : DefT LI K83.pg cf false d19 19 ["text"] K83.N_read_step false K83.b_read_step false false := ⟨⟨rfl, rfl, rfl, by decide +kernel, rfl, by decide +kernel, by decide +kernel⟩, fun kV doc pm an cdv ct => sp1 (fun _ => by kernel_rfl) (fun _ => by kernel_rfl), rfl, .inl (by decide +kernel), isE (by decide +kernel)⟩
theorem t19t : DefT LI K83.pg cf true d19 19 ["text"] K83.N_read_step false K83.b_read_step false false := ⟨⟨rfl, rfl, rfl, by decide +kernel, rfl, by decide +kernel, by decide +kernel⟩, fun kV doc pm an cdv ct => sp1 (fun _ => by kernel_rfl) (fun _ => by kernel_rfl), rfl, .inl (by decide +kernel), isE (by decide +kernel)⟩
theorem t20f : DefT LI K83.pg cf false d20 20 ["piece"] K83.N_piece_text false K83.b_piece_text false true := ⟨⟨rfl, rfl, rfl, by decide +kernel, rfl, by decide +kernel, by decide +kernel⟩, fun kV doc pm an cdv ct => sp1 (fun _ => by kernel_rfl) (fun _ => by kernel_rfl), rfl, .inl (by decide +kernel), isE (by decide +kernel)⟩
theorem t21f : DefT LI K83.pg cf false d21 21 ["text"] K83.N_read_piece false K83.b_read_piece false true := ⟨⟨rfl, rfl, rfl, by decide +kernel, rfl, by decide +kernel, by decide +kernel⟩, fun kV doc pm an cdv ct => sp1 (fun _ => by kernel_rfl) (fun _ => by kernel_rfl), rfl, .inl (by decide +kernel), isE (by decide +kernel)⟩
theorem t22f : DefT LI K83.pg cf false d22 22 ["script", "many", "salt"] K83.N__law_tape true K83.b__law_tape false false := ⟨⟨rfl, rfl, rfl, by decide +kernel, rfl, by decide +kernel, by decide +kernel⟩, fun kV doc pm an cdv ct => sp3 (fun _ _ _ => by kernel_rfl) (fun _ _ _ => by kernel_rfl) (fun _ _ _ => by kernel_rfl) (fun _ _ _ => by kernel_rfl), rfl, .inl (by decide +kernel), isE (by decide +kernel)⟩
theorem t23f : DefT LI K83.pg cf false d23 23 ["tape", "limit"] K83.N__law_take false K83.b__law_take false false := ⟨⟨rfl, rfl, rfl, by decide +kernel, rfl, by decide +kernel, by decide +kernel⟩, fun kV doc pm an cdv ct => sp2 (fun _ _ => by kernel_rfl) (fun _ _ => by kernel_rfl) (fun _ _ => by kernel_rfl), rfl, .inl (by decide +kernel), isE (by decide +kernel)⟩
theorem t24f : DefT LI K83.pg cf false d24 24 ["told", "due"] K83.N__law_like false K83.b__law_like false false := ⟨⟨rfl, rfl, rfl, by decide +kernel, rfl, by decide +kernel, by decide +kernel⟩, fun kV doc pm an cdv ct => sp2 (fun _ _ => by kernel_rfl) (fun _ _ => by kernel_rfl) (fun _ _ => by kernel_rfl), rfl, .inl (by decide +kernel), isE (by decide +kernel)⟩
theorem t25f : DefT LI K83.pg cf false d25 25 ["action", "due"] K83.N__law_is false K83.b__law_is false false := ⟨⟨rfl, rfl, rfl, by decide +kernel, rfl, by decide +kernel, by decide +kernel⟩, fun kV doc pm an cdv ct => sp2 (fun _ _ => by kernel_rfl) (fun _ _ => by kernel_rfl) (fun _ _ => by kernel_rfl), rfl, .inl (by decide +kernel), isE (by decide +kernel)⟩
theorem t26f : DefT LI K83.pg cf false d26 26 ["top", "bottom"] K83.N__law_share false K83.b__law_share false false := ⟨⟨rfl, rfl, rfl, by decide +kernel, rfl, by decide +kernel, by decide +kernel⟩, fun kV doc pm an cdv ct => sp2 (fun _ _ => by kernel_rfl) (fun _ _ => by kernel_rfl) (fun _ _ => by kernel_rfl), rfl, .inl (by decide +kernel), isE (by decide +kernel)⟩
theorem t27f : DefT LI K83.pg cf false d27 27 ["one", "other"] K83.N__law_plus false K83.b__law_plus false false := ⟨⟨rfl, rfl, rfl, by decide +kernel, rfl, by decide +kernel, by decide +kernel⟩, fun kV doc pm an cdv ct => sp2 (fun _ _ => by kernel_rfl) (fun _ _ => by kernel_rfl) (fun _ _ => by kernel_rfl), rfl, .inl (by decide +kernel), isE (by decide +kernel)⟩
theorem t28f : DefT LI K83.pg cf false d28 28 ["shares"] K83.N__law_sum false K83.b__law_sum false false := ⟨⟨rfl, rfl, rfl, by decide +kernel, rfl, by decide +kernel, by decide +kernel⟩, fun kV doc pm an cdv ct => sp1 (fun _ => by kernel_rfl) (fun _ => by kernel_rfl), rfl, .inl (by decide +kernel), isE (by decide +kernel)⟩
theorem t29f : DefT LI K83.pg cf false d29 29 ["tape", "whole", "many"] K83.N__law_parts false K83.b__law_parts false false := ⟨⟨rfl, rfl, rfl, by decide +kernel, rfl, by decide +kernel, by decide +kernel⟩, fun kV doc pm an cdv ct => sp3 (fun _ _ _ => by kernel_rfl) (fun _ _ _ => by kernel_rfl) (fun _ _ _ => by kernel_rfl) (fun _ _ _ => by kernel_rfl), rfl, .inl (by decide +kernel), isE (by decide +kernel)⟩
theorem t30f : DefT LI K83.pg cf false d30 30 ["tape", "most", "doors"] K83.N__law_piece false K83.b__law_piece false false := ⟨⟨rfl, rfl, rfl, by decide +kernel, rfl, by decide +kernel, by decide +kernel⟩, fun kV doc pm an cdv ct => sp3 (fun _ _ _ => by kernel_rfl) (fun _ _ _ => by kernel_rfl) (fun _ _ _ => by kernel_rfl) (fun _ _ _ => by kernel_rfl), rfl, .inl (by decide +kernel), isE (by decide +kernel)⟩
theorem t31f : DefT LI K83.pg cf false d31 31 ["thing"] K83.N__law_is_share false K83.b__law_is_share false false := ⟨⟨rfl, rfl, rfl, by decide +kernel, rfl, by decide +kernel, by decide +kernel⟩, fun kV doc pm an cdv ct => sp1 (fun _ => by kernel_rfl) (fun _ => by kernel_rfl), rfl, .inl (by decide +kernel), isE (by decide +kernel)⟩
theorem t32f : DefT LI K83.pg cf false d32 32 ["thing"] K83.N__law_piece_fault false K83.b__law_piece_fault false false := ⟨⟨rfl, rfl, rfl, by decide +kernel, rfl, by decide +kernel, by decide +kernel⟩, fun kV doc pm an cdv ct => sp1 (fun _ => by kernel_rfl) (fun _ => by kernel_rfl), rfl, .inl (by decide +kernel), isE (by decide +kernel)⟩
theorem t33f : DefT LI K83.pg cf false d33 33 ["action"] K83.N__law_told false K83.b__law_told false false := ⟨⟨rfl, rfl, rfl, by decide +kernel, rfl, by decide +kernel, by decide +kernel⟩, fun kV doc pm an cdv ct => sp1 (fun _ => by kernel_rfl) (fun _ => by kernel_rfl), rfl, .inl (by decide +kernel), isE (by decide +kernel)⟩
theorem t34f : DefT LI K83.pg cf false d34 34 ["share"] K83.N__law_share_text false K83.b__law_share_text false false := ⟨⟨rfl, rfl, rfl, by decide +kernel, rfl, by decide +kernel, by decide +kernel⟩, fun kV doc pm an cdv ct => sp1 (fun _ => by kernel_rfl) (fun _ => by kernel_rfl), rfl, .inl (by decide +kernel), isE (by decide +kernel)⟩
theorem t35f : DefT LI K83.pg cf false d35 35 ["step"] K83.N__law_step_text false K83.b__law_step_text false false := ⟨⟨rfl, rfl, rfl, by decide +kernel, rfl, by decide +kernel, by decide +kernel⟩, fun kV doc pm an cdv ct => sp1 (fun _ => by kernel_rfl) (fun _ => by kernel_rfl), rfl, .inl (by decide +kernel), isE (by decide +kernel)⟩
theorem t36f : DefT LI K83.pg cf false d36 36 ["piece"] K83.N__law_piece_text false K83.b__law_piece_text false false := ⟨⟨rfl, rfl, rfl, by decide +kernel, rfl, by decide +kernel, by decide +kernel⟩, fun kV doc pm an cdv ct => sp1 (fun _ => by kernel_rfl) (fun _ => by kernel_rfl), rfl, .inl (by decide +kernel), isE (by decide +kernel)⟩
theorem t37f : DefT LI K83.pg cf false d37 37 ["text"] K83.N__law_figures false K83.b__law_figures false false := ⟨⟨rfl, rfl, rfl, by decide +kernel, rfl, by decide +kernel, by decide +kernel⟩, fun kV doc pm an cdv ct => sp1 (fun _ => by kernel_rfl) (fun _ => by kernel_rfl), rfl, .inl (by decide +kernel), isE (by decide +kernel)⟩
theorem t38f : DefT LI K83.pg cf false d38 38 ["text"] K83.N__law_read_share false K83.b__law_read_share false false := ⟨⟨rfl, rfl, rfl, by decide +kernel, rfl, by decide +kernel, by decide +kernel⟩, fun kV doc pm an cdv ct => sp1 (fun _ => by kernel_rfl) (fun _ => by kernel_rfl), rfl, .inl (by decide +kernel), isE (by decide +kernel)⟩
theorem t39f : DefT LI K83.pg cf false d39 39 ["text"] K83.N__law_read_step false K83.b__law_read_step false false := ⟨⟨rfl, rfl, rfl, by decide +kernel, rfl, by decide +kernel, by decide +kernel⟩, fun kV doc pm an cdv ct => sp1 (fun _ => by kernel_rfl) (fun _ => by kernel_rfl), rfl, .inl (by decide +kernel), isE (by decide +kernel)⟩
theorem t40f : DefT LI K83.pg cf false d40 40 ["text"] K83.N__law_read_piece false K83.b__law_read_piece false false := ⟨⟨rfl, rfl, rfl, by decide +kernel, rfl, by decide +kernel, by decide +kernel⟩, fun kV doc pm an cdv ct => sp1 (fun _ => by kernel_rfl) (fun _ => by kernel_rfl), rfl, .inl (by decide +kernel), isE (by decide +kernel)⟩
theorem t41f : DefT LI K83.pg cf false d41 41 ["text"] K83.N__law_read_right false K83.b__law_read_right true false := ⟨⟨rfl, rfl, rfl, by decide +kernel, rfl, by decide +kernel, by decide +kernel⟩, fun kV doc pm an cdv ct => sp1 (fun _ => by kernel_rfl) (fun _ => by kernel_rfl), rfl, .inl (by decide +kernel), fun p hp => lkl lam_nd (List.mem_append_left _ (List.mem_append_left _ (List.mem_append_left _ (hp))))⟩
theorem t42f : DefT LI K83.pg cf false d42 42 ["tape"] K83.N__law_drawn_share false K83.b__law_drawn_share false false := ⟨⟨rfl, rfl, rfl, by decide +kernel, rfl, by decide +kernel, by decide +kernel⟩, fun kV doc pm an cdv ct => sp1 (fun _ => by kernel_rfl) (fun _ => by kernel_rfl), rfl, .inl (by decide +kernel), isE (by decide +kernel)⟩
theorem t43f : DefT LI K83.pg cf false d43 43 ["tape", "text"] K83.N__law_bent false K83.b__law_bent false false := ⟨⟨rfl, rfl, rfl, by decide +kernel, rfl, by decide +kernel, by decide +kernel⟩, fun kV doc pm an cdv ct => sp2 (fun _ _ => by kernel_rfl) (fun _ _ => by kernel_rfl) (fun _ _ => by kernel_rfl), rfl, .inr ⟨by decide +kernel, by decide, rfl, rfl, by decide +kernel⟩, isE (by decide +kernel)⟩
theorem t44f : DefT LI K83.pg cf false d44 44 [] K83.N__law_by_hand_right false K83.b__law_by_hand_right true false := ⟨⟨rfl, rfl, rfl, by decide +kernel, rfl, by decide +kernel, by decide +kernel⟩, fun kV doc pm an cdv ct => sp0 (by kernel_rfl), rfl, .inl (by decide +kernel), fun p hp => lkl lam_nd (List.mem_append_left _ (List.mem_append_left _ (List.mem_append_right _ (hp))))⟩
theorem t45f : DefT LI K83.pg cf false d45 45 [] K83.N__law_refused_right false K83.b__law_refused_right true false := ⟨⟨rfl, rfl, rfl, by decide +kernel, rfl, by decide +kernel, by decide +kernel⟩, fun kV doc pm an cdv ct => sp0 (by kernel_rfl), rfl, .inl (by decide +kernel), fun p hp => lkl lam_nd (List.mem_append_left _ (List.mem_append_right _ (hp)))⟩
theorem t46f : DefT LI K83.pg cf false d46 46 ["script"] K83.N_law false K83.b_law true false := ⟨⟨rfl, rfl, rfl, by decide +kernel, rfl, by decide +kernel, by decide +kernel⟩, fun kV doc pm an cdv ct => sp1 (fun _ => by kernel_rfl) (fun _ => by kernel_rfl), rfl, .inl (by decide +kernel), fun p hp => lkl lam_nd (List.mem_append_right _ (hp))⟩
def lz : LamI := lamOf [] [] (L2.defArgs (top 66)) (.Name "x" ⟨0, 0, 0, 0⟩) (L2.defScope (top 66))
abbrev lamAt (j : Nat) : Nat × LamI := lamL.getD j (0, lz)
theorem lam_len : lamL.length = 13 := by decide +kernel
theorem lt0 : LamT1 K83.pg cf.nm (lamAt 0) := ⟨by decide +kernel, rfl, .inl ⟨rfl, fun _ _ _ _ _ => rfl⟩, ⟨K83.l0, rfl, by decide +kernel, by decide +kernel⟩⟩
theorem lt1 : LamT1 K83.pg cf.nm (lamAt 1) := ⟨by decide +kernel, rfl, .inl ⟨rfl, fun _ _ _ _ _ => rfl⟩, ⟨K83.l1, rfl, by decide +kernel, by decide +kernel⟩⟩
theorem lt2 : LamT1 K83.pg cf.nm (lamAt 2) := ⟨by decide +kernel, rfl, .inl ⟨rfl, fun _ _ _ _ _ => rfl⟩, ⟨K83.l2, rfl, by decide +kernel, by decide +kernel⟩⟩
theorem lt3 : LamT1 K83.pg cf.nm (lamAt 3) := ⟨by decide +kernel, rfl, .inl ⟨rfl, fun _ _ _ _ _ => rfl⟩, ⟨K83.l3, rfl, by decide +kernel, by decide +kernel⟩⟩
theorem lt4 : LamT1 K83.pg cf.nm (lamAt 4) := ⟨by decide +kernel, rfl, .inr ⟨0, rfl, fun _ _ _ _ _ _ => ⟨_, rfl, fun _ => rfl⟩⟩, ⟨K83.l4, rfl, by decide +kernel, by decide +kernel⟩⟩
theorem lt5 : LamT1 K83.pg cf.nm (lamAt 5) := ⟨by decide +kernel, rfl, .inr ⟨0, rfl, fun _ _ _ _ _ _ => ⟨_, rfl, fun _ => rfl⟩⟩, ⟨K83.l5, rfl, by decide +kernel, by decide +kernel⟩⟩
theorem lt6 : LamT1 K83.pg cf.nm (lamAt 6) := ⟨by decide +kernel, rfl, .inl ⟨rfl, fun _ _ _ _ _ => rfl⟩, ⟨K83.l6, rfl, by decide +kernel, by decide +kernel⟩⟩
theorem lt7 : LamT1 K83.pg cf.nm (lamAt 7) := ⟨by decide +kernel, rfl, .inr ⟨0, rfl, fun _ _ _ _ _ _ => ⟨_, rfl, fun _ => rfl⟩⟩, ⟨K83.l7, rfl, by decide +kernel, by decide +kernel⟩⟩
theorem lt8 : LamT1 K83.pg cf.nm (lamAt 8) := ⟨by decide +kernel, rfl, .inl ⟨rfl, fun _ _ _ _ _ => rfl⟩, ⟨K83.l8, rfl, by decide +kernel, by decide +kernel⟩⟩
theorem lt9 : LamT1 K83.pg cf.nm (lamAt 9) := ⟨by decide +kernel, rfl, .inl ⟨rfl, fun _ _ _ _ _ => rfl⟩, ⟨K83.l9, rfl, by decide +kernel, by decide +kernel⟩⟩
theorem lt10 : LamT1 K83.pg cf.nm (lamAt 10) := ⟨by decide +kernel, rfl, .inl ⟨rfl, fun _ _ _ _ _ => rfl⟩, ⟨K83.l10, rfl, by decide +kernel, by decide +kernel⟩⟩
theorem lt11 : LamT1 K83.pg cf.nm (lamAt 11) := ⟨by decide +kernel, rfl, .inr ⟨0, rfl, fun _ _ _ _ _ _ => ⟨_, rfl, fun _ => rfl⟩⟩, ⟨K83.l11, rfl, by decide +kernel, by decide +kernel⟩⟩
theorem lt12 : LamT1 K83.pg cf.nm (lamAt 12) := ⟨by decide +kernel, rfl, .inl ⟨rfl, fun _ _ _ _ _ => rfl⟩, ⟨K83.l12, rfl, by decide +kernel, by decide +kernel⟩⟩
theorem lam_all : ∀ p ∈ lamL, LamT1 K83.pg cf.nm p := all_getD (z := (0, lz)) 13 lam_len fun
  | 0, _ => lt0
  | 1, _ => lt1
  | 2, _ => lt2
  | 3, _ => lt3
  | 4, _ => lt4
  | 5, _ => lt5
  | 6, _ => lt6
  | 7, _ => lt7
  | 8, _ => lt8
  | 9, _ => lt9
  | 10, _ => lt10
  | 11, _ => lt11
  | 12, _ => lt12
  | n + 13, h => absurd h (by omega)
def it_BadPiece : IniT := match i_BadPiece.body, (i_BadPiece.params.posonlyargs ++ i_BadPiece.params.args).head? with
  | [.Expr (.Call (.Attribute (.Call (.Name _ p0) _ _ p1) _ apos) [.Constant (.str txt) j c0, .Name y c1] _ cpos) epos, .Assign [.Attribute (.Name x p2) _ p3] (.Name _ p4) ap], some ar => ⟨txt, x, y, j, p0, p1, apos, c0, c1, cpos, epos, p2, p3, p4, ap, ar⟩
  | _, _ => ⟨"", "", "", 0, ⟨0, 0, 0, 0⟩, ⟨0, 0, 0, 0⟩, ⟨0, 0, 0, 0⟩, ⟨0, 0, 0, 0⟩, ⟨0, 0, 0, 0⟩, ⟨0, 0, 0, 0⟩, ⟨0, 0, 0, 0⟩, ⟨0, 0, 0, 0⟩, ⟨0, 0, 0, 0⟩, ⟨0, 0, 0, 0⟩, ⟨0, 0, 0, 0⟩, ⟨"", none, ⟨0, 0, 0, 0⟩⟩⟩
theorem tx_BadPiece : IniText i_BadPiece "place" it_BadPiece := ⟨rfl, fun _ _ _ _ _ _ _ _ _ => by kernel_rfl, rfl, rfl, by decide +kernel, by decide +kernel, by decide +kernel, by decide +kernel, by decide +kernel, rfl, rfl, rfl, by decide +kernel, by decide +kernel, by decide +kernel, ⟨_, fun _ _ _ _ => rfl⟩, fun _ _ _ _ => rfl, fun _ _ _ _ => rfl⟩
def it_BadText : IniT := match i_BadText.body, (i_BadText.params.posonlyargs ++ i_BadText.params.args).head? with
  | [.Expr (.Call (.Attribute (.Call (.Name _ p0) _ _ p1) _ apos) [.Constant (.str txt) j c0, .Name y c1] _ cpos) epos, .Assign [.Attribute (.Name x p2) _ p3] (.Name _ p4) ap], some ar => ⟨txt, x, y, j, p0, p1, apos, c0, c1, cpos, epos, p2, p3, p4, ap, ar⟩
  | _, _ => ⟨"", "", "", 0, ⟨0, 0, 0, 0⟩, ⟨0, 0, 0, 0⟩, ⟨0, 0, 0, 0⟩, ⟨0, 0, 0, 0⟩, ⟨0, 0, 0, 0⟩, ⟨0, 0, 0, 0⟩, ⟨0, 0, 0, 0⟩, ⟨0, 0, 0, 0⟩, ⟨0, 0, 0, 0⟩, ⟨0, 0, 0, 0⟩, ⟨0, 0, 0, 0⟩, ⟨"", none, ⟨0, 0, 0, 0⟩⟩⟩
theorem tx_BadText : IniText i_BadText "place" it_BadText := ⟨rfl, fun _ _ _ _ _ _ _ _ _ => by kernel_rfl, rfl, rfl, by decide +kernel, by decide +kernel, by decide +kernel, by decide +kernel, by decide +kernel, rfl, rfl, rfl, by decide +kernel, by decide +kernel, by decide +kernel, ⟨_, fun _ _ _ _ => rfl⟩, fun _ _ _ _ => rfl, fun _ _ _ _ => rfl⟩
theorem noLa {p : Prop} (z : false = true) : p := nomatch z
section
variable {w : World} {K : Frag} {h base : Heap} {mg : Str → Option Value}
theorem wok (KX : K.In h) (G : h.Ns mainGlobals mg) (c : SaysX fa fnL ciL tbL ex K h) (htab : ∀ p ∈ tbL, LamX.TabB base mg (tabOf K p).1 (tabOf K p).2) : WOk R.prog w K mg base (gOf K) K83.pg cf := by
  have e := c.ex
  unfold ex at e
  simp only [Bool.and_eq_true, decide_eq_true_eq] at e
  obtain ⟨⟨⟨⟨⟨⟨⟨⟨e0, e1⟩, e2⟩, e3⟩, e4⟩, e5⟩, e6⟩, e7⟩, e8⟩ := e
  have htb : ∀ p ∈ tbL, codeHdIn K (tabOf K p).1 (tabOf K p).2 = true ∧ LamX.TabB base mg (tabOf K p).1 (tabOf K p).2 := fun p hp => ⟨(c.tb p hp).2.2, htab p hp⟩
  have gs : mg "super" = none := He.free_ok KX G (c.d.fact 72 rfl)
  have hi0 := ini_of (P := R.prog) (mg := mg) ((List.map_inj_left.mp c.ci) i_BadPiece (List.mem_of_getElem? (i := 0) rfl)) e0 tx_BadPiece (by kernel_rfl) (by decide +kernel) gs
  have hg0 : mg "BadPiece" = some (.ref (He.ga K "BadPiece")) := He.glo_ok KX G (c.d.fact 55 rfl)
  have hi1 := ini_of (P := R.prog) (mg := mg) ((List.map_inj_left.mp c.ci) i_BadText (List.mem_of_getElem? (i := 1) rfl)) e1 tx_BadText (by kernel_rfl) (by decide +kernel) gs
  have hg1 : mg "BadText" = some (.ref (He.ga K "BadText")) := He.glo_ok KX G (c.d.fact 56 rfl)
  constructor
  · rfl
  · intro m fi x ps hf
    cases m with
    | false =>
      have hf : K83.fnT fi = some (x, ps) := hf
      revert hf
      match fi with
      | 0 => exact fun hf => pick (M := fun x ps => ∃ d, FnGood K mg base (gOf K) K83.pg cf false d 0 x ps) rfl hf (good_of (tb := tbL) (c.d.def_ 0 rfl) rfl t0f (He.glo_ok KX G (c.d.fact 0 rfl)) rfl e4 htb noLa)
      | 1 => exact fun hf => pick (M := fun x ps => ∃ d, FnGood K mg base (gOf K) K83.pg cf false d 1 x ps) rfl hf (good_of (tb := tbL) (c.d.def_ 1 rfl) rfl t1f (He.glo_ok KX G (c.d.fact 1 rfl)) rfl e4 htb noLa)
      | 2 => exact fun hf => pick (M := fun x ps => ∃ d, FnGood K mg base (gOf K) K83.pg cf false d 2 x ps) rfl hf (good_of (tb := tbL) (c.d.def_ 2 rfl) rfl t2f (He.glo_ok KX G (c.d.fact 2 rfl)) rfl e4 htb noLa)
      | 3 => exact fun hf => pick (M := fun x ps => ∃ d, FnGood K mg base (gOf K) K83.pg cf false d 3 x ps) rfl hf (good_of (tb := tbL) (c.d.def_ 3 rfl) rfl t3f (He.glo_ok KX G (c.d.fact 3 rfl)) rfl e4 htb noLa)
      | 4 => exact fun hf => pick (M := fun x ps => ∃ d, FnGood K mg base (gOf K) K83.pg cf false d 4 x ps) rfl hf (good_of (tb := tbL) (c.d.def_ 4 rfl) rfl t4f (He.glo_ok KX G (c.d.fact 4 rfl)) rfl e4 htb noLa)
      | 5 => exact fun hf => pick (M := fun x ps => ∃ d, FnGood K mg base (gOf K) K83.pg cf false d 5 x ps) rfl hf (good_of (tb := tbL) (c.d.def_ 5 rfl) rfl t5f (He.glo_ok KX G (c.d.fact 5 rfl)) rfl e4 htb noLa)
      | 6 => exact fun hf => pick (M := fun x ps => ∃ d, FnGood K mg base (gOf K) K83.pg cf false d 6 x ps) rfl hf (good_of (tb := tbL) (c.d.def_ 6 rfl) rfl t6f (He.glo_ok KX G (c.d.fact 6 rfl)) rfl e4 htb noLa)
      | 7 => exact fun hf => pick (M := fun x ps => ∃ d, FnGood K mg base (gOf K) K83.pg cf false d 7 x ps) rfl hf (good_of (tb := tbL) (c.d.def_ 7 rfl) rfl t7f (He.glo_ok KX G (c.d.fact 7 rfl)) rfl e4 htb noLa)
      | 8 => exact fun hf => pick (M := fun x ps => ∃ d, FnGood K mg base (gOf K) K83.pg cf false d 8 x ps) rfl hf (good_of (tb := tbL) (c.d.def_ 8 rfl) rfl t8f (He.glo_ok KX G (c.d.fact 8 rfl)) rfl e4 htb noLa)
      | 9 => exact fun hf => pick (M := fun x ps => ∃ d, FnGood K mg base (gOf K) K83.pg cf false d 9 x ps) rfl hf (good_of (tb := tbL) (c.d.def_ 9 rfl) rfl t9f (He.glo_ok KX G (c.d.fact 9 rfl)) rfl e4 htb noLa)
      | 10 => exact fun hf => pick (M := fun x ps => ∃ d, FnGood K mg base (gOf K) K83.pg cf false d 10 x ps) rfl hf (good_of (tb := tbL) (c.d.def_ 10 rfl) rfl t10f (He.glo_ok KX G (c.d.fact 10 rfl)) rfl e4 htb noLa)
      | 11 => exact fun hf => pick (M := fun x ps => ∃ d, FnGood K mg base (gOf K) K83.pg cf false d 11 x ps) rfl hf (good_of (tb := tbL) (c.d.def_ 11 rfl) rfl t11f (He.glo_ok KX G (c.d.fact 11 rfl)) rfl e4 htb noLa)
      | 12 => exact fun hf => pick (M := fun x ps => ∃ d, FnGood K mg base (gOf K) K83.pg cf false d 12 x ps) rfl hf (good_of (tb := tbL) (c.d.def_ 12 rfl) rfl t12f (He.glo_ok KX G (c.d.fact 12 rfl)) rfl e4 htb noLa)
      | 13 => exact fun hf => pick (M := fun x ps => ∃ d, FnGood K mg base (gOf K) K83.pg cf false d 13 x ps) rfl hf (good_of (tb := tbL) (c.d.def_ 13 rfl) rfl t13f (He.glo_ok KX G (c.d.fact 13 rfl)) rfl e4 htb noLa)
      | 14 => exact fun hf => pick (M := fun x ps => ∃ d, FnGood K mg base (gOf K) K83.pg cf false d 14 x ps) rfl hf (good_of (tb := tbL) (c.d.def_ 14 rfl) rfl t14f (He.glo_ok KX G (c.d.fact 14 rfl)) rfl e4 htb noLa)
      | 15 => exact fun hf => pick (M := fun x ps => ∃ d, FnGood K mg base (gOf K) K83.pg cf false d 15 x ps) rfl hf (good_of (tb := tbL) (c.d.def_ 15 rfl) rfl t15f (He.glo_ok KX G (c.d.fact 15 rfl)) rfl e4 htb noLa)
      | 16 => exact fun hf => pick (M := fun x ps => ∃ d, FnGood K mg base (gOf K) K83.pg cf false d 16 x ps) rfl hf (good_of (tb := tbL) (c.d.def_ 16 rfl) rfl t16f (He.glo_ok KX G (c.d.fact 16 rfl)) rfl e4 htb noLa)
      | 17 => exact fun hf => pick (M := fun x ps => ∃ d, FnGood K mg base (gOf K) K83.pg cf false d 17 x ps) rfl hf (good_of (tb := tbL) (c.d.def_ 17 rfl) rfl t17f (He.glo_ok KX G (c.d.fact 17 rfl)) rfl e4 htb noLa)
      | 18 => exact fun hf => pick (M := fun x ps => ∃ d, FnGood K mg base (gOf K) K83.pg cf false d 18 x ps) rfl hf (good_of (tb := tbL) (c.d.def_ 18 rfl) rfl t18f (He.glo_ok KX G (c.d.fact 18 rfl)) rfl e4 htb noLa)
      | 19 => exact fun hf => pick (M := fun x ps => ∃ d, FnGood K mg base (gOf K) K83.pg cf false d 19 x ps) rfl hf (good_of (tb := tbL) (c.d.def_ 19 rfl) rfl t19f (He.glo_ok KX G (c.d.fact 19 rfl)) rfl e4 htb noLa)
      | 20 => exact fun hf => pick (M := fun x ps => ∃ d, FnGood K mg base (gOf K) K83.pg cf false d 20 x ps) rfl hf (good_of (tb := tbL) (c.d.def_ 20 rfl) rfl t20f (He.glo_ok KX G (c.d.fact 20 rfl)) rfl e4 htb noLa)
      | 21 => exact fun hf => pick (M := fun x ps => ∃ d, FnGood K mg base (gOf K) K83.pg cf false d 21 x ps) rfl hf (good_of (tb := tbL) (c.d.def_ 21 rfl) rfl t21f (He.glo_ok KX G (c.d.fact 21 rfl)) rfl e4 htb noLa)
      | 22 => exact fun hf => pick (M := fun x ps => ∃ d, FnGood K mg base (gOf K) K83.pg cf false d 22 x ps) rfl hf (good_of (tb := tbL) (c.d.def_ 22 rfl) rfl t22f (He.glo_ok KX G (c.d.fact 22 rfl)) rfl e4 htb noLa)
      | 23 => exact fun hf => pick (M := fun x ps => ∃ d, FnGood K mg base (gOf K) K83.pg cf false d 23 x ps) rfl hf (good_of (tb := tbL) (c.d.def_ 23 rfl) rfl t23f (He.glo_ok KX G (c.d.fact 23 rfl)) rfl e4 htb noLa)
      | 24 => exact fun hf => pick (M := fun x ps => ∃ d, FnGood K mg base (gOf K) K83.pg cf false d 24 x ps) rfl hf (good_of (tb := tbL) (c.d.def_ 24 rfl) rfl t24f (He.glo_ok KX G (c.d.fact 24 rfl)) rfl e4 htb noLa)
      | 25 => exact fun hf => pick (M := fun x ps => ∃ d, FnGood K mg base (gOf K) K83.pg cf false d 25 x ps) rfl hf (good_of (tb := tbL) (c.d.def_ 25 rfl) rfl t25f (He.glo_ok KX G (c.d.fact 25 rfl)) rfl e4 htb noLa)
      | 26 => exact fun hf => pick (M := fun x ps => ∃ d, FnGood K mg base (gOf K) K83.pg cf false d 26 x ps) rfl hf (good_of (tb := tbL) (c.d.def_ 26 rfl) rfl t26f (He.glo_ok KX G (c.d.fact 26 rfl)) rfl e4 htb noLa)
      | 27 => exact fun hf => pick (M := fun x ps => ∃ d, FnGood K mg base (gOf K) K83.pg cf false d 27 x ps) rfl hf (good_of (tb := tbL) (c.d.def_ 27 rfl) rfl t27f (He.glo_ok KX G (c.d.fact 27 rfl)) rfl e4 htb noLa)
      | 28 => exact fun hf => pick (M := fun x ps => ∃ d, FnGood K mg base (gOf K) K83.pg cf false d 28 x ps) rfl hf (good_of (tb := tbL) (c.d.def_ 28 rfl) rfl t28f (He.glo_ok KX G (c.d.fact 28 rfl)) rfl e4 htb noLa)
      | 29 => exact fun hf => pick (M := fun x ps => ∃ d, FnGood K mg base (gOf K) K83.pg cf false d 29 x ps) rfl hf (good_of (tb := tbL) (c.d.def_ 29 rfl) rfl t29f (He.glo_ok KX G (c.d.fact 29 rfl)) rfl e4 htb noLa)
      | 30 => exact fun hf => pick (M := fun x ps => ∃ d, FnGood K mg base (gOf K) K83.pg cf false d 30 x ps) rfl hf (good_of (tb := tbL) (c.d.def_ 30 rfl) rfl t30f (He.glo_ok KX G (c.d.fact 30 rfl)) rfl e4 htb noLa)
      | 31 => exact fun hf => pick (M := fun x ps => ∃ d, FnGood K mg base (gOf K) K83.pg cf false d 31 x ps) rfl hf (good_of (tb := tbL) (c.d.def_ 31 rfl) rfl t31f (He.glo_ok KX G (c.d.fact 31 rfl)) rfl e4 htb noLa)
      | 32 => exact fun hf => pick (M := fun x ps => ∃ d, FnGood K mg base (gOf K) K83.pg cf false d 32 x ps) rfl hf (good_of (tb := tbL) (c.d.def_ 32 rfl) rfl t32f (He.glo_ok KX G (c.d.fact 32 rfl)) rfl e4 htb noLa)
      | 33 => exact fun hf => pick (M := fun x ps => ∃ d, FnGood K mg base (gOf K) K83.pg cf false d 33 x ps) rfl hf (good_of (tb := tbL) (c.d.def_ 33 rfl) rfl t33f (He.glo_ok KX G (c.d.fact 33 rfl)) rfl e4 htb noLa)
      | 34 => exact fun hf => pick (M := fun x ps => ∃ d, FnGood K mg base (gOf K) K83.pg cf false d 34 x ps) rfl hf (good_of (tb := tbL) (c.d.def_ 34 rfl) rfl t34f (He.glo_ok KX G (c.d.fact 34 rfl)) rfl e4 htb noLa)
      | 35 => exact fun hf => pick (M := fun x ps => ∃ d, FnGood K mg base (gOf K) K83.pg cf false d 35 x ps) rfl hf (good_of (tb := tbL) (c.d.def_ 35 rfl) rfl t35f (He.glo_ok KX G (c.d.fact 35 rfl)) rfl e4 htb noLa)
      | 36 => exact fun hf => pick (M := fun x ps => ∃ d, FnGood K mg base (gOf K) K83.pg cf false d 36 x ps) rfl hf (good_of (tb := tbL) (c.d.def_ 36 rfl) rfl t36f (He.glo_ok KX G (c.d.fact 36 rfl)) rfl e4 htb noLa)
      | 37 => exact fun hf => pick (M := fun x ps => ∃ d, FnGood K mg base (gOf K) K83.pg cf false d 37 x ps) rfl hf (good_of (tb := tbL) (c.d.def_ 37 rfl) rfl t37f (He.glo_ok KX G (c.d.fact 37 rfl)) rfl e4 htb noLa)
      | 38 => exact fun hf => pick (M := fun x ps => ∃ d, FnGood K mg base (gOf K) K83.pg cf false d 38 x ps) rfl hf (good_of (tb := tbL) (c.d.def_ 38 rfl) rfl t38f (He.glo_ok KX G (c.d.fact 38 rfl)) rfl e4 htb noLa)
      | 39 => exact fun hf => pick (M := fun x ps => ∃ d, FnGood K mg base (gOf K) K83.pg cf false d 39 x ps) rfl hf (good_of (tb := tbL) (c.d.def_ 39 rfl) rfl t39f (He.glo_ok KX G (c.d.fact 39 rfl)) rfl e4 htb noLa)
      | 40 => exact fun hf => pick (M := fun x ps => ∃ d, FnGood K mg base (gOf K) K83.pg cf false d 40 x ps) rfl hf (good_of (tb := tbL) (c.d.def_ 40 rfl) rfl t40f (He.glo_ok KX G (c.d.fact 40 rfl)) rfl e4 htb noLa)
      | 41 => exact fun hf => pick (M := fun x ps => ∃ d, FnGood K mg base (gOf K) K83.pg cf false d 41 x ps) rfl hf (good_of (tb := tbL) (c.d.def_ 41 rfl) rfl t41f (He.glo_ok KX G (c.d.fact 41 rfl)) rfl e4 htb (fun _ => ⟨List.mem_of_getElem? (i := 0) rfl, rfl⟩))
      | 42 => exact fun hf => pick (M := fun x ps => ∃ d, FnGood K mg base (gOf K) K83.pg cf false d 42 x ps) rfl hf (good_of (tb := tbL) (c.d.def_ 42 rfl) rfl t42f (He.glo_ok KX G (c.d.fact 42 rfl)) rfl e4 htb noLa)
      | 43 => exact fun hf => pick (M := fun x ps => ∃ d, FnGood K mg base (gOf K) K83.pg cf false d 43 x ps) rfl hf (good_of (tb := tbL) (c.d.def_ 43 rfl) rfl t43f (He.glo_ok KX G (c.d.fact 43 rfl)) rfl e4 htb noLa)
      | 44 => exact fun hf => pick (M := fun x ps => ∃ d, FnGood K mg base (gOf K) K83.pg cf false d 44 x ps) rfl hf (good_of (tb := tbL) (c.d.def_ 44 rfl) rfl t44f (He.glo_ok KX G (c.d.fact 44 rfl)) rfl e4 htb (fun _ => ⟨List.mem_of_getElem? (i := 1) rfl, rfl⟩))
      | 45 => exact fun hf => pick (M := fun x ps => ∃ d, FnGood K mg base (gOf K) K83.pg cf false d 45 x ps) rfl hf (good_of (tb := tbL) (c.d.def_ 45 rfl) rfl t45f (He.glo_ok KX G (c.d.fact 45 rfl)) rfl e4 htb (fun _ => ⟨List.mem_of_getElem? (i := 2) rfl, rfl⟩))
      | 46 => exact fun hf => pick (M := fun x ps => ∃ d, FnGood K mg base (gOf K) K83.pg cf false d 46 x ps) rfl hf (good_of (tb := tbL) (c.d.def_ 46 rfl) rfl t46f (He.glo_ok KX G (c.d.fact 46 rfl)) rfl e4 htb (fun _ => ⟨List.mem_of_getElem? (i := 3) rfl, rfl⟩))
      | n + 47 => intro hf; cases hf
    | true =>
      have hf : fnTN fi = some (x, ps) := hf
      revert hf
      match fi with
      | 0 => exact fun hf => pick (M := fun x ps => ∃ d, FnGood K mg base (gOf K) K83.pg cf true d 0 x ps) rfl hf (good_of (tb := tbL) (c.d.def_ 0 rfl) rfl t0t (He.glo_ok KX G (c.d.fact 0 rfl)) rfl e4 htb noLa)
      | 1 => exact fun hf => pick (M := fun x ps => ∃ d, FnGood K mg base (gOf K) K83.pg cf true d 1 x ps) rfl hf (good_of (tb := tbL) (c.d.def_ 1 rfl) rfl t1t (He.glo_ok KX G (c.d.fact 1 rfl)) rfl e4 htb noLa)
      | 2 => exact fun hf => pick (M := fun x ps => ∃ d, FnGood K mg base (gOf K) K83.pg cf true d 2 x ps) rfl hf (good_of (tb := tbL) (c.d.def_ 2 rfl) rfl t2t (He.glo_ok KX G (c.d.fact 2 rfl)) rfl e4 htb noLa)
      | 3 => exact fun hf => pick (M := fun x ps => ∃ d, FnGood K mg base (gOf K) K83.pg cf true d 3 x ps) rfl hf (good_of (tb := tbL) (c.d.def_ 3 rfl) rfl t3t (He.glo_ok KX G (c.d.fact 3 rfl)) rfl e4 htb noLa)
      | 4 => exact fun hf => pick (M := fun x ps => ∃ d, FnGood K mg base (gOf K) K83.pg cf true d 4 x ps) rfl hf (good_of (tb := tbL) (c.d.def_ 4 rfl) rfl t4t (He.glo_ok KX G (c.d.fact 4 rfl)) rfl e4 htb noLa)
      | 5 => exact fun hf => pick (M := fun x ps => ∃ d, FnGood K mg base (gOf K) K83.pg cf true d 5 x ps) rfl hf (good_of (tb := tbL) (c.d.def_ 5 rfl) rfl t5t (He.glo_ok KX G (c.d.fact 5 rfl)) rfl e4 htb noLa)
      | 6 => exact fun hf => pick (M := fun x ps => ∃ d, FnGood K mg base (gOf K) K83.pg cf true d 6 x ps) rfl hf (good_of (tb := tbL) (c.d.def_ 6 rfl) rfl t6t (He.glo_ok KX G (c.d.fact 6 rfl)) rfl e4 htb noLa)
      | 7 => exact fun hf => pick (M := fun x ps => ∃ d, FnGood K mg base (gOf K) K83.pg cf true d 7 x ps) rfl hf (good_of (tb := tbL) (c.d.def_ 7 rfl) rfl t7t (He.glo_ok KX G (c.d.fact 7 rfl)) rfl e4 htb noLa)
      | 8 => exact fun hf => pick (M := fun x ps => ∃ d, FnGood K mg base (gOf K) K83.pg cf true d 8 x ps) rfl hf (good_of (tb := tbL) (c.d.def_ 8 rfl) rfl t8t (He.glo_ok KX G (c.d.fact 8 rfl)) rfl e4 htb noLa)
      | 9 => exact fun hf => pick (M := fun x ps => ∃ d, FnGood K mg base (gOf K) K83.pg cf true d 9 x ps) rfl hf (good_of (tb := tbL) (c.d.def_ 9 rfl) rfl t9t (He.glo_ok KX G (c.d.fact 9 rfl)) rfl e4 htb noLa)
      | 10 => exact fun hf => pick (M := fun x ps => ∃ d, FnGood K mg base (gOf K) K83.pg cf true d 10 x ps) rfl hf (good_of (tb := tbL) (c.d.def_ 10 rfl) rfl t10t (He.glo_ok KX G (c.d.fact 10 rfl)) rfl e4 htb noLa)
      | 11 => exact fun hf => pick (M := fun x ps => ∃ d, FnGood K mg base (gOf K) K83.pg cf true d 11 x ps) rfl hf (good_of (tb := tbL) (c.d.def_ 11 rfl) rfl t11t (He.glo_ok KX G (c.d.fact 11 rfl)) rfl e4 htb noLa)
      | 12 => exact fun hf => pick (M := fun x ps => ∃ d, FnGood K mg base (gOf K) K83.pg cf true d 12 x ps) rfl hf (good_of (tb := tbL) (c.d.def_ 12 rfl) rfl t12t (He.glo_ok KX G (c.d.fact 12 rfl)) rfl e4 htb noLa)
      | 13 => exact fun hf => pick (M := fun x ps => ∃ d, FnGood K mg base (gOf K) K83.pg cf true d 13 x ps) rfl hf (good_of (tb := tbL) (c.d.def_ 13 rfl) rfl t13t (He.glo_ok KX G (c.d.fact 13 rfl)) rfl e4 htb noLa)
      | 14 => exact fun hf => pick (M := fun x ps => ∃ d, FnGood K mg base (gOf K) K83.pg cf true d 14 x ps) rfl hf (good_of (tb := tbL) (c.d.def_ 14 rfl) rfl t14t (He.glo_ok KX G (c.d.fact 14 rfl)) rfl e4 htb noLa)
      | 15 => exact fun hf => pick (M := fun x ps => ∃ d, FnGood K mg base (gOf K) K83.pg cf true d 15 x ps) rfl hf (good_of (tb := tbL) (c.d.def_ 15 rfl) rfl t15t (He.glo_ok KX G (c.d.fact 15 rfl)) rfl e4 htb noLa)
      | 16 => exact fun hf => pick (M := fun x ps => ∃ d, FnGood K mg base (gOf K) K83.pg cf true d 16 x ps) rfl hf (good_of (tb := tbL) (c.d.def_ 16 rfl) rfl t16t (He.glo_ok KX G (c.d.fact 16 rfl)) rfl e4 htb noLa)
      | 17 => exact fun hf => pick (M := fun x ps => ∃ d, FnGood K mg base (gOf K) K83.pg cf true d 17 x ps) rfl hf (good_of (tb := tbL) (c.d.def_ 17 rfl) rfl t17t (He.glo_ok KX G (c.d.fact 17 rfl)) rfl e4 htb noLa)
      | 18 => exact fun hf => pick (M := fun x ps => ∃ d, FnGood K mg base (gOf K) K83.pg cf true d 18 x ps) rfl hf (good_of (tb := tbL) (c.d.def_ 18 rfl) rfl t18t (He.glo_ok KX G (c.d.fact 18 rfl)) rfl e4 htb noLa)
      | 19 => exact fun hf => pick (M := fun x ps => ∃ d, FnGood K mg base (gOf K) K83.pg cf true d 19 x ps) rfl hf (good_of (tb := tbL) (c.d.def_ 19 rfl) rfl t19t (He.glo_ok KX G (c.d.fact 19 rfl)) rfl e4 htb noLa)
      | n + 20 => intro hf; cases hf
  · intro fi x ps hf
    have hf : fnTN fi = some (x, ps) := hf
    show K83.fnT fi = some (x, ps)
    revert hf
    match fi with
    | 0 => exact id
    | 1 => exact id
    | 2 => exact id
    | 3 => exact id
    | 4 => exact id
    | 5 => exact id
    | 6 => exact id
    | 7 => exact id
    | 8 => exact id
    | 9 => exact id
    | 10 => exact id
    | 11 => exact id
    | 12 => exact id
    | 13 => exact id
    | 14 => exact id
    | 15 => exact id
    | 16 => exact id
    | 17 => exact id
    | 18 => exact id
    | 19 => exact id
    | n + 20 => intro hf; cases hf
  · intro m k x hk
    have hk : K83.glT k = some x := by cases m <;> exact hk
    revert hk
    match k with
    | 0 => exact fun hk => by obtain ⟨t, ht⟩ := He.int_ok KX G (c.d.fact 47 rfl); cases hk; exact ⟨_, _, .int 1000000000000, rfl, ht, ⟨t, rfl⟩, fun _ _ => rfl⟩
    | 1 => exact fun hk => by cases hk; exact ⟨_, _, .ref (He.ga K "ZERO"), rfl, He.glo_ok KX G (c.d.fact 73 rfl), rfl, rd_tup e2 fun _ _ => ⟨rfl, rfl, trivial⟩⟩
    | 2 => exact fun hk => by cases hk; exact ⟨_, _, .ref (He.ga K "ONE"), rfl, He.glo_ok KX G (c.d.fact 74 rfl), rfl, rd_tup e3 fun _ _ => ⟨rfl, rfl, trivial⟩⟩
    | 3 => exact fun hk => by obtain ⟨t, ht⟩ := He.int_ok KX G (c.d.fact 48 rfl); cases hk; exact ⟨_, _, .int 12, rfl, ht, ⟨t, rfl⟩, fun _ _ => rfl⟩
    | 4 => exact fun hk => by obtain ⟨t, ht⟩ := He.int_ok KX G (c.d.fact 49 rfl); cases hk; exact ⟨_, _, .int 3, rfl, ht, ⟨t, rfl⟩, fun _ _ => rfl⟩
    | 5 => exact fun hk => by obtain ⟨t, ht⟩ := He.int_ok KX G (c.d.fact 50 rfl); cases hk; exact ⟨_, _, .int 40, rfl, ht, ⟨t, rfl⟩, fun _ _ => rfl⟩
    | 6 => exact fun hk => by obtain ⟨t, ht⟩ := He.int_ok KX G (c.d.fact 51 rfl); cases hk; exact ⟨_, _, .int 3, rfl, ht, ⟨t, rfl⟩, fun _ _ => rfl⟩
    | 7 => exact fun hk => by obtain ⟨t, ht⟩ := He.str_ok KX G (c.d.fact 52 rfl); cases hk; exact ⟨_, _, .str (toS [48,49,50,51,52,53,54,55,56,57]), rfl, ht, ⟨t, congrArg (fun z => Value.str z t) (show ("0123456789" : Str) = toS [48,49,50,51,52,53,54,55,56,57] by decide +kernel)⟩, fun _ _ => rfl⟩
    | 8 => exact fun hk => by obtain ⟨t, ht⟩ := He.int_ok KX G (c.d.fact 53 rfl); cases hk; exact ⟨_, _, .int 41, rfl, ht, ⟨t, rfl⟩, fun _ _ => rfl⟩
    | 9 => exact fun hk => by obtain ⟨t, ht⟩ := He.int_ok KX G (c.d.fact 54 rfl); cases hk; exact ⟨_, _, .int 99, rfl, ht, ⟨t, rfl⟩, fun _ _ => rfl⟩
    | n + 10 => intro hk; cases hk
  · intro x hx
    simp only [bltNames, List.mem_cons, List.not_mem_nil, or_false] at hx
    rcases hx with rfl | rfl | rfl | rfl | rfl | rfl | rfl | rfl | rfl | rfl | rfl | rfl | rfl
    · exact He.free_ok KX G (c.d.fact 69 rfl)
    · exact He.free_ok KX G (c.d.fact 59 rfl)
    · exact He.free_ok KX G (c.d.fact 71 rfl)
    · exact He.free_ok KX G (c.d.fact 60 rfl)
    · exact He.free_ok KX G (c.d.fact 61 rfl)
    · exact He.free_ok KX G (c.d.fact 62 rfl)
    · exact He.free_ok KX G (c.d.fact 57 rfl)
    · exact He.free_ok KX G (c.d.fact 58 rfl)
    · exact He.free_ok KX G (c.d.fact 63 rfl)
    · exact He.free_ok KX G (c.d.fact 64 rfl)
    · exact He.free_ok KX G (c.d.fact 66 rfl)
    · exact He.free_ok KX G (c.d.fact 67 rfl)
    · exact He.free_ok KX G (c.d.fact 68 rfl)
  · rfl
  · intro k x hk
    have hk : clT2 k = some x := hk
    revert hk
    match k with
    | 0 => intro hk; cases hk
    | 1 => intro hk; cases hk; obtain ⟨⟨_, a1⟩, a2, a3, a4, _⟩ := hi0; exact ⟨_, _, rfl, hg0, a2, a3, a4, ini_ok a1⟩
    | 2 => intro hk; cases hk; obtain ⟨⟨_, a1⟩, a2, a3, a4, _⟩ := hi1; exact ⟨_, _, rfl, hg1, a2, a3, a4, ini_ok a1⟩
    | n + 3 => intro hk; cases hk
  · intro k k1 x Cc Cc1 f f1 _ h1 h2
    have h1 : CI K k = some (Cc, f) := h1
    have h2 : CI K k1 = some (Cc1, f1) := h2
    revert h1 h2
    match k, k1 with
    | 0, _ => intro hk; cases hk
    | 1, 0 => intro _ hk; cases hk
    | 1, 1 => intro h1 h2; cases h1; cases h2; exact e5
    | 1, 2 => intro h1 h2; cases h1; cases h2; exact e6
    | 1, n + 3 => intro _ hk; cases hk
    | 2, 0 => intro _ hk; cases hk
    | 2, 1 => intro h1 h2; cases h1; cases h2; exact e7
    | 2, 2 => intro h1 h2; cases h1; cases h2; exact e8
    | 2, n + 3 => intro _ hk; cases hk
    | n + 3, _ => intro hk; cases hk
  · intro k Cc f hk
    have hk : CI K k = some (Cc, f) := hk
    revert hk
    match k with
    | 0 => intro hk; cases hk
    | 1 => intro hk; cases hk; obtain ⟨_, _, _, _, a5, a6⟩ := hi0; exact ⟨rfl, a5, L2.xfB_ok a6⟩
    | 2 => intro hk; cases hk; obtain ⟨_, _, _, _, a5, a6⟩ := hi1; exact ⟨rfl, a5, L2.xfB_ok a6⟩
    | n + 3 => intro hk; cases hk
  · intro k li hk
    exact LamT1.ok (lam_all _ (mem_lkl hk))
theorem facts {f : Addr} (KX : K.In h) (G : h.Ns mainGlobals mg) (c : SaysX fa fnL ciL tbL ex K h) (hfa : mg "law" = some (.ref f)) : LamX.LawAtS PySem.Challenge.rw_oddsrooms_k83_whole_texts_of_pieces w K (CXm false R.prog w) (lv 14) 63 "script" mg f h := by
  have e1 := c.ex
  unfold ex at e1
  simp only [Bool.and_eq_true, decide_eq_true_eq] at e1
  obtain ⟨⟨⟨⟨⟨⟨⟨⟨e0, e1⟩, e2⟩, e3⟩, e4⟩, e5⟩, e6⟩, e7⟩, e8⟩ := e1
  obtain ⟨fd, F⟩ := c.d.def_ 46 (d := d46) rfl
  have e := hfa.symm.trans (He.glo_ok KX G (c.d.fact 46 (f := .glo "law") rfl))
  cases e
  have b := L2.FunD.bindsA (ps := ["script"]) F fun _ _ _ _ _ _ us hl => match us, hl with | [_], _ => by kernel_rfl
  refine ⟨fd, tbL.map (tabOf K), spI (gOf K) (callF K83.pg 14) 46 1, ?_, ?_, ?_, fun s u => b s [u] rfl, ?_, fun base hb hg ht => ?_⟩
  · intro p hp
    obtain ⟨q, hq, rfl⟩ := List.mem_map.mp hp
    exact (c.tb q hq).1
  · intro p hp
    obtain ⟨q, hq, rfl⟩ := List.mem_map.mp hp
    exact (c.tb q hq).2.1
  · intro p hp
    obtain ⟨q, hq, rfl⟩ := List.mem_map.mp hp
    exact codeHd_of_K KX (c.tb q hq).2.2
  · intro H a ns hl _ ht hS
    have rs : RS (gOf K).K (gOf K).T [] H [] := ⟨rfl, List.nodup_nil, fun l a o h => by simp at h, fun p hp => by
      obtain ⟨q, hq, rfl⟩ := List.mem_map.mp hp
      exact LamX.TabS.nil (ht _ (List.mem_map.mpr ⟨q, hq, rfl⟩))⟩
    have fin : ∀ v0 : Vl, (v0 = .ro (ns.map D.int) ∨ v0 = .d (.lst (ns.map D.int))) → RVl (gOf K).K (gOf K).LI none [] H v0 (.ref a) → spI (gOf K) (callF K83.pg 14) 46 1 [.ref a] H (fun v _ => v = .bl true) fun _ _ _ => False := fun v0 hv rv => by
      refine ⟨[], [], [v0], rs, ⟨rv, trivial⟩, rfl, ?_⟩
      rw [K83.k83_law 0 ns v0 hv hl]
      exact fun v _ _ _ _ r => r
    rcases hS with hS | ⟨o, its, n, h1, h2, _⟩
    · rcases hS with hS | ⟨o, hS⟩
      · exact fin _ (.inr rfl) ⟨a, ns.map L2.V.int, rfl, ⟨hS, by simp⟩, rds_ints ns⟩
      · exact fin _ (.inl rfl) ⟨a, ns.map L2.V.int, rfl, ⟨⟨o, hS⟩, by simp⟩, rds_ints ns⟩
    · exact absurd h2 (c.nl _ _ h1)
  · have W := wok (w := w) (base := base) KX G c fun p hp => ht _ (List.mem_map.mpr ⟨p, hp, rfl⟩)
    obtain ⟨D, Gd, Fk⟩ := (all_ok W 14).1 false 46 "law" ["script"] rfl
    have q := Gd.mgx.symm.trans hfa
    have q2 : D.f = He.ga K "law" := Value.ref.inj (Option.some.inj q)
    obtain ⟨oc, od, dV, kV, doc, pm, an, cdv, ct, osl, e2, lk, _⟩ := F.ex
    have q3 : D.fd = fd := by
      have := Gd.lk
      rw [q2] at this
      have z := this.symm.trans lk
      cases z
      rfl
    rw [q2, q3] at Fk
    exact Fk
end
end K83H
set_option linter.all false
set_option Elab.async false
set_option maxRecDepth 100000
set_option maxHeartbeats 0
open PySem PySem.W PySem.Calls PyProof.Rows
theorem PySem.Challenge.cw_oddsrooms_k83_whole_texts_of_pieces_holds : PySem.Challenge.rw_oddsrooms_k83_whole_texts_of_pieces.Holds := by
  w_on; o_law
  refine HandSHeadRun.head_any (r := OpenLaw.row PySem.Challenge.rw_oddsrooms_k83_whole_texts_of_pieces) (q := K83H.qv) (H := K83H.hk) (ob := K83H.ob) (M := 20000) (loose := K83H.names) (d := HandSHeadRun.topDef (OpenLaw.row PySem.Challenge.rw_oddsrooms_k83_whole_texts_of_pieces).prog 66) (kwd := []) K83H.ob_eq
    (by kernel_rfl) (fun s => by kernel_rfl) K83H.run (by kernel_rfl) (by kernel_rfl) (by kernel_rfl) (by rfl) (by first | assumption | decide +kernel) (by decide +kernel) ⟨rfl, rfl, rfl, rfl, rfl, by decide +kernel⟩ ?hw ?hc
  case hw => w_witness2
  case hc =>
    refine LamX.walk_ofTsE (l := PySem.Challenge.rw_oddsrooms_k83_whole_texts_of_pieces) (n := 63) (k := Mi.lv 14) (x := "script") (CX := fun w => Mi.CXm false K83H.R.prog w) rfl (by decide) (by kernel_rfl) ⟨rfl, by decide, by decide⟩ ?F (fun _ _ _ _ _ z => by obtain ⟨_, _, _, _, _, _, _, _, _, _, _, _, z⟩ := z; exact z)
    intro w mg fa h Y G hmg0
    obtain ⟨K, c⟩ := Y
    have hmg : mg ("law" : PySem.Str) = some (.ref fa) := by
      have e : (HandSHeadRun.topDef (OpenLaw.row PySem.Challenge.rw_oddsrooms_k83_whole_texts_of_pieces).prog 66).name = ("law" : PySem.Str) := by kernel_rfl
      rw [← e]
      exact hmg0
    exact ⟨K, c.kin, K83H.facts c.kin G c hmg⟩
