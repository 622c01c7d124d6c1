import PyProof.Rows.All
import Wide.All
import OpenK.AllK
import Wide.FinOn
import HandS.ForMost
import HandS.ForExc
import HandS.Wide
import HandS.TupAny
import HandS.SortInts
import HandS.Style
import HandS.IsInst
import HandS.TryMany
import HandS.Zip
import HandS.Walk
import HandS.ExcIs
import HandS.TryOnly
import PySem.Challenge.RW_brimful_k37_trees_are_checked
set_option Elab.async false
set_option linter.all false
set_option maxRecDepth 100000
set_option maxHeartbeats 8000000
/-! Bi1: a small interpreter: values, the store, the little language, what it computes. -/
namespace Bi
open PySem L2

/-- values: tuples are values, lists and instances stand in the store; kl: a list that nobody changes -/
inductive SV where
  | non | bl (b : Bool) | int (i : Int) | str (s : Str) | tup (xs : List SV) | ref (n : Nat) | kl (xs : List SV)
/-- what stands in the store: a list, an instance with its fields by place -/
inductive SO where
  | lst (xs : List SV) | ins (c : Nat) (fs : List (Option SV))
abbrev Sto := List SO
abbrev Loc := List (Option SV)
inductive R (α : Type) where
  | ok (a : α) (S : Sto) | exc (c : Nat) (S : Sto) | bad
@[simp] def R.bind {α β : Type} (r : R α) (f : α → Sto → R β) : R β :=
  match r with
  | .ok a S => f a S
  | .exc c S => .exc c S
  | .bad => .bad
/-- how a statement ends -/
inductive O where
  | nx (L : Loc) (S : Sto) | rt (v : SV) (S : Sto) | bk (L : Loc) (S : Sto) | ct (L : Loc) (S : Sto) | exc (c : Nat) (L : Loc) (S : Sto) | bad
@[simp] def R.st {α : Type} (r : R α) (L : Loc) (f : α → Sto → O) : O :=
  match r with
  | .ok a S => f a S
  | .exc c S => .exc c L S
  | .bad => .bad
@[simp] def O.then (o : O) (f : Loc → Sto → O) : O :=
  match o with
  | .nx L S => f L S
  | o => o

inductive B2 where
  | add | sub | mul | fdiv | mod | pow | shl
inductive C2 where
  | eq | ne | lt | le | gt | ge | isin | notin | is | isnt
inductive Ty where
  | int | bool | str | tup | lst
inductive Bf where
  | len | max2 | min2 | maxL | sorted | sum | any | all | list | tuple | int | str
inductive Bm where
  | append | extend | pop | popAt | insert | index
/-- a target of a store -/
inductive Tg where
  | nm (i : Nat) | tp (is : List Nat)
mutual
/-- expressions -/
inductive IX where
  | cst (v : SV)
  | var (i : Nat)
  | glo (g : Nat)
  | bin (o : B2) (a b : IX)
  | neg (a : IX)
  | not (a : IX)
  | and (a b : IX)
  | or (a b : IX)
  | cmp (o : C2) (a b : IX)
  | chn (o p : C2) (a b c : IX)
  | ite (c : IB) (a b : IX)
  | call (d : Nat) (as : IXs)
  | make (c : Nat) (as : IXs)
  | meth (c : Nat) (m : Nat) (o : IX) (as : IXs)
  | bf (b : Bf) (as : IXs)
  | bm (m : Bm) (o : IX) (as : IXs)
  | isi (a : IX) (t : Ty)
  | isx (i : Nat) (ds : List Nat)
  | att (c f : Nat) (o : IX)
  | idx (a i : IX)
  | slL (a lo : IX)
  | slH (a hi : IX)
  | slB (a lo hi : IX)
  | rev (a : IX)
  | tup (as : IXs)
  | lst (as : IXs)
  | lc (tg : Tg) (it : IT) (e : IX) (own : List Nat)
  | lcc (tg : Tg) (it : IT) (c : IB) (e : IX) (own : List Nat)
  | lc2 (tg : Tg) (it : IT) (tg2 : Tg) (it2 : IT) (e : IX) (own : List Nat)
/-- tests -/
inductive IB where
  | val (a : IX)
  | not (a : IB)
  | and (a b : IB)
  | or (a b : IB)
/-- what a loop walks -/
inductive IT where
  | seq (e : IX)
  | rng1 (a : IX)
  | rng2 (a b : IX)
  | rng3 (a b c : IX)
  | enum (e : IX)
  | zip (a b : IX)
inductive IXs where
  | nil | cons (a : IX) (as : IXs)
end
mutual
/-- statements -/
inductive IS where
  | pass
  | expr (e : IX)
  | ret (e : IX)
  | asg (tg : Tg) (e : IX)
  | par (is : List Nat) (es : IXs)
  | setI (o i e : IX)
  | setA (c f : Nat) (o e : IX)
  | aug (i : Nat) (o : B2) (e : IX)
  | augA (c f : Nat) (o : IX) (op : B2) (e : IX)
  | iff (c : IB) (a b : ISs)
  | whl (c : IB) (b : ISs)
  | for_ (tg : Tg) (it : IT) (b : ISs)
  | brk
  | cont
  | rse (c : Nat)
  | try_ (b : ISs) (hs : IHs)
inductive ISs where
  | nil | cons (s : IS) (ss : ISs)
/-- except clauses: the classes, the name's slot, the suite -/
inductive IHs where
  | nil | cons (ds : List Nat) (n : Option Nat) (b : ISs) (hs : IHs)
end

structure DefI where
  nm : Str
  qual : Str
  st : Stmt
  N : List Str
  np : Nat
  body : ISs
structure ClsI where
  nm : Str
  ini : Nat
  flds : List Str
  mts : List (Str × Nat)
structure Prog where
  defs : List DefI
  glos : List (Str × SV)
  excs : List Str
  sub : Nat → Nat → Bool
  clss : List ClsI

/-! ### what the operations do -/
@[simp] def seqOf (S : Sto) : SV → Option (List SV)
  | .tup xs => some xs
  | .ref n => match S[n]? with
    | some (.lst xs) => some xs
    | _ => none
  | _ => none
@[simp] def lstOf (S : Sto) : SV → Option (List SV)
  | .ref n => match S[n]? with
    | some (.lst xs) => some xs
    | _ => none
  | _ => none
@[simp] def isL (S : Sto) : SV → Bool
  | .ref n => match S[n]? with
    | some (.lst _) => true
    | _ => false
  | _ => false
def mulOk (i j : Int) : Bool := decide (i.natAbs.log2 + j.natAbs.log2 < 1000000)
def divOk (j : Int) : Bool := decide (0 < j) && decide (j.natAbs.log2 < 9000)
def powOk (i j : Int) : Bool := decide (0 ≤ j) && decide (j.natAbs ≤ 1000000) && decide (i.natAbs < 18446744073709551616)
def smallI (i : Int) : Bool := decide (i.natAbs < 4611686018427387904)
def szOk (n : Nat) : Bool := decide (n ≤ sizeLine)
@[simp] def newL (xs : List SV) (S : Sto) : R SV := .ok (.ref S.length) (S ++ [.lst xs])
@[simp] def binop (o : B2) (x y : SV) (S : Sto) : R SV :=
  match o, x, y with
  | .add, .int i, .int j => .ok (.int (i + j)) S
  | .add, .str a, .str b => if szOk (a.length + b.length) then .ok (.str (a ++ b)) S else .bad
  | .add, .tup a, .tup b => if szOk (a.length + b.length) then .ok (.tup (a ++ b)) S else .bad
  | .add, .ref a, .ref b =>
    match S[a]?, S[b]? with
    | some (.lst xs), some (.lst ys) => if szOk (xs.length + ys.length) then newL (xs ++ ys) S else .bad
    | _, _ => .bad
  | .sub, .int i, .int j => .ok (.int (i - j)) S
  | .mul, .int i, .int j => if mulOk i j then .ok (.int (i * j)) S else .bad
  | .mul, .ref a, .int k =>
    match S[a]? with
    | some (.lst xs) => if decide (0 ≤ k) && smallI k && szOk (xs.length * k.toNat) then newL (List.replicate k.toNat xs).flatten S else .bad
    | _ => .bad
  | .fdiv, .int i, .int j => if divOk j then .ok (.int (i / j)) S else .bad
  | .mod, .int i, .int j => if decide (0 < j) then .ok (.int (i % j)) S else .bad
  | .pow, .int i, .int j => if powOk i j then .ok (.int (i ^ j.toNat)) S else .bad
  | .shl, .int i, .int j => if powOk i j then .ok (.int (i * 2 ^ j.toNat)) S else .bad
  | _, _, _ => .bad
/-- an operator in place: of ints -/
@[simp] def augop (o : B2) (x y : SV) (S : Sto) : R SV :=
  match o, x, y with
  | .add, .int i, .int j => .ok (.int (i + j)) S
  | .sub, .int i, .int j => .ok (.int (i - j)) S
  | .mul, .int i, .int j => if mulOk i j then .ok (.int (i * j)) S else .bad
  | _, _, _ => .bad
mutual
def toD (S : Sto) : Nat → SV → Option PyData
  | _, .non => some .none
  | _, .bl b => some (.bool b)
  | _, .int i => some (.int i)
  | _, .str s => some (.str s)
  | 0, _ => none
  | n + 1, .tup xs => (toDs S n xs).map .tuple
  | n + 1, .ref a => match S[a]? with
    | some (.lst xs) => (toDs S n xs).map .list
    | _ => none
  | _ + 1, .kl _ => none
def toDs (S : Sto) : Nat → List SV → Option (List PyData)
  | _, [] => some []
  | 0, _ :: _ => none
  | n + 1, x :: xs => match toD S n x, toDs S n xs with
    | some d, some ds => some (d :: ds)
    | _, _ => none
end
def eqD (S : Sto) (x y : SV) : Option Bool :=
  match toD S 1000 x, toD S 1000 y with
  | some d, some e => if SeqAt.shaped d && SeqAt.shaped e then some (PyData.eqv d e) else none
  | _, _ => none
@[simp] def eqSV (S : Sto) (x y : SV) : Option Bool :=
  match x, y with
  | .int i, .int j => some (decide (i = j))
  | .str a, .str b => some (decide (a = b))
  | .bl a, .bl b => some (decide (a = b))
  | .non, .non => some true
  | .non, .int _ => some false
  | .int _, .non => some false
  | .non, .str _ => some false
  | .str _, .non => some false
  | .non, .bl _ => some false
  | .bl _, .non => some false
  | .int _, .str _ => some false
  | .str _, .int _ => some false
  | .bl _, .str _ => some false
  | .str _, .bl _ => some false
  | x, y => eqD S x y
def flatS : SV → Bool
  | .non => true
  | .bl _ => true
  | .int _ => true
  | .str _ => true
  | _ => false
def eqF : SV → SV → Bool
  | .non, .non => true
  | .bl a, .bl b => a == b
  | .bl a, .int b => (if a then 1 else 0) == b
  | .int a, .bl b => a == (if b then 1 else 0)
  | .int a, .int b => a == b
  | .str a, .str b => a == b
  | _, _ => false
def inF (x : SV) (xs : List SV) : Bool := xs.any fun y => eqF y x
def isIn (S : Sto) (x y : SV) : Option Bool :=
  match x, y with
  | .str a, .str z => if a.cps.size = 1 then some (decide (a.cps.getD 0 0 ∈ z.cps.toList)) else none
  | x, y => match seqOf S y with
    | some xs => if flatS x && xs.all flatS then some (inF x xs) else none
    | none => none
@[simp] def isNon : SV → Bool
  | .non => true
  | _ => false
@[simp] def rB (o : Option Bool) (S : Sto) : R SV := match o with
  | some b => .ok (.bl b) S
  | none => .bad
@[simp] def cmpop (o : C2) (x y : SV) (S : Sto) : R SV :=
  match o, x, y with
  | .eq, x, y => rB (eqSV S x y) S
  | .ne, x, y => rB ((eqSV S x y).map (!·)) S
  | .lt, .int i, .int j => .ok (.bl (decide (i < j))) S
  | .le, .int i, .int j => .ok (.bl (decide (i ≤ j))) S
  | .gt, .int i, .int j => .ok (.bl (decide (j < i))) S
  | .ge, .int i, .int j => .ok (.bl (decide (j ≤ i))) S
  | .isin, x, y => rB (isIn S x y) S
  | .notin, x, y => rB ((isIn S x y).map (!·)) S
  | .is, x, .non => .ok (.bl (isNon x)) S
  | .isnt, x, .non => .ok (.bl (!isNon x)) S
  | _, _, _ => .bad
/-- truth -/
@[simp] def truS (S : Sto) : SV → Option Bool
  | .non => some false
  | .bl b => some b
  | .int i => some (i != 0)
  | .str s => if szOk s.length then some ((s.length : Int) != 0) else none
  | .tup xs => some (!xs.isEmpty)
  | .ref n => match S[n]? with
    | some (.lst xs) => some (!xs.isEmpty)
    | _ => none
  | .kl _ => none
@[simp] def negS (x : SV) (S : Sto) : R SV := match x with
  | .int i => .ok (.int (-i)) S
  | _ => .bad
@[simp] def notS (x : SV) (S : Sto) : R SV := match x with
  | .bl b => .ok (.bl (!b)) S
  | _ => .bad
@[simp] def Ty.isLst : Ty → Bool
  | .lst => true
  | _ => false
@[simp] def isTy (t : Ty) (x : SV) (S : Sto) : Option Bool :=
  match t, x with
  | .int, .int _ => some true
  | .int, .bl _ => some true
  | .bool, .bl _ => some true
  | .str, .str _ => some true
  | .tup, .tup _ => some true
  | t, .ref n => match S[n]? with
    | some (.lst _) => some t.isLst
    | _ => none
  | _, .kl _ => none
  | _, _ => some false
@[simp] def okO (o : Option SV) (S : Sto) : R SV := match o with
  | some v => .ok v S
  | none => .bad
def idxS (x y : SV) (S : Sto) : R SV :=
  match x, y with
  | .str z, .int i => if szOk z.length then okO ((atI z.cps.toList i).map fun c => .str ⟨#[c]⟩) S else .bad
  | x, .int i => okO ((seqOf S x).bind fun xs => atI xs i) S
  | _, _ => .bad
def cut (xs : List SV) (lo hi : Option Int) : List SV := (xs.drop (HT.sIx xs.length 0 lo)).take (HT.sIx xs.length xs.length hi - HT.sIx xs.length 0 lo)
def slcS (x : SV) (lo hi : Option Int) (S : Sto) : R SV :=
  match x with
  | .tup xs => .ok (.tup (cut xs lo hi)) S
  | .ref n => match S[n]? with
    | some (.lst xs) => newL (cut xs lo hi) S
    | _ => .bad
  | _ => .bad
def revS (x : SV) (S : Sto) : R SV := match lstOf S x with
  | some xs => newL xs.reverse S
  | none => .bad
@[simp] def intOf : SV → Option Int
  | .int i => some i
  | _ => none
def intsOf : List SV → Option (List Int)
  | [] => some []
  | .int i :: xs => (intsOf xs).map (i :: ·)
  | _ :: _ => none
def blsOf : List SV → Option (List Bool)
  | [] => some []
  | .bl b :: xs => (blsOf xs).map (b :: ·)
  | _ :: _ => none
def insI (x : Int) : List Int → List Int
  | [] => [x]
  | y :: ys => if x ≤ y then x :: y :: ys else y :: insI x ys
def sortI : List Int → List Int
  | [] => []
  | x :: xs => insI x (sortI xs)
def maxI : List Int → Int
  | [] => 0
  | [x] => x
  | x :: xs => max x (maxI xs)
@[simp] def bfS (b : Bf) (vs : List SV) (S : Sto) : R SV :=
  match b, vs with
  | .len, [.str z] => if szOk z.length then .ok (.int z.length) S else .bad
  | .len, [x] => (match seqOf S x with
    | some xs => .ok (.int xs.length) S
    | none => .bad)
  | .max2, [.int i, .int j] => .ok (.int (if j > i then j else i)) S
  | .min2, [.int i, .int j] => .ok (.int (if j < i then j else i)) S
  | .maxL, [x] => (match (seqOf S x).bind intsOf with
    | some (i :: is) => .ok (.int (maxI (i :: is))) S
    | _ => .bad)
  | .sorted, [x] => (match (lstOf S x).bind intsOf with
    | some is => newL ((sortI is).map .int) S
    | none => .bad)
  | .sum, [x] => (match (lstOf S x).bind intsOf with
    | some is => .ok (.int is.sum) S
    | none => .bad)
  | .any, [x] => (match (lstOf S x).bind blsOf with
    | some bs => .ok (.bl (bs.any id)) S
    | none => .bad)
  | .all, [x] => (match (lstOf S x).bind blsOf with
    | some bs => .ok (.bl (bs.all id)) S
    | none => .bad)
  | .list, [x] => (match seqOf S x with
    | some xs => newL xs S
    | none => .bad)
  | .tuple, [x] => (match seqOf S x with
    | some xs => .ok (.tup xs) S
    | none => .bad)
  | .int, [.int i] => .ok (.int i) S
  | .int, [.bl b] => .ok (.int (if b then 1 else 0)) S
  | _, _ => .bad
@[simp] def appS (x : SV) (vs : List SV) (S : Sto) : R SV :=
  match x, vs with
  | .ref n, [y] => (match S[n]? with
    | some (.lst xs) => if szOk (xs.length + 1) then .ok .non (S.set n (.lst (xs ++ [y]))) else .bad
    | _ => .bad)
  | _, _ => .bad
def extS (x : SV) (vs : List SV) (S : Sto) : R SV :=
  match x, vs with
  | .ref n, [.ref b] => (match S[n]?, S[b]? with
    | some (.lst xs), some (.lst ys) => if szOk (xs.length + ys.length) then .ok .non (S.set n (.lst (xs ++ ys))) else .bad
    | _, _ => .bad)
  | _, _ => .bad
def popS (x : SV) (vs : List SV) (S : Sto) : R SV :=
  match x, vs with
  | .ref n, [] => (match S[n]? with
    | some (.lst xs) => (match xs[xs.length - 1]? with
      | some y => .ok y (S.set n (.lst xs.dropLast))
      | none => .bad)
    | _ => .bad)
  | _, _ => .bad
@[simp] def bmS (m : Bm) (x : SV) (vs : List SV) (S : Sto) : R SV :=
  match m with
  | .append => appS x vs S
  | .extend => extS x vs S
  | .pop => popS x vs S
  | _ => .bad
/-- an item stored -/
@[simp] def setS (o i v : SV) (S : Sto) : Option Sto :=
  match o, i with
  | .ref n, .int k => (match S[n]? with
    | some (.lst xs) => (match ixN xs.length k with
      | some j => some (S.set n (.lst (xs.set j v)))
      | none => none)
    | _ => none)
  | _, _ => none
/-- a field read, stored -/
@[simp] def attS (c f : Nat) (x : SV) (S : Sto) : R SV :=
  match x with
  | .ref n => (match S[n]? with
    | some (.ins c' fs) => if c' = c then (match fs[f]? with
      | some (some v) => .ok v S
      | _ => .bad) else .bad
    | _ => .bad)
  | _ => .bad
@[simp] def setAS (m c f : Nat) (x v : SV) (S : Sto) : Option Sto :=
  match x with
  | .ref n => (match S[n]? with
    | some (.ins c' fs) => if c' = c ∧ fs.length = m ∧ f < fs.length then some (S.set n (.ins c (fs.set f (some v)))) else none
    | _ => none)
  | _ => none
@[simp] def stO (o : Option Sto) (f : Sto → O) : O := match o with
  | some S => f S
  | none => .bad
/-- what a walk gives at turn i: none: not allowed; some none: the end -/
inductive Src where
  | vs (xs : List SV) | ls (n : Nat) | en (x : Src) | zp (x y : Src)
def Src.get (S : Sto) : Src → Nat → Option (Option SV)
  | .vs xs, i => some xs[i]?
  | .ls n, i => match S[n]? with
    | some (.lst xs) => some xs[i]?
    | _ => none
  | .en x, i => match x.get S i with
    | some (some v) => some (some (.tup [.int i, v]))
    | o => o
  | .zp x y, i => match x.get S i, y.get S i with
    | some (some v), some (some u) => some (some (.tup [v, u]))
    | some none, some _ => some none
    | some (some _), some none => some none
    | _, _ => none
/-- how many turns at most -/
def Src.cnt (S : Sto) : Src → Nat
  | .vs xs => xs.length
  | .ls n => match S[n]? with
    | some (.lst xs) => xs.length
    | _ => 0
  | .en x => x.cnt S
  | .zp x y => min (x.cnt S) (y.cnt S)
@[simp] def srcOf (S : Sto) : SV → Option Src
  | .tup xs => some (.vs xs)
  | .kl xs => some (.vs xs)
  | .ref n => match S[n]? with
    | some (.lst _) => some (.ls n)
    | _ => none
  | _ => none
def rgI (a : Int) (n : Nat) (c : Int) : List SV := (List.range n).map fun (k : Nat) => SV.int (a + (k : Int) * c)
@[simp] def tgS : Tg → SV → Loc → Option Loc
  | .nm i, v, L => some (L.set i (some v))
  | .tp is, .tup xs, L => if is.length = xs.length then some ((is.zip xs).foldl (fun L p => L.set p.1 (some p.2)) L) else none
  | _, _, _ => none
@[simp] def wipeL (L : Loc) : List Nat → Loc
  | [] => L
  | v :: vs => (wipeL L vs).set v none
/-- a loop's turns -/
def forF (get : Sto → Nat → Option (Option SV)) (tg : Tg) (body : Loc → Sto → O) : Nat → Nat → Loc → Sto → O
  | 0, _, _, _ => .bad
  | n + 1, i, L, S => match get S i with
    | none => .bad
    | some none => .nx L S
    | some (some v) => match tgS tg v L with
      | none => .bad
      | some L1 => match body L1 S with
        | .nx L2 S2 => forF get tg body n (i + 1) L2 S2
        | .ct L2 S2 => forF get tg body n (i + 1) L2 S2
        | .bk L2 S2 => .nx L2 S2
        | o => o
/-- a comprehension's turns: no exception leaves it -/
def lcF (get : Sto → Nat → Option (Option SV)) (tg : Tg) (c : Loc → Sto → R Bool) (e : Loc → Sto → R SV) (L0 : Loc) : Nat → Nat → List SV → Sto → R (List SV)
  | 0, _, _, _ => .bad
  | n + 1, i, acc, S => match get S i with
    | none => .bad
    | some none => .ok acc S
    | some (some v) => match tgS tg v L0 with
      | none => .bad
      | some L1 => match c L1 S with
        | .ok false S1 => lcF get tg c e L0 n (i + 1) acc S1
        | .ok true S1 => (match e L1 S1 with
          | .ok y S2 => if acc.length < sizeLine then lcF get tg c e L0 n (i + 1) (acc ++ [y]) S2 else .bad
          | _ => .bad)
        | _ => .bad
def whF (c : Loc → Sto → R Bool) (b : Loc → Sto → O) : Nat → Loc → Sto → O
  | 0, _, _ => .bad
  | n + 1, L, S => match c L S with
    | .ok false S1 => .nx L S1
    | .ok true S1 => (match b L S1 with
      | .nx L2 S2 => whF c b n L2 S2
      | .ct L2 S2 => whF c b n L2 S2
      | .bk L2 S2 => .nx L2 S2
      | o => o)
    | .exc c S1 => .exc c L S1
    | .bad => .bad
/-- a for loop, from its start -/
def runF (src : Src) (tg : Tg) (body : Loc → Sto → O) (L : Loc) (S : Sto) : O := forF (fun S => src.get S) tg body (src.cnt S + 1) 0 L S
def runL (src : Src) (tg : Tg) (c : Loc → Sto → R Bool) (e : Loc → Sto → R SV) (L : Loc) (S : Sto) : R (List SV) := lcF (fun S => src.get S) tg c e L (src.cnt S + 1) 0 [] S
/-- the name of an except clause goes -/
@[simp] def setN : Option Nat → Loc → Loc
  | none, L => L
  | some i, L => L.set i none
@[simp] def dropN (n : Option Nat) : O → O
  | .nx L S => .nx (setN n L) S
  | .rt v S => .rt v S
  | .bk L S => .bk (setN n L) S
  | .ct L S => .ct (setN n L) S
  | _ => .bad
def wFuel : Nat := 1000000000
@[simp] def fstOf : SV → Option Nat
  | .ref n => some n
  | _ => none

section
variable (P : Prog) (cf : Nat → List SV → Sto → R SV) (xc : Option (Nat × Option Nat))
mutual
@[simp] def evalE : IX → Loc → Sto → R SV
  | .cst v, _, S => .ok v S
  | .var i, L, S => match L[i]? with
    | some (some v) => .ok v S
    | _ => .bad
  | .glo g, _, S => match P.glos[g]? with
    | some p => .ok p.2 S
    | none => .bad
  | .bin o a b, L, S => (evalE a L S).bind fun x S1 => (evalE b L S1).bind fun y S2 => binop o x y S2
  | .neg a, L, S => (evalE a L S).bind negS
  | .not a, L, S => (evalE a L S).bind notS
  | .and a b, L, S => (evalE a L S).bind fun x S1 => match x with
    | .bl true => evalE b L S1
    | .bl false => .ok (.bl false) S1
    | _ => .bad
  | .or a b, L, S => (evalE a L S).bind fun x S1 => match x with
    | .bl true => .ok (.bl true) S1
    | .bl false => evalE b L S1
    | _ => .bad
  | .cmp o a b, L, S => (evalE a L S).bind fun x S1 => (evalE b L S1).bind fun y S2 => cmpop o x y S2
  | .chn o p a b c, L, S => (evalE a L S).bind fun x S1 => (evalE b L S1).bind fun y S2 => (cmpop o x y S2).bind fun z S3 => match z with
    | .bl true => (evalE c L S3).bind fun w S4 => cmpop p y w S4
    | .bl false => .ok (.bl false) S3
    | _ => .bad
  | .ite c a b, L, S => (evalB c L S).bind fun t S1 => match t with
    | true => evalE a L S1
    | false => evalE b L S1
  | .call d as, L, S => (evalEs as L S).bind fun vs S1 => cf d vs S1
  | .make d as, L, S => (evalEs as L S).bind fun vs S1 => cf d vs S1
  | .meth c m o as, L, S => (evalE o L S).bind fun x S1 => match fstOf x, P.clss[c]? with
    | some n, some C => (match S1[n]?, C.mts[m]? with
      | some (.ins c' fs), some p => if c' = c ∧ fs.length = C.flds.length then (evalEs as L S1).bind fun vs S2 => cf p.2 (x :: vs) S2 else .bad
      | _, _ => .bad)
    | _, _ => .bad
  | .bf b as, L, S => (evalEs as L S).bind fun vs S1 => bfS b vs S1
  | .bm m o as, L, S => (evalE o L S).bind fun x S1 => if isL S1 x then (evalEs as L S1).bind fun vs S2 => bmS m x vs S2 else .bad
  | .isi a t, L, S => (evalE a L S).bind fun x S1 => rB (isTy t x S1) S1
  | .isx i ds, L, S => match xc with
    | some (c, some j) => if i = j then (match L[i]? with
      | some none => .ok (.bl (ds.any (P.sub c))) S
      | _ => .bad) else .bad
    | _ => .bad
  | .att c f o, L, S => (evalE o L S).bind fun x S1 => attS c f x S1
  | .idx a i, L, S => (evalE a L S).bind fun x S1 => (evalE i L S1).bind fun y S2 => idxS x y S2
  | .slL a lo, L, S => (evalE a L S).bind fun x S1 => (evalE lo L S1).bind fun y S2 => match intOf y with
    | some i => slcS x (some i) none S2
    | none => .bad
  | .slH a hi, L, S => (evalE a L S).bind fun x S1 => (evalE hi L S1).bind fun y S2 => match intOf y with
    | some i => slcS x none (some i) S2
    | none => .bad
  | .slB a lo hi, L, S => (evalE a L S).bind fun x S1 => (evalE lo L S1).bind fun y S2 => match intOf y with
    | some i => (evalE hi L S2).bind fun z S3 => (match intOf z with
      | some j => slcS x (some i) (some j) S3
      | none => .bad)
    | none => .bad
  | .rev a, L, S => (evalE a L S).bind revS
  | .tup as, L, S => (evalEs as L S).bind fun vs S1 => if szOk vs.length then .ok (.tup vs) S1 else .bad
  | .lst as, L, S => (evalEs as L S).bind fun vs S1 => if szOk vs.length then newL vs S1 else .bad
  | .lc tg it e own, L, S => (evalI it L S).bind fun src S1 => (runL src tg (fun _ S => .ok true S) (evalE e) (wipeL L own) S1).bind newL
  | .lcc tg it c e own, L, S => (evalI it L S).bind fun src S1 => (runL src tg (evalB c) (evalE e) (wipeL L own) S1).bind newL
  | .lc2 .., _, _ => .bad
@[simp] def evalB : IB → Loc → Sto → R Bool
  | .val a, L, S => (evalE a L S).bind fun x S1 => match truS S1 x with
    | some b => .ok b S1
    | none => .bad
  | .not a, L, S => (evalB a L S).bind fun b S1 => .ok (!b) S1
  | .and a b, L, S => (evalB a L S).bind fun t S1 => match t with
    | true => evalB b L S1
    | false => .ok false S1
  | .or a b, L, S => (evalB a L S).bind fun t S1 => match t with
    | true => .ok true S1
    | false => evalB b L S1
@[simp] def evalI : IT → Loc → Sto → R Src
  | .seq e, L, S => (evalE e L S).bind fun x S1 => match srcOf S1 x with
    | some s => .ok s S1
    | none => .bad
  | .rng1 a, L, S => (evalE a L S).bind fun x S1 => match intOf x with
    | some j => if smallI j then .ok (.vs (rgI 0 j.toNat 1)) S1 else .bad
    | none => .bad
  | .rng2 a b, L, S => (evalE a L S).bind fun x S1 => (evalE b L S1).bind fun y S2 => match intOf x, intOf y with
    | some i, some j => if smallI i && smallI j then .ok (.vs (rgI i (j - i).toNat 1)) S2 else .bad
    | _, _ => .bad
  | .rng3 a b c, L, S => (evalE a L S).bind fun x S1 => (evalE b L S1).bind fun y S2 => (evalE c L S2).bind fun z S3 => match intOf x, intOf y, intOf z with
    | some i, some j, some (-1) => if smallI i && smallI j then .ok (.vs (rgI i (i - j).toNat (-1))) S3 else .bad
    | _, _, _ => .bad
  | .enum e, L, S => (evalE e L S).bind fun x S1 => match srcOf S1 x with
    | some (.ls n) => .ok (.en (.ls n)) S1
    | _ => .bad
  | .zip a b, L, S => (evalE a L S).bind fun x S1 => (evalE b L S1).bind fun y S2 => match srcOf S2 x, srcOf S2 y with
    | some (.ls n), some (.ls m) => .ok (.zp (.ls n) (.ls m)) S2
    | _, _ => .bad
@[simp] def evalEs : IXs → Loc → Sto → R (List SV)
  | .nil, _, S => .ok [] S
  | .cons a as, L, S => (evalE a L S).bind fun x S1 => (evalEs as L S1).bind fun xs S2 => .ok (x :: xs) S2
end
end

section
variable (P : Prog) (cf : Nat → List SV → Sto → R SV)
mutual
@[simp] def evalS : IS → Option (Nat × Option Nat) → Loc → Sto → O
  | .pass, _, L, S => .nx L S
  | .expr e, xc, L, S => (evalE P cf xc e L S).st L fun _ S1 => .nx L S1
  | .ret e, xc, L, S => (evalE P cf xc e L S).st L fun v S1 => .rt v S1
  | .asg tg e, xc, L, S => (evalE P cf xc e L S).st L fun v S1 => match tgS tg v L with
    | some L1 => .nx L1 S1
    | none => .bad
  | .par is es, xc, L, S => (evalEs P cf xc es L S).st L fun vs S1 => match tgS (.tp is) (.tup vs) L with
    | some L1 => .nx L1 S1
    | none => .bad
  | .setI o i e, xc, L, S => (evalE P cf xc e L S).st L fun v S1 => (evalE P cf xc o L S1).st L fun x S2 => (evalE P cf xc i L S2).st L fun y S3 => stO (setS x y v S3) fun S4 => .nx L S4
  | .setA c f o e, xc, L, S => (evalE P cf xc e L S).st L fun v S1 => (evalE P cf xc o L S1).st L fun x S2 => match P.clss[c]? with
    | some C => stO (setAS C.flds.length c f x v S2) fun S3 => .nx L S3
    | none => .bad
  | .aug i o e, xc, L, S => match L[i]? with
    | some (some x) => (evalE P cf xc e L S).st L fun y S1 => (augop o x y S1).st L fun z S2 => .nx (L.set i (some z)) S2
    | _ => .bad
  | .augA c f o op e, xc, L, S => (evalE P cf xc o L S).st L fun x S1 => (attS c f x S1).st L fun v S2 => (evalE P cf xc e L S2).st L fun y S3 => (augop op v y S3).st L fun z S4 => match P.clss[c]? with
    | some C => stO (setAS C.flds.length c f x z S4) fun S5 => .nx L S5
    | none => .bad
  | .iff c a b, xc, L, S => (evalB P cf xc c L S).st L fun t S1 => match t with
    | true => evalSs a xc L S1
    | false => evalSs b xc L S1
  | .whl c b, xc, L, S => whF (evalB P cf xc c) (evalSs b xc) wFuel L S
  | .for_ tg it b, xc, L, S => (evalI P cf xc it L S).st L fun src S1 => runF src tg (evalSs b xc) L S1
  | .brk, _, L, S => .bk L S
  | .cont, _, L, S => .ct L S
  | .rse c, _, L, S => .exc c L S
  | .try_ b hs, xc, L, S => match evalSs b xc L S with
    | .exc c L1 S1 => evalH hs c L1 S1
    | o => o
@[simp] def evalSs : ISs → Option (Nat × Option Nat) → Loc → Sto → O
  | .nil, _, L, S => .nx L S
  | .cons s ss, xc, L, S => match evalS s xc L S with
    | .nx L1 S1 => evalSs ss xc L1 S1
    | o => o
@[simp] def evalH : IHs → Nat → Loc → Sto → O
  | .nil, c, L, S => .exc c L S
  | .cons ds n b hs, c, L, S => match P.excs[c]? with
    | none => .bad
    | some _ => match ds.any (P.sub c) with
      | true => dropN n (evalSs b (some (c, n)) (setN n L) S)
      | false => evalH hs c L S
end
end
@[simp] def start (n : Nat) (vs : List SV) : Loc := vs.map some ++ List.replicate (n - vs.length) none
/-- the call of a def, of a class (behind the defs), at most so many deep -/
def callD (P : Prog) : Nat → Nat → List SV → Sto → R SV
  | 0, _, _, _ => .bad
  | k + 1, d, vs, S => match P.defs[d]? with
    | none => match P.clss[d - P.defs.length]? with
      | none => .bad
      | some C => (callD P k C.ini (.ref S.length :: vs) (S ++ [.ins (d - P.defs.length) (List.replicate C.flds.length none)])).bind fun v S2 => match v with
        | .non => .ok (.ref S.length) S2
        | _ => .bad
    | some D => if vs.length = D.np then
        (match evalSs P (callD P k) D.body none (start D.N.length vs) S with
        | .rt v S1 => .ok v S1
        | .nx _ S1 => .ok .non S1
        | .exc c _ S1 => .exc c S1
        | _ => .bad)
      else .bad
end Bi

/-! Bi2: how the interpreter's states stand to the layer's. -/
namespace Bi
open PySem PySem.Spec PyProof.Rows L2

/-- what the head tells: the written part, the addresses of own classes, the values of exception classes, the names of fields -/
structure Lk where
  K : PySem.W.Frag
  ca : Nat → Addr
  ea : Nat → Value
  fn : Nat → Nat → Str
  gd : Option (Nat × Addr)

/-- a list that is read only -/
def KL (K : PySem.W.Frag) (H : Hp) (a : Addr) (xs : List V) : Prop :=
  (∃ o, H a = some (.frz o (.lst xs))) ∨
    ∃ (o : Obj) (its : Array Value) (n : Nat), K.lookup a = some o ∧ o.cls = .type "list" ∧ o.dict = none ∧ o.data = .seq its n ∧ its.size ≤ sizeLine ∧ Vals xs its.toList
theorem KL.sq {K : PySem.W.Frag} {H : Hp} {a : Addr} {xs : List V} (h : KL K H a xs) : SqL K H a xs := h.elim (fun ⟨o, e⟩ => .inl (.inr ⟨o, e⟩)) .inr
mutual
def RV (K : PySem.W.Frag) (io : List Addr) (H : Hp) : SV → V → Prop
  | .non, v => v = .non
  | .bl b, v => v = .bl b
  | .int i, v => v = .int i
  | .str s, v => v = .str s
  | .tup xs, v => ∃ a vs, v = .ref a ∧ SqT K H a vs ∧ RVs K io H xs vs
  | .ref n, v => ∃ a, io[n]? = some a ∧ v = .ref a
  | .kl xs, v => ∃ a vs, v = .ref a ∧ KL K H a vs ∧ RVs K io H xs vs
def RVs (K : PySem.W.Frag) (io : List Addr) (H : Hp) : List SV → List V → Prop
  | [], vs => vs = []
  | x :: xs, vs => ∃ v r, vs = v :: r ∧ RV K io H x v ∧ RVs K io H xs r
end
section
variable {K : PySem.W.Frag} {io io' : List Addr} {H H' : Hp}
mutual
theorem RV.mono (h1 : ∀ (n : Nat) (a : Addr), io[n]? = some a → io'[n]? = some a) (h2 : ∀ a vs, SqT K H a vs → SqT K H' a vs) (h3 : ∀ a vs, KL K H a vs → KL K H' a vs) : ∀ (x : SV) (v : V), RV K io H x v → RV K io' H' x v
  | .non, _, h => h
  | .bl _, _, h => h
  | .int _, _, h => h
  | .str _, _, h => h
  | .tup xs, _, ⟨a, vs, e, t, r⟩ => ⟨a, vs, e, h2 a vs t, RVs.mono h1 h2 h3 xs vs r⟩
  | .ref _, _, ⟨a, e, q⟩ => ⟨a, h1 _ _ e, q⟩
  | .kl xs, _, ⟨a, vs, e, t, r⟩ => ⟨a, vs, e, h3 a vs t, RVs.mono h1 h2 h3 xs vs r⟩
theorem RVs.mono (h1 : ∀ (n : Nat) (a : Addr), io[n]? = some a → io'[n]? = some a) (h2 : ∀ a vs, SqT K H a vs → SqT K H' a vs) (h3 : ∀ a vs, KL K H a vs → KL K H' a vs) : ∀ (xs : List SV) (vs : List V), RVs K io H xs vs → RVs K io' H' xs vs
  | [], _, h => h
  | x :: xs, _, ⟨v, r, e, a, b⟩ => ⟨v, r, e, RV.mono h1 h2 h3 x v a, RVs.mono h1 h2 h3 xs r b⟩
end
theorem RVs.nil : RVs K io H [] [] := rfl
theorem RVs.cons {x : SV} {v : V} {xs : List SV} {vs : List V} (h : RV K io H x v) (t : RVs K io H xs vs) : RVs K io H (x :: xs) (v :: vs) := ⟨v, vs, rfl, h, t⟩
theorem RVs.length : ∀ {xs : List SV} {vs : List V}, RVs K io H xs vs → xs.length = vs.length
  | [], _, h => by rw [h]; rfl
  | x :: xs, _, ⟨v, r, e, _, t⟩ => by rw [e, List.length_cons, List.length_cons, RVs.length t]
theorem RVs.get : ∀ {xs : List SV} {vs : List V} {i : Nat} {x : SV}, RVs K io H xs vs → xs[i]? = some x → ∃ v, vs[i]? = some v ∧ RV K io H x v
  | [], _, _, _, _, h => by simp at h
  | y :: ys, _, 0, x, ⟨v, r, e, a, _⟩, h => by
    have e2 : y = x := by simpa using h
    subst e2
    exact ⟨v, by rw [e]; rfl, a⟩
  | y :: ys, _, i + 1, x, ⟨v, r, e, _, t⟩, h => by
    obtain ⟨u, h1, h2⟩ := RVs.get (i := i) (x := x) t (by simpa using h)
    exact ⟨u, by rw [e]; simpa using h1, h2⟩
theorem RVs.of : ∀ {xs : List SV} {vs : List V}, xs.length = vs.length → (∀ (i : Nat) (x : SV) (v : V), xs[i]? = some x → vs[i]? = some v → RV K io H x v) → RVs K io H xs vs
  | [], [], _, _ => rfl
  | [], _ :: _, h, _ => by simp at h
  | _ :: _, [], h, _ => by simp at h
  | x :: xs, v :: vs, h, g => ⟨v, vs, rfl, g 0 x v rfl rfl, RVs.of (by simpa using h) fun i y u h1 h2 => g (i + 1) y u (by simpa using h1) (by simpa using h2)⟩
theorem RVs.at {xs : List SV} {vs : List V} {i : Nat} {x : SV} {v : V} (h : RVs K io H xs vs) (h1 : xs[i]? = some x) (h2 : vs[i]? = some v) : RV K io H x v := by
  obtain ⟨u, e, r⟩ := h.get h1
  rw [h2] at e
  cases e
  exact r
theorem RVs.append : ∀ {xs ys : List SV} {vs ws : List V}, RVs K io H xs vs → RVs K io H ys ws → RVs K io H (xs ++ ys) (vs ++ ws)
  | [], _, _, _, h, t => by rw [h]; exact t
  | x :: xs, _, _, _, ⟨v, r, e, a, b⟩, t => ⟨v, r ++ _, by rw [e]; rfl, a, RVs.append b t⟩
theorem RVs.one {x : SV} {v : V} (h : RV K io H x v) : RVs K io H [x] [v] := ⟨v, [], rfl, h, rfl⟩
theorem RVs.set {xs : List SV} {vs : List V} {x : SV} {v : V} (h : RVs K io H xs vs) (r : RV K io H x v) (j : Nat) : RVs K io H (xs.set j x) (vs.set j v) := by
  refine RVs.of (by rw [List.length_set, List.length_set]; exact h.length) fun i y u h1 h2 => ?_
  by_cases e : j = i
  · subst e
    by_cases hl : j < xs.length
    · rw [List.getElem?_set_self hl] at h1
      rw [List.getElem?_set_self (by rw [← h.length]; exact hl)] at h2
      cases h1; cases h2
      exact r
    · rw [List.getElem?_eq_none (by simpa using hl)] at h1; cases h1
  · rw [List.getElem?_set_ne e] at h1 h2
    exact h.at h1 h2
theorem RVs.take {xs : List SV} {vs : List V} (h : RVs K io H xs vs) (n : Nat) : RVs K io H (xs.take n) (vs.take n) := by
  refine RVs.of (by rw [List.length_take, List.length_take, h.length]) fun i y u h1 h2 => ?_
  rw [List.getElem?_take] at h1 h2
  split at h1
  · rename_i hi
    rw [if_pos hi] at h2
    exact h.at h1 h2
  · cases h1
theorem RVs.drop {xs : List SV} {vs : List V} (h : RVs K io H xs vs) (n : Nat) : RVs K io H (xs.drop n) (vs.drop n) := by
  refine RVs.of (by rw [List.length_drop, List.length_drop, h.length]) fun i y u h1 h2 => ?_
  rw [List.getElem?_drop] at h1 h2
  exact h.at h1 h2
theorem RVs.dropLast {xs : List SV} {vs : List V} (h : RVs K io H xs vs) : RVs K io H xs.dropLast vs.dropLast := by
  rw [List.dropLast_eq_take, List.dropLast_eq_take, h.length]
  exact h.take _
theorem RVs.reverse {xs : List SV} {vs : List V} (h : RVs K io H xs vs) : RVs K io H xs.reverse vs.reverse := by
  refine RVs.of (by rw [List.length_reverse, List.length_reverse, h.length]) fun i y u h1 h2 => ?_
  by_cases hi : i < xs.length
  · rw [List.getElem?_reverse hi] at h1
    rw [List.getElem?_reverse (by rw [← h.length]; exact hi), ← h.length] at h2
    exact h.at h1 h2
  · rw [List.getElem?_eq_none (by simpa using hi)] at h1; cases h1
theorem RVs.rep {xs : List SV} {vs : List V} (h : RVs K io H xs vs) : ∀ n : Nat, RVs K io H (List.replicate n xs).flatten (List.replicate n vs).flatten
  | 0 => rfl
  | n + 1 => by
    rw [List.replicate_succ, List.replicate_succ, List.flatten_cons, List.flatten_cons]
    exact h.append (RVs.rep h n)
theorem RVs.cut {xs : List SV} {vs : List V} (h : RVs K io H xs vs) (lo hi : Option Int) : RVs K io H (cut xs lo hi) (cutV vs lo hi) := by
  unfold Bi.cut cutV
  rw [h.length]
  exact (h.drop _).take _
theorem RVs.isEmpty {xs : List SV} {vs : List V} (h : RVs K io H xs vs) : xs.isEmpty = vs.isEmpty := by
  cases xs with
  | nil => rw [show vs = [] from h]; rfl
  | cons x xs => obtain ⟨v, r, e, _⟩ := h; rw [e]; rfl
end

/-- the store object's reading at its address -/
def RO (l : Lk) (io : List Addr) (H : Hp) : SO → Addr → Prop
  | .lst xs, a => ∃ vs, H a = some (.lst vs) ∧ RVs l.K io H xs vs
  | .ins c fs, a => ∃ dx gs, H a = some (.ins (l.ca c) dx gs) ∧ ((gs.map (·.1)).Nodup ∧ ∀ m ∈ gs.map (·.1), ∃ f, f < fs.length ∧ l.fn c f = m) ∧
      ∀ (f : Nat) (o : Option SV), fs[f]? = some o → match o with
        | some v => ∃ u, gs.lookup (l.fn c f) = some u ∧ RV l.K io H v u
        | none => gs.lookup (l.fn c f) = none
structure Sim (l : Lk) (S : Sto) (io : List Addr) (H : Hp) : Prop where
  len : io.length = S.length
  nd : io.Nodup
  ob : ∀ (n : Nat) (o : SO), S[n]? = some o → ∃ a, io[n]? = some a ∧ RO l io H o a
/-- later: more addresses, fresh ones; what stands elsewhere stays -/
structure Gr (io : List Addr) (H : Hp) (io' : List Addr) (H' : Hp) : Prop where
  pre : ∃ l, io' = io ++ l ∧ ∀ a ∈ l, H a = none
  keep : ∀ a o, a ∉ io → H a = some o → H' a = some o
  dom : ∀ a, H' a = none → H a = none
structure RL (l : Lk) (io : List Addr) (H : Hp) (L : Loc) (s : L2.St) : Prop where
  len : L.length = s.length
  at_ : ∀ (i : Nat) (v : SV), L[i]? = some (some v) → ∃ u, s[i]? = some (some u) ∧ RV l.K io H v u
  ex : ∀ (i : Nat) (a : Addr), l.gd = some (i, a) → L[i]? = some none → s[i]? = some (some (.ref a))

section
variable {l : Lk} {S : Sto} {io io' io2 : List Addr} {H H' H2 : Hp}
theorem Gr.refl : Gr io H io H := ⟨⟨[], by simp, by simp⟩, fun _ _ _ h => h, fun _ h => h⟩
theorem Gr.trans (a : Gr io H io' H') (b : Gr io' H' io2 H2) : Gr io H io2 H2 := by
  obtain ⟨l1, e1, f1⟩ := a.pre
  obtain ⟨l2, e2, f2⟩ := b.pre
  subst e1 e2
  refine ⟨⟨l1 ++ l2, by rw [List.append_assoc], fun x hx => ?_⟩, fun x o hx hH => ?_, fun x hx => a.dom x (b.dom x hx)⟩
  · rcases List.mem_append.mp hx with h | h
    · exact f1 x h
    · exact a.dom x (f2 x h)
  · have h1 : x ∉ io ++ l1 := fun hm => by
      rcases List.mem_append.mp hm with h | h
      · exact hx h
      · rw [f1 x h] at hH; cases hH
    exact b.keep x o h1 (a.keep x o hx hH)
theorem Gr.get (g : Gr io H io' H') {n : Nat} {a : Addr} (h : io[n]? = some a) : io'[n]? = some a := by
  obtain ⟨l1, e1, _⟩ := g.pre
  rw [e1, List.getElem?_append_left (List.getElem?_eq_some_iff.mp h).1]
  exact h
theorem Sim.obj (s : Sim l S io H) {n : Nat} {a : Addr} (h : io[n]? = some a) : ∃ o, S[n]? = some o ∧ RO l io H o a := by
  have hn : n < S.length := by rw [← s.len]; exact (List.getElem?_eq_some_iff.mp h).1
  obtain ⟨a', e, r⟩ := s.ob n S[n] (by simp [hn])
  rw [h] at e
  cases e
  exact ⟨_, by simp [hn], r⟩
/-- no address of the store holds a tuple -/
theorem Sim.notup (s : Sim l S io H) {a : Addr} (h : a ∈ io) {vs : List V} : ¬ Rd H a (.tup vs) := by
  obtain ⟨n, hn⟩ := List.getElem?_of_mem h
  obtain ⟨o, _, r⟩ := s.obj hn
  intro q
  cases o with
  | lst xs =>
    obtain ⟨ws, e, _⟩ := r
    rcases q with q | ⟨o, q⟩ <;> rw [e] at q <;> cases q
  | ins c fs =>
    obtain ⟨dx, gs, e, _⟩ := r
    rcases q with q | ⟨o, q⟩ <;> rw [e] at q <;> cases q
theorem Gr.tup (g : Gr io H io' H') (s : Sim l S io H) {K : PySem.W.Frag} {a : Addr} {vs : List V} (h : SqT K H a vs) : SqT K H' a vs := by
  rcases h with h | h
  · have hm : a ∉ io := fun hm => s.notup hm h
    rcases h with h | ⟨o, h⟩
    · exact .inl (.inl (g.keep a _ hm h))
    · exact .inl (.inr ⟨o, g.keep a _ hm h⟩)
  · exact .inr h
theorem Sim.nokl (s : Sim l S io H) {a : Addr} (h : a ∈ io) {o : Obj} {vs : List V} : ¬ H a = some (.frz o (.lst vs)) := by
  obtain ⟨n, hn⟩ := List.getElem?_of_mem h
  obtain ⟨o, _, r⟩ := s.obj hn
  intro q
  cases o with
  | lst xs =>
    obtain ⟨ws, e, _⟩ := r
    rw [e] at q; cases q
  | ins c fs =>
    obtain ⟨dx, gs, e, _⟩ := r
    rw [e] at q; cases q
theorem Gr.kl (g : Gr io H io' H') (s : Sim l S io H) {K : PySem.W.Frag} {a : Addr} {vs : List V} (h : KL K H a vs) : KL K H' a vs := by
  rcases h with ⟨o, h⟩ | h
  · exact .inl ⟨o, g.keep a _ (fun hm => s.nokl hm h) h⟩
  · exact .inr h
theorem Gr.rv (g : Gr io H io' H') (s : Sim l S io H) {x : SV} {v : V} (h : RV l.K io H x v) : RV l.K io' H' x v :=
  RV.mono (fun _ _ e => g.get e) (fun _ _ t => g.tup s t) (fun _ _ t => g.kl s t) x v h
theorem Gr.rvs (g : Gr io H io' H') (s : Sim l S io H) {xs : List SV} {vs : List V} (h : RVs l.K io H xs vs) : RVs l.K io' H' xs vs :=
  RVs.mono (fun _ _ e => g.get e) (fun _ _ t => g.tup s t) (fun _ _ t => g.kl s t) xs vs h
theorem Gr.rl (g : Gr io H io' H') (s : Sim l S io H) {L : Loc} {σ : L2.St} (h : RL l io H L σ) : RL l io' H' L σ :=
  ⟨h.len, fun i v e => let ⟨u, a, b⟩ := h.at_ i v e; ⟨u, a, g.rv s b⟩, h.ex⟩
/-- an object's reading at a place that is not touched -/
theorem Gr.ro (g : Gr io H io' H') (s : Sim l S io H) {o : SO} {a : Addr} (h : RO l io H o a) (e : H' a = H a) : RO l io' H' o a := by
  cases o with
  | lst xs =>
    obtain ⟨vs, q, r⟩ := h
    exact ⟨vs, e.trans q, g.rvs s r⟩
  | ins c fs =>
    obtain ⟨dx, gs, q, z, r⟩ := h
    refine ⟨dx, gs, e.trans q, z, fun f o hf => ?_⟩
    have q2 := r f o hf
    cases o with
    | none => exact q2
    | some v =>
      obtain ⟨u, h1, h2⟩ := q2
      exact ⟨u, h1, g.rv s h2⟩
theorem RL.set {L : Loc} {σ : L2.St} (h : RL l io H L σ) {x : SV} {v : V} (r : RV l.K io H x v) (i : Nat) : RL l io H (L.set i (some x)) (σ.set i (some v)) := by
  refine ⟨by rw [List.length_set, List.length_set]; exact h.len, fun j y e => ?_, fun j a g e => ?_⟩
  · by_cases hi : i = j
    · subst hi
      by_cases hl : i < L.length
      · rw [List.getElem?_set_self hl] at e
        cases e
        exact ⟨v, by rw [List.getElem?_set_self (by rw [← h.len]; exact hl)], r⟩
      · rw [List.getElem?_eq_none (by simpa using hl)] at e; cases e
    · rw [List.getElem?_set_ne hi] at e ⊢
      exact h.at_ j y e
  · by_cases hi : i = j
    · subst hi
      by_cases hl : i < L.length
      · rw [List.getElem?_set_self hl] at e; cases e
      · rw [List.getElem?_eq_none (by simpa using hl)] at e; cases e
    · rw [List.getElem?_set_ne hi] at e ⊢
      exact h.ex j a g e
theorem RL.none {L : Loc} {σ : L2.St} (h : RL l io H L σ) (hg : l.gd = Option.none) (i : Nat) : RL l io H (L.set i none) (σ.set i none) := by
  refine ⟨by rw [List.length_set, List.length_set]; exact h.len, fun j y e => ?_, fun j a g e => by rw [hg] at g; cases g⟩
  by_cases hi : i = j
  · subst hi
    by_cases hl : i < L.length
    · rw [List.getElem?_set_self hl] at e; cases e
    · rw [List.getElem?_eq_none (by simpa using hl)] at e; cases e
  · rw [List.getElem?_set_ne hi] at e ⊢
    exact h.at_ j y e
/-- within an except suite, and behind it -/
theorem RL.exIn {L : Loc} {σ : L2.St} (h : RL l io H L σ) (i : Nat) (a : Addr) : RL { l with gd := some (i, a) } io H (L.set i Option.none) (σ.set i (some (.ref a))) := by
  refine ⟨by rw [List.length_set, List.length_set]; exact h.len, fun j y e => ?_, fun j b g e => ?_⟩
  · by_cases hi : i = j
    · subst hi
      by_cases hl : i < L.length
      · rw [List.getElem?_set_self hl] at e; cases e
      · rw [List.getElem?_eq_none (by simpa using hl)] at e; cases e
    · rw [List.getElem?_set_ne hi] at e ⊢
      exact h.at_ j y e
  · have g : some (i, a) = some (j, b) := g
    cases g
    by_cases hl : i < L.length
    · rw [List.getElem?_set_self (by rw [← h.len]; exact hl)]
    · rw [List.getElem?_eq_none (by simpa using hl)] at e; cases e
theorem RL.exOut {L : Loc} {σ : L2.St} {i : Nat} {a : Addr} (h : RL { l with gd := some (i, a) } io H L σ) (hg : l.gd = Option.none) : RL l io H L σ := ⟨h.len, h.at_, fun j b g _ => by rw [hg] at g; cases g⟩

/-! ### steps of the heap -/
/-- a new object that is not the store's -/
theorem Gr.new (s : Sim l S io H) {p : Addr} {o : HO} (h : H p = none) : Gr io H io (upd H p o) :=
  ⟨⟨[], by simp, by simp⟩, fun a u _ e => by rw [upd_ne (ne_of_none e h)]; exact e, fun a e => by
    by_cases q : a = p
    · subst q; exact h
    · rw [upd_ne q] at e; exact e⟩
theorem Sim.out (s : Sim l S io H) {p : Addr} (h : H p = none) : p ∉ io := fun hm => by
  obtain ⟨n, hn⟩ := List.getElem?_of_mem hm
  obtain ⟨o, _, r⟩ := s.obj hn
  cases o with
  | lst xs => obtain ⟨_, e, _⟩ := r; rw [h] at e; cases e
  | ins c fs => obtain ⟨_, _, e, _⟩ := r; rw [h] at e; cases e
/-- all addresses keep what they hold -/
theorem Sim.keep (s : Sim l S io H) (g : Gr io H io H') (k : ∀ a ∈ io, H' a = H a) : Sim l S io H' :=
  ⟨s.len, s.nd, fun n o e => by
    obtain ⟨a, h1, h2⟩ := s.ob n o e
    exact ⟨a, h1, g.ro s h2 (k a (List.mem_of_getElem? h1))⟩⟩
theorem Sim.new (s : Sim l S io H) {p : Addr} {o : HO} (h : H p = none) : Sim l S io (upd H p o) :=
  s.keep (Gr.new s h) fun a ha => upd_ne fun e => s.out h (e ▸ ha)
/-- a new object of the store -/
theorem Gr.push (s : Sim l S io H) {p : Addr} {o : HO} (h : H p = none) : Gr io H (io ++ [p]) (upd H p o) :=
  ⟨⟨[p], rfl, fun a ha => by rw [List.mem_singleton.mp ha]; exact h⟩, fun a u _ e => by rw [upd_ne (ne_of_none e h)]; exact e, fun a e => by
    by_cases q : a = p
    · subst q; exact h
    · rw [upd_ne q] at e; exact e⟩
theorem Sim.push (s : Sim l S io H) {p : Addr} {o : HO} {x : SO} (h : H p = none) (hr : RO l (io ++ [p]) (upd H p o) x p) : Sim l (S ++ [x]) (io ++ [p]) (upd H p o) := by
  have g := Gr.push (o := o) s h
  refine ⟨by rw [List.length_append, List.length_append, s.len]; rfl, ?_, fun n y e => ?_⟩
  · rw [List.nodup_append]
    refine ⟨s.nd, by simp, fun a ha b hb q => ?_⟩
    rw [List.mem_singleton.mp hb] at q
    exact s.out h (q ▸ ha)
  · by_cases hn : n < S.length
    · rw [List.getElem?_append_left hn] at e
      obtain ⟨a, h1, h2⟩ := s.ob n y e
      exact ⟨a, g.get h1, g.ro s h2 (upd_ne fun q => s.out h (q ▸ List.mem_of_getElem? h1))⟩
    · rw [List.getElem?_append_right (by omega)] at e
      have h0 : n - S.length = 0 := by
        cases q : n - S.length with
        | zero => rfl
        | succ k => rw [q] at e; simp at e
      rw [h0] at e
      have e2 : x = y := by simpa using e
      subst e2
      have hnn : n = io.length := by rw [s.len]; omega
      exact ⟨p, by rw [hnn]; simp, hr⟩
/-- a list of the store anew -/
theorem Gr.upd (s : Sim l S io H) {n : Nat} {p : Addr} {o : HO} (h : io[n]? = some p) : Gr io H io (upd H p o) :=
  ⟨⟨[], by simp, by simp⟩, fun a u ha e => by rw [upd_ne (show a ≠ p from fun q => ha (by rw [q]; exact List.mem_of_getElem? h))]; exact e, fun a e => by
    by_cases q : a = p
    · subst q; rw [upd_same] at e; cases e
    · rw [upd_ne q] at e; exact e⟩
theorem nodup_at : ∀ {l : List Addr} (hN : l.Nodup) {i j : Nat} {x : Addr} (h1 : l[i]? = some x) (h2 : l[j]? = some x), i = j
  | [], _, _, _, _, h, _ => by simp at h
  | y :: ys, hN, 0, 0, _, _, _ => rfl
  | y :: ys, hN, 0, j + 1, x, h1, h2 => by
    have e : y = x := by simpa using h1
    subst e
    exact absurd (List.mem_of_getElem? (by simpa using h2)) (List.nodup_cons.mp hN).1
  | y :: ys, hN, i + 1, 0, x, h1, h2 => by
    have e : y = x := by simpa using h2
    subst e
    exact absurd (List.mem_of_getElem? (by simpa using h1)) (List.nodup_cons.mp hN).1
  | y :: ys, hN, i + 1, j + 1, x, h1, h2 => by
    rw [nodup_at (List.nodup_cons.mp hN).2 (i := i) (j := j) (x := x) (by simpa using h1) (by simpa using h2)]
theorem Sim.upd (s : Sim l S io H) {n : Nat} {p : Addr} {o : HO} {x : SO} (h : io[n]? = some p) (hr : RO l io (L2.upd H p o) x p) : Sim l (S.set n x) io (L2.upd H p o) := by
  have g := Gr.upd (o := o) s h
  refine ⟨by rw [List.length_set]; exact s.len, s.nd, fun m y e => ?_⟩
  by_cases hm : n = m
  · subst hm
    have hn : n < S.length := by rw [← s.len]; exact (List.getElem?_eq_some_iff.mp h).1
    rw [List.getElem?_set_self hn] at e
    cases e
    exact ⟨p, h, hr⟩
  · rw [List.getElem?_set_ne hm] at e
    obtain ⟨a, h1, h2⟩ := s.ob m y e
    exact ⟨a, h1, g.ro s h2 (upd_ne fun q => hm (nodup_at s.nd h (q ▸ h1)))⟩
end

/-! ### what a result promises -/
def Po {α : Type} (l : Lk) (r : R α) (io : List Addr) (H : Hp) (F : α → Sto → List Addr → Hp → Prop) (E : Nat → Sto → List Addr → Hp → Prop) : Prop :=
  match r with
  | .ok v S => ∀ io' H', Gr io H io' H' → Sim l S io' H' → F v S io' H'
  | .exc c S => ∀ io' H', Gr io H io' H' → Sim l S io' H' → E c S io' H'
  | .bad => False
/-- wishes: of a value, of an exception at the slots -/
def FV (l : Lk) (Q : VK) : SV → Sto → List Addr → Hp → Prop := fun v _ io H => ∀ u, RV l.K io H v u → Q u H
def FVs (l : Lk) (Q : List V → Hp → Prop) : List SV → Sto → List Addr → Hp → Prop := fun v _ io H => ∀ u, RVs l.K io H v u → Q u H
def FB (Q : Bool → Hp → Prop) : Bool → Sto → List Addr → Hp → Prop := fun b _ _ H => Q b H
def EW (l : Lk) (W : WX) (σ : L2.St) : Nat → Sto → List Addr → Hp → Prop := fun c _ _ H => W (l.ea c) none σ H
def tE (l : Lk) (W : WX) (r : Loc → Sto → R SV) : TE := fun σ H Q => ∃ L S io, RL l io H L σ ∧ Sim l S io H ∧ Po l (r L S) io H (FV l Q) (EW l W σ)
def tB (l : Lk) (W : WX) (r : Loc → Sto → R Bool) : TT := fun σ H Q => ∃ L S io, RL l io H L σ ∧ Sim l S io H ∧ Po l (r L S) io H (FB Q) (EW l W σ)
def tAs (l : Lk) (W : WX) (r : Loc → Sto → R (List SV)) : TA := fun σ H Q => ∃ L S io, RL l io H L σ ∧ Sim l S io H ∧ Po l (r L S) io H (FVs l Q) (EW l W σ)
section
variable {l : Lk} {W : WX} {S : Sto} {io io' : List Addr} {H H' : Hp} {α β : Type} {F : β → Sto → List Addr → Hp → Prop} {E : Nat → Sto → List Addr → Hp → Prop} {σ : L2.St} {L : Loc}
theorem Po.later {r : R β} (h : Po l r io H F E) (g : Gr io H io' H') : Po l r io' H' F E := by
  cases r with
  | ok v S => exact fun io2 H2 g2 s2 => h io2 H2 (g.trans g2) s2
  | exc c S => exact fun io2 H2 g2 s2 => h io2 H2 (g.trans g2) s2
  | bad => exact h
theorem Po.bind {r : R α} {f : α → Sto → R β} (h : Po l (r.bind f) io H F E) : Po l r io H (fun v S1 io1 H1 => Po l (f v S1) io1 H1 F E) E := by
  cases r with
  | ok v S => exact fun io2 H2 g2 s2 => Po.later (r := f v S) h g2
  | exc c S => exact h
  | bad => exact h
theorem Po.imp {r : R β} {F' : β → Sto → List Addr → Hp → Prop} (h : Po l r io H F E) (k : ∀ v S io' H', Gr io H io' H' → Sim l S io' H' → F v S io' H' → F' v S io' H') : Po l r io H F' E := by
  cases r with
  | ok v S => exact fun io2 H2 g2 s2 => k v S io2 H2 g2 s2 (h io2 H2 g2 s2)
  | exc c S => exact h
  | bad => exact h
/-- an expression first, then what f does with it -/
theorem seqE {r : Loc → Sto → R SV} {f : SV → Sto → R β} {K : VK} (hL : RL l io H L σ) (hS : Sim l S io H) (hp : Po l ((r L S).bind f) io H F (EW l W σ))
    (hk : ∀ v S1 io1 H1 u, Gr io H io1 H1 → Sim l S1 io1 H1 → RL l io1 H1 L σ → RV l.K io1 H1 v u → Po l (f v S1) io1 H1 F (EW l W σ) → K u H1) : tE l W r σ H K :=
  ⟨L, S, io, hL, hS, (Po.bind hp).imp fun v S1 io1 H1 g s q u hu => hk v S1 io1 H1 u g s (g.rl hS hL) hu q⟩
theorem seqB {r : Loc → Sto → R Bool} {f : Bool → Sto → R β} {K : Bool → Hp → Prop} (hL : RL l io H L σ) (hS : Sim l S io H) (hp : Po l ((r L S).bind f) io H F (EW l W σ))
    (hk : ∀ v S1 io1 H1, Gr io H io1 H1 → Sim l S1 io1 H1 → RL l io1 H1 L σ → Po l (f v S1) io1 H1 F (EW l W σ) → K v H1) : tB l W r σ H K :=
  ⟨L, S, io, hL, hS, (Po.bind hp).imp fun v S1 io1 H1 g s q => hk v S1 io1 H1 g s (g.rl hS hL) q⟩
theorem seqA {r : Loc → Sto → R (List SV)} {f : List SV → Sto → R β} {K : List V → Hp → Prop} (hL : RL l io H L σ) (hS : Sim l S io H) (hp : Po l ((r L S).bind f) io H F (EW l W σ))
    (hk : ∀ v S1 io1 H1 u, Gr io H io1 H1 → Sim l S1 io1 H1 → RL l io1 H1 L σ → RVs l.K io1 H1 v u → Po l (f v S1) io1 H1 F (EW l W σ) → K u H1) : tAs l W r σ H K :=
  ⟨L, S, io, hL, hS, (Po.bind hp).imp fun v S1 io1 H1 g s q u hu => hk v S1 io1 H1 u g s (g.rl hS hL) hu q⟩
theorem endE {r : Loc → Sto → R SV} {Q : VK} (hL : RL l io H L σ) (hS : Sim l S io H) (hp : Po l (r L S) io H (FV l Q) (EW l W σ)) : tE l W r σ H Q := ⟨L, S, io, hL, hS, hp⟩
/-- the value is there -/
theorem Po.val {v : SV} {u : V} {Q : VK} (h : Po l (.ok v S) io H (FV l Q) E) (s : Sim l S io H) (r : RV l.K io H v u) : Q u H := h io H Gr.refl s u r
theorem Po.val' {v : SV} {u : V} {Q : VK} (h : Po l (.ok v S) io H (FV l Q) E) (g : Gr io H io' H') (s : Sim l S io' H') (r : RV l.K io' H' v u) : Q u H' := h io' H' g s u r
/-- a new list -/
theorem Po.newL {xs : List SV} {vs : List V} {Q : VK} (h : Po l (newL xs S) io H (FV l Q) E) (s : Sim l S io H) (r : RVs l.K io H xs vs) {p : Addr} (hp : H p = none) : Q (.ref p) (L2.upd H p (.lst vs)) := by
  have g := Gr.push (o := .lst vs) s hp
  have s2 := s.push (x := .lst xs) (o := .lst vs) hp ⟨vs, upd_same, g.rvs s r⟩
  exact h _ _ g s2 (.ref p) ⟨p, by rw [← s.len]; simp, rfl⟩
/-- a new tuple -/
theorem Po.newT {xs : List SV} {vs : List V} {Q : VK} (h : Po l (.ok (.tup xs) S) io H (FV l Q) E) (s : Sim l S io H) (r : RVs l.K io H xs vs) {p : Addr} (hp : H p = none) : Q (.ref p) (L2.upd H p (.tup vs)) := by
  have g := Gr.new (o := .tup vs) s hp
  exact h _ _ g (s.new hp) (.ref p) ⟨p, vs, rfl, .inl (.inl upd_same), g.rvs s r⟩
theorem peImp {X : Cx} {e : Expr} {t t' : TE} (h : PE X e t) (k : ∀ σ H Q, t' σ H Q → t σ H Q) : PE X e t' := ⟨fun pins s σ H Q I q => h.run pins s σ H Q I (k σ H Q q)⟩
theorem ptImp {X : Cx} {e : Expr} {t t' : TT} (h : PT X e t) (k : ∀ σ H Q, t' σ H Q → t σ H Q) : PT X e t' := ⟨fun pins s σ H Q I q => h.run pins s σ H Q I (k σ H Q q)⟩
theorem paImp {X : Cx} {e : List Expr} {t t' : TA} (h : PA X e t) (k : ∀ σ H Q, t' σ H Q → t σ H Q) : PA X e t' := ⟨fun pos pins s σ H Q I q => h.run pos pins s σ H Q I (k σ H Q q)⟩
theorem psImp {X : Cx} {e : Stmt} {t t' : TS} (h : PS X e t) (k : ∀ D σ H, t' D σ H → t D σ H) : PS X e t' := ⟨fun pins s σ H D I q => h.run pins s σ H D I (k D σ H q)⟩
theorem pssImp {X : Cx} {e : List Stmt} {t t' : TS} (h : PSs X e t) (k : ∀ D σ H, t' D σ H → t D σ H) : PSs X e t' := ⟨fun pins s σ H D I q => h.run pins s σ H D I (k D σ H q)⟩
theorem opImp {X : Cx} {f : Value → Value → Sem Value} {r r' : R2} (h : OpR X f r) (k : ∀ x y H Q, r' x y H Q → r x y H Q) : OpR X f r' := fun pins s σ H x y v u Q I rx ry q => h pins s σ H x y v u Q I rx ry (k x y H Q q)
end
end Bi

/-! Bi3: each operation by the layer's rule. -/
namespace Bi
open PySem PySem.Spec PyProof.Rows L2

section
variable {l : Lk} {S : Sto} {io : List Addr} {H : Hp} {x y : SV} {u w : V}
theorem lstAt (s : Sim l S io H) {n : Nat} {xs : List SV} (r : RV l.K io H (.ref n) u) (e : S[n]? = some (.lst xs)) : ∃ p vs, u = .ref p ∧ io[n]? = some p ∧ H p = some (.lst vs) ∧ RVs l.K io H xs vs := by
  obtain ⟨a, h1, h2⟩ := s.ob n _ e
  obtain ⟨b, h3, h4⟩ := r
  rw [h1] at h3
  cases h3
  obtain ⟨vs, h5, h6⟩ := h2
  exact ⟨a, vs, h4, h1, h5, h6⟩
theorem lstRd (s : Sim l S io H) {xs : List SV} (r : RV l.K io H x u) (e : lstOf S x = some xs) : ∃ p vs, u = .ref p ∧ SqL l.K H p vs ∧ RVs l.K io H xs vs := by
  cases x with
  | ref n =>
    obtain ⟨b, h3, h4⟩ := r
    unfold lstOf at e
    dsimp only at e
    split at e
    · rename_i ys q
      cases e
      obtain ⟨a, h1, vs, h5, h6⟩ := s.ob n _ q
      rw [h1] at h3
      cases h3
      exact ⟨_, vs, h4, .inl (.inl h5), h6⟩
    · cases e
  | _ => cases e
theorem seqRd (s : Sim l S io H) {xs : List SV} (r : RV l.K io H x u) (e : seqOf S x = some xs) : ∃ p vs, u = .ref p ∧ (SqL l.K H p vs ∨ SqT l.K H p vs) ∧ RVs l.K io H xs vs := by
  cases x with
  | tup ys =>
    cases e
    obtain ⟨a, vs, h1, h2, h3⟩ := r
    exact ⟨a, vs, h1, .inr h2, h3⟩
  | ref n =>
    obtain ⟨p, vs, h1, h2, h3⟩ := lstRd (x := .ref n) s r e
    exact ⟨p, vs, h1, .inl h2, h3⟩
  | _ => cases e
theorem flatV_of (r : RV l.K io H x u) (f : flatS x = true) : flatV u = true := by
  cases x with
  | non => cases r; rfl
  | bl b => cases r; rfl
  | int i => cases r; rfl
  | str z => cases r; rfl
  | tup xs => cases f
  | ref n => cases f
  | kl xs => cases f
theorem eqV_of (r : RV l.K io H x u) (q : RV l.K io H y w) (f : flatS x = true) (g : flatS y = true) : eqF x y = eqV u w := by
  cases x with
  | tup xs => cases f
  | ref n => cases f
  | kl xs => cases f
  | _ =>
    cases r
    cases y with
    | tup xs => cases g
    | ref n => cases g
    | kl xs => cases g
    | _ => cases q; rfl
theorem flats_of : ∀ {xs : List SV} {vs : List V}, RVs l.K io H xs vs → xs.all flatS = true → vs.all flatV = true
  | [], _, h, _ => by rw [h]; rfl
  | x :: xs, _, ⟨v, r, e, a, b⟩, f => by
    rw [List.all_cons, Bool.and_eq_true] at f
    rw [e, List.all_cons, Bool.and_eq_true]
    exact ⟨flatV_of a f.1, flats_of b f.2⟩
theorem inV_of (r : RV l.K io H x u) (f : flatS x = true) : ∀ {xs : List SV} {vs : List V}, RVs l.K io H xs vs → xs.all flatS = true → inF x xs = inV u vs
  | [], _, h, _ => by rw [h]; rfl
  | y :: ys, _, ⟨v, q, e, a, b⟩, g => by
    rw [List.all_cons, Bool.and_eq_true] at g
    unfold inF inV
    rw [e, List.any_cons, List.any_cons, eqV_of a r g.1 f]
    have := inV_of r f b g.2
    unfold inF inV at this
    rw [this]
mutual
theorem toD_dp (s : Sim l S io H) : ∀ (n : Nat) (x : SV) (d : PyData) (u : V), toD S n x = some d → RV l.K io H x u → Dp l.K H u d
  | _, .non, d, u, e, r => by unfold toD at e; cases e; cases r; exact .non
  | _, .bl b, d, u, e, r => by unfold toD at e; cases e; cases r; exact .bl b
  | _, .int i, d, u, e, r => by unfold toD at e; cases e; cases r; exact .int i
  | _, .str z, d, u, e, r => by unfold toD at e; cases e; cases r; exact .str z
  | 0, .tup xs, d, u, e, r => by unfold toD at e; cases e
  | 0, .ref a, d, u, e, r => by unfold toD at e; cases e
  | 0, .kl a, d, u, e, r => by unfold toD at e; cases e
  | n + 1, .kl a, d, u, e, r => by unfold toD at e; cases e
  | n + 1, .tup xs, d, u, e, r => by
    unfold toD at e
    obtain ⟨a, vs, h1, h2, h3⟩ := r
    cases q : toDs S n xs with
    | none => rw [q] at e; cases e
    | some ds =>
      rw [q] at e
      cases e
      subst h1
      exact .tup h2 (toDs_dp s n xs ds vs q h3)
  | n + 1, .ref a, d, u, e, r => by
    have key : ∀ xs, lstOf S (.ref a) = some xs → (toDs S n xs).map PyData.list = some d → Dp l.K H u d := fun xs z e => by
      obtain ⟨p, vs, h1, h2, h3⟩ := lstRd s r z
      cases q : toDs S n xs with
      | none => rw [q] at e; cases e
      | some ds =>
        rw [q] at e
        cases e
        subst h1
        exact .lst h2 (toDs_dp s n xs ds vs q h3)
    unfold toD at e
    split at e
    · rename_i xs q
      exact key xs (by unfold lstOf; dsimp only; rw [q]) e
    · cases e
theorem toDs_dp (s : Sim l S io H) : ∀ (n : Nat) (xs : List SV) (ds : List PyData) (vs : List V), toDs S n xs = some ds → RVs l.K io H xs vs → DpAll l.K H vs ds
  | _, [], ds, vs, e, r => by unfold toDs at e; cases e; cases (show vs = [] from r); exact .nil
  | 0, x :: xs, ds, vs, e, r => by unfold toDs at e; cases e
  | n + 1, x :: xs, ds, vs, e, r => by
    unfold toDs at e
    obtain ⟨v, t, h1, h2, h3⟩ := r
    cases q1 : toD S n x with
    | none => rw [q1] at e; cases e
    | some d =>
      cases q2 : toDs S n xs with
      | none => rw [q1, q2] at e; cases e
      | some ds' =>
        rw [q1, q2] at e
        cases e
        subst h1
        exact .cons (toD_dp s n x d v q1 h2) (toDs_dp s n xs ds' t q2 h3)
end
end

def b2op : B2 → Operator
  | .add => .Add
  | .sub => .Sub
  | .mul => .Mult
  | .fdiv => .FloorDiv
  | .mod => .Mod
  | .pow => .Pow
  | .shl => .LShift
def c2op : C2 → CmpOp
  | .eq => .Eq
  | .ne => .NotEq
  | .lt => .Lt
  | .le => .LtE
  | .gt => .Gt
  | .ge => .GtE
  | .isin => .In
  | .notin => .NotIn
  | .is => .Is
  | .isnt => .IsNot
/-- an operation on two values, as the interpreter has it -/
def r2 (l : Lk) (f : SV → SV → Sto → R SV) : R2 := fun u w H Q => ∃ x y S io E, Sim l S io H ∧ RV l.K io H x u ∧ RV l.K io H y w ∧ Po l (f x y S) io H (FV l Q) E
def r1 (l : Lk) (f : SV → Sto → R SV) : V → Hp → VK → Prop := fun u H Q => ∃ x S io E, Sim l S io H ∧ RV l.K io H x u ∧ Po l (f x S) io H (FV l Q) E
def rc (l : Lk) (f : List SV → Sto → R SV) : List V → Hp → VK → Prop := fun us H Q => ∃ xs S io E, Sim l S io H ∧ RVs l.K io H xs us ∧ Po l (f xs S) io H (FV l Q) E
def rm (l : Lk) (f : SV → List SV → Sto → R SV) : V → List V → Hp → VK → Prop := fun u us H Q => ∃ x xs S io E, Sim l S io H ∧ RV l.K io H x u ∧ RVs l.K io H xs us ∧ Po l (f x xs S) io H (FV l Q) E

theorem szOk_of {n : Nat} (h : szOk n = true) : n ≤ sizeLine := of_decide_eq_true h
section
variable {l : Lk} {X : Cx} (hK : X.K = l.K)
include hK
theorem op_bin (o : B2) : OpR X (binaryOp (b2op o)) (r2 l (binop o)) := by
  intro pins s σ H u w v' u' Q I ru rw' h
  obtain ⟨x, y, S, io, E, hS, hx, hy, hp⟩ := h
  cases o with
  | add =>
    cases x with
    | int i =>
      cases y with
      | int j => exact op_add pins s σ H u w v' u' Q I ru rw' ⟨i, j, hx, hy, hp.val hS rfl⟩
      | _ => exact hp.elim
    | str a =>
      cases y with
      | str b =>
        unfold binop at hp
        dsimp only at hp
        split at hp
        · rename_i z
          exact op_add_str pins s σ H u w v' u' Q I ru rw' ⟨a, b, hx, hy, szOk_of z, hp.val hS rfl⟩
        · exact hp.elim
      | _ => exact hp.elim
    | tup a =>
      cases y with
      | tup b =>
        unfold binop at hp
        dsimp only at hp
        split at hp
        · rename_i z
          obtain ⟨p, vs, h1, h2, h3⟩ := hx
          obtain ⟨q, ws, h4, h5, h6⟩ := hy
          have z := szOk_of z
          rw [h3.length, h6.length] at z
          refine op_catA pins s σ H u w v' u' Q I ru rw' ⟨p, q, vs, ws, h1, h4, by rw [hK]; exact h2, by rw [hK]; exact h5, z, fun e => ?_, fun _ e => ?_, fun _ _ t ht => ?_⟩
          · have ea : a = [] := by
              have := h3.length
              rw [e] at this
              exact List.eq_nil_of_length_eq_zero this
            subst ea
            exact hp.val hS (u := .ref q) ⟨q, ws, rfl, h5, by simpa using h6⟩
          · have eb : b = [] := by
              have := h6.length
              rw [e] at this
              exact List.eq_nil_of_length_eq_zero this
            subst eb
            exact hp.val hS (u := .ref p) ⟨p, vs, rfl, h2, by simpa using h3⟩
          · exact hp.newT hS (h3.append h6) ht
        · exact hp.elim
      | _ => exact hp.elim
    | ref a =>
      cases y with
      | ref b =>
        unfold binop at hp
        dsimp only at hp
        split at hp
        · rename_i xs ys e1 e2
          split at hp
          · rename_i z
            obtain ⟨p, vs, h1, h2, h3, h4⟩ := lstAt hS hx e1
            obtain ⟨q, ws, h5, h6, h7, h8⟩ := lstAt hS hy e2
            have z := szOk_of z
            rw [h4.length, h8.length] at z
            exact op_cat pins s σ H u w v' u' Q I ru rw' ⟨p, q, vs, ws, h1, h5, h3, h7, z, fun t ht => hp.newL hS (h4.append h8) ht⟩
          · exact hp.elim
        · exact hp.elim
      | _ => exact hp.elim
    | _ => cases y <;> exact hp.elim
  | sub =>
    cases x with
    | int i =>
      cases y with
      | int j => exact op_sub pins s σ H u w v' u' Q I ru rw' ⟨i, j, hx, hy, hp.val hS rfl⟩
      | _ => exact hp.elim
    | _ => cases y <;> exact hp.elim
  | mul =>
    cases x with
    | int i =>
      cases y with
      | int j =>
        unfold binop at hp
        dsimp only at hp
        split at hp
        · rename_i z
          exact op_mulW pins s σ H u w v' u' Q I ru rw' ⟨i, j, hx, hy, (show i.natAbs.log2 + j.natAbs.log2 < 1000000 from of_decide_eq_true z), hp.val hS rfl⟩
        · exact hp.elim
      | _ => exact hp.elim
    | ref a =>
      cases y with
      | int k =>
        unfold binop at hp
        dsimp only at hp
        split at hp
        · rename_i xs e1
          split at hp
          · rename_i z
            obtain ⟨p, vs, h1, h2, h3, h4⟩ := lstAt hS hx e1
            simp only [Bool.and_eq_true, decide_eq_true_eq] at z
            obtain ⟨⟨z1, z2⟩, z3⟩ := z
            have z3 := szOk_of z3
            have z2 := of_decide_eq_true (show decide (k.natAbs < 4611686018427387904) = true from z2)
            rw [h4.length] at z3
            exact op_rep pins s σ H u w v' u' Q I ru rw' ⟨p, k, vs, h1, hy, h3, by omega, by omega, z3, fun t ht => hp.newL hS (h4.rep _) ht⟩
          · exact hp.elim
        · exact hp.elim
      | _ => exact hp.elim
    | _ => cases y <;> exact hp.elim
  | fdiv =>
    cases x with
    | int i =>
      cases y with
      | int j =>
        unfold binop at hp
        dsimp only at hp
        split at hp
        · rename_i z
          unfold divOk at z
          simp only [Bool.and_eq_true, decide_eq_true_eq] at z
          exact op_fdivW pins s σ H u w v' u' Q I ru rw' ⟨i, j, hx, hy, z, hp.val hS rfl⟩
        · exact hp.elim
      | _ => exact hp.elim
    | _ => cases y <;> exact hp.elim
  | mod =>
    cases x with
    | int i =>
      cases y with
      | int j =>
        unfold binop at hp
        dsimp only at hp
        split at hp
        · rename_i z
          exact op_mod pins s σ H u w v' u' Q I ru rw' ⟨i, j, hx, hy, of_decide_eq_true z, hp.val hS rfl⟩
        · exact hp.elim
      | _ => exact hp.elim
    | _ => cases y <;> exact hp.elim
  | pow =>
    cases x with
    | int i =>
      cases y with
      | int j =>
        unfold binop at hp
        dsimp only at hp
        split at hp
        · rename_i z
          unfold powOk at z
          simp only [Bool.and_eq_true, decide_eq_true_eq] at z
          exact op_pow pins s σ H u w v' u' Q I ru rw' ⟨i, j, hx, hy, ⟨z.1.1, by have := z.1.2; have := z.1.1; omega, z.2⟩, hp.val hS rfl⟩
        · exact hp.elim
      | _ => exact hp.elim
    | _ => cases y <;> exact hp.elim
  | shl =>
    cases x with
    | int i =>
      cases y with
      | int j =>
        unfold binop at hp
        dsimp only at hp
        split at hp
        · rename_i z
          unfold powOk at z
          simp only [Bool.and_eq_true, decide_eq_true_eq] at z
          exact op_shl pins s σ H u w v' u' Q I ru rw' ⟨i, j, hx, hy, ⟨z.1.1, by have := z.1.2; have := z.1.1; omega, z.2⟩, hp.val hS rfl⟩
        · exact hp.elim
      | _ => exact hp.elim
    | _ => cases y <;> exact hp.elim
theorem op_neg : UnR X (unaryOp .USub) (r1 l negS) := by
  intro pins s σ H u v' Q I ru h
  obtain ⟨x, S, io, E, hS, hx, hp⟩ := h
  cases x with
  | int i => exact un_neg pins s σ H u v' Q I ru ⟨i, hx, hp.val hS rfl⟩
  | _ => exact hp.elim
end
/-- the answer of a test of two values -/
theorem rB_some {l : Lk} {o : Option Bool} {S : Sto} {io : List Addr} {H : Hp} {Q : VK} {E : Nat → Sto → List Addr → Hp → Prop} (h : Po l (rB o S) io H (FV l Q) E) (s : Sim l S io H) : ∃ b, o = some b ∧ Q (.bl b) H := by
  cases o with
  | none => exact h.elim
  | some b => exact ⟨b, rfl, h.val s rfl⟩
theorem dec_eqI {i j : Int} : decide (V.int i = V.int j) = decide (i = j) := by simp
theorem dec_eqS {i j : Str} : decide (V.str i = V.str j) = decide (i = j) := by simp
theorem dec_eqB {i j : Bool} : decide (V.bl i = V.bl j) = decide (i = j) := by simp
/-- == by cases -/
theorem eq_cases {l : Lk} {S : Sto} {io : List Addr} {H : Hp} {x y : SV} {u w : V} {b : Bool} (s : Sim l S io H) (hx : RV l.K io H x u) (hy : RV l.K io H y w) (e : eqSV S x y = some b) :
    (scal u w = true ∧ decide (u = w) = b) ∨ ∃ d d', Dp l.K H u d ∧ Dp l.K H w d' ∧ SeqAt.shaped d = true ∧ SeqAt.shaped d' = true ∧ PyData.eqv d d' = b := by
  have gen : eqD S x y = some b → ∃ d d', Dp l.K H u d ∧ Dp l.K H w d' ∧ SeqAt.shaped d = true ∧ SeqAt.shaped d' = true ∧ PyData.eqv d d' = b := fun e => by
    unfold eqD at e
    split at e
    · rename_i d d' q1 q2
      split at e
      · rename_i z
        rw [Bool.and_eq_true] at z
        cases e
        exact ⟨d, d', toD_dp s _ x d u q1 hx, toD_dp s _ y d' w q2 hy, z.1, z.2, rfl⟩
      · cases e
    · cases e
  cases x with
  | non =>
    cases hx
    cases y with
    | non => cases hy; cases e; exact .inl ⟨rfl, by simp⟩
    | bl b => cases hy; cases e; exact .inl ⟨rfl, by simp⟩
    | int i => cases hy; cases e; exact .inl ⟨rfl, by simp⟩
    | str z => cases hy; cases e; exact .inl ⟨rfl, by simp⟩
    | _ => exact .inr (gen e)
  | bl c =>
    cases hx
    cases y with
    | non => cases hy; cases e; exact .inl ⟨rfl, by simp⟩
    | bl b => cases hy; cases e; exact .inl ⟨rfl, dec_eqB⟩
    | str z => cases hy; cases e; exact .inl ⟨rfl, by simp⟩
    | _ => exact .inr (gen e)
  | int i =>
    cases hx
    cases y with
    | non => cases hy; cases e; exact .inl ⟨rfl, by simp⟩
    | int i => cases hy; cases e; exact .inl ⟨rfl, dec_eqI⟩
    | str z => cases hy; cases e; exact .inl ⟨rfl, by simp⟩
    | _ => exact .inr (gen e)
  | str z =>
    cases hx
    cases y with
    | non => cases hy; cases e; exact .inl ⟨rfl, by simp⟩
    | bl b => cases hy; cases e; exact .inl ⟨rfl, by simp⟩
    | int i => cases hy; cases e; exact .inl ⟨rfl, by simp⟩
    | str z => cases hy; cases e; exact .inl ⟨rfl, dec_eqS⟩
    | _ => exact .inr (gen e)
  | _ => exact .inr (gen (by cases y <;> exact e))
section
variable {l : Lk} {X : Cx} (hK : X.K = l.K) (hu : X.A.units + 64 < cLine)
include hK hu
theorem op_cmp (o : C2) : OpR X (compareOp (c2op o)) (r2 l (cmpop o)) := by
  intro pins s σ H u w v' u' Q I ru rw' h
  obtain ⟨x, y, S, io, E, hS, hx, hy, hp⟩ := h
  have hin : ∀ b, isIn S x y = some b → (∃ (c : Nat) (z : Str), u = .str ⟨#[c]⟩ ∧ w = .str z ∧ decide (c ∈ z.cps.toList) = b) ∨
      ∃ p vs, w = .ref p ∧ (SqL X.K H p vs ∨ SqT X.K H p vs) ∧ flatV u = true ∧ vs.all flatV = true ∧ inV u vs = b := fun b e => by
    unfold isIn at e
    split at e
    · rename_i c z
      split at e
      · rename_i h1
        cases e
        obtain ⟨⟨cl⟩⟩ := c
        match cl, h1 with
        | [k], _ => exact .inl ⟨k, z, hx, hy, rfl⟩
      · cases e
    · split at e
      · rename_i xs q
        split at e
        · rename_i f
          cases e
          rw [Bool.and_eq_true] at f
          obtain ⟨p, vs, h1, h2, h3⟩ := seqRd hS hy q
          exact .inr ⟨p, vs, h1, by rw [hK]; exact h2, flatV_of hx f.1, flats_of h3 f.2, (inV_of hx f.1 h3 f.2).symm⟩
        · cases e
      · cases e
  cases o with
  | eq =>
    obtain ⟨b, e, q⟩ := rB_some (o := eqSV S x y) hp hS
    rcases eq_cases hS hx hy e with ⟨h1, h2⟩ | ⟨d, d', h1, h2, h3, h4, h5⟩
    · exact op_eq pins s σ H u w v' u' Q I ru rw' ⟨h1, by rw [h2]; exact q⟩
    · exact op_eqD hu pins s σ H u w v' u' Q I ru rw' ⟨d, d', by rw [hK]; exact h1, by rw [hK]; exact h2, h3, h4, by rw [h5]; exact q⟩
  | ne =>
    obtain ⟨b, e, q⟩ := rB_some (o := (eqSV S x y).map (!·)) hp hS
    cases e0 : eqSV S x y with
    | none => rw [e0] at e; cases e
    | some c =>
      rw [e0] at e
      cases e
      rcases eq_cases hS hx hy e0 with ⟨h1, h2⟩ | ⟨d, d', h1, h2, h3, h4, h5⟩
      · exact op_ne pins s σ H u w v' u' Q I ru rw' ⟨h1, by rw [h2]; exact q⟩
      · exact op_neD hu pins s σ H u w v' u' Q I ru rw' ⟨d, d', by rw [hK]; exact h1, by rw [hK]; exact h2, h3, h4, by rw [h5]; exact q⟩
  | lt =>
    cases x with
    | int i =>
      cases y with
      | int j => exact op_lt pins s σ H u w v' u' Q I ru rw' ⟨i, j, hx, hy, hp.val hS rfl⟩
      | _ => exact hp.elim
    | _ => cases y <;> exact hp.elim
  | le =>
    cases x with
    | int i =>
      cases y with
      | int j => exact op_le pins s σ H u w v' u' Q I ru rw' ⟨i, j, hx, hy, hp.val hS rfl⟩
      | _ => exact hp.elim
    | _ => cases y <;> exact hp.elim
  | gt =>
    cases x with
    | int i =>
      cases y with
      | int j => exact op_gt pins s σ H u w v' u' Q I ru rw' ⟨i, j, hx, hy, hp.val hS rfl⟩
      | _ => exact hp.elim
    | _ => cases y <;> exact hp.elim
  | ge =>
    cases x with
    | int i =>
      cases y with
      | int j => exact op_ge pins s σ H u w v' u' Q I ru rw' ⟨i, j, hx, hy, hp.val hS rfl⟩
      | _ => exact hp.elim
    | _ => cases y <;> exact hp.elim
  | isin =>
    obtain ⟨b, e, q⟩ := rB_some (o := isIn S x y) hp hS
    rcases hin b e with ⟨c, z, h1, h2, h3⟩ | ⟨p, vs, h1, h2, h3, h4, h5⟩
    · exact op_in_sign pins s σ H u w v' u' Q I ru rw' ⟨c, z, h1, h2, by rw [h3]; exact q⟩
    · exact op_in_seq pins s σ H u w v' u' Q I ru rw' ⟨p, vs, h1, h2, h3, h4, by rw [h5]; exact q⟩
  | notin =>
    obtain ⟨b, e, q⟩ := rB_some (o := (isIn S x y).map (!·)) hp hS
    cases e0 : isIn S x y with
    | none => rw [e0] at e; cases e
    | some c =>
      rw [e0] at e
      cases e
      rcases hin c e0 with ⟨c, z, h1, h2, h3⟩ | ⟨p, vs, h1, h2, h3, h4, h5⟩
      · exact op_notIn_sign pins s σ H u w v' u' Q I ru rw' ⟨c, z, h1, h2, by rw [h3]; exact q⟩
      · exact op_notIn_seq pins s σ H u w v' u' Q I ru rw' ⟨p, vs, h1, h2, h3, h4, by rw [h5]; exact q⟩
  | is =>
    cases y with
    | non =>
      have e : decide (u = V.non) = isNon x := by
        cases x with
        | tup xs => obtain ⟨a, vs, e, _⟩ := hx; rw [e]; rfl
        | ref n => obtain ⟨a, _, e⟩ := hx; rw [e]; rfl
        | kl xs => obtain ⟨a, vs, e, _⟩ := hx; rw [e]; rfl
        | _ => cases hx; rfl
      exact op_isN pins s σ H u w v' u' Q I ru rw' ⟨hy, by rw [e]; cases x <;> exact hp.val hS rfl⟩
    | _ => cases x <;> exact hp.elim
  | isnt =>
    cases y with
    | non =>
      have e : decide (u = V.non) = isNon x := by
        cases x with
        | tup xs => obtain ⟨a, vs, e, _⟩ := hx; rw [e]; rfl
        | ref n => obtain ⟨a, _, e⟩ := hx; rw [e]; rfl
        | kl xs => obtain ⟨a, vs, e, _⟩ := hx; rw [e]; rfl
        | _ => cases hx; rfl
      exact op_notN pins s σ H u w v' u' Q I ru rw' ⟨hy, by rw [e]; cases x <;> exact hp.val hS rfl⟩
    | _ => cases x <;> exact hp.elim
end
end Bi

/-! Bi4: truth, items, slices, built-ins. -/
namespace Bi
open PySem PySem.Spec PyProof.Rows L2

section
variable {l : Lk} {X : Cx} (hK : X.K = l.K)
include hK
/-- a value's truth -/
def rT (l : Lk) : V → Hp → (Bool → Hp → Prop) → Prop := fun u H Q => ∃ x S io b, Sim l S io H ∧ RV l.K io H x u ∧ truS S x = some b ∧ Q b H
theorem tru_of {S : Sto} {io : List Addr} {H : Hp} {x : SV} {u : V} {b : Bool} (hS : Sim l S io H) (hx : RV l.K io H x u) (e : truS S x = some b) : TruV X.K u H b := by
  cases x with
  | non => cases hx; cases e; rfl
  | bl c => cases hx; cases e; rfl
  | int i => cases hx; cases e; rfl
  | str z =>
    cases hx
    unfold truS at e
    dsimp only at e
    split at e
    · rename_i q
      cases e
      exact ⟨szOk_of q, rfl⟩
    · cases e
  | tup xs =>
    obtain ⟨a, vs, h1, h2, h3⟩ := hx
    subst h1
    cases e
    exact .inr (.inl ⟨vs, by rw [hK]; exact h2, by rw [h3.isEmpty]⟩)
  | ref n =>
    have key : ∀ xs, lstOf S (.ref n) = some xs → some (!xs.isEmpty) = some b → TruV X.K u H b := fun xs z e => by
      obtain ⟨p, vs, h1, h2, h3⟩ := lstRd hS hx z
      subst h1
      cases e
      exact .inl ⟨vs, by rw [hK]; exact h2, by rw [h3.isEmpty]⟩
    unfold truS at e
    dsimp only at e
    split at e
    · rename_i xs q
      exact key xs (by unfold lstOf; dsimp only; rw [q]) e
    · cases e
  | kl xs => cases e
theorem atI_rel {K : PySem.W.Frag} {io : List Addr} {H : Hp} {xs : List SV} {vs : List V} {i : Int} {x : SV} (h : RVs K io H xs vs) (e : atI xs i = some x) : ∃ v, atI vs i = some v ∧ RV K io H x v := by
  unfold atI at e ⊢
  rw [← h.length]
  cases q : ixN xs.length i with
  | none => rw [q] at e; cases e
  | some j =>
    rw [q] at e
    exact h.get (i := j) (x := x) e
theorem okO_some {o : Option SV} {S : Sto} {io : List Addr} {H : Hp} {F : SV → Sto → List Addr → Hp → Prop} {E : Nat → Sto → List Addr → Hp → Prop} (h : Po l (okO o S) io H F E) : ∃ v, o = some v ∧ Po l (.ok v S) io H F E := by
  cases o with
  | none => exact h.elim
  | some v => exact ⟨v, rfl, h⟩
theorem ix_any : IxR X (r2 l idxS) := by
  intro value slice pins s σ H u w v' u' Q I ru rw' h hs
  obtain ⟨x, y, S, io, E, hS, hx, hy, hp⟩ := h
  have gen : ∀ i, y = .int i → Po l (okO ((seqOf S x).bind fun xs => atI xs i) S) io H (FV l Q) E → wpAny (model X.prog X.w) X.A (subscriptTail value slice v' u') (EP X pins σ Q) X.xe s := fun i ey hp2 => by
    obtain ⟨v, q, hp3⟩ := okO_some hK hp2
    clear hp hp2
    subst ey
    cases e : seqOf S x with
    | none => rw [e] at q; cases q
    | some xs =>
      rw [e] at q
      obtain ⟨p, vs, h1, h2, h3⟩ := seqRd hS hx e
      obtain ⟨z, h4, h5⟩ := atI_rel hK h3 q
      refine ix_seq value slice pins s σ H u w v' u' Q I ru rw' ?_ hs
      rcases h2 with h2 | h2
      · exact .inl ⟨p, vs, i, z, h1, hy, by rw [hK]; exact h2, h4, hp3.val hS h5⟩
      · exact .inr (.inl ⟨p, vs, i, z, h1, hy, by rw [hK]; exact h2, h4, hp3.val hS h5⟩)
  cases x with
  | str z =>
    cases y with
    | int i =>
      unfold idxS at hp
      dsimp only at hp
      split at hp
      · rename_i z1
        obtain ⟨v, q, hp⟩ := okO_some hK hp
        cases e : atI z.cps.toList i with
        | none => rw [e] at q; cases q
        | some c =>
          rw [e] at q
          cases q
          exact ix_seq value slice pins s σ H u w v' u' Q I ru rw' (.inr (.inr ⟨z, i, c, hx, hy, szOk_of z1, e, hp.val hS rfl⟩)) hs
      · exact hp.elim
    | _ => exact hp.elim
  | tup ys =>
    cases y with
    | int i => exact gen i rfl hp
    | _ => exact hp.elim
  | ref n =>
    cases y with
    | int i => exact gen i rfl hp
    | _ => exact hp.elim
  | non => cases y <;> exact hp.elim
  | bl b => cases y <;> exact hp.elim
  | int j => cases y <;> exact hp.elim
  | kl xs =>
    cases y with
    | int i => exact gen i rfl hp
    | _ => exact hp.elim
def rSl (l : Lk) : V → Option Int → Option Int → Hp → VK → Prop := fun u lo hi H Q => ∃ x S io E, Sim l S io H ∧ RV l.K io H x u ∧ Po l (slcS x lo hi S) io H (FV l Q) E
theorem sl_any : SlR X (rSl l) := by
  intro pins s σ H u v vl vu lo hi sl Q I ru hs pl pu h
  obtain ⟨x, S, io, E, hS, hx, hp⟩ := h
  have hlen : ∀ {xs : List SV} {vs : List V}, RVs l.K io H xs vs → cut xs lo hi = cut xs lo hi := fun _ => rfl
  cases x with
  | tup xs =>
    obtain ⟨a, vs, h1, h2, h3⟩ := hx
    refine sl_tupA pins s σ H u v vl vu lo hi sl Q I ru hs pl pu ⟨a, vs, h1, by rw [hK]; exact h2, fun q => ?_, fun q p hp' => hp.newT hS (h3.cut lo hi) hp'⟩
    have e : cut xs lo hi = xs := by
      unfold cut
      rw [h3.length, q.1, q.2]
      simp [← h3.length]
    refine hp.val hS (u := .ref a) ⟨a, vs, rfl, h2, ?_⟩
    rw [e]
    exact h3
  | ref n =>
    have key : ∀ xs, lstOf S (.ref n) = some xs → Po l (newL (cut xs lo hi) S) io H (FV l Q) E → ∃ T id, typeLookup (.type T) "__getitem__" = pure (some (.builtin id)) ∧ s.TypeIs v T ∧ wpAny (model X.prog X.w) X.A (getItem v (.ref sl)) (EP X pins σ Q) X.xe s := fun xs z hp => by
      obtain ⟨p, vs, h1, h2, h3⟩ := lstRd hS hx z
      exact sl_list pins s σ H u v vl vu lo hi sl Q I ru hs pl pu ⟨p, vs, h1, by rw [hK]; exact h2, fun q hq => hp.newL hS (h3.cut lo hi) hq⟩
    unfold slcS at hp
    dsimp only at hp
    split at hp
    · rename_i xs q
      exact key xs (by unfold lstOf; dsimp only; rw [q]) hp
    · exact hp.elim
  | _ => exact hp.elim
end

/-! ### built-in functions -/
theorem ints_of : ∀ {xs : List SV} {ns : List Int}, intsOf xs = some ns → xs = ns.map SV.int
  | [], ns, e => by cases e; rfl
  | .int i :: xs, ns, e => by
    unfold intsOf at e
    cases q : intsOf xs with
    | none => rw [q] at e; cases e
    | some ms =>
      rw [q] at e
      cases e
      rw [List.map_cons, ← ints_of q]
  | .non :: _, _, e => by cases e
  | .bl _ :: _, _, e => by cases e
  | .str _ :: _, _, e => by cases e
  | .tup _ :: _, _, e => by cases e
  | .ref _ :: _, _, e => by cases e
theorem bls_of : ∀ {xs : List SV} {ns : List Bool}, blsOf xs = some ns → xs = ns.map SV.bl
  | [], ns, e => by cases e; rfl
  | .bl i :: xs, ns, e => by
    unfold blsOf at e
    cases q : blsOf xs with
    | none => rw [q] at e; cases e
    | some ms =>
      rw [q] at e
      cases e
      rw [List.map_cons, ← bls_of q]
  | .non :: _, _, e => by cases e
  | .int _ :: _, _, e => by cases e
  | .str _ :: _, _, e => by cases e
  | .tup _ :: _, _, e => by cases e
  | .ref _ :: _, _, e => by cases e
theorem rvs_ints {K : PySem.W.Frag} {io : List Addr} {H : Hp} : ∀ {ns : List Int} {vs : List V}, RVs K io H (ns.map SV.int) vs → vs = ns.map V.int
  | [], _, h => h
  | n :: ns, _, ⟨v, r, e, a, b⟩ => by
    rw [e, List.map_cons, ← rvs_ints b, show v = V.int n from a]
theorem rvs_bls {K : PySem.W.Frag} {io : List Addr} {H : Hp} : ∀ {ns : List Bool} {vs : List V}, RVs K io H (ns.map SV.bl) vs → vs = ns.map V.bl
  | [], _, h => h
  | n :: ns, _, ⟨v, r, e, a, b⟩ => by
    rw [e, List.map_cons, ← rvs_bls b, show v = V.bl n from a]
theorem ints_rvs {K : PySem.W.Frag} {io : List Addr} {H : Hp} : ∀ (ns : List Int), RVs K io H (ns.map SV.int) (ns.map V.int)
  | [] => rfl
  | n :: ns => ⟨_, _, rfl, rfl, ints_rvs ns⟩
theorem insI_perm (x : Int) : ∀ ys : List Int, (insI x ys).Perm (x :: ys)
  | [] => List.Perm.refl _
  | y :: ys => by
    unfold insI
    split
    · exact List.Perm.refl _
    · exact ((insI_perm x ys).cons y).trans (List.Perm.swap x y ys)
theorem sortI_perm : ∀ xs : List Int, (sortI xs).Perm xs
  | [] => List.Perm.refl _
  | x :: xs => by
    unfold sortI
    exact (insI_perm x _).trans ((sortI_perm xs).cons x)
theorem insI_sorted (x : Int) : ∀ ys : List Int, ys.Pairwise (· ≤ ·) → (insI x ys).Pairwise (· ≤ ·)
  | [], _ => by unfold insI; exact List.pairwise_singleton _ _
  | y :: ys, h => by
    unfold insI
    obtain ⟨h1, h2⟩ := List.pairwise_cons.mp h
    split
    · rename_i hx
      refine List.pairwise_cons.mpr ⟨fun z hz => ?_, h⟩
      rcases List.mem_cons.mp hz with e | hz
      · rw [e]; exact hx
      · exact Int.le_trans hx (h1 z hz)
    · rename_i hx
      refine List.pairwise_cons.mpr ⟨fun z hz => ?_, insI_sorted x ys h2⟩
      rcases List.mem_cons.mp ((insI_perm x ys).mem_iff.mp hz) with e | hz
      · rw [e]; omega
      · exact h1 z hz
theorem sortI_sorted : ∀ xs : List Int, (sortI xs).Pairwise (· ≤ ·)
  | [] => List.Pairwise.nil
  | x :: xs => by
    unfold sortI
    exact insI_sorted x _ (sortI_sorted xs)
theorem maxI_spec : ∀ (x : Int) (xs : List Int), maxI (x :: xs) ∈ x :: xs ∧ ∀ y ∈ x :: xs, y ≤ maxI (x :: xs)
  | x, [] => ⟨by simp [maxI], fun y hy => by simp at hy; rw [hy]; exact Int.le_refl _⟩
  | x, z :: xs => by
    obtain ⟨h1, h2⟩ := maxI_spec z xs
    have e : maxI (x :: z :: xs) = max x (maxI (z :: xs)) := rfl
    rw [e]
    refine ⟨?_, fun y hy => ?_⟩
    · by_cases h : x ≤ maxI (z :: xs)
      · rw [Int.max_eq_right h]; exact List.mem_cons_of_mem _ h1
      · rw [Int.max_eq_left (by omega)]; exact List.mem_cons_self
    · rcases List.mem_cons.mp hy with e | hy
      · rw [e]; exact Int.le_max_left _ _
      · exact Int.le_trans (h2 y hy) (Int.le_max_right _ _)

/-- the built-in's name, its value -/
def bfV : Bf → Value
  | .len => .builtin "len"
  | .max2 => .builtin "max"
  | .maxL => .builtin "max"
  | .min2 => .builtin "min"
  | .sorted => .builtin "sorted"
  | .sum => .builtin "sum"
  | .any => .builtin "any"
  | .all => .builtin "all"
  | .list => .type "list"
  | .tuple => .type "tuple"
  | .int => .type "int"
  | .str => .type "str"
/-! ### max of a tuple of ints -/
theorem max_intTup {prog : Program} {w : World} {A : Around} {E : Value → Shared → Prop} {s : Shared} {l : Addr} {xs : Array (Int × Tok)} {Q : Value → Shared → Prop} (hh : A.handled = none) (ht : s.heap.IsTuple l (intItems xs)) (hne : 0 < xs.size)
    (h : ∀ v h' tk, (intItems xs)[argBest (fun i j => decide (numAt xs i > numAt xs j)) (xs.size - 1)]? = some v → (∀ b o, s.heap.get? b = some o → h'.get? b = some o) → Q v { s with heap := h', toks := tk }) :
    wpAny (model prog w) A (call (.builtin "max") [.ref l]) Q E s := by
  have hlt : l < s.heap.objs.size := by obtain ⟨_, e, _⟩ := ht; exact Heap.lt_size e
  refine call_max_walk (wpAny_pyIter_tuple ht ?_)
  refine ⟨_, [_, l], [_], _, _, _, _, rfl, Walks.tuple (A := A.in1) hh _ l (Nat.ne_of_lt hlt) (intItems xs), ⟨⟨_, Heap.get?_push_size _ rfl, rfl, rfl⟩, ht.push _⟩, fun c hc => ?_, by simpa [intItems] using hne, CmpOf.ints_gt (numAt xs) (fun _ _ => intItems_at), fun v h' tk hP hk => ?_⟩
  · show c < (s.heap.push _).objs.size
    rw [Heap.size_push]
    rcases List.mem_cons.mp hc with rfl | hc
    · exact Nat.lt_succ_self _
    · rcases List.mem_cons.mp hc with rfl | hc
      · exact Nat.lt_succ_of_lt hlt
      · cases hc
  · refine h v h' tk (by simpa [intItems] using hP) fun b o e => hk b o (fun hm => ?_) (Heap.get?_push_of_some _ e)
    rcases List.mem_cons.mp hm with e1 | hm
    · exact absurd (e1 ▸ Heap.lt_size e) (Nat.lt_irrefl _)
    · cases hm
theorem max_rawT {prog : Program} {w : World} {A : Around} {E : Value → Shared → Prop} {s : Shared} {l : Addr} {its : List Value} {ns : List Int} {Q : Value → Shared → Prop} (hh : A.handled = none) (hl : s.heap.IsTuple l its.toArray) (hi : PyProof.Rows.IntsAre its ns) (hne : 0 < ns.length)
    (h : ∀ h' tk M t', (∀ b o, s.heap.get? b = some o → h'.get? b = some o) → M ∈ ns → (∀ a, a ∈ ns → a ≤ M) → Q (.int M t') { s with heap := h', toks := tk }) : wpAny (model prog w) A (call (.builtin "max") [.ref l]) Q E s := by
  obtain ⟨xs, e⟩ := hi.allInts.items
  have hn : numsOf (intItems xs).toList = ns := by rw [← e]; exact hi.numsOf
  rw [nums_intItems] at hn
  subst hn
  rw [e] at hl
  have hsz : 0 < xs.size := by simpa using hne
  refine max_intTup hh hl hsz fun v h' tk hv hk => ?_
  obtain ⟨t, rfl⟩ := intItems_at hv
  obtain ⟨h1, h2⟩ := argBest_gt (numAt xs) (xs.size - 1)
  refine h h' tk _ t hk ?_ fun a ha => ?_
  · rw [numAt_eq]; exact PySem.getD_mem (by rw [List.length_map, Array.length_toList]; omega)
  · obtain ⟨j, hj, rfl⟩ := mem_getD ha
    rw [List.length_map, Array.length_toList] at hj
    rw [← numAt_eq]; exact h2 j (by omega)
section
variable {l : Lk} {X : Cx} (hK : X.K = l.K) (hc : X.calm = true)
include hK hc
theorem call_bf (b : Bf) : CallR X (bfV b) (rc l (bfS b)) := by
  intro pins s σ H vs us Q I r h
  obtain ⟨xs, S, io, E, hS, hx, hp⟩ := h
  -- one argument
  have one : ∀ {x : SV}, xs = [x] → ∃ v, vs = [v] ∧ RV l.K io H x v := fun {x} e => by
    subst e
    obtain ⟨v, t, e, a, b⟩ := hx
    exact ⟨v, by rw [e, show t = [] from b], a⟩
  have two : ∀ {x y : SV}, xs = [x, y] → ∃ v w, vs = [v, w] ∧ RV l.K io H x v ∧ RV l.K io H y w := fun {x y} e => by
    subst e
    obtain ⟨v, t, e, a, w, t', e', b, c⟩ := hx
    exact ⟨v, w, by rw [e, e', show t' = [] from c], a, b⟩
  have lstI : ∀ {x : SV} {ns : List Int}, xs = [x] → (lstOf S x).bind intsOf = some ns → ∃ p, vs = [.ref p] ∧ SqL X.K H p (ns.map V.int) := fun {x ns} e z => by
    obtain ⟨v, e1, h1⟩ := one e
    cases q : lstOf S x with
    | none => rw [q] at z; cases z
    | some ys =>
      rw [q] at z
      obtain ⟨p, ws, h2, h3, h4⟩ := lstRd hS h1 q
      have z' : intsOf ys = some ns := z
      rw [ints_of z'] at h4
      rw [rvs_ints h4] at h3
      exact ⟨p, by rw [e1, h2], by rw [hK]; exact h3⟩
  have lstB : ∀ {x : SV} {ns : List Bool}, xs = [x] → (lstOf S x).bind blsOf = some ns → ∃ p, vs = [.ref p] ∧ SqL X.K H p (ns.map V.bl) := fun {x ns} e z => by
    obtain ⟨v, e1, h1⟩ := one e
    cases q : lstOf S x with
    | none => rw [q] at z; cases z
    | some ys =>
      rw [q] at z
      obtain ⟨p, ws, h2, h3, h4⟩ := lstRd hS h1 q
      have z' : blsOf ys = some ns := z
      rw [bls_of z'] at h4
      rw [rvs_bls h4] at h3
      exact ⟨p, by rw [e1, h2], by rw [hK]; exact h3⟩
  unfold bfS at hp
  split at hp
  · -- len of a text
    split at hp
    · rename_i z
      obtain ⟨v, e, h1⟩ := one rfl
      exact call_len pins s σ H vs us Q I r ⟨v, _, e, by rw [show v = V.str _ from h1]; exact ⟨szOk_of z, rfl⟩, hp.val hS rfl⟩
    · exact hp.elim
  · -- len
    split at hp
    · rename_i ys q
      obtain ⟨v, e, h1⟩ := one rfl
      obtain ⟨p, ws, h2, h3, h4⟩ := seqRd hS h1 q
      refine call_len pins s σ H vs us Q I r ⟨v, ws.length, e, ?_, hp.val hS (by rw [h4.length]; rfl)⟩
      rw [h2]
      rcases h3 with h3 | h3
      · exact .inl ⟨ws, by rw [hK]; exact h3, rfl⟩
      · exact .inr ⟨ws, by rw [hK]; exact h3, rfl⟩
    · exact hp.elim
  · -- max
    obtain ⟨v, w, e, h1, h2⟩ := two rfl
    exact call_max2 hc pins s σ H vs us Q I r ⟨_, _, by rw [e, show v = V.int _ from h1, show w = V.int _ from h2], hp.val hS rfl⟩
  · obtain ⟨v, w, e, h1, h2⟩ := two rfl
    exact call_min2 hc pins s σ H vs us Q I r ⟨_, _, by rw [e, show v = V.int _ from h1, show w = V.int _ from h2], hp.val hS rfl⟩
  · split at hp
    · rename_i x _ n ns q
      obtain ⟨v, e, h1⟩ := one rfl
      cases q1 : seqOf S x with
      | none => rw [q1] at q; cases q
      | some ys =>
        rw [q1] at q
        obtain ⟨p, ws, h2, h3, h4⟩ := seqRd hS h1 q1
        have z' : intsOf ys = some (n :: ns) := q
        rw [ints_of z'] at h4
        rw [rvs_ints h4] at h3
        rw [h2] at e
        have fin : ∀ m, m ∈ n :: ns → (∀ y, y ∈ n :: ns → y ≤ m) → m = maxI (n :: ns) := fun m k3 k4 => by
          obtain ⟨k1, k2⟩ := maxI_spec n ns
          exact Int.le_antisymm (k2 m k3) (k4 _ k1)
        rcases h3 with h3 | h3
        · refine cr_max hc pins s σ H vs us Q I r ⟨p, n :: ns, e, by rw [hK]; exact h3, by simp, fun m h2 h3 => hp.val hS ?_⟩
          rw [fin m h2 h3]; rfl
        · rw [e] at r
          rw [Vals.ref1 r]
          obtain ⟨its, rv, pl, _⟩ := I.tuple (by rw [hK]; exact h3)
          refine max_rawT (I.ok.hd hc) pl rv.ints (by simp) fun h' tk m t' hk h1 h2 => ⟨.int _, H, I.kept hk, ⟨_, rfl⟩, ?_⟩
          refine hp.val hS ?_
          rw [fin m h1 h2]; rfl
    · exact hp.elim
  · split at hp
    · rename_i ns q
      obtain ⟨p, e, h1⟩ := lstI rfl q
      refine cr_sortedI pins s σ H vs us Q I r ⟨p, ns, e, h1, fun ms t h2 h3 ht => ?_⟩
      have em : ms = sortI ns := PySem.W.ksm_same (h2.trans (sortI_perm ns).symm) h3 (sortI_sorted ns)
      subst em
      exact hp.newL hS (ints_rvs _) ht
    · exact hp.elim
  · split at hp
    · rename_i ns q
      obtain ⟨p, e, h1⟩ := lstI rfl q
      exact cr_sum hc pins s σ H vs us Q I r ⟨p, ns, e, h1, hp.val hS rfl⟩
    · exact hp.elim
  · split at hp
    · rename_i ns q
      obtain ⟨p, e, h1⟩ := lstB rfl q
      exact cr_any hc pins s σ H vs us Q I r ⟨p, ns, e, h1, hp.val hS rfl⟩
    · exact hp.elim
  · split at hp
    · rename_i ns q
      obtain ⟨p, e, h1⟩ := lstB rfl q
      exact cr_all hc pins s σ H vs us Q I r ⟨p, ns, e, h1, hp.val hS rfl⟩
    · exact hp.elim
  · split at hp
    · rename_i ys q
      obtain ⟨v, e, h1⟩ := one rfl
      obtain ⟨p, ws, h2, h3, h4⟩ := seqRd hS h1 q
      exact call_list_of pins s σ H vs us Q I r ⟨p, ws, by rw [e, h2], by rw [hK]; exact h3, fun t ht => hp.newL hS h4 ht⟩
    · exact hp.elim
  · split at hp
    · rename_i x ys q
      obtain ⟨v, e, h1⟩ := one rfl
      obtain ⟨p, ws, h2, h3, h4⟩ := seqRd hS h1 q
      refine call_tuple_of pins s σ H vs us Q I r ⟨p, ws, by rw [e, h2], ?_⟩
      rcases h3 with h3 | h3
      · exact .inl ⟨by rw [hK]; exact h3, fun t ht => hp.newT hS h4 ht⟩
      · exact .inr ⟨by rw [hK]; exact h3, hp.val hS ⟨p, ws, rfl, h3, h4⟩⟩
    · exact hp.elim
  · obtain ⟨v, e, h1⟩ := one rfl
    exact call_int1 pins s σ H vs us Q I r (.inl ⟨_, by rw [e, show v = V.int _ from h1], hp.val hS rfl⟩)
  · obtain ⟨v, e, h1⟩ := one rfl
    exact call_int1 pins s σ H vs us Q I r (.inr ⟨_, by rw [e, show v = V.bl _ from h1], hp.val hS rfl⟩)
  · exact hp.elim
end

/-! ### methods of lists -/
def bmId : Bm → String
  | .append => "list.append"
  | .extend => "list.extend"
  | .pop => "list.pop"
  | .popAt => "list.pop"
  | .insert => "list.insert"
  | .index => "tuple.index"
section
variable {l : Lk} {X : Cx} (hK : X.K = l.K)
include hK
theorem mt_app : MtR X "list.append" (rm l appS) := by
  intro pins s σ H u ws v us Q I ru rw' h
  obtain ⟨x, xs, S, io, E, hS, hx, hxs, hp⟩ := h
  unfold appS at hp
  split at hp
  · rename_i n y
    split at hp
    · rename_i zs e2
      split at hp
      · rename_i z
        obtain ⟨p, vs, h1, h2, h3, h4⟩ := lstAt hS hx e2
        obtain ⟨w, t, e, a, b⟩ := hxs
        have z := szOk_of z
        rw [h4.length] at z
        refine mt_append pins s σ H u ws v us Q I ru rw' ⟨p, vs, w, h1, by rw [e, show t = [] from b], h3, by omega, ?_⟩
        have g := Gr.upd (o := .lst (vs ++ [w])) hS h2
        exact hp _ _ g (hS.upd h2 ⟨_, upd_same, g.rvs hS (h4.append (.one a))⟩) .non rfl
      · exact hp.elim
    · exact hp.elim
  · exact hp.elim
theorem mt_ext : MtR X "list.extend" (rm l extS) := by
  intro pins s σ H u ws v us Q I ru rw' h
  obtain ⟨x, xs, S, io, E, hS, hx, hxs, hp⟩ := h
  unfold extS at hp
  split at hp
  · rename_i n b
    split at hp
    · rename_i zs zs2 e2 q
      split at hp
      · rename_i z
        obtain ⟨p, vs, h1, h2, h3, h4⟩ := lstAt hS hx e2
        obtain ⟨w, t, e, a, c⟩ := hxs
        obtain ⟨p2, vs2, h5, h6, h7, h8⟩ := lstAt hS a q
        have z := szOk_of z
        rw [h4.length, h8.length] at z
        refine mt_extend pins s σ H u ws v us Q I ru rw' ⟨p, p2, vs, vs2, h1, by rw [e, show t = [] from c, h5], h3, h7, z, ?_⟩
        have g := Gr.upd (o := .lst (vs ++ vs2)) hS h2
        exact hp _ _ g (hS.upd h2 ⟨_, upd_same, g.rvs hS (h4.append h8)⟩) .non rfl
      · exact hp.elim
    · exact hp.elim
  · exact hp.elim
theorem mt_pp : MtR X "list.pop" (rm l popS) := by
  intro pins s σ H u ws v us Q I ru rw' h
  obtain ⟨x, xs, S, io, E, hS, hx, hxs, hp⟩ := h
  unfold popS at hp
  split at hp
  · rename_i n
    split at hp
    · rename_i zs e2
      split at hp
      · rename_i y q
        obtain ⟨p, vs, h1, h2, h3, h4⟩ := lstAt hS hx e2
        have e : ws = [] := hxs
        obtain ⟨w, h5, h6⟩ := h4.get q
        rw [h4.length] at h5
        refine mt_pop pins s σ H u ws v us Q I ru rw' ⟨p, vs, w, h1, e, h3, h5, ?_⟩
        have g := Gr.upd (o := .lst vs.dropLast) hS h2
        exact hp _ _ g (hS.upd h2 ⟨_, upd_same, g.rvs hS h4.dropLast⟩) w (g.rv hS h6)
      · exact hp.elim
    · exact hp.elim
  · exact hp.elim
theorem ty_lst {n : Nat} {xs : List SV} {S : Sto} {io : List Addr} {H : Hp} {u : V} (hS : Sim l S io H) (hx : RV l.K io H (.ref n) u) (e : S[n]? = some (.lst xs)) : tyV X.K "list" u H := by
  obtain ⟨p, vs, h1, h2, h3, h4⟩ := lstAt hS hx e
  subst h1
  exact .inl ⟨rfl, vs, .inl (.inl h3)⟩
/-- an item stored -/
def rSet (l : Lk) : TSet := fun o i v H Q => ∃ x y z S S' io, Sim l S io H ∧ RV l.K io H x o ∧ RV l.K io H y i ∧ RV l.K io H z v ∧ setS x y z S = some S' ∧ ∀ io' H', Gr io H io' H' → Sim l S' io' H' → Q H'
theorem set_any : PSet X (rSet l) := by
  intro pins s σ H o i v ov iv u Q I ro ri rv h
  obtain ⟨x, y, z, S, S', io, hS, hx, hy, hz, e, q⟩ := h
  unfold setS at e
  split at e
  · split at e
    · rename_i n k _ xs e1
      split at e
      · rename_i j e2
        cases e
        obtain ⟨p, vs, h1, h2, h3, h4⟩ := lstAt hS hx e1
        refine set_list pins s σ H o i v ov iv u Q I ro ri rv ⟨p, vs, k, j, h1, hy, h3, by rw [← h4.length]; exact e2, ?_⟩
        have g := Gr.upd (o := .lst (vs.set j v)) hS h2
        exact q _ _ g (hS.upd h2 ⟨_, upd_same, g.rvs hS (h4.set hz j)⟩)
      · cases e
    · cases e
  · cases e
end

/-! ### isinstance -/
def tyName : Ty → String
  | .int => "int"
  | .bool => "bool"
  | .str => "str"
  | .tup => "tuple"
  | .lst => "list"
theorem isTy_of {l : Lk} {S : Sto} {io : List Addr} {H : Hp} {x : SV} {u : V} {t : Ty} {b : Bool} (hS : Sim l S io H) (hx : RV l.K io H x u) (e : isTy t x S = some b) : ∃ T, TyX l.K H u (.type T) ∧ kitB T (tyName t) = some b := by
  cases x with
  | non =>
    cases hx
    refine ⟨"NoneType", .base (.non), ?_⟩
    cases t <;> (cases e; decide +kernel)
  | bl c =>
    cases hx
    refine ⟨"bool", .base (.bl c), ?_⟩
    cases t <;> (cases e; decide +kernel)
  | int i =>
    cases hx
    refine ⟨"int", .base (.int i), ?_⟩
    cases t <;> (cases e; decide +kernel)
  | str z =>
    cases hx
    refine ⟨"str", .base (.str z), ?_⟩
    cases t <;> (cases e; decide +kernel)
  | tup xs =>
    obtain ⟨a, vs, h1, h2, h3⟩ := hx
    subst h1
    have ty : TyX l.K H (.ref a) (.type "tuple") := by
      rcases h2 with (h2 | ⟨o, h2⟩) | ⟨o, its, n, h2, h4, _⟩
      · exact .base (.tup h2)
      · exact .fTuple h2
      · exact .kTuple h2 h4
    refine ⟨"tuple", ty, ?_⟩
    cases t <;> (cases e; decide +kernel)
  | ref n =>
    have key : ∀ xs, lstOf S (.ref n) = some xs → some t.isLst = some b → ∃ T, TyX l.K H u (.type T) ∧ kitB T (tyName t) = some b := fun xs q e => by
      obtain ⟨p, vs, h1, h2, h3⟩ := lstRd hS hx q
      subst h1
      have ty : TyX l.K H (.ref p) (.type "list") := by
        rcases h2 with (h2 | ⟨o, h2⟩) | ⟨o, its, n, h2, h4, _⟩
        · exact .base (.lst h2)
        · exact .base (.frz h2)
        · exact .kList h2 h4
      refine ⟨"list", ty, ?_⟩
      cases t <;> (cases e; decide +kernel)
    have e' : (match S[n]? with
      | some (.lst _) => some t.isLst
      | _ => none) = some b := by cases t <;> exact e
    split at e'
    · rename_i xs q
      exact key xs (by unfold lstOf; dsimp only; rw [q]) e'
    · cases e'
  | kl xs => cases t <;> cases e
end Bi

/-! Bi5: targets, walks, loops' readings. -/
namespace Bi
open PySem PySem.Spec PyProof.Rows L2

/-! ### targets -/
def Tg.sl : Tg → List Nat
  | .nm i => [i]
  | .tp is => is
/-- the slots but these stand -/
def But (is : List Nat) (σ σ' : L2.St) : Prop := σ'.length = σ.length ∧ ∀ j, j ∉ is → σ'[j]? = σ[j]?
theorem But.refl {is : List Nat} {σ : L2.St} : But is σ σ := ⟨rfl, fun _ _ => rfl⟩
theorem But.set {is : List Nat} {σ σ' : L2.St} {i : Nat} {v : Option V} (h : But is (σ.set i v) σ') (hi : i ∈ is) : But is σ σ' :=
  ⟨h.1.trans (List.length_set ..), fun j hj => (h.2 j hj).trans (List.getElem?_set_ne (show ¬ i = j from fun e => hj (by rw [← e]; exact hi)))⟩
theorem wipe_get (σ : L2.St) (j : Nat) : ∀ vs : List Nat, (wipe σ vs)[j]? = if j ∈ vs ∧ j < σ.length then some none else σ[j]?
  | [] => by simp [wipe]
  | v :: vs => by
    unfold wipe
    have ih := wipe_get σ j vs
    by_cases e : v = j
    · subst e
      by_cases hl : v < σ.length
      · rw [List.getElem?_set_self (by rw [wipe_length]; exact hl), if_pos ⟨List.mem_cons_self, hl⟩]
      · rw [List.getElem?_eq_none (by rw [List.length_set, wipe_length]; omega), if_neg (fun z => hl z.2), List.getElem?_eq_none (by omega)]
    · rw [List.getElem?_set_ne e, ih]
      have : (j ∈ v :: vs) ↔ (j ∈ vs) := ⟨fun h => (List.mem_cons.mp h).elim (fun q => absurd q.symm e) id, List.mem_cons_of_mem _⟩
      simp only [this]
theorem wipe_but {σ σ' : L2.St} {vs is : List Nat} (h : But is (wipe σ vs) σ') (hs : ∀ i ∈ is, i ∈ vs) : wipe σ' vs = wipe σ vs := by
  apply List.ext_getElem?
  intro j
  rw [wipe_get, wipe_get]
  have hl : σ'.length = σ.length := by rw [h.1, wipe_length]
  rw [hl]
  by_cases hj : j ∈ vs ∧ j < σ.length
  · rw [if_pos hj, if_pos hj]
  · rw [if_neg hj, if_neg hj]
    by_cases hm : j ∈ is
    · have : ¬ j < σ.length := fun z => hj ⟨hs j hm, z⟩
      rw [List.getElem?_eq_none (by omega), List.getElem?_eq_none (by omega)]
    · rw [h.2 j hm, wipe_get, if_neg hj]
/-- a target's reading: the interpreter's slots behind it -/
def tG (l : Lk) (tg : Tg) : TG := fun u σ H Q => ∃ x L L1 S io, RL l io H L σ ∧ Sim l S io H ∧ RV l.K io H x u ∧ tgS tg x L = some L1 ∧ ∀ σ', RL l io H L1 σ' → But tg.sl σ σ' → Q σ' H
section
variable {l : Lk} {X : Cx} (hK : X.K = l.K)
include hK
theorem pgs_of {io : List Addr} {H0 : Hp} : ∀ (is : List Nat) (es : List Expr) (hN : X.N.Nodup) (he : ∀ (j i : Nat) (e : Expr), is[j]? = some i → es[j]? = some e → ∃ x pos, e = .Name x pos ∧ X.N[i]? = some x ∧ L2.Loc X.env.scope x ∧ (X.fn x = true ∨ X.env.scope.names.lookup x = some .local)) (hl : is.length = es.length),
    PGs X es (fun vs σ H Q => H = H0 ∧ ∃ xs L S, RL l io H L σ ∧ Sim l S io H ∧ RVs l.K io H xs vs ∧ is.length = xs.length ∧ ∀ σ', RL l io H ((is.zip xs).foldl (fun L p => L.set p.1 (some p.2)) L) σ' → But is σ σ' → Q σ' H)
  | [], [], _, _, _ => by
    refine ⟨fun pins s σ H vs us Q I r h => pgs_nil.run pins s σ H vs us Q I r ?_⟩
    obtain ⟨_, xs, L, S, hL, hS, hx, hl, q⟩ := h
    have e : xs = [] := List.eq_nil_of_length_eq_zero hl.symm
    subst e
    exact ⟨hx, q σ hL But.refl⟩
  | [], _ :: _, _, _, hl => absurd hl (by simp)
  | _ :: _, [], _, _, hl => absurd hl (by simp)
  | i :: is, e :: es, hN, he, hl => by
    obtain ⟨x, pos, e1, e2, e3, e4⟩ := he 0 i e rfl rfl
    subst e1
    have ih := pgs_of (io := io) (H0 := H0) is es hN (fun j k e h1 h2 => he (j + 1) k e (by simpa using h1) (by simpa using h2)) (by simpa using hl)
    have h1 := pgs_cons (pg_name (i := i) hN e2 e3 e4 (pos := pos)) ih
    refine ⟨fun pins s σ H vs us Q I r h => h1.run pins s σ H vs us Q I r ?_⟩
    obtain ⟨hH, xs, L, S, hL, hS, hx, hln, q⟩ := h
    cases xs with
    | nil => exact absurd hln (by simp)
    | cons y ys =>
      obtain ⟨v, r', ev, a, b⟩ := hx
      refine ⟨v, r', ev, ?_⟩
      refine ⟨hH, ys, L.set i (some y), S, hL.set a i, hS, b, by simpa using hln, fun σ' h2 h3 => q σ' h2 ?_⟩
      refine But.set (i := i) ⟨h3.1, fun j hj => h3.2 j fun z => hj (List.mem_cons_of_mem _ z)⟩ List.mem_cons_self
end
theorem each_len {env : Env} : ∀ es : List Expr, (assignEach es env).length = es.length
  | [] => by unfold assignEach; rfl
  | e :: es => by
    have ih := each_len (env := env) es
    cases e <;> (unfold assignEach; rw [List.length_cons, List.length_cons, ih])
/-- what the check asks of the slots of a target -/
def nmOk (N : List Str) (sc : Scope) (fnl : Str → Bool) (i : Nat) (x : Str) : Bool :=
  decide (N[i]? = some x) && (match sc.names.lookup x with
    | some .local => true
    | some .cell => fnl x
    | _ => false)
def chkT (N : List Str) (sc : Scope) (fnl : Str → Bool) : Tg → Expr → Bool
  | .nm i, .Name x _ => nmOk N sc fnl i x
  | .tp is, .Tuple es _ _ => decide (is.length = es.length) && (is.zip es).all fun p => match p.2 with
    | .Name x _ => nmOk N sc fnl p.1 x
    | _ => false
  | _, _ => false
section
variable {l : Lk} {X : Cx} (hK : X.K = l.K) (hN : X.N.Nodup) {N : List Str} {sc : Scope} {fnl : Str → Bool} (eN : X.N = N) (es : X.env.scope = sc) (hfn : ∀ x, fnl x = true → X.fn x = true)
include hK hN eN es hfn
theorem nmOk_of {i : Nat} {x : Str} (h : nmOk N sc fnl i x = true) : X.N[i]? = some x ∧ L2.Loc X.env.scope x ∧ (X.fn x = true ∨ X.env.scope.names.lookup x = some .local) := by
  unfold nmOk at h
  rw [Bool.and_eq_true, decide_eq_true_eq] at h
  obtain ⟨h1, h2⟩ := h
  rw [eN, es]
  refine ⟨h1, ?_⟩
  split at h2
  · rename_i q; exact ⟨.inl q, .inr q⟩
  · rename_i q; exact ⟨.inr q, .inl (hfn x h2)⟩
  · cases h2
theorem sT (hc : X.calm = true) {tg : Tg} {e : Expr} (h : chkT N sc fnl tg e = true) : PG X e (tG l tg) := by
  unfold chkT at h
  split at h
  · rename_i i x pos
    obtain ⟨h1, h2, h3⟩ := nmOk_of hK hN eN es hfn h
    refine ⟨fun pins s σ H v u Q I r q => (pg_name (i := i) hN h1 h2 h3).run pins s σ H v u Q I r ?_⟩
    obtain ⟨y, L, L1, S, io, hL, hS, hx, e1, q⟩ := q
    cases e1
    exact q _ (hL.set hx i) (But.set (i := i) But.refl List.mem_cons_self)
  · rename_i is ts k pos
    rw [Bool.and_eq_true, decide_eq_true_eq] at h
    obtain ⟨h1, h2⟩ := h
    have he : ∀ (j i : Nat) (e : Expr), is[j]? = some i → ts[j]? = some e → ∃ x pos, e = .Name x pos ∧ X.N[i]? = some x ∧ L2.Loc X.env.scope x ∧ (X.fn x = true ∨ X.env.scope.names.lookup x = some .local) := fun j i e a b => by
      have hz : (is.zip ts)[j]? = some (i, e) := List.getElem?_zip_eq_some.mpr ⟨a, b⟩
      have q := (List.all_eq_true.mp h2) _ (List.mem_of_getElem? hz)
      cases e with
      | Name x pos => exact ⟨x, pos, rfl, nmOk_of hK hN eN es hfn q⟩
      | _ => exact absurd q (by simp)
    have hst : (assignEach ts X.env).findIdx? (·.1) = none := by
      rw [List.findIdx?_eq_none_iff]
      intro p hp
      have : ∀ (ts : List Expr), (∀ e ∈ ts, ∃ x pos, e = Expr.Name x pos) → ∀ p ∈ assignEach ts X.env, p.1 = false := by
        intro ts
        induction ts with
        | nil => intro _ p hp; unfold assignEach at hp; cases hp
        | cons t ts ih =>
          intro h p hp
          obtain ⟨x, pos, e⟩ := h t List.mem_cons_self
          subst e
          unfold assignEach at hp
          rcases List.mem_cons.mp hp with q | q
          · rw [q]
          · exact ih (fun e he => h e (List.mem_cons_of_mem _ he)) p q
      refine this ts (fun e hm => ?_) p hp
      obtain ⟨j, hj⟩ := List.getElem?_of_mem hm
      have hjl : j < is.length := by rw [h1]; exact (List.getElem?_eq_some_iff.mp hj).1
      obtain ⟨x, pos, e', _⟩ := he j is[j] e (by simp [hjl]) hj
      exact ⟨x, pos, e'⟩
    refine ⟨fun pins s σ H v u Q I r q => ?_⟩
    obtain ⟨y, L, L1, S, io, hL, hS, hx, e1, q⟩ := q
    unfold tgS at e1
    split at e1
    · rename_i qq; cases qq
    · rename_i is' xs qq
      cases qq
      split at e1
      · rename_i hlen
        cases e1
        obtain ⟨a, vs, e2, e3, e4⟩ := hx
        refine (pg_tup (n := ts.length) hc (pgs_of (l := l) (io := io) (H0 := H) hK is ts hN he h1) (each_len ts) hst).run pins s σ H v u Q I r ?_
        refine ⟨a, vs, e2, by rw [hK]; exact e3, by rw [← e4.length, ← hlen, h1], rfl, xs, _, S, hL, hS, e4, hlen, q⟩
      · cases e1
    · cases e1
  · cases h
end

/-! ### walks -/
/-- a walk of the layer does what the source says, from here on -/
def SrcIt (l : Lk) (src : Src) (io0 : List Addr) (H0 : Hp) (J : It) : Prop :=
  ∀ S io H, Gr io0 H0 io H → Sim l S io H → ∀ i, match src.get S i with
    | some (some v) => J.go i H ∧ ∀ x H', J.yld i H x H' → Gr io H io H' ∧ Sim l S io H' ∧ RV l.K io H' v x ∧ ∀ b, H b ≠ none → H' b = H b
    | some none => J.stop i H
    | none => True
def tI (l : Lk) (W : WX) (r : Loc → Sto → R Src) : TI := fun σ H Rf => ∃ L S io, RL l io H L σ ∧ Sim l S io H ∧ Po l (r L S) io H (fun src _ io' H' => ∀ J, SrcIt l src io' H' J → Rf J H') (EW l W σ)
theorem piImp {X : Cx} {tg e : Expr} {t t' : TI} (h : PI X tg e t) (k : ∀ σ H Q, t' σ H Q → t σ H Q) : PI X tg e t' := ⟨fun pins s σ H Q I q => h.run pins s σ H Q I (k σ H Q q)⟩
theorem src_list {l : Lk} {io0 : List Addr} {H0 : Hp} {n : Nat} {a : Addr} (h : io0[n]? = some a) : SrcIt l (.ls n) io0 H0 (Itl l.K a) := fun S io H g s i => by
  have h' := g.get h
  obtain ⟨o, e, r⟩ := s.obj h'
  unfold Src.get
  rw [e]
  have key : ∀ (xs : List SV) (vs : List V), SqL l.K H a vs → RVs l.K io H xs vs → match (some xs[i]? : Option (Option SV)) with
    | some (some v) => (Itl l.K a).go i H ∧ ∀ x H', (Itl l.K a).yld i H x H' → Gr io H io H' ∧ Sim l S io H' ∧ RV l.K io H' v x ∧ ∀ b, H b ≠ none → H' b = H b
    | some none => (Itl l.K a).stop i H
    | none => True := fun xs vs hq hr => by
    cases q : xs[i]? with
    | none =>
      exact ⟨vs, hq, by rw [← hr.length]; exact List.getElem?_eq_none_iff.mp q⟩
    | some v =>
      obtain ⟨w, h1, h2⟩ := hr.get q
      refine ⟨⟨vs, w, hq, h1⟩, fun x H' y => ?_⟩
      obtain ⟨e1, e2⟩ := y
      subst e1
      have e3 := e2 vs hq
      rw [h1] at e3
      cases e3
      exact ⟨Gr.refl, s, h2, fun _ _ => rfl⟩
  cases o with
  | lst xs =>
    obtain ⟨vs, h1, h2⟩ := r
    exact key xs vs (.inl (.inl h1)) h2
  | ins c fs => exact True.intro
end Bi

/-! Bi6: the sources of walks, loops. -/
namespace Bi
open PySem PySem.Spec PyProof.Rows L2

theorem src_tup {l : Lk} {io0 : List Addr} {H0 : Hp} {S0 : Sto} {a : Addr} {xs : List SV} {vs : List V} (s0 : Sim l S0 io0 H0) (h : SqT l.K H0 a vs) (hr : RVs l.K io0 H0 xs vs) : SrcIt l (.vs xs) io0 H0 (Itt l.K a) := fun S io H g s i => by
  unfold Src.get
  have hq := g.tup s0 h
  have hr' := g.rvs s0 hr
  cases q : xs[i]? with
  | none => exact ⟨vs, hq, by rw [← hr.length]; exact List.getElem?_eq_none_iff.mp q⟩
  | some v =>
    obtain ⟨w, h1, h2⟩ := hr'.get q
    refine ⟨⟨vs, w, hq, h1⟩, fun x H' y => ?_⟩
    obtain ⟨e1, e2⟩ := y
    subst e1
    have e3 := e2 vs hq
    rw [h1] at e3
    cases e3
    exact ⟨Gr.refl, s, h2, fun _ _ => rfl⟩
theorem src_kl {l : Lk} {io0 : List Addr} {H0 : Hp} {S0 : Sto} {a : Addr} {xs : List SV} {vs : List V} (s0 : Sim l S0 io0 H0) (h : KL l.K H0 a vs) (hr : RVs l.K io0 H0 xs vs) : SrcIt l (.vs xs) io0 H0 (Itl l.K a) := fun S io H g s i => by
  unfold Src.get
  have hq := (g.kl s0 h).sq
  have hr' := g.rvs s0 hr
  cases q : xs[i]? with
  | none => exact ⟨vs, hq, by rw [← hr.length]; exact List.getElem?_eq_none_iff.mp q⟩
  | some v =>
    obtain ⟨w, h1, h2⟩ := hr'.get q
    refine ⟨⟨vs, w, hq, h1⟩, fun x H' y => ?_⟩
    obtain ⟨e1, e2⟩ := y
    subst e1
    have e3 := e2 vs hq
    rw [h1] at e3
    cases e3
    exact ⟨Gr.refl, s, h2, fun _ _ => rfl⟩
theorem rgI_get (a : Int) (n : Nat) (c : Int) (i : Nat) : (rgI a n c)[i]? = if i < n then some (.int (a + (i : Int) * c)) else none := by
  unfold rgI
  rw [List.getElem?_map]
  by_cases h : i < n
  · rw [List.getElem?_range h, if_pos h]; rfl
  · rw [List.getElem?_eq_none (by rw [List.length_range]; omega), if_neg h]; rfl
theorem src_rng {l : Lk} {io0 : List Addr} {H0 : Hp} {lo : Int} {n : Nat} : SrcIt l (.vs (rgI lo n 1)) io0 H0 (Itr lo n) := fun S io H g s i => by
  unfold Src.get
  rw [rgI_get]
  by_cases hi : i < n
  · rw [if_pos hi]
    refine ⟨hi, fun x H' y => ?_⟩
    obtain ⟨e1, e2⟩ := y
    subst e1
    exact ⟨Gr.refl, s, by rw [e2]; show V.int _ = V.int _; rw [Int.mul_one], fun _ _ => rfl⟩
  · rw [if_neg hi]
    exact Nat.le_of_not_lt hi
theorem src_rngC {l : Lk} {io0 : List Addr} {H0 : Hp} {lo c : Int} {n : Nat} : SrcIt l (.vs (rgI lo n c)) io0 H0 (Itc lo c n) := fun S io H g s i => by
  unfold Src.get
  rw [rgI_get]
  by_cases hi : i < n
  · rw [if_pos hi]
    refine ⟨hi, fun x H' y => ?_⟩
    obtain ⟨e1, e2⟩ := y
    subst e1
    exact ⟨Gr.refl, s, by rw [e2]; rfl, fun _ _ => rfl⟩
  · rw [if_neg hi]
    exact Nat.le_of_not_lt hi
/-- a new pair -/
theorem pair_new {l : Lk} {S : Sto} {io : List Addr} {H : Hp} {x y : SV} {u w : V} (s : Sim l S io H) {T : Addr} (hT : H T = none) (hx : RV l.K io H x u) (hy : RV l.K io H y w) :
    Gr io H io (upd H T (.tup [u, w])) ∧ Sim l S io (upd H T (.tup [u, w])) ∧ RV l.K io (upd H T (.tup [u, w])) (.tup [x, y]) (.ref T) ∧ ∀ b, H b ≠ none → upd H T (.tup [u, w]) b = H b :=
  have g := Gr.new (o := .tup [u, w]) s hT
  ⟨g, s.new hT, ⟨T, [u, w], rfl, .inl (.inl upd_same), g.rvs s (.cons hx (.one hy))⟩, fun b hb => upd_ne fun e => hb (e ▸ hT)⟩
/-- what a list source reads -/
theorem ls_get {l : Lk} {S : Sto} {io : List Addr} {H : Hp} {n : Nat} {a : Addr} (s : Sim l S io H) (h : io[n]? = some a) (i : Nat) : match (Src.ls n).get S i with
    | some o => ∃ xs vs, SqL l.K H a vs ∧ RVs l.K io H xs vs ∧ xs[i]? = o
    | none => True := by
  obtain ⟨o, e, r⟩ := s.obj h
  unfold Src.get
  rw [e]
  cases o with
  | lst xs =>
    obtain ⟨vs, h1, h2⟩ := r
    exact ⟨xs, vs, .inl (.inl h1), h2, rfl⟩
  | ins c fs => exact True.intro
theorem src_enum {l : Lk} {io0 : List Addr} {H0 : Hp} {n : Nat} {a : Addr} (h : io0[n]? = some a) : SrcIt l (.en (.ls n)) io0 H0 (Ite l.K a) := fun S io H g s i => by
  have q := ls_get s (g.get h) i
  unfold Src.get
  cases e : (Src.ls n).get S i with
  | none => exact True.intro
  | some o =>
    rw [e] at q
    obtain ⟨xs, vs, h1, h2, h3⟩ := q
    cases o with
    | none => exact ⟨vs, h1, by rw [← h2.length]; exact List.getElem?_eq_none_iff.mp h3⟩
    | some v =>
      obtain ⟨w, h4, h5⟩ := h2.get h3
      refine ⟨⟨vs, w, h1, h4⟩, fun x H' y => ?_⟩
      obtain ⟨T, z, e1, e2, e3, e4⟩ := y
      have e5 := e4 vs h1
      rw [h4] at e5
      cases e5
      subst e1 e3
      exact pair_new s e2 rfl h5
theorem src_zip {l : Lk} {io0 : List Addr} {H0 : Hp} {n m : Nat} {a b : Addr} (h : io0[n]? = some a) (h' : io0[m]? = some b) : SrcIt l (.zp (.ls n) (.ls m)) io0 H0 (Itz l.K a b) := fun S io H g s i => by
  have q := ls_get s (g.get h) i
  have q' := ls_get s (g.get h') i
  unfold Src.get
  cases e : (Src.ls n).get S i with
  | none =>
    cases e' : (Src.ls m).get S i <;> exact True.intro
  | some o =>
    cases e' : (Src.ls m).get S i with
    | none => cases o <;> exact True.intro
    | some o' =>
      rw [e] at q
      rw [e'] at q'
      obtain ⟨xs, vs, h1, h2, h3⟩ := q
      obtain ⟨ys, ws, h1', h2', h3'⟩ := q'
      cases o with
      | none => exact ⟨vs, ws, h1, h1', .inl (by rw [← h2.length]; exact List.getElem?_eq_none_iff.mp h3)⟩
      | some v =>
        cases o' with
        | none => exact ⟨vs, ws, h1, h1', .inr (by rw [← h2'.length]; exact List.getElem?_eq_none_iff.mp h3')⟩
        | some u =>
          obtain ⟨w, h4, h5⟩ := h2.get h3
          obtain ⟨w', h4', h5'⟩ := h2'.get h3'
          refine ⟨⟨vs, ws, w, w', h1, h1', h4, h4'⟩, fun x H' y => ?_⟩
          obtain ⟨T, z, z', e1, e2, e3, e4, e4'⟩ := y
          have e5 := e4 vs h1
          have e5' := e4' ws h1'
          rw [h4] at e5
          rw [h4'] at e5'
          cases e5
          cases e5'
          subst e1 e3
          exact pair_new s e2 h5 h5'

/-! ### how a statement's end is read -/
def PoS (l : Lk) (o : O) (io : List Addr) (H : Hp) (D : Ends) (W : WX) : Prop :=
  match o with
  | .nx L S => ∀ io' H' σ', Gr io H io' H' → Sim l S io' H' → RL l io' H' L σ' → D.nx σ' H'
  | .rt v S => ∀ io' H' u, Gr io H io' H' → Sim l S io' H' → RV l.K io' H' v u → D.rt u H'
  | .bk L S => ∀ io' H' σ', Gr io H io' H' → Sim l S io' H' → RL l io' H' L σ' → D.bk σ' H'
  | .ct L S => ∀ io' H' σ', Gr io H io' H' → Sim l S io' H' → RL l io' H' L σ' → D.ct σ' H'
  | .exc c L S => ∀ io' H' σ', Gr io H io' H' → Sim l S io' H' → RL l io' H' L σ' → W (l.ea c) none σ' H'
  | .bad => False
def tS (l : Lk) (W : WX) (r : Loc → Sto → O) : TS := fun D σ H => ∃ L S io, RL l io H L σ ∧ Sim l S io H ∧ PoS l (r L S) io H D W
section
variable {l : Lk} {W : WX} {S : Sto} {io io' : List Addr} {H H' : Hp} {D : Ends} {σ : L2.St} {L : Loc} {α : Type}
theorem PoS.later {o : O} (h : PoS l o io H D W) (g : Gr io H io' H') : PoS l o io' H' D W := by
  cases o with
  | nx L S => exact fun io2 H2 σ2 g2 => h io2 H2 σ2 (g.trans g2)
  | rt v S => exact fun io2 H2 u g2 => h io2 H2 u (g.trans g2)
  | bk L S => exact fun io2 H2 σ2 g2 => h io2 H2 σ2 (g.trans g2)
  | ct L S => exact fun io2 H2 σ2 g2 => h io2 H2 σ2 (g.trans g2)
  | exc c L S => exact fun io2 H2 σ2 g2 => h io2 H2 σ2 (g.trans g2)
  | bad => exact h
/-- a result ahead of a statement's end -/
theorem PoS.st {r : R α} {f : α → Sto → O} (hL : RL l io H L σ) (hS : Sim l S io H) (h : PoS l (r.st L f) io H D W) : Po l r io H (fun v S1 io1 H1 => PoS l (f v S1) io1 H1 D W) (EW l W σ) := by
  cases r with
  | ok v S1 => exact fun io2 H2 g2 s2 => PoS.later (o := f v S1) h g2
  | exc c S1 => exact fun io2 H2 g2 s2 => h io2 H2 σ g2 s2 (g2.rl hS hL)
  | bad => exact h
theorem stE {r : Loc → Sto → R SV} {f : SV → Sto → O} {K : VK} (hL : RL l io H L σ) (hS : Sim l S io H) (hp : PoS l ((r L S).st L f) io H D W)
    (hk : ∀ v S1 io1 H1 u, Gr io H io1 H1 → Sim l S1 io1 H1 → RL l io1 H1 L σ → RV l.K io1 H1 v u → PoS l (f v S1) io1 H1 D W → K u H1) : tE l W r σ H K :=
  ⟨L, S, io, hL, hS, (PoS.st hL hS hp).imp fun v S1 io1 H1 g s q u hu => hk v S1 io1 H1 u g s (g.rl hS hL) hu q⟩
theorem stB {r : Loc → Sto → R Bool} {f : Bool → Sto → O} {K : Bool → Hp → Prop} (hL : RL l io H L σ) (hS : Sim l S io H) (hp : PoS l ((r L S).st L f) io H D W)
    (hk : ∀ v S1 io1 H1, Gr io H io1 H1 → Sim l S1 io1 H1 → RL l io1 H1 L σ → PoS l (f v S1) io1 H1 D W → K v H1) : tB l W r σ H K :=
  ⟨L, S, io, hL, hS, (PoS.st hL hS hp).imp fun v S1 io1 H1 g s q => hk v S1 io1 H1 g s (g.rl hS hL) q⟩
theorem stA {r : Loc → Sto → R (List SV)} {f : List SV → Sto → O} {K : List V → Hp → Prop} (hL : RL l io H L σ) (hS : Sim l S io H) (hp : PoS l ((r L S).st L f) io H D W)
    (hk : ∀ v S1 io1 H1 u, Gr io H io1 H1 → Sim l S1 io1 H1 → RL l io1 H1 L σ → RVs l.K io1 H1 v u → PoS l (f v S1) io1 H1 D W → K u H1) : tAs l W r σ H K :=
  ⟨L, S, io, hL, hS, (PoS.st hL hS hp).imp fun v S1 io1 H1 g s q u hu => hk v S1 io1 H1 u g s (g.rl hS hL) hu q⟩
theorem stI {r : Loc → Sto → R Src} {f : Src → Sto → O} {K : It → Hp → Prop} (hL : RL l io H L σ) (hS : Sim l S io H) (hp : PoS l ((r L S).st L f) io H D W)
    (hk : ∀ v S1 io1 H1 J, Gr io H io1 H1 → Sim l S1 io1 H1 → RL l io1 H1 L σ → SrcIt l v io1 H1 J → PoS l (f v S1) io1 H1 D W → K J H1) : tI l W r σ H K :=
  ⟨L, S, io, hL, hS, (PoS.st hL hS hp).imp fun v S1 io1 H1 g s q J hJ => hk v S1 io1 H1 J g s (g.rl hS hL) hJ q⟩
theorem seqI {β : Type} {F : β → Sto → List Addr → Hp → Prop} {r : Loc → Sto → R Src} {f : Src → Sto → R β} {K : It → Hp → Prop} (hL : RL l io H L σ) (hS : Sim l S io H) (hp : Po l ((r L S).bind f) io H F (EW l W σ))
    (hk : ∀ v S1 io1 H1 J, Gr io H io1 H1 → Sim l S1 io1 H1 → RL l io1 H1 L σ → SrcIt l v io1 H1 J → Po l (f v S1) io1 H1 F (EW l W σ) → K J H1) : tI l W r σ H K :=
  ⟨L, S, io, hL, hS, (Po.bind hp).imp fun v S1 io1 H1 g s q J hJ => hk v S1 io1 H1 J g s (g.rl hS hL) hJ q⟩
/-- for -/
theorem for_read {tg : Tg} {it : Loc → Sto → R Src} {body : Loc → Sto → O} (hL : RL l io H L σ) (hS : Sim l S io H)
    (hp : PoS l ((it L S).st L fun src S1 => forF (fun S => src.get S) tg body (src.cnt S1 + 1) 0 L S1) io H D W) : tFor (tI l W it) (tG l tg) (tS l W body) D σ H := by
  refine stI hL hS hp fun src S1 io1 H1 J g1 s1 l1 hJ hp1 => ?_
  refine ⟨fun i m σ2 H2 => ∃ La S2 io2, RL l io2 H2 La σ2 ∧ Sim l S2 io2 H2 ∧ Gr io1 H1 io2 H2 ∧ PoS l (forF (fun S => src.get S) tg body m i La S2) io2 H2 D W, ⟨_, L, S1, io1, l1, s1, Gr.refl, hp1⟩, ?_⟩
  rintro i m σ2 H2 ⟨La, S2, io2, l2, s2, g2, hp2⟩
  have hq := hJ S2 io2 H2 g2 s2 i
  cases m with
  | zero => exact hp2.elim
  | succ m =>
    unfold forF at hp2
    cases e : src.get S2 i with
    | none => rw [e] at hp2; exact hp2.elim
    | some o =>
      rw [e] at hp2 hq
      cases o with
      | none => exact .inl ⟨hq, hp2 io2 H2 σ2 Gr.refl s2 l2⟩
      | some v =>
        obtain ⟨hgo, hy⟩ := hq
        refine .inr ⟨hgo, fun σ3 H3 => ∃ L3 S3 io3, RL l io3 H3 L3 σ3 ∧ Sim l S3 io3 H3 ∧ Gr io1 H1 io3 H3 ∧ PoS l (forF (fun S => src.get S) tg body m (i + 1) L3 S3) io3 H3 D W, fun σ3 H3 n3 => ⟨m, Nat.lt_succ_self m, n3⟩, fun x H' y => ?_⟩
        obtain ⟨g3, s3, r3, _⟩ := hy x H' y
        dsimp only at hp2
        cases e2 : tgS tg v La with
        | none => rw [e2] at hp2; exact hp2.elim
        | some L3 =>
          rw [e2] at hp2
          refine ⟨v, La, L3, S2, io2, g3.rl s2 l2, s3, r3, e2, fun σ' l' _ => ⟨L3, S2, io2, l', s3, ?_⟩⟩
          have gg := g2.trans g3
          dsimp only at hp2
          cases e3 : body L3 S2 with
          | nx L4 S4 =>
            rw [e3] at hp2
            exact fun io4 H4 σ4 g4 s4 l4 => ⟨L4, S4, io4, l4, s4, gg.trans g4, hp2.later (g3.trans g4)⟩
          | ct L4 S4 =>
            rw [e3] at hp2
            exact fun io4 H4 σ4 g4 s4 l4 => ⟨L4, S4, io4, l4, s4, gg.trans g4, hp2.later (g3.trans g4)⟩
          | bk L4 S4 =>
            rw [e3] at hp2
            exact fun io4 H4 σ4 g4 s4 l4 => hp2 io4 H4 σ4 (g3.trans g4) s4 l4
          | rt v4 S4 =>
            rw [e3] at hp2
            exact fun io4 H4 u4 g4 s4 r4 => hp2 io4 H4 u4 (g3.trans g4) s4 r4
          | exc c4 L4 S4 =>
            rw [e3] at hp2
            exact fun io4 H4 σ4 g4 s4 l4 => hp2 io4 H4 σ4 (g3.trans g4) s4 l4
          | bad => rw [e3] at hp2; exact hp2.elim
/-- while -/
theorem while_read {c : Loc → Sto → R Bool} {body : Loc → Sto → O} {n : Nat} (hL : RL l io H L σ) (hS : Sim l S io H) (hp : PoS l (whF c body n L S) io H D W) : tWhile (tB l W c) (tS l W body) D σ H := by
  refine ⟨fun m σ2 H2 => ∃ La S2 io2, RL l io2 H2 La σ2 ∧ Sim l S2 io2 H2 ∧ PoS l (whF c body m La S2) io2 H2 D W, ⟨n, L, S, io, hL, hS, hp⟩, ?_⟩
  rintro m σ2 H2 ⟨La, S2, io2, l2, s2, hp2⟩
  cases m with
  | zero => exact hp2.elim
  | succ m =>
    unfold whF at hp2
    refine ⟨La, S2, io2, l2, s2, ?_⟩
    cases e : c La S2 with
    | bad => rw [e] at hp2; exact hp2.elim
    | exc c' S3 =>
      rw [e] at hp2
      exact fun io3 H3 g3 s3 => hp2 io3 H3 σ2 g3 s3 (g3.rl s2 l2)
    | ok b S3 =>
      rw [e] at hp2
      intro io3 H3 g3 s3
      have l3 := g3.rl s2 l2
      cases b with
      | false => exact hp2 io3 H3 σ2 g3 s3 l3
      | true =>
        show ∃ N : L2.St → Hp → Prop, (∀ σ' H', N σ' H' → ∃ m', m' < m + 1 ∧ _) ∧ _
        refine ⟨fun σ4 H4 => ∃ L4 S4 io4, RL l io4 H4 L4 σ4 ∧ Sim l S4 io4 H4 ∧ PoS l (whF c body m L4 S4) io4 H4 D W, fun σ4 H4 n4 => ⟨m, Nat.lt_succ_self m, n4⟩, La, S3, io3, l3, s3, ?_⟩
        have hp3 := PoS.later hp2 g3
        dsimp only at hp3
        cases e3 : body La S3 with
        | nx L4 S4 =>
          rw [e3] at hp3
          exact fun io4 H4 σ4 g4 s4 l4 => ⟨L4, S4, io4, l4, s4, hp3.later g4⟩
        | ct L4 S4 =>
          rw [e3] at hp3
          exact fun io4 H4 σ4 g4 s4 l4 => ⟨L4, S4, io4, l4, s4, hp3.later g4⟩
        | bk L4 S4 =>
          rw [e3] at hp3
          exact fun io4 H4 σ4 g4 s4 l4 => hp3 io4 H4 σ4 g4 s4 l4
        | rt v4 S4 =>
          rw [e3] at hp3
          exact fun io4 H4 u4 g4 s4 r4 => hp3 io4 H4 u4 g4 s4 r4
        | exc c4 L4 S4 =>
          rw [e3] at hp3
          exact fun io4 H4 σ4 g4 s4 l4 => hp3 io4 H4 σ4 g4 s4 l4
        | bad => rw [e3] at hp3; exact hp3.elim
theorem RL.wipe (h : RL l io H L σ) (hg : l.gd = Option.none) : ∀ vs : List Nat, RL l io H (wipeL L vs) (L2.wipe σ vs)
  | [] => h
  | v :: vs => (RL.wipe h hg vs).none hg v
/-- a list comprehension -/
theorem lc_read {tg : Tg} {it : Loc → Sto → R Src} {c : Loc → Sto → R Bool} {e : Loc → Sto → R SV} {own : List Nat} {tt : TT} {Q : VK} (hcold : l.gd = Option.none) (hown : ∀ i ∈ tg.sl, i ∈ own) (hL : RL l io H L σ) (hS : Sim l S io H)
    (htt : ∀ σ2 H2 K, tB l (fun _ _ _ _ => False) c σ2 H2 K → tt σ2 H2 K)
    (hp : Po l ((it L S).bind fun src S1 => (lcF (fun S => src.get S) tg c e (wipeL L own) (src.cnt S1 + 1) 0 [] S1).bind newL) io H (FV l Q) (EW l W σ)) :
    tLc (tI l W it) (tG l tg) tt (tE l (fun _ _ _ _ => False) e) own σ H Q := by
  refine seqI hL hS hp fun src S1 io1 H1 J g1 s1 l1 hJ hp1 => ?_
  intro Dl hD
  have hDn : Dl ∉ io1 := s1.out hD
  have lw := l1.wipe hcold own
  refine ⟨fun i m H2 => ∃ acc accV S2 io2, Sim l S2 io2 H2 ∧ Gr io1 H1 io2 H2 ∧ Dl ∉ io2 ∧ H2 Dl = some (.lst accV) ∧ RVs l.K io2 H2 acc accV ∧ Po l ((lcF (fun S => src.get S) tg c e (wipeL L own) m i acc S2).bind newL) io1 H1 (FV l Q) (EW l W σ),
    ⟨_, [], [], S1, io1, s1.new hD, Gr.new s1 hD, hDn, upd_same, rfl, hp1⟩, ?_⟩
  rintro i m H2 ⟨acc, accV, S2, io2, s2, g2, hn2, h2, r2, hp2⟩
  have hq := hJ S2 io2 H2 g2 s2 i
  cases m with
  | zero => exact hp2.elim
  | succ m =>
    unfold lcF at hp2
    cases e1 : src.get S2 i with
    | none => rw [e1] at hp2; exact hp2.elim
    | some o =>
      rw [e1] at hp2 hq
      cases o with
      | none =>
        refine .inl ⟨hq, ?_⟩
        -- the new list comes into the store
        have hp3 : Po l (newL acc S2) io1 H1 (FV l Q) (EW l W σ) := hp2
        have g3 : Gr io1 H1 (io2 ++ [Dl]) H2 := by
          obtain ⟨lx, ex, fx⟩ := g2.pre
          refine ⟨⟨lx ++ [Dl], by rw [ex, List.append_assoc], fun a ha => ?_⟩, g2.keep, g2.dom⟩
          rcases List.mem_append.mp ha with ha | ha
          · exact fx a ha
          · rw [List.mem_singleton.mp ha]; exact hD
        have s3 : Sim l (S2 ++ [.lst acc]) (io2 ++ [Dl]) H2 := by
          have g4 : Gr io2 H2 (io2 ++ [Dl]) H2 ∨ True := .inr trivial
          have up : ∀ (x : SV) (v : V), RV l.K io2 H2 x v → RV l.K (io2 ++ [Dl]) H2 x v := fun x v r => RV.mono (fun n a h => by
            rw [List.getElem?_append_left (List.getElem?_eq_some_iff.mp h).1]; exact h) (fun _ _ t => t) (fun _ _ t => t) x v r
          have ups : ∀ (x : List SV) (v : List V), RVs l.K io2 H2 x v → RVs l.K (io2 ++ [Dl]) H2 x v := fun x v r => RVs.mono (fun n a h => by
            rw [List.getElem?_append_left (List.getElem?_eq_some_iff.mp h).1]; exact h) (fun _ _ t => t) (fun _ _ t => t) x v r
          refine ⟨by rw [List.length_append, List.length_append, s2.len]; rfl, ?_, fun n y ey => ?_⟩
          · rw [List.nodup_append]
            refine ⟨s2.nd, by simp, fun a ha b hb q => ?_⟩
            rw [List.mem_singleton.mp hb] at q
            exact hn2 (q ▸ ha)
          · by_cases hn : n < S2.length
            · rw [List.getElem?_append_left hn] at ey
              obtain ⟨a, k1, k2⟩ := s2.ob n y ey
              refine ⟨a, by rw [List.getElem?_append_left (List.getElem?_eq_some_iff.mp k1).1]; exact k1, ?_⟩
              cases y with
              | lst xs => obtain ⟨vs, k3, k4⟩ := k2; exact ⟨vs, k3, ups _ _ k4⟩
              | ins c fs =>
                obtain ⟨dx, gs, k3, k4, k5⟩ := k2
                refine ⟨dx, gs, k3, k4, fun f o hf => ?_⟩
                have k6 := k5 f o hf
                cases o with
                | none => exact k6
                | some v => obtain ⟨u, k7, k8⟩ := k6; exact ⟨u, k7, up _ _ k8⟩
            · rw [List.getElem?_append_right (by omega)] at ey
              have h0 : n - S2.length = 0 := by
                cases q : n - S2.length with
                | zero => rfl
                | succ k => rw [q] at ey; simp at ey
              rw [h0] at ey
              have e2 : SO.lst acc = y := by simpa using ey
              subst e2
              have hnn : n = io2.length := by rw [s2.len]; omega
              exact ⟨Dl, by rw [hnn]; simp, accV, h2, ups _ _ r2⟩
        exact hp3 _ _ g3 s3 (.ref Dl) ⟨Dl, by rw [← s2.len]; simp, rfl⟩
      | some v =>
        obtain ⟨hgo, hy⟩ := hq
        refine .inr ⟨hgo, fun H3 => ∃ acc accV S3 io3, Sim l S3 io3 H3 ∧ Gr io1 H1 io3 H3 ∧ Dl ∉ io3 ∧ H3 Dl = some (.lst accV) ∧ RVs l.K io3 H3 acc accV ∧ Po l ((lcF (fun S => src.get S) tg c e (wipeL L own) m (i + 1) acc S3).bind newL) io1 H1 (FV l Q) (EW l W σ), fun H3 n3 => ⟨m, Nat.lt_succ_self m, n3⟩, fun x H' y => ?_⟩
        obtain ⟨g3, s3, r3, hst⟩ := hy x H' y
        dsimp only at hp2
        cases e2 : tgS tg v (wipeL L own) with
        | none => rw [e2] at hp2; exact hp2.elim
        | some L3 =>
          rw [e2] at hp2
          have gg := g2.trans g3
          have hD3 : H' Dl = some (.lst accV) := by rw [hst Dl (by rw [h2]; exact fun z => nomatch z)]; exact h2
          refine ⟨v, wipeL L own, L3, S2, io2, (g2.trans g3).rl s1 lw, s3, r3, e2, fun σ' l' hb => ⟨wipe_but hb hown, htt _ _ _ ⟨L3, S2, io2, l', s3, ?_⟩⟩⟩
          dsimp only at hp2
          -- what a later state keeps
          have kp : ∀ {io4 : List Addr} {H4 : Hp}, Gr io2 H' io4 H4 → Dl ∉ io4 ∧ H4 Dl = some (.lst accV) := fun {io4 H4} g4 => by
            refine ⟨fun hm => ?_, g4.keep Dl _ hn2 hD3⟩
            obtain ⟨lx, ex, fx⟩ := g4.pre
            rw [ex] at hm
            rcases List.mem_append.mp hm with hm | hm
            · exact hn2 hm
            · rw [fx Dl hm] at hD3; cases hD3
          cases e3 : c L3 S2 with
          | bad => rw [e3] at hp2; exact hp2.elim
          | exc c' S4 => rw [e3] at hp2; exact hp2.elim
          | ok b S4 =>
            rw [e3] at hp2
            intro io4 H4 g4 s4
            obtain ⟨kn4, kd4⟩ := kp g4
            have ra4 := (g3.trans g4).rvs s2 r2
            cases b with
            | false =>
              unfold FB
              dsimp only
              rw [if_neg Bool.false_ne_true]
              exact ⟨acc, accV, S4, io4, s4, gg.trans g4, kn4, kd4, ra4, hp2⟩
            | true =>
              unfold FB
              dsimp only
              rw [if_pos rfl]
              refine ⟨L3, S4, io4, g4.rl s3 l', s4, ?_⟩
              dsimp only at hp2
              cases e4 : e L3 S4 with
              | bad => rw [e4] at hp2; exact hp2.elim
              | exc c' S5 => rw [e4] at hp2; exact hp2.elim
              | ok yv S5 =>
                rw [e4] at hp2
                intro io5 H5 g5 s5 u5 r5
                obtain ⟨kn5, kd5⟩ := kp (g4.trans g5)
                have ra5 := g5.rvs s4 ra4
                dsimp only at hp2
                split at hp2
                · rename_i hz
                  refine ⟨accV, kd5, by rw [← ra5.length]; exact hz, acc ++ [yv], accV ++ [u5], S5, io5, ?_⟩
                  -- the list grows
                  have gD : Gr io5 H5 io5 (upd H5 Dl (.lst (accV ++ [u5]))) ∨ True := .inr trivial
                  have keepRd : ∀ a vs, SqT l.K H5 a vs → SqT l.K (upd H5 Dl (.lst (accV ++ [u5]))) a vs := fun a vs t => by
                    rcases t with (t | ⟨o, t⟩) | t
                    · exact .inl (.inl (by rw [upd_ne (fun e => by rw [e, kd5] at t; cases t)]; exact t))
                    · exact .inl (.inr ⟨o, by rw [upd_ne (fun e => by rw [e, kd5] at t; cases t)]; exact t⟩)
                    · exact .inr t
                  have keepKl : ∀ a vs, KL l.K H5 a vs → KL l.K (upd H5 Dl (.lst (accV ++ [u5]))) a vs := fun a vs t => by
                    rcases t with ⟨o, t⟩ | t
                    · exact .inl ⟨o, by rw [upd_ne (fun e => by rw [e, kd5] at t; cases t)]; exact t⟩
                    · exact .inr t
                  have upr : ∀ (x : SV) (v : V), RV l.K io5 H5 x v → RV l.K io5 (upd H5 Dl (.lst (accV ++ [u5]))) x v := fun x v r => RV.mono (fun _ _ h => h) keepRd keepKl x v r
                  have uprs : ∀ (x : List SV) (v : List V), RVs l.K io5 H5 x v → RVs l.K io5 (upd H5 Dl (.lst (accV ++ [u5]))) x v := fun x v r => RVs.mono (fun _ _ h => h) keepRd keepKl x v r
                  refine ⟨⟨s5.len, s5.nd, fun n y ey => ?_⟩, ?_, kn5, upd_same, uprs _ _ (ra5.append (.one r5)), hp2⟩
                  · obtain ⟨a, k1, k2⟩ := s5.ob n y ey
                    have ne : a ≠ Dl := fun q => kn5 (q ▸ List.mem_of_getElem? k1)
                    refine ⟨a, k1, ?_⟩
                    cases y with
                    | lst xs => obtain ⟨vs, k3, k4⟩ := k2; exact ⟨vs, (upd_ne ne).trans k3, uprs _ _ k4⟩
                    | ins c fs =>
                      obtain ⟨dx, gs, k3, k4, k5⟩ := k2
                      refine ⟨dx, gs, (upd_ne ne).trans k3, k4, fun f o hf => ?_⟩
                      have k6 := k5 f o hf
                      cases o with
                      | none => exact k6
                      | some v => obtain ⟨u, k7, k8⟩ := k6; exact ⟨u, k7, upr _ _ k8⟩
                  · have g6 := (gg.trans g4).trans g5
                    refine ⟨g6.pre, fun a o ha hH => ?_, fun a ha => ?_⟩
                    · have ne : a ≠ Dl := fun q => by rw [q, hD] at hH; cases hH
                      rw [upd_ne ne]
                      exact g6.keep a o ha hH
                    · by_cases q : a = Dl
                      · rw [q]; exact hD
                      · rw [upd_ne q] at ha; exact g6.dom a ha
                · exact hp2.elim
end
end Bi

/-! BiC: own classes: a new instance, a method, with the exception told at the slots; the fields of an instance. -/
namespace Bi
open PySem PySem.Spec PyProof.Rows L2

/-! ### the fields -/
theorem keys_putF (f : Str) (v : V) : ∀ fs : List (Str × V), (putF f v fs).map (·.1) = if f ∈ fs.map (·.1) then fs.map (·.1) else fs.map (·.1) ++ [f]
  | [] => by simp [putF]
  | (g, x) :: r => by
    have ih := keys_putF f v r
    unfold putF
    by_cases h : g = f
    · subst h; simp
    · rw [if_neg h]
      have h' : ¬ f = g := fun z => h z.symm
      show g :: (putF f v r).map (·.1) = _
      rw [ih]
      show _ = if f ∈ g :: r.map (·.1) then g :: r.map (·.1) else g :: r.map (·.1) ++ [f]
      by_cases q : f ∈ r.map (·.1)
      · rw [if_pos q, if_pos (List.mem_cons_of_mem _ q)]
      · rw [if_neg q, if_neg (fun z => by
          rcases List.mem_cons.mp z with z | z
          · exact h' z
          · exact q z)]
        rfl
theorem mem_keys {m : Str} : ∀ {gs : List (Str × V)}, gs.lookup m ≠ none → m ∈ gs.map (·.1)
  | [], h => absurd rfl h
  | (g, x) :: r, h => by
    by_cases e : m = g
    · rw [e]; exact List.mem_cons_self
    · have hb : (m == g) = false := beq_eq_false_iff_ne.mpr e
      refine List.mem_cons_of_mem _ (mem_keys (gs := r) ?_)
      rw [List.lookup_cons, hb] at h
      exact h
/-- no two alike, all among the others: no more of them -/
theorem few_of_sub {α : Type} [DecidableEq α] : ∀ {A B : List α}, A.Nodup → (∀ a ∈ A, a ∈ B) → A.length ≤ B.length
  | [], _, _, _ => Nat.zero_le _
  | a :: A, B, hn, hs => by
    have hn := List.nodup_cons.mp hn
    have ha := hs a List.mem_cons_self
    have ih := few_of_sub (A := A) (B := B.erase a) hn.2 fun x hx => (List.mem_erase_of_ne (fun (e : x = a) => hn.1 (e ▸ hx))).mpr (hs x (List.mem_cons_of_mem _ hx))
    rw [List.length_erase_of_mem ha] at ih
    have := List.length_pos_of_mem ha
    rw [List.length_cons]
    omega

section
variable {X : Cx} {CX : CXT} {k : Nat} {f C : Addr} {fd : FuncData} {ps : List Str} {sp : Sp} {E : L2.St → XK} {x m : Str} {p pos apos : Pos} {e o : Expr} {es : List Expr} {ta : TE} {t : TA}
def tMakeS (C : Addr) (sp : Sp) (E : L2.St → XK) (t : TA) : TE := fun σ H Q => t σ H fun vs H1 => ∀ x dx, H1 x = none → H1 dx = none → dx ≠ x →
  sp (.ref x :: vs) (upd (upd H1 dx (.own x)) x (.ins C dx [])) (fun v H2 => v = .non ∧ Q (.ref x) H2) (E σ)
theorem run_makeS {pins : List (Addr × Obj)} {σ : L2.St} {H : Hp} {s : Shared} {Q : VK} {us : List Value} {vs : List V} (M : Mk X.K C f) (F : FnOk X.prog X.w X.K X.mg X.base CX k f fd ps sp) (hr : Room (k + 1) X.A) (hb : Binds X.K fd ps [])
    (hx : PassesAt CX X σ (E σ)) (I : Inv X pins σ H s) (r : Vals vs us)
    (h : ∀ x dx, H x = none → H dx = none → dx ≠ x → sp (.ref x :: vs) (upd (upd H dx (.own x)) x (.ins C dx [])) (fun v H2 => v = .non ∧ Q (.ref x) H2) (E σ)) :
    wpAny (model X.prog X.w) X.A (call (.ref C) us) (EP X pins σ Q) X.xe s := by
  have hq := h (s.heap.objs.size + 1) s.heap.objs.size (I.hok.fresh (Nat.le_succ _)) (I.hok.fresh (Nat.le_refl _)) (Nat.ne_of_lt (Nat.lt_succ_self _))
  have I2 := Inv.made (C := C) I
  have r2 : Vals (V.ref (s.heap.objs.size + 1) :: vs) (Value.ref (s.heap.objs.size + 1) :: us) := .cons rfl r
  have hl : (Value.ref (s.heap.objs.size + 1) :: us).length = ps.length := by
    have e := r2.length
    rw [F.len _ _ _ _ hq] at e
    exact e.symm
  have b := hb _ (Value.ref (s.heap.objs.size + 1) :: us) I2.kIn (by rw [List.append_nil]; exact hl)
  rw [List.append_nil] at b
  refine wpAny_call (make_map (f := f) I.kIn M.makes M.init (beq_iff_eq.mp M.fn) (codeAny_mono (F.run _ X.stack _ _ ⟨Value.ref (s.heap.objs.size + 1) :: us, []⟩ (Value.ref (s.heap.objs.size + 1) :: us) _ _ (E σ) (hr.make C us [])
    (I2.env0.make C us []) b r2 hq) fun r s' hq' => ?_))
  cases r with
  | error e => exact hx pins _ _ e s' I2 hq'
  | ok fl =>
    cases fl with
    | ret u =>
      obtain ⟨v, H', I3, rv, ev, q3⟩ := I2.after hq'
      subst ev
      exact ⟨rv, ⟨V.ref (s.heap.objs.size + 1), H', I3, rfl, q3⟩⟩
    | next => exact False.elim hq'
    | brk => exact False.elim hq'
    | cont => exact False.elim hq'
theorem pe_makeS (M : Mk X.K C f) (F : FnOk X.prog X.w X.K X.mg X.base CX k f fd ps sp) (hr : Room (k + 1) X.A) (hg : Gl X x) (hm : X.mg x = some (.ref C)) (hb : Binds X.K fd ps []) (hx : ∀ σ, PassesAt CX X σ (E σ))
    (ha : PA X (e :: es) t) (hdb : (x == ("__debug__" : Str)) = false := by decide) (he : starEach (e :: es) X.env = (false, eval e X.env) :: starEach es X.env := by rfl) (hpl : (backTo pos (starEach es X.env)).any (·.1) = false := by rfl) :
    PE X (.Call (.Name x p) (e :: es) [] pos) (tMakeS C sp E t) := by
  refine ⟨fun pins s σ H Q I h => ?_⟩
  refine wpAny_Call_Name_kw (ld_glob I hg hm ?_ hdb)
  refine PySem.W.callWith_K (h₀ := X.base) I.ok.mod.kin M.kp (thn (ha.run pos pins s σ H _ I h) fun us s1 ⟨vs, H1, I1, r, q⟩ => ⟨I1.kIn, ?_⟩) he hpl
  exact run_makeS M F hr hb (hx σ) I1 r q
/-- the form of a method's call -/
theorem meth_form {o : Expr} {m : Str} {apos pos : Pos} {args : List Expr} {env : Env} (hbase : attributeBase o m env (eval o env) = eval o env)
    (hfew : ((backTo pos (starEach args env)).all (fun x => !x.1) && (backToKw pos (keywordEach [] env)).all (fun x => x.1.isSome)
      && decide (args.length + ([] : List Keyword).length + (if ([] : List Keyword).isEmpty then 0 else 1) < 30)) = true)
    (hline : (apos.endLine == pos.line) = true) : ∃ pl, eval (.Call (.Attribute o m apos) args [] pos) env = (do
      let ov ← eval o env
      standAt apos.atName
      let (f, first) ← holding [ov] (getMethod ov m pl)
      callWith pos f first (backTo pos (starEach args env)) (backToKw pos (keywordEach [] env))) := by
  have hform : methodCallForm (args.length + ([] : List Keyword).length) (backTo pos (starEach args env)) (backToKw pos (keywordEach [] env)) = true := hfew
  have hpos : methodCallPos true o env apos pos = pure pos := by unfold methodCallPos; simp [hline]
  refine ⟨(do return (← importBound o env).getD true), ?_⟩
  rw [arm_eval_Call, hbase]
  unfold methodCall
  rw [hform]
  simp only [hpos, pure_bind, calleeOf, if_true]
/-- o.m(..) -/
def tMethO (C : Addr) (m : Str) (sp : Sp) (E : L2.St → XK) (ta : TE) (t : TA) : TE := fun σ H Q => ta σ H fun x H1 => ∃ a dx fs, x = .ref a ∧ H1 a = some (.ins C dx fs) ∧ fs.lookup m = none ∧
  t σ H1 fun vs H2 => sp (x :: vs) H2 Q (E σ)
theorem pe_methO {pl : Sem Bool} (he : PE X o ta) (c : Cls X.K C) (hm : Meth X.K C m f) (F : FnOk X.prog X.w X.K X.mg X.base CX k f fd ps sp) (hr : Room k X.A) (hb : Binds X.K fd ps []) (hx : ∀ σ, PassesAt CX X σ (E σ)) (ha : PA X (e :: es) t)
    (hst : starEach (e :: es) X.env = (false, eval e X.env) :: starEach es X.env := by rfl) (hpl : (backTo pos (starEach es X.env)).any (·.1) = false := by rfl)
    (ht : eval (.Call (.Attribute o m apos) (e :: es) [] pos) X.env = (do
      let ov ← eval o X.env
      standAt apos.atName
      let (f, first) ← holding [ov] (getMethod ov m pl)
      callWith pos f first (backTo pos (starEach (e :: es) X.env)) (backToKw pos (keywordEach [] X.env))) := by rfl) :
    PE X (.Call (.Attribute o m apos) (e :: es) [] pos) (tMethO C m sp E ta t) := by
  refine ⟨fun pins s σ H Q I h => ?_⟩
  refine PySem.W.methodCall_KW (pl := pl) (thn (he.run pins s σ H _ I h) fun u s1 ⟨x, H1, I1, rx, a, dx, fs, ex, ea, l, q⟩ => ?_) ht
  subst ex
  obtain rfl : u = Value.ref a := rx
  refine getmeth_ok I1 ea c hm l ?_
  refine PySem.W.callWith_K (first := [.ref a]) (h₀ := X.base) I.ok.mod.kin hm.kp (thn (ha.run pos pins s1 σ H1 _ I1 q) fun us s2 ⟨vs, H2, I2, r, q2⟩ => ⟨I2.kIn, ?_⟩) hst hpl
  exact run_fnS (us := .ref a :: us) (vs := .ref a :: vs) F hr hb (hx σ) I2 (.cons rfl r) q2
theorem pe_methO0 {pl : Sem Bool} (he : PE X o ta) (c : Cls X.K C) (hm : Meth X.K C m f) (F : FnOk X.prog X.w X.K X.mg X.base CX k f fd ps sp) (hr : Room k X.A) (hb : Binds X.K fd ps []) (hx : ∀ σ, PassesAt CX X σ (E σ))
    (ht : eval (.Call (.Attribute o m apos) [] [] pos) X.env = (do
      let ov ← eval o X.env
      standAt apos.atName
      let (f, first) ← holding [ov] (getMethod ov m pl)
      callWith pos f first (backTo pos (starEach [] X.env)) (backToKw pos (keywordEach [] X.env))) := by rfl) :
    PE X (.Call (.Attribute o m apos) [] [] pos) (tMethO C m sp E ta tNil) := by
  refine ⟨fun pins s σ H Q I h => ?_⟩
  refine PySem.W.methodCall_KW (pl := pl) (thn (he.run pins s σ H _ I h) fun u s1 ⟨x, H1, I1, rx, a, dx, fs, ex, ea, l, q⟩ => ?_) ht
  subst ex
  obtain rfl : u = Value.ref a := rx
  refine getmeth_ok I1 ea c hm l ?_
  exact PySem.W.callWith_K0 (first := [.ref a]) I1.kIn hm.kp (run_fnS (us := [.ref a]) (vs := [.ref a]) F hr hb (hx σ) I1 (.cons rfl .nil) q)
end
end Bi

/-! Bi7: the checker of expressions, and that what it lets pass is what the interpreter does. -/
namespace Bi
open PySem PySem.Spec PyProof.Rows L2

def notStar : Expr → Bool
  | .Starred .. => false
  | _ => true
def notSlice : Expr → Bool
  | .Slice .. => false
  | _ => true
def notSet : Expr → Bool
  | .Set .. => false
  | _ => true
def baseOk : Expr → Bool
  | .Call (.Name _ _) [] [] _ => false
  | _ => true
def plainT : Expr → Bool
  | .UnaryOp .. => false
  | .BoolOp .. => false
  | .IfExp .. => false
  | .Compare .. => false
  | _ => true
def isTupE : Expr → Bool
  | .Tuple .. => true
  | _ => false
def visB (sc : Scope) (x : Str) : Bool := match sc.names.lookup x with
  | some .local => true
  | some .cell => true
  | some .free => true
  | _ => false
def glB (sc : Scope) (x : Str) : Bool := match sc.names.lookup x with
  | some .globalImplicit => true
  | _ => false
def nameB (x : Str) : Bool := !(x == ("__debug__" : Str)) && !(x == ("__classdict__" : Str)) && !(x == ("__name__" : Str))
def bfNm : Bf → Str
  | .len => "len"
  | .max2 => "max"
  | .maxL => "max"
  | .min2 => "min"
  | .sorted => "sorted"
  | .sum => "sum"
  | .any => "any"
  | .all => "all"
  | .list => "list"
  | .tuple => "tuple"
  | .int => "int"
  | .str => "str"
def tyNm : Ty → Str
  | .int => "int"
  | .bool => "bool"
  | .str => "str"
  | .tup => "tuple"
  | .lst => "list"
def bmNm : Bm → Str
  | .append => "append"
  | .extend => "extend"
  | .pop => "pop"
  | .popAt => "pop"
  | .insert => "insert"
  | .index => "index"
def bmOk : Bm → Bool
  | .append => true
  | .extend => true
  | .pop => true
  | _ => false
/-- the built-in names that a text may call -/
def bltNames : List Str := ["len", "max", "min", "sorted", "sum", "any", "all", "list", "tuple", "int", "str", "bool", "isinstance", "range", "enumerate", "zip"]

/-- the classes of an isinstance, by their names -/
def clsT (P : Prog) (sc : Scope) : List Nat → List Expr → Bool
  | [], [] => true
  | d :: ds, .Name z _ :: ts => decide (P.excs[d]? = some z) && glB sc z && nameB z && clsT P sc ds ts
  | _, _ => false
section
variable (P : Prog) (N : List Str) (ht : Bool)
def ownP (own : List Nat) : List (Str × Nat) := own.map fun i => (N.getD i "", i)
mutual
def chkE : IX → Scope → Expr → Bool
  | .cst v, _, e => (match e with
    | .Constant c _ _ => (match v, c with
      | .non, .none => true
      | .bl b, .bool b' => b == b'
      | .int i, .int j => i == j
      | .str s, .str t => decide (s = t)
      | _, _ => false)
    | _ => false)
  | .var i, sc, e => (match e with
    | .Name x _ => decide (N[i]? = some x) && visB sc x && nameB x
    | _ => false)
  | .glo g, sc, e => (match e with
    | .Name x _ => (match P.glos[g]? with
      | some p => decide (p.1 = x) && glB sc x && nameB x
      | none => false)
    | _ => false)
  | .bin o a b, sc, e => (match e with
    | .BinOp e1 op e2 _ => decide (b2op o = op) && chkE a sc e1 && chkE b sc e2
    | _ => false)
  | .neg a, sc, e => (match e with
    | .UnaryOp .USub e _ => chkE a sc e
    | _ => false)
  | .not a, sc, e => (match e with
    | .UnaryOp .Not e _ => chkE a sc e
    | _ => false)
  | .and a b, sc, e => (match e with
    | .BoolOp .And (e1 :: e2 :: r) pos => chkE a sc e1 && (match r with
      | [] => chkE b sc e2
      | _ :: _ => chkE b sc (.BoolOp .And (e2 :: r) pos))
    | _ => false)
  | .or a b, sc, e => (match e with
    | .BoolOp .Or (e1 :: e2 :: r) pos => chkE a sc e1 && (match r with
      | [] => chkE b sc e2
      | _ :: _ => chkE b sc (.BoolOp .Or (e2 :: r) pos))
    | _ => false)
  | .cmp o a b, sc, e => (match e with
    | .Compare e1 [op] [e2] _ => decide (c2op o = op) && !(behindInMarks op e2) && chkE a sc e1 && chkE b sc e2
    | _ => false)
  | .chn o p a b c, sc, e => (match e with
    | .Compare e1 [op, op'] [e2, e3] _ => decide (c2op o = op) && decide (c2op p = op') && !(lastMarks [op, op'] [e2, e3]) && chkE a sc e1 && chkE b sc e2 && chkE c sc e3
    | _ => false)
  | .ite c a b, sc, e => (match e with
    | .IfExp e1 e2 e3 _ => chkB c sc e1 && chkE a sc e2 && chkE b sc e3
    | _ => false)
  | .call d as, sc, e => (match e with
    | .Call (.Name x _) (e :: es) [] _ => (match P.defs[d]? with
      | some D => !ht && decide (D.nm = x) && decide (D.qual = D.nm) && glB sc x && nameB x && chkEs as sc (e :: es)
      | none => false)
    | _ => false)
  | .make d as, sc, e => (match e with
    | .Call (.Name x _) (e :: es) [] _ => (match P.clss[d - P.defs.length]? with
      | some C => !ht && decide (P.defs.length ≤ d) && decide (C.nm = x) && glB sc x && nameB x && chkEs as sc (e :: es)
      | none => false)
    | _ => false)
  | .meth c m o as, sc, e => (match e with
    | .Call (.Attribute e x apos) es [] cpos => (match P.clss[c]? with
      | some C => (match C.mts[m]? with
        | some p => !ht && decide (p.1 = x) && !(C.flds.contains x) && baseOk e && decide (es.length < 20) && (apos.endLine == cpos.line) && chkE o sc e && chkEs as sc es
        | none => false)
      | none => false)
    | _ => false)
  | .att c f o, sc, e => (match e with
    | .Attribute e x _ => (match P.clss[c]? with
      | some C => decide (C.flds[f]? = some x) && baseOk e && chkE o sc e
      | none => false)
    | _ => false)
  | .bf b as, sc, e => (match e with
    | .Call (.Name x _) (e :: es) [] _ => !ht && decide (bfNm b = x) && glB sc x && chkEs as sc (e :: es)
    | _ => false)
  | .bm m o as, sc, e => (match e with
    | .Call (.Attribute e x apos) es [] cpos => bmOk m && decide (bmNm m = x) && decide (es.length < 20) && baseOk e && (apos.endLine == cpos.line) && chkE o sc e && chkEs as sc es
    | _ => false)
  | .isi a t, sc, e => (match e with
    | .Call (.Name x _) [e, .Name y _] [] _ => decide (x = "isinstance") && decide (y = tyNm t) && glB sc x && glB sc y && notStar e && chkE a sc e
    | _ => false)
  | .isx i ds, sc, e => (match e with
    | .Call (.Name x _) [.Name y _, .Name z _] [] _ => ht && decide (x = "isinstance") && glB sc x && decide (N[i]? = some y) && visB sc y && nameB y && (match ds with
      | [d] => decide (P.excs[d]? = some z) && glB sc z && nameB z
      | _ => false)
    | .Call (.Name x _) [.Name y _, .Tuple ts _ _] [] _ => ht && decide (x = "isinstance") && glB sc x && decide (N[i]? = some y) && visB sc y && nameB y && decide (ds.length < 20) && clsT P sc ds ts
    | _ => false)
  | .idx a i, sc, e => (match e with
    | .Subscript e1 e2 _ => notSlice e2 && chkE a sc e1 && chkE i sc e2
    | _ => false)
  | .slL a lo, sc, e => (match e with
    | .Subscript e (.Slice (some e1) none none _) _ => chkE a sc e && chkE lo sc e1
    | _ => false)
  | .slH a hi, sc, e => (match e with
    | .Subscript e (.Slice none (some e2) none _) _ => chkE a sc e && chkE hi sc e2
    | _ => false)
  | .slB a lo hi, sc, e => (match e with
    | .Subscript e (.Slice (some e1) (some e2) none _) _ => chkE a sc e && chkE lo sc e1 && chkE hi sc e2
    | _ => false)
  | .rev a, sc, e => (match e with
    | .Subscript e (.Slice none none (some (.UnaryOp .USub (.Constant (.int i) _ _) _)) _) _ => decide (i = 1) && chkE a sc e
    | _ => false)
  | .tup as, sc, e => (match e with
    | .Tuple es _ _ => chkEs as sc es
    | _ => false)
  | .lst as, sc, e => (match e with
    | .List es _ => chkEs as sc es
    | _ => false)
  | .lc tg it e own, sc, ex => (match ex with
    | .ListComp elt [⟨t, iter, [], as⟩] scope _ => !ht && decide (as = 0) && blkC N sc scope (ownP N own) && tg.sl.all (fun i => own.contains i) && notSet iter && chkI it sc t iter &&
      chkT N (relS scope sc) (fun x => scope.names.lookup x == some .cell) tg t && chkE e (relS scope sc) elt
    | _ => false)
  | .lcc tg it c e own, sc, ex => (match ex with
    | .ListComp elt [⟨t, iter, [ec], as⟩] scope _ => !ht && decide (as = 0) && blkC N sc scope (ownP N own) && tg.sl.all (fun i => own.contains i) && notSet iter && chkI it sc t iter &&
      chkT N (relS scope sc) (fun x => scope.names.lookup x == some .cell) tg t && chkB c (relS scope sc) ec && chkE e (relS scope sc) elt
    | _ => false)
  | _, _, _ => false
def chkB : IB → Scope → Expr → Bool
  | .val (.cmp o a b), sc, e => (match e with
    | .Compare e1 [op] [e2] _ => decide (c2op o = op) && !(behindInMarks op e2) && chkE a sc e1 && chkE b sc e2
    | _ => false)
  | .val (.chn o p a b c), sc, e => (match e with
    | .Compare e1 [op, op'] [e2, e3] _ => decide (c2op o = op) && decide (c2op p = op') && !(lastMarks [op, op'] [e2, e3]) && chkE a sc e1 && chkE b sc e2 && chkE c sc e3
    | _ => false)
  | .val a, sc, e => plainT e && chkE a sc e
  | .not a, sc, e => (match e with
    | .UnaryOp .Not e _ => chkB a sc e
    | _ => false)
  | .and a b, sc, e => (match e with
    | .BoolOp .And (e1 :: e2 :: r) pos => chkB a sc e1 && (match r with
      | [] => chkB b sc e2
      | _ :: _ => chkB b sc (.BoolOp .And (e2 :: r) pos))
    | _ => false)
  | .or a b, sc, e => (match e with
    | .BoolOp .Or (e1 :: e2 :: r) pos => chkB a sc e1 && (match r with
      | [] => chkB b sc e2
      | _ :: _ => chkB b sc (.BoolOp .Or (e2 :: r) pos))
    | _ => false)
/-- the walk of e at the target t -/
def chkI : IT → Scope → Expr → Expr → Bool
  | .rng1 a, sc, _, e => (match e with
    | .Call (.Name x _) [e] [] _ => decide (x = "range") && glB sc x && notStar e && chkE a sc e
    | _ => false)
  | .rng2 a b, sc, _, e => (match e with
    | .Call (.Name x _) [e1, e2] [] _ => decide (x = "range") && glB sc x && notStar e1 && notStar e2 && chkE a sc e1 && chkE b sc e2
    | _ => false)
  | .rng3 a b c, sc, _, e => (match e with
    | .Call (.Name x _) [e1, e2, e3] [] _ => decide (x = "range") && glB sc x && notStar e1 && notStar e2 && notStar e3 && chkE a sc e1 && chkE b sc e2 && chkE c sc e3
    | _ => false)
  | .enum a, sc, t, e => (match t, e with
    | .Tuple _ _ _, .Call (.Name x _) [e] [] _ => decide (x = "enumerate") && glB sc x && notStar e && chkE a sc e
    | _, _ => false)
  | .zip a b, sc, t, e => (match t, e with
    | .Tuple _ _ _, .Call (.Name x _) [e1, e2] [] _ => decide (x = "zip") && glB sc x && notStar e1 && notStar e2 && chkE a sc e1 && chkE b sc e2
    | _, _ => false)
  | .seq a, sc, _, e => chkE a sc e
def chkEs : IXs → Scope → List Expr → Bool
  | .nil, _, es => es.isEmpty
  | .cons a as, sc, es => (match es with
    | e :: es => notStar e && chkE a sc e && chkEs as sc es
    | [] => false)
end
end

/-- a def's promise: what cf gives -/
def spI (l : Lk) (cf : Nat → List SV → Sto → R SV) (np d : Nat) : Sp := fun vs H Q E => ∃ as S io, RVs l.K io H as vs ∧ Sim l S io H ∧ as.length = np ∧ Po l (cf d as S) io H (FV l Q) (fun c _ _ H' => E (l.ea c) none H')
/-- isinstance of the handled exception, asked of a tuple of classes -/
def rIsET (K : PySem.W.Frag) (D a : Addr) : List V → Hp → VK → Prop := fun xs H Q => ∃ (tp : Addr) (cs : List V) (us : List Value) (b : Bool), xs = [.ref a, .ref tp] ∧ H tp = some (.tup cs) ∧ (∀ ws, Vals cs ws → ws = us) ∧ PySem.W.kitAny K (.ref D) us = some b ∧ Q (.bl b) H
/-- a class, as the top has made it -/
structure COk (K : PySem.W.Frag) (mg : Str → Option Value) (l : Lk) (c : Nat) (C : ClsI) : Prop where
  cl : Cls K (l.ca c)
  nm : mg C.nm = some (.ref (l.ca c))
  nd : C.flds.Nodup
  few : C.flds.length < 1000
  fn : ∀ f x, C.flds[f]? = some x → l.fn c f = x ∧ NoAttr K (l.ca c) x
/-- where the interpreter's word holds -/
structure Ok (P : Prog) (l : Lk) (N : List Str) (cf : Nat → List SV → Sto → R SV) (ht : Bool) (xc : Option (Nat × Option Nat)) (X : Cx) (sc : Scope) : Prop where
  hK : X.K = l.K
  eN : X.N = N
  nd : X.N.Nodup
  esc : X.env.scope = sc
  calm : ht = false → X.calm = true
  cold : ht = false → l.gd = none
  hu : X.A.units + 64 < cLine
  blt : ∀ x ∈ bltNames, X.mg x = none
  glo : ∀ (g : Nat) (p : Str × SV), P.glos[g]? = some p → ∃ u v, X.mg p.1 = some u ∧ RelV v u ∧ ∀ io H, RV l.K io H p.2 v
  dfs : ht = false → ∀ (d : Nat) (D : DefI), P.defs[d]? = some D → ∃ f fd k, FnOk X.prog X.w X.K X.mg X.base (L2.CX X.prog X.w) k f fd (D.N.take D.np) (spI l cf D.np d) ∧ Room k X.A ∧ Binds X.K fd (D.N.take D.np) [] ∧ PySem.W.keepIn X.K (.ref f) = true ∧ (D.qual = D.nm → X.mg D.nm = some (.ref f))
  isE : ht = true → ∀ c i, xc = some (c, some i) → ∃ a D, l.gd = some (i, a) ∧ l.ea c = .ref D ∧ CallR X (.builtin "isinstance") (rIsE X.K D a) ∧ CallR X (.builtin "isinstance") (rIsET X.K D a)
  isC : ∀ (c d : Nat) (n : Option Nat) (x : Str), xc = some (c, n) → P.excs[d]? = some x → ∃ C, X.mg x = some (.ref C) ∧ l.ea d = .ref C ∧ PySem.W.kitOne X.K (l.ea c) (.ref C) = some (P.sub c d)
  cfl : ∀ (d : Nat) (D : DefI) (vs : List SV) (S : Sto), P.defs[d]? = some D → vs.length ≠ D.np → cf d vs S = .bad
  cls : ∀ (c : Nat) (C : ClsI), P.clss[c]? = some C → COk X.K X.mg l c C
  mks : ht = false → ∀ (c : Nat) (C : ClsI), P.clss[c]? = some C → ∃ f fd kk D cf0, P.defs[C.ini]? = some D ∧ Mk X.K (l.ca c) f ∧ FnOk X.prog X.w X.K X.mg X.base (L2.CX X.prog X.w) kk f fd (D.N.take D.np) (spI l cf0 D.np C.ini) ∧ Room (kk + 1) X.A ∧ Binds X.K fd (D.N.take D.np) [] ∧
    (∀ vs S, vs.length ≠ D.np → cf0 C.ini vs S = .bad) ∧
    ∀ vs S, cf (P.defs.length + c) vs S = (cf0 C.ini (.ref S.length :: vs) (S ++ [.ins c (List.replicate C.flds.length none)])).bind fun v S2 => match v with
      | .non => .ok (.ref S.length) S2
      | _ => .bad
  mts : ht = false → ∀ (c : Nat) (C : ClsI) (m : Nat) (x : Str) (d : Nat), P.clss[c]? = some C → C.mts[m]? = some (x, d) → ∃ D f fd kk, P.defs[d]? = some D ∧ Meth X.K (l.ca c) x f ∧ FnOk X.prog X.w X.K X.mg X.base (L2.CX X.prog X.w) kk f fd (D.N.take D.np) (spI l cf D.np d) ∧ Room kk X.A ∧ Binds X.K fd (D.N.take D.np) []
theorem Ok.gl {P : Prog} {l : Lk} {N : List Str} {cf : Nat → List SV → Sto → R SV} {ht : Bool} {xc : Option (Nat × Option Nat)} {X : Cx} {sc : Scope} (k : Ok P l N cf ht xc X sc) {x : Str} (h : glB sc x = true) : Gl X x := by
  unfold glB at h
  show X.env.scope.names.lookup x = some .globalImplicit
  rw [k.esc]
  split at h
  · assumption
  · cases h
theorem Ok.vis {P : Prog} {l : Lk} {N : List Str} {cf : Nat → List SV → Sto → R SV} {ht : Bool} {xc : Option (Nat × Option Nat)} {X : Cx} {sc : Scope} (k : Ok P l N cf ht xc X sc) {x : Str} (h : visB sc x = true) : Vis X.env.scope x := by
  unfold visB at h
  rw [k.esc]
  split at h
  · exact .inl (by assumption)
  · exact .inr (.inl (by assumption))
  · exact .inr (.inr (by assumption))
  · cases h
/-- a comprehension's block -/
theorem Ok.blk {P : Prog} {l : Lk} {N : List Str} {cf : Nat → List SV → Sto → R SV} {ht : Bool} {xc : Option (Nat × Option Nat)} {X : Cx} {sc : Scope} (k : Ok P l N cf ht xc X sc) (hht : ht = false) (s : Shared) (H : Hp) (scope : Scope) (C : Addr) (cl : List (Str × Addr)) (fp : List Addr) :
    Ok P l N cf ht xc (X.blk s H scope (compEnvC scope cl C X.env) fp) (relS scope sc) :=
  ⟨k.hK, k.eN, k.nd, by show relS scope X.env.scope = _; rw [k.esc], k.calm, k.cold, k.hu, k.blt, k.glo, k.dfs, fun h => absurd h (by rw [hht]; exact Bool.false_ne_true), k.isC, k.cfl, k.cls, k.mks, k.mts⟩
theorem star1 {e : Expr} (h : notStar e = true) (es : List Expr) (env : Env) : starEach (e :: es) env = (false, eval e env) :: starEach es env := by
  cases e <;> first | rfl | exact absurd h Bool.false_ne_true
theorem nameB_of {x : Str} (h : nameB x = true) : (x == ("__debug__" : Str)) = false ∧ (x == ("__classdict__" : Str)) = false ∧ x ≠ "__name__" := by
  unfold nameB at h
  simp only [Bool.and_eq_true, Bool.not_eq_true', beq_eq_false_iff_ne] at h ⊢
  exact ⟨h.1.1, h.1.2, h.2⟩
theorem chkEs_star {P : Prog} {N : List Str} {ht : Bool} {sc : Scope} : ∀ {as : IXs} {es : List Expr}, chkEs P N ht as sc es = true → ∀ e ∈ es, notStar e = true
  | .nil, [], _, _, hm => by cases hm
  | .nil, _ :: _, h, _, _ => by unfold chkEs at h; cases h
  | .cons _ _, [], h, _, _ => by unfold chkEs at h; cases h
  | .cons a as, e :: es, h, e', hm => by
    unfold chkEs at h
    simp only [Bool.and_eq_true] at h
    rcases List.mem_cons.mp hm with q | q
    · rw [q]; exact h.1.1
    · exact chkEs_star h.2 e' q
theorem any_star {env : Env} {pos : Pos} : ∀ {es : List Expr}, (∀ e ∈ es, notStar e = true) → (backTo pos (starEach es env)).any (·.1) = false
  | [], _ => by unfold starEach; rfl
  | e :: es, h => by
    rw [star1 (h e List.mem_cons_self)]
    exact any_star fun e' q => h e' (List.mem_cons_of_mem _ q)
theorem few_of {env : Env} {pos : Pos} {es : List Expr} (h : ∀ e ∈ es, notStar e = true) (hl : es.length < 20) : ((backTo pos (starEach es env)).all (fun x => !x.1) && (backToKw pos (keywordEach [] env)).all (fun x => x.1.isSome)
      && decide (es.length + ([] : List Keyword).length + (if ([] : List Keyword).isEmpty then 0 else 1) < 30)) = true := by
  have h1 : (backTo pos (starEach es env)).all (fun x => !x.1) = true := by
    have := any_star (env := env) (pos := pos) h
    rw [List.any_eq_false] at this
    rw [List.all_eq_true]
    intro x hx
    have z := this x hx
    simpa using z
  have h2 : (backToKw pos (keywordEach [] env)).all (fun x => x.1.isSome) = true := by unfold keywordEach; rfl
  rw [h1, h2]
  show decide (es.length + 0 + 0 < 30) = true
  exact decide_eq_true (by omega)
theorem bf_blt (b : Bf) : bfNm b ∈ bltNames ∧ bootBuiltins (bfNm b) = some (bfV b) ∧ bfNm b ≠ "__name__" ∧ (bfNm b == ("__debug__" : Str)) = false := by
  cases b <;> exact ⟨by decide +kernel, by decide +kernel, by decide +kernel, by decide +kernel⟩
theorem ty_blt (t : Ty) : tyNm t ∈ bltNames ∧ bootBuiltins (tyNm t) = some (.type (tyName t)) ∧ tyNm t ≠ "__name__" ∧ (tyNm t == ("__debug__" : Str)) = false := by
  cases t <;> exact ⟨by decide +kernel, by decide +kernel, by decide +kernel, by decide +kernel⟩
theorem isin_blt : ("isinstance" : Str) ∈ bltNames ∧ ("range" : Str) ∈ bltNames ∧ ("enumerate" : Str) ∈ bltNames ∧ ("zip" : Str) ∈ bltNames := ⟨by decide +kernel, by decide +kernel, by decide +kernel, by decide +kernel⟩
theorem base_of {e : Expr} (h : baseOk e = true) (nm : Str) (env : Env) : attributeBase e nm env (eval e env) = eval e env := by
  unfold baseOk at h
  split at h
  · cases h
  · rename_i hn
    unfold attributeBase
    split
    · rename_i q; exact absurd rfl (hn _ _ _)
    · rfl
theorem plainIx_of {e : Expr} (h : notSlice e = true) : PlainIx e := fun o i => by
  cases e <;> first | rfl | exact absurd h Bool.false_ne_true
theorem plainT_of {e : Expr} (h : plainT e = true) (env : Env) : ∀ whole, isTrue e env whole = (do let v ← whole; standAt e.pos; holding [v] (truthy v)) := fun w => by
  cases e <;> first | rfl | exact absurd h Bool.false_ne_true
theorem notSet_of {e : Expr} (h : notSet e = true) (env : Env) : ∀ x, foldedSetIterable e env x = pure x := fun x => by
  cases e <;> first | rfl | exact absurd h Bool.false_ne_true
end Bi

/-! Bi8: expressions. -/
namespace Bi
open PySem PySem.Spec PyProof.Rows L2

section
variable {l : Lk} {W : WX} {S : Sto} {io : List Addr} {H : Hp} {σ : L2.St} {L : Loc} {F : SV → Sto → List Addr → Hp → Prop} {Q : VK}
theorem bad_elim {E : Nat → Sto → List Addr → Hp → Prop} {α : Type} {F : α → Sto → List Addr → Hp → Prop} {p : Prop} (h : Po l (.bad : R α) io H F E) : p := h.elim
end
/-- no exception leaves a comprehension's block -/
theorem takes_blk {X : Cx} : Takes X (fun _ _ _ _ => False) := fun _ _ ⟨_, _, _, _, _, _, _, _, _, _, _, _, _, _, _, _, w⟩ => w.elim
theorem cmp_bl {o : C2} {x y : SV} {S : Sto} : (∃ b, cmpop o x y S = .ok (.bl b) S) ∨ cmpop o x y S = .bad := by
  have hB : ∀ o : Option Bool, (∃ b, rB o S = .ok (.bl b) S) ∨ rB o S = .bad := fun o => by
    cases o with
    | none => exact .inr rfl
    | some b => exact .inl ⟨b, rfl⟩
  cases o with
  | eq => exact hB _
  | ne => exact hB _
  | isin => exact hB _
  | notin => exact hB _
  | lt => cases x <;> cases y <;> first | exact .inr rfl | exact .inl ⟨_, rfl⟩
  | le => cases x <;> cases y <;> first | exact .inr rfl | exact .inl ⟨_, rfl⟩
  | gt => cases x <;> cases y <;> first | exact .inr rfl | exact .inl ⟨_, rfl⟩
  | ge => cases x <;> cases y <;> first | exact .inr rfl | exact .inl ⟨_, rfl⟩
  | is => cases y <;> first | exact .inl ⟨_, rfl⟩ | (cases x <;> exact .inr rfl)
  | isnt => cases y <;> first | exact .inl ⟨_, rfl⟩ | (cases x <;> exact .inr rfl)

section
variable {P : Prog} {l : Lk} {N : List Str} {cf : Nat → List SV → Sto → R SV} {ht : Bool} {xc : Option (Nat × Option Nat)}
/-- what the induction carries -/
abbrev GE (P : Prog) (l : Lk) (N : List Str) (cf : Nat → List SV → Sto → R SV) (ht : Bool) (xc : Option (Nat × Option Nat)) (x : IX) : Prop :=
  ∀ (e : Expr) (X : Cx) (sc : Scope) (W : WX), Ok P l N cf ht xc X sc → Takes X W → chkE P N ht x sc e = true → PE X e (tE l W (evalE P cf xc x))
abbrev GB (P : Prog) (l : Lk) (N : List Str) (cf : Nat → List SV → Sto → R SV) (ht : Bool) (xc : Option (Nat × Option Nat)) (x : IB) : Prop :=
  ∀ (e : Expr) (X : Cx) (sc : Scope) (W : WX), Ok P l N cf ht xc X sc → Takes X W → chkB P N ht x sc e = true → PT X e (tB l W (evalB P cf xc x))
abbrev GI (P : Prog) (l : Lk) (N : List Str) (cf : Nat → List SV → Sto → R SV) (ht : Bool) (xc : Option (Nat × Option Nat)) (x : IT) : Prop :=
  ∀ (t e : Expr) (X : Cx) (sc : Scope) (W : WX), Ok P l N cf ht xc X sc → Takes X W → chkI P N ht x sc t e = true → PI X t e (tI l W (evalI P cf xc x))
abbrev GA (P : Prog) (l : Lk) (N : List Str) (cf : Nat → List SV → Sto → R SV) (ht : Bool) (xc : Option (Nat × Option Nat)) (x : IXs) : Prop :=
  ∀ (e : List Expr) (X : Cx) (sc : Scope) (W : WX), Ok P l N cf ht xc X sc → Takes X W → chkEs P N ht x sc e = true → PA X e (tAs l W (evalEs P cf xc x))

/-- one arm of a match alone is left -/
theorem notT {b : Bool} (h : (!b) = true) : b = false := by simpa using h
theorem ge_cst (v : SV) : GE P l N cf ht xc (.cst v) := fun e X sc W k tk h => by
  unfold chkE at h
  split at h
  · rename_i c _ _
    have val : ∀ (u : V), RV l.K [] (fun _ => none) v u → (∀ io H, RV l.K io H v u) → ∀ σ H Q, tE l W (evalE P cf xc (.cst v)) σ H Q → Q u H := fun u _ hu σ H Q ⟨L, S, io, hL, hS, hp⟩ => hp io H Gr.refl hS u (hu io H)
    cases v with
    | non =>
      cases c with
      | none => exact peImp pe_non (val .non rfl fun _ _ => rfl)
      | _ => exact absurd h Bool.false_ne_true
    | bl b =>
      cases c with
      | bool b' =>
        have e : b = b' := by simpa using h
        subst e
        exact peImp pe_bl (val (.bl b) rfl fun _ _ => rfl)
      | _ => exact absurd h Bool.false_ne_true
    | int i =>
      cases c with
      | int j =>
        have e : i = j := by simpa using h
        subst e
        exact peImp pe_int (val (.int i) rfl fun _ _ => rfl)
      | _ => exact absurd h Bool.false_ne_true
    | str z =>
      cases c with
      | str t =>
        have e : z = t := by simpa using h
        subst e
        exact peImp pe_str (val (.str z) rfl fun _ _ => rfl)
      | _ => exact absurd h Bool.false_ne_true
    | tup xs => cases c <;> exact absurd h Bool.false_ne_true
    | ref n => cases c <;> exact absurd h Bool.false_ne_true
    | kl n => cases c <;> exact absurd h Bool.false_ne_true
  · exact absurd h Bool.false_ne_true
theorem ge_var (i : Nat) : GE P l N cf ht xc (.var i) := fun e X sc W k tk h => by
  unfold chkE at h
  split at h
  · rename_i x _
    simp only [Bool.and_eq_true, decide_eq_true_eq] at h
    obtain ⟨⟨h1, h2⟩, h3⟩ := h
    obtain ⟨n1, n2, n3⟩ := nameB_of h3
    refine peImp (pe_var (i := i) (by rw [k.eN]; exact h1) (k.vis h2) n1 n2) ?_
    rintro σ H Q ⟨L, S, io, hL, hS, hp⟩
    unfold evalE at hp
    split at hp
    · rename_i v q
      obtain ⟨u, h4, h5⟩ := hL.at_ i v q
      exact ⟨u, h4, hp.val hS h5⟩
    · exact hp.elim
  · exact absurd h Bool.false_ne_true
theorem ge_glo (g : Nat) : GE P l N cf ht xc (.glo g) := fun e X sc W k tk h => by
  unfold chkE at h
  split at h
  · split at h
    · rename_i x _ _ p q
      simp only [Bool.and_eq_true, decide_eq_true_eq] at h
      obtain ⟨⟨h1, h2⟩, h3⟩ := h
      obtain ⟨n1, n2, n3⟩ := nameB_of h3
      obtain ⟨u, v, h4, h5, h6⟩ := k.glo g p q
      refine peImp (pe_glob (v := v) (k.gl h2) (by rw [← h1]; exact h4) h5 n1) ?_
      rintro σ H Q ⟨L, S, io, hL, hS, hp⟩
      unfold evalE at hp
      rw [q] at hp
      exact hp.val hS (h6 io H)
    · exact absurd h Bool.false_ne_true
  · exact absurd h Bool.false_ne_true
theorem ge_bin {o : B2} {a b : IX} (ha : GE P l N cf ht xc a) (hb : GE P l N cf ht xc b) : GE P l N cf ht xc (.bin o a b) := fun e X sc W k tk h => by
  unfold chkE at h
  split at h
  · simp only [Bool.and_eq_true, decide_eq_true_eq] at h
    obtain ⟨⟨h1, h2⟩, h3⟩ := h
    rw [← h1]
    refine peImp (pe_op (op_bin k.hK o) (ha _ X sc W k tk h2) (hb _ X sc W k tk h3)) ?_
    rintro σ H Q ⟨L, S, io, hL, hS, hp⟩
    unfold evalE at hp
    exact seqE hL hS hp fun x S1 io1 H1 u g1 s1 l1 r1 hp1 => seqE l1 s1 hp1 fun y S2 io2 H2 w g2 s2 l2 r2 hp2 => ⟨x, y, S2, io2, _, s2, g2.rv s1 r1, r2, hp2⟩
  · exact absurd h Bool.false_ne_true
theorem ge_neg {a : IX} (ha : GE P l N cf ht xc a) : GE P l N cf ht xc (.neg a) := fun e X sc W k tk h => by
  unfold chkE at h
  split at h
  · refine peImp (pe_un (op_neg k.hK) (ha _ X sc W k tk h)) ?_
    rintro σ H Q ⟨L, S, io, hL, hS, hp⟩
    unfold evalE at hp
    exact seqE hL hS hp fun x S1 io1 H1 u g1 s1 l1 r1 hp1 => ⟨x, S1, io1, _, s1, r1, hp1⟩
  · exact absurd h Bool.false_ne_true
theorem ge_not {a : IX} (ha : GE P l N cf ht xc a) : GE P l N cf ht xc (.not a) := fun e X sc W k tk h => by
  unfold chkE at h
  split at h
  · refine peImp (pe_not (ha _ X sc W k tk h)) ?_
    rintro σ H Q ⟨L, S, io, hL, hS, hp⟩
    unfold evalE at hp
    refine seqE hL hS hp fun x S1 io1 H1 u g1 s1 l1 r1 hp1 => ?_
    cases x with
    | bl b => exact ⟨b, r1, hp1.val s1 rfl⟩
    | _ => exact hp1.elim
  · exact absurd h Bool.false_ne_true
/-- the rest of an and, an or -/
theorem rest_of {op : BoolOp} {b : IX} {e2 : Expr} {r : List Expr} {pos : Pos} {X : Cx} {sc : Scope} {W : WX} (hb : GE P l N cf ht xc b) (k : Ok P l N cf ht xc X sc) (tk : Takes X W)
    (h : (match r with | [] => chkE P N ht b sc e2 | _ :: _ => chkE P N ht b sc (.BoolOp op (e2 :: r) pos)) = true) : PE X (.BoolOp op (e2 :: r) pos) (tE l W (evalE P cf xc b)) := by
  cases r with
  | nil => exact pe_one (hb _ X sc W k tk h)
  | cons e3 r => exact hb _ X sc W k tk h
theorem ge_and {a b : IX} (ha : GE P l N cf ht xc a) (hb : GE P l N cf ht xc b) : GE P l N cf ht xc (.and a b) := fun e X sc W k tk h => by
  unfold chkE at h
  split at h
  · rw [Bool.and_eq_true] at h
    obtain ⟨h1, h2⟩ := h
    refine peImp (pe_and (ha _ X sc W k tk h1) (rest_of hb k tk h2)) ?_
    rintro σ H Q ⟨L, S, io, hL, hS, hp⟩
    unfold evalE at hp
    refine seqE hL hS hp fun x S1 io1 H1 u g1 s1 l1 r1 hp1 => ?_
    cases x with
    | bl c =>
      refine ⟨c, r1, ?_⟩
      cases c with
      | true =>
        rw [if_pos rfl]
        exact endE l1 s1 hp1
      | false =>
        rw [if_neg Bool.false_ne_true]
        exact hp1.val s1 rfl
    | _ => exact hp1.elim
  · exact absurd h Bool.false_ne_true
theorem ge_or {a b : IX} (ha : GE P l N cf ht xc a) (hb : GE P l N cf ht xc b) : GE P l N cf ht xc (.or a b) := fun e X sc W k tk h => by
  unfold chkE at h
  split at h
  · rw [Bool.and_eq_true] at h
    obtain ⟨h1, h2⟩ := h
    refine peImp (pe_or (ha _ X sc W k tk h1) (rest_of hb k tk h2)) ?_
    rintro σ H Q ⟨L, S, io, hL, hS, hp⟩
    unfold evalE at hp
    refine seqE hL hS hp fun x S1 io1 H1 u g1 s1 l1 r1 hp1 => ?_
    cases x with
    | bl c =>
      refine ⟨c, r1, ?_⟩
      cases c with
      | true =>
        rw [if_pos rfl]
        exact hp1.val s1 rfl
      | false =>
        rw [if_neg Bool.false_ne_true]
        exact endE l1 s1 hp1
    | _ => exact hp1.elim
  · exact absurd h Bool.false_ne_true
theorem ge_cmp {o : C2} {a b : IX} (ha : GE P l N cf ht xc a) (hb : GE P l N cf ht xc b) : GE P l N cf ht xc (.cmp o a b) := fun e X sc W k tk h => by
  unfold chkE at h
  split at h
  · simp only [Bool.and_eq_true, decide_eq_true_eq, Bool.not_eq_true'] at h
    obtain ⟨⟨⟨h1, h0⟩, h2⟩, h3⟩ := h
    rw [← h1] at h0 ⊢
    refine peImp (pe_cmpR (op_cmp k.hK k.hu o) (ha _ X sc W k tk h2) (hb _ X sc W k tk h3) h0) ?_
    rintro σ H Q ⟨L, S, io, hL, hS, hp⟩
    unfold evalE at hp
    exact seqE hL hS hp fun x S1 io1 H1 u g1 s1 l1 r1 hp1 => seqE l1 s1 hp1 fun y S2 io2 H2 w g2 s2 l2 r2 hp2 => ⟨x, y, S2, io2, _, s2, g2.rv s1 r1, r2, hp2⟩
  · exact absurd h Bool.false_ne_true
theorem chn_read {o p : C2} {a b c : IX} {σ : L2.St} {H : Hp} {Q : VK} {W : WX} (h : tE l W (evalE P cf xc (.chn o p a b c)) σ H Q) :
    tChain (r2 l (cmpop o)) (r2 l (cmpop p)) (tE l W (evalE P cf xc a)) (tE l W (evalE P cf xc b)) (tE l W (evalE P cf xc c)) σ H Q := by
  obtain ⟨L, S, io, hL, hS, hp⟩ := h
  unfold evalE at hp
  refine seqE hL hS hp fun x S1 io1 H1 u g1 s1 l1 r1 hp1 => seqE l1 s1 hp1 fun y S2 io2 H2 w g2 s2 l2 rr2 hp2 => ?_
  refine ⟨x, y, S2, io2, _, s2, g2.rv s1 r1, rr2, (Po.bind hp2).imp fun z S3 io3 H3 g3 s3 hp3 t ht => ?_⟩
  cases z with
  | bl d =>
    refine ⟨d, ht, ?_⟩
    cases d with
    | true =>
      rw [if_pos rfl]
      exact seqE (g3.rl s2 l2) s3 hp3 fun v S4 io4 H4 u4 g4 s4 l4 r4 hp4 => ⟨y, v, S4, io4, _, s4, (g3.trans g4).rv s2 rr2, r4, hp4⟩
    | false =>
      rw [if_neg Bool.false_ne_true]
      exact hp3.val s3 rfl
  | _ => exact hp3.elim
theorem ge_chn {o p : C2} {a b c : IX} (ha : GE P l N cf ht xc a) (hb : GE P l N cf ht xc b) (hc : GE P l N cf ht xc c) : GE P l N cf ht xc (.chn o p a b c) := fun e X sc W k tk h => by
  unfold chkE at h
  split at h
  · simp only [Bool.and_eq_true, decide_eq_true_eq, Bool.not_eq_true'] at h
    obtain ⟨⟨⟨⟨⟨h1, h2⟩, h0⟩, h3⟩, h4⟩, h5⟩ := h
    rw [← h1, ← h2] at h0 ⊢
    exact peImp (pe_chain (op_cmp k.hK k.hu o) (op_cmp k.hK k.hu p) (ha _ X sc W k tk h3) (hb _ X sc W k tk h4) (hc _ X sc W k tk h5) h0) fun σ H Q => chn_read
  · exact absurd h Bool.false_ne_true
theorem ge_ite {c : IB} {a b : IX} (hc : GB P l N cf ht xc c) (ha : GE P l N cf ht xc a) (hb : GE P l N cf ht xc b) : GE P l N cf ht xc (.ite c a b) := fun e X sc W k tk h => by
  unfold chkE at h
  split at h
  · simp only [Bool.and_eq_true] at h
    obtain ⟨⟨h1, h2⟩, h3⟩ := h
    refine peImp (pe_ifExp (hc _ X sc W k tk h1) (ha _ X sc W k tk h2) (hb _ X sc W k tk h3)) ?_
    rintro σ H Q ⟨L, S, io, hL, hS, hp⟩
    unfold evalE at hp
    refine seqB hL hS hp fun t S1 io1 H1 g1 s1 l1 hp1 => ?_
    cases t with
    | true =>
      rw [if_pos rfl]
      exact endE l1 s1 hp1
    | false =>
      rw [if_neg Bool.false_ne_true]
      exact endE l1 s1 hp1
  · exact absurd h Bool.false_ne_true
theorem ge_call {d : Nat} {as : IXs} (ha : GA P l N cf ht xc as) : GE P l N cf ht xc (.call d as) := fun e X sc W k tk h => by
  unfold chkE at h
  split at h
  · split at h
    · rename_i x _ e es _ _ D q
      simp only [Bool.and_eq_true, decide_eq_true_eq] at h
      obtain ⟨⟨⟨⟨⟨h0, h1⟩, h2⟩, h3⟩, h4⟩, h5⟩ := h
      obtain ⟨n1, n2, n3⟩ := nameB_of h4
      obtain ⟨f, fd, kk, F, hr, hb, hkp, hm⟩ := k.dfs (notT h0) d D q
      have hs := chkEs_star h5
      refine peImp (pe_callS F hr (k.gl h3) (by rw [← h1]; exact hm h2) hkp hb (E := WE W) (fun σ => passAt tk σ) (ha _ X sc W k tk h5) n1 (star1 (hs e List.mem_cons_self) es _) (any_star fun e' z => hs e' (List.mem_cons_of_mem _ z))) ?_
      rintro σ H Q ⟨L, S, io, hL, hS, hp⟩
      unfold evalE at hp
      refine seqA hL hS hp fun vs S1 io1 H1 us g1 s1 l1 r1 hp1 => ⟨vs, S1, io1, r1, s1, ?_, hp1⟩
      by_cases hlen : vs.length = D.np
      · exact hlen
      · rw [k.cfl d D vs S1 q hlen] at hp1
        exact hp1.elim
    · exact absurd h Bool.false_ne_true
  · exact absurd h Bool.false_ne_true
theorem ge_bf {b : Bf} {as : IXs} (ha : GA P l N cf ht xc as) : GE P l N cf ht xc (.bf b as) := fun e X sc W k tk h => by
  unfold chkE at h
  split at h
  · rename_i x p1 e es p2
    simp only [Bool.and_eq_true, decide_eq_true_eq] at h
    obtain ⟨⟨⟨h0, h1⟩, h2⟩, h3⟩ := h
    obtain ⟨b1, b2, b3, b4⟩ := bf_blt b
    have hs := chkEs_star h3
    have st := star1 (hs e List.mem_cons_self) es X.env
    have sn := any_star (env := X.env) (pos := p2) (es := es) fun e' z => hs e' (List.mem_cons_of_mem _ z)
    have hA := ha _ X sc W k tk h3
    have rd : ∀ σ H Q, tE l W (evalE P cf xc (.bf b as)) σ H Q → tCB (rc l (bfS b)) (tAs l W (evalEs P cf xc as)) σ H Q := by
      rintro σ H Q ⟨L, S, io, hL, hS, hp⟩
      unfold evalE at hp
      exact seqA hL hS hp fun vs S1 io1 H1 us g1 s1 l1 r1 hp1 => ⟨vs, S1, io1, _, s1, r1, hp1⟩
    have hc := call_bf k.hK (k.calm (notT h0)) b
    rw [← h1] at h2 ⊢
    have bi : ∀ id, bfV b = .builtin id → PE X (.Call (.Name (bfNm b) p1) (e :: es) [] p2) (tE l W (evalE P cf xc (.bf b as))) := fun id q => by
      rw [q] at hc b2
      exact peImp (pe_callB hc (k.gl h2) (k.blt _ b1) b2 hA b3 b4 st sn) rd
    have ty : ∀ id, bfV b = .type id → PE X (.Call (.Name (bfNm b) p1) (e :: es) [] p2) (tE l W (evalE P cf xc (.bf b as))) := fun id q => by
      rw [q] at hc b2
      exact peImp (pe_callTy hc (k.gl h2) (k.blt _ b1) b2 hA b3 b4 st sn) rd
    cases b with
    | list => exact ty _ rfl
    | tuple => exact ty _ rfl
    | int => exact ty _ rfl
    | str => exact ty _ rfl
    | _ => exact bi _ rfl
  · exact absurd h Bool.false_ne_true
theorem isL_of {S : Sto} {x : SV} (h : isL S x = true) : ∃ n xs, x = .ref n ∧ S[n]? = some (.lst xs) := by
  unfold isL at h
  split at h
  · split at h
    · rename_i q; exact ⟨_, _, rfl, q⟩
    · cases h
  · cases h
theorem ge_bm {m : Bm} {o : IX} {as : IXs} (ho : GE P l N cf ht xc o) (ha : GA P l N cf ht xc as) : GE P l N cf ht xc (.bm m o as) := fun e X sc W k tk h => by
  unfold chkE at h
  split at h
  · rename_i e x apos es cpos
    simp only [Bool.and_eq_true, decide_eq_true_eq] at h
    obtain ⟨⟨⟨⟨⟨⟨h1, h2⟩, h0⟩, h3⟩, h4⟩, h5⟩, h6⟩ := h
    have hO := ho _ X sc W k tk h5
    have hA := ha _ X sc W k tk h6
    have hs := chkEs_star h6
    have bs := base_of h3 x X.env
    subst h2
    have rd : ∀ σ H Q, tE l W (evalE P cf xc (.bm m o as)) σ H Q → tE l W (evalE P cf xc o) σ H fun u H1 => tyV X.K "list" u H1 ∧ tAs l W (evalEs P cf xc as) σ H1 fun us H2 => rm l (bmS m) u us H2 Q := by
      rintro σ H Q ⟨L, S, io, hL, hS, hp⟩
      unfold evalE at hp
      refine seqE hL hS hp fun x S1 io1 H1 u g1 s1 l1 r1 hp1 => ?_
      split at hp1
      · rename_i q
        obtain ⟨n, xs, e1, e2⟩ := isL_of q
        subst e1
        exact ⟨ty_lst k.hK s1 r1 e2, seqA l1 s1 hp1 fun vs S2 io2 H2 us g2 s2 l2 r2 hp2 => ⟨_, vs, S2, io2, _, s2, g2.rv s1 r1, r2, hp2⟩⟩
      · exact hp1.elim
    have key : ∀ id, MtR X id (rm l (bmS m)) → Slot "list" (bmNm m) id → typeOf (.builtin id) = pure (.type "method_descriptor") → PE X (.Call (.Attribute e (bmNm m) apos) es [] cpos) (tE l W (evalE P cf xc (.bm m o as))) := fun id hm slot hty => by
      cases es with
      | nil =>
        refine peImp (pe_bm0 PySem.F.plainAttrs_list slot hty hm hO bs h4) fun σ H Q q => ?_
        obtain ⟨L, S, io, hL, hS, hp⟩ := rd σ H Q q
        refine ⟨L, S, io, hL, hS, hp.imp fun v S1 io1 H1 g1 s1 f u r => ?_⟩
        obtain ⟨t1, L2, S2, io2, l2, s2, t2⟩ := f u r
        refine ⟨t1, ?_⟩
        cases as with
        | nil =>
          unfold evalEs at t2
          exact t2 io2 H1 Gr.refl s2 [] rfl
        | cons a as => exact absurd h6 (by unfold chkEs; exact Bool.false_ne_true)
      | cons e2 es =>
        exact peImp (pe_bm PySem.F.plainAttrs_list slot hty hm hO hA (hbase := bs) (hfew := few_of hs h0) (hline := h4) (hs := star1 (hs e2 List.mem_cons_self) es _) (hplain := any_star fun e' z => hs e' (List.mem_cons_of_mem _ z))) rd
    cases m with
    | append => exact key _ (mt_app k.hK) PySem.F.slot_list_append PySem.F.type_list_append
    | extend => exact key _ (mt_ext k.hK) PySem.F.slot_list_extend PySem.F.type_list_extend
    | pop => exact key _ (mt_pp k.hK) PySem.F.slot_list_pop PySem.F.type_list_pop
    | _ => exact absurd h1 Bool.false_ne_true
  · exact absurd h Bool.false_ne_true
theorem ge_isi {a : IX} {t : Ty} (ha : GE P l N cf ht xc a) : GE P l N cf ht xc (.isi a t) := fun e X sc W k tk h => by
  unfold chkE at h
  split at h
  · rename_i x _ e y py pos
    simp only [Bool.and_eq_true, decide_eq_true_eq] at h
    obtain ⟨⟨⟨⟨⟨h1, h2⟩, h3⟩, h4⟩, h5⟩, h6⟩ := h
    subst h1 h2
    obtain ⟨b1, b2, b3, b4⟩ := ty_blt t
    have pT : PE X (.Name (tyNm t) py) (tC (.ty (tyName t))) := pe_bltn (k.gl h4) (k.blt _ b1) b2 rfl b3 b4
    refine peImp (pe_callB (id := "isinstance") call_isi (k.gl h3) (k.blt _ isin_blt.1) PyProof.Rows.boot_isinstance (pa_cons (ha _ X sc W k tk h6) (pa_cons pT pa_nil) (star1 h5 _ _)) (by decide) (by decide) (star1 h5 _ _) rfl) ?_
    rintro σ H Q ⟨L, S, io, hL, hS, hp⟩
    unfold evalE at hp
    refine seqE hL hS hp fun x S1 io1 H1 u g1 s1 l1 r1 hp1 => ?_
    obtain ⟨b, q, hq⟩ := rB_some hp1 s1
    obtain ⟨T, ty, kt⟩ := isTy_of s1 r1 q
    exact ⟨u, .ty (tyName t), .type T, .type (tyName t), b, rfl, .ty _, by rw [k.hK]; exact ty, kit_ty kt, hq⟩
  · exact absurd h Bool.false_ne_true
theorem ge_idx {a b : IX} (ha : GE P l N cf ht xc a) (hb : GE P l N cf ht xc b) : GE P l N cf ht xc (.idx a b) := fun e X sc W k tk h => by
  unfold chkE at h
  split at h
  · simp only [Bool.and_eq_true] at h
    obtain ⟨⟨h1, h2⟩, h3⟩ := h
    refine peImp (pe_ix (ix_any k.hK) (ha _ X sc W k tk h2) (hb _ X sc W k tk h3) (plainIx_of h1)) ?_
    rintro σ H Q ⟨L, S, io, hL, hS, hp⟩
    unfold evalE at hp
    exact seqE hL hS hp fun x S1 io1 H1 u g1 s1 l1 r1 hp1 => seqE l1 s1 hp1 fun y S2 io2 H2 w g2 s2 l2 r2 hp2 => ⟨x, y, S2, io2, _, s2, g2.rv s1 r1, r2, hp2⟩
  · exact absurd h Bool.false_ne_true
theorem intOf_rv {x : SV} {i : Int} {io : List Addr} {H : Hp} {u : V} (e : intOf x = some i) (r : RV l.K io H x u) : u = .int i := by
  cases x with
  | int j => cases e; exact r
  | _ => cases e
theorem ge_slL {a b : IX} (ha : GE P l N cf ht xc a) (hb : GE P l N cf ht xc b) : GE P l N cf ht xc (.slL a b) := fun e X sc W k tk h => by
  unfold chkE at h
  split at h
  · simp only [Bool.and_eq_true] at h
    obtain ⟨h2, h3⟩ := h
    refine peImp (pe_slice (sl_any k.hK) (ha _ X sc W k tk h2) (po_some (hb _ X sc W k tk h3)) po_none) ?_
    rintro σ H Q ⟨L, S, io, hL, hS, hp⟩
    unfold evalE at hp
    refine seqE hL hS hp fun x S1 io1 H1 u g1 s1 l1 r1 hp1 => seqE l1 s1 hp1 fun y S2 io2 H2 w g2 s2 l2 r2 hp2 => ?_
    cases q : intOf y with
    | none => rw [q] at hp2; exact hp2.elim
    | some i =>
      rw [q] at hp2
      exact ⟨i, intOf_rv q r2, x, S2, io2, _, s2, g2.rv s1 r1, hp2⟩
  · exact absurd h Bool.false_ne_true
theorem ge_slH {a b : IX} (ha : GE P l N cf ht xc a) (hb : GE P l N cf ht xc b) : GE P l N cf ht xc (.slH a b) := fun e X sc W k tk h => by
  unfold chkE at h
  split at h
  · simp only [Bool.and_eq_true] at h
    obtain ⟨h2, h3⟩ := h
    refine peImp (pe_slice (sl_any k.hK) (ha _ X sc W k tk h2) po_none (po_some (hb _ X sc W k tk h3))) ?_
    rintro σ H Q ⟨L, S, io, hL, hS, hp⟩
    unfold evalE at hp
    refine seqE hL hS hp fun x S1 io1 H1 u g1 s1 l1 r1 hp1 => seqE l1 s1 hp1 fun y S2 io2 H2 w g2 s2 l2 r2 hp2 => ?_
    cases q : intOf y with
    | none => rw [q] at hp2; exact hp2.elim
    | some i =>
      rw [q] at hp2
      exact ⟨i, intOf_rv q r2, x, S2, io2, _, s2, g2.rv s1 r1, hp2⟩
  · exact absurd h Bool.false_ne_true
theorem ge_slB {a b c : IX} (ha : GE P l N cf ht xc a) (hb : GE P l N cf ht xc b) (hc : GE P l N cf ht xc c) : GE P l N cf ht xc (.slB a b c) := fun e X sc W k tk h => by
  unfold chkE at h
  split at h
  · simp only [Bool.and_eq_true] at h
    obtain ⟨⟨h2, h3⟩, h4⟩ := h
    refine peImp (pe_slice (sl_any k.hK) (ha _ X sc W k tk h2) (po_some (hb _ X sc W k tk h3)) (po_some (hc _ X sc W k tk h4))) ?_
    rintro σ H Q ⟨L, S, io, hL, hS, hp⟩
    unfold evalE at hp
    refine seqE hL hS hp fun x S1 io1 H1 u g1 s1 l1 r1 hp1 => seqE l1 s1 hp1 fun y S2 io2 H2 w g2 s2 l2 r2 hp2 => ?_
    cases q : intOf y with
    | none => rw [q] at hp2; exact hp2.elim
    | some i =>
      rw [q] at hp2
      refine ⟨i, intOf_rv q r2, seqE l2 s2 hp2 fun z S3 io3 H3 t g3 s3 l3 r3 hp3 => ?_⟩
      cases q' : intOf z with
      | none => rw [q'] at hp3; exact hp3.elim
      | some j =>
        rw [q'] at hp3
        exact ⟨j, intOf_rv q' r3, x, S3, io3, _, s3, (g2.trans g3).rv s1 r1, hp3⟩
  · exact absurd h Bool.false_ne_true
theorem ge_rev {a : IX} (ha : GE P l N cf ht xc a) : GE P l N cf ht xc (.rev a) := fun e X sc W k tk h => by
  unfold chkE at h
  split at h
  · simp only [Bool.and_eq_true, decide_eq_true_eq] at h
    obtain ⟨h1, h2⟩ := h
    subst h1
    refine peImp (pe_revL (ha _ X sc W k tk h2)) ?_
    rintro σ H Q ⟨L, S, io, hL, hS, hp⟩
    unfold evalE at hp
    refine seqE hL hS hp fun x S1 io1 H1 u g1 s1 l1 r1 hp1 => ?_
    unfold revS at hp1
    split at hp1
    · rename_i xs q
      obtain ⟨p, vs, h1, h2, h3⟩ := lstRd s1 r1 q
      exact ⟨p, vs, h1, by rw [k.hK]; exact h2, fun t ht => hp1.newL s1 h3.reverse ht⟩
    · exact hp1.elim
  · exact absurd h Bool.false_ne_true
theorem ge_tup {as : IXs} (ha : GA P l N cf ht xc as) : GE P l N cf ht xc (.tup as) := fun e X sc W k tk h => by
  unfold chkE at h
  split at h
  · refine peImp (pe_tup (ha _ X sc W k tk h)) ?_
    rintro σ H Q ⟨L, S, io, hL, hS, hp⟩
    unfold evalE at hp
    refine seqA hL hS hp fun vs S1 io1 H1 us g1 s1 l1 r1 hp1 => ?_
    split at hp1
    · rename_i z
      exact ⟨by rw [← r1.length]; exact szOk_of z, fun p hp => hp1.newT s1 r1 hp⟩
    · exact hp1.elim
  · exact absurd h Bool.false_ne_true
theorem ge_lst {as : IXs} (ha : GA P l N cf ht xc as) : GE P l N cf ht xc (.lst as) := fun e X sc W k tk h => by
  unfold chkE at h
  split at h
  · refine peImp (pe_lst (ha _ X sc W k tk h)) ?_
    rintro σ H Q ⟨L, S, io, hL, hS, hp⟩
    unfold evalE at hp
    refine seqA hL hS hp fun vs S1 io1 H1 us g1 s1 l1 r1 hp1 => ?_
    split at hp1
    · rename_i z
      exact ⟨by rw [← r1.length]; exact szOk_of z, fun p hp => hp1.newL s1 r1 hp⟩
    · exact hp1.elim
  · exact absurd h Bool.false_ne_true
theorem ownP_snd (own : List Nat) : (ownP N own).map (·.2) = own := by
  unfold ownP
  rw [List.map_map]
  exact List.map_id _
theorem own_of {tg : Tg} {own : List Nat} (h : tg.sl.all (fun i => own.contains i) = true) : ∀ i ∈ tg.sl, i ∈ own := fun i hi => by
  have := List.all_eq_true.mp h i hi
  simpa using this
theorem ge_lc {tg : Tg} {it : IT} {e : IX} {own : List Nat} (hi : GI P l N cf ht xc it) (he : GE P l N cf ht xc e) : GE P l N cf ht xc (.lc tg it e own) := fun ex X sc W k tk h => by
  unfold chkE at h
  split at h
  · rename_i elt t iter as scope pos
    simp only [Bool.and_eq_true, decide_eq_true_eq] at h
    obtain ⟨⟨⟨⟨⟨⟨⟨h9, h0⟩, h1⟩, h2⟩, h3⟩, h4⟩, h5⟩, h6⟩ := h
    subst h0
    have bo : BlkOk X.N X.env.scope scope (ownP N own) := by rw [k.eN, k.esc]; exact blkOk_by h1
    have kb := fun s H C cl fp => k.blk (notT h9) s H scope C cl fp
    refine peImp (pe_lc (own := ownP N own) (k.calm (notT h9)) k.nd (hi t _ X sc W k tk h4) bo
      (fun s H C cl fp => sT (kb s H C cl fp).hK (kb s H C cl fp).nd (kb s H C cl fp).eN (kb s H C cl fp).esc (fnl := fun x => scope.names.lookup x == some .cell) (fun x hx => hx) ((kb s H C cl fp).calm (notT h9)) h5)
      (fun _ _ _ _ _ => pts_nil) (fun s H C cl fp => he _ _ _ (fun _ _ _ _ => False) (kb s H C cl fp) takes_blk h6) (notSet_of h3 _)) ?_
    rintro σ H Q ⟨L, S, io, hL, hS, hp⟩
    unfold evalE at hp
    rw [ownP_snd]
    refine lc_read (k.cold (notT h9)) (own_of h2) hL hS (c := fun _ S => .ok true S) ?_ hp
    rintro σ2 H2 K ⟨L2', S2, io2, l2, s2, hp2⟩
    exact hp2 io2 H2 Gr.refl s2
  · exact absurd h Bool.false_ne_true
theorem ge_lcc {tg : Tg} {it : IT} {c : IB} {e : IX} {own : List Nat} (hi : GI P l N cf ht xc it) (hc : GB P l N cf ht xc c) (he : GE P l N cf ht xc e) : GE P l N cf ht xc (.lcc tg it c e own) := fun ex X sc W k tk h => by
  unfold chkE at h
  split at h
  · rename_i elt t iter ec as scope pos
    simp only [Bool.and_eq_true, decide_eq_true_eq] at h
    obtain ⟨⟨⟨⟨⟨⟨⟨⟨h9, h0⟩, h1⟩, h2⟩, h3⟩, h4⟩, h5⟩, h7⟩, h6⟩ := h
    subst h0
    have bo : BlkOk X.N X.env.scope scope (ownP N own) := by rw [k.eN, k.esc]; exact blkOk_by h1
    have kb := fun s H C cl fp => k.blk (notT h9) s H scope C cl fp
    refine peImp (pe_lc (own := ownP N own) (k.calm (notT h9)) k.nd (hi t _ X sc W k tk h4) bo
      (fun s H C cl fp => sT (kb s H C cl fp).hK (kb s H C cl fp).nd (kb s H C cl fp).eN (kb s H C cl fp).esc (fnl := fun x => scope.names.lookup x == some .cell) (fun x hx => hx) ((kb s H C cl fp).calm (notT h9)) h5)
      (fun s H C cl fp => pts_one (hc _ _ _ (fun _ _ _ _ => False) (kb s H C cl fp) takes_blk h7)) (fun s H C cl fp => he _ _ _ (fun _ _ _ _ => False) (kb s H C cl fp) takes_blk h6) (notSet_of h3 _)) ?_
    rintro σ H Q ⟨L, S, io, hL, hS, hp⟩
    unfold evalE at hp
    rw [ownP_snd]
    exact lc_read (k.cold (notT h9)) (own_of h2) hL hS (fun _ _ _ z => z) hp
  · exact absurd h Bool.false_ne_true

/-! ### tests -/
theorem tst_bl {σ : L2.St} {H : Hp} {Q : Bool → Hp → Prop} {W : WX} {a : IX} (hb : ∀ L S, (∃ b S', evalE P cf xc a L S = .ok (.bl b) S') ∨ evalE P cf xc a L S = .bad ∨ ∃ c S', evalE P cf xc a L S = .exc c S')
    (h : tB l W (evalB P cf xc (.val a)) σ H Q) : tE l W (evalE P cf xc a) σ H fun x H' => ∃ k, x = .bl k ∧ Q k H' := by
  obtain ⟨L, S, io, hL, hS, hp⟩ := h
  unfold evalB at hp
  refine ⟨L, S, io, hL, hS, ?_⟩
  rcases hb L S with ⟨b, S', e⟩ | e | ⟨c, S', e⟩
  · rw [e] at hp ⊢
    exact fun io' H' g s u r => ⟨b, r, hp io' H' g s⟩
  · rw [e] at hp; exact hp.elim
  · rw [e] at hp ⊢; exact hp
theorem bind_bl {α : Type} {r : R α} {f : α → Sto → R SV} (h : ∀ v S, (∃ b S', f v S = .ok (.bl b) S') ∨ f v S = .bad ∨ ∃ c S', f v S = .exc c S') :
    (∃ b S', r.bind f = .ok (.bl b) S') ∨ r.bind f = .bad ∨ ∃ c S', r.bind f = .exc c S' := by
  cases r with
  | ok v S => exact h v S
  | exc c S => exact .inr (.inr ⟨c, S, rfl⟩)
  | bad => exact .inr (.inl rfl)
theorem cmp_bl3 {o : C2} {x y : SV} {S : Sto} : (∃ b S', cmpop o x y S = .ok (.bl b) S') ∨ cmpop o x y S = .bad ∨ ∃ c S', cmpop o x y S = .exc c S' := by
  rcases cmp_bl (o := o) (x := x) (y := y) (S := S) with ⟨b, e⟩ | e
  · exact .inl ⟨b, S, e⟩
  · exact .inr (.inl e)
theorem gb_cmp {o : C2} {a b : IX} (ha : GE P l N cf ht xc a) (hb : GE P l N cf ht xc b) : GB P l N cf ht xc (.val (.cmp o a b)) := fun e X sc W k tk h => by
  unfold chkB at h
  split at h
  · simp only [Bool.and_eq_true, decide_eq_true_eq, Bool.not_eq_true'] at h
    obtain ⟨⟨⟨h1, h0⟩, h2⟩, h3⟩ := h
    rw [← h1] at h0 ⊢
    refine ptImp (pt_cmpR (op_cmp k.hK k.hu o) (ha _ X sc W k tk h2) (hb _ X sc W k tk h3) h0) fun σ H Q q => ?_
    obtain ⟨L, S, io, hL, hS, hp⟩ := tst_bl (fun L S => by unfold evalE; exact bind_bl fun _ _ => bind_bl fun _ _ => cmp_bl3) q
    unfold evalE at hp
    exact seqE hL hS hp fun x S1 io1 H1 u g1 s1 l1 r1 hp1 => seqE l1 s1 hp1 fun y S2 io2 H2 w g2 s2 l2 r2 hp2 => ⟨x, y, S2, io2, _, s2, g2.rv s1 r1, r2, hp2⟩
  · exact absurd h Bool.false_ne_true
theorem gb_chn {o p : C2} {a b c : IX} (ha : GE P l N cf ht xc a) (hb : GE P l N cf ht xc b) (hc : GE P l N cf ht xc c) : GB P l N cf ht xc (.val (.chn o p a b c)) := fun e X sc W k tk h => by
  unfold chkB at h
  split at h
  · simp only [Bool.and_eq_true, decide_eq_true_eq, Bool.not_eq_true'] at h
    obtain ⟨⟨⟨⟨⟨h1, h2⟩, h0⟩, h3⟩, h4⟩, h5⟩ := h
    rw [← h1, ← h2] at h0 ⊢
    refine ptImp (pt_chain (op_cmp k.hK k.hu o) (op_cmp k.hK k.hu p) (ha _ X sc W k tk h3) (hb _ X sc W k tk h4) (hc _ X sc W k tk h5) h0) fun σ H Q q => ?_
    refine chn_read (tst_bl (fun L S => ?_) q)
    unfold evalE
    refine bind_bl fun _ _ => bind_bl fun _ S => bind_bl fun z _ => ?_
    cases z with
    | bl d =>
      cases d with
      | true => exact bind_bl fun _ _ => cmp_bl3
      | false => exact .inl ⟨_, _, rfl⟩
    | _ => exact .inr (.inl rfl)
  · exact absurd h Bool.false_ne_true
theorem gb_val {a : IX} (ha : GE P l N cf ht xc a) : ∀ (e : Expr) (X : Cx) (sc : Scope) (W : WX), Ok P l N cf ht xc X sc → Takes X W → (plainT e && chkE P N ht a sc e) = true → PT X e (tB l W (evalB P cf xc (.val a))) := fun e X sc W k tk h => by
  rw [Bool.and_eq_true] at h
  refine ptImp (pt_truth (ha _ X sc W k tk h.2) (plainT_of h.1 _)) ?_
  rintro σ H Q ⟨L, S, io, hL, hS, hp⟩
  unfold evalB at hp
  refine seqE hL hS hp fun x S1 io1 H1 u g1 s1 l1 r1 hp1 => ?_
  split at hp1
  · rename_i b q
    exact ⟨b, tru_of k.hK s1 r1 q, hp1 io1 H1 Gr.refl s1⟩
  · exact hp1.elim
theorem gb_not {a : IB} (ha : GB P l N cf ht xc a) : GB P l N cf ht xc (.not a) := fun e X sc W k tk h => by
  unfold chkB at h
  split at h
  · refine ptImp (pt_not (ha _ X sc W k tk h)) ?_
    rintro σ H Q ⟨L, S, io, hL, hS, hp⟩
    unfold evalB at hp
    exact seqB hL hS hp fun b S1 io1 H1 g1 s1 l1 hp1 => hp1 io1 H1 Gr.refl s1
  · exact absurd h Bool.false_ne_true
def isBO : Expr → Bool
  | .BoolOp .. => true
  | _ => false
/-- a test that is an and, an or, whatever stands around it -/
abbrev GW (P : Prog) (l : Lk) (N : List Str) (cf : Nat → List SV → Sto → R SV) (ht : Bool) (xc : Option (Nat × Option Nat)) (x : IB) : Prop :=
  ∀ (e : Expr) (X : Cx) (sc : Scope) (W : WX), Ok P l N cf ht xc X sc → Takes X W → chkB P N ht x sc e = true → isBO e = true → PW X e (tB l W (evalB P cf xc x))
theorem pwImp {X : Cx} {e : Expr} {t t' : TT} (h : PW X e t) (k : ∀ σ H Q, t' σ H Q → t σ H Q) : PW X e t' := ⟨fun w pins s σ H Q I q => h.run w pins s σ H Q I (k σ H Q q)⟩
theorem gw_and {a b : IB} (ha : GB P l N cf ht xc a) (hb : GB P l N cf ht xc b) (hw : GW P l N cf ht xc b) : GW P l N cf ht xc (.and a b) := fun e X sc W k tk h hbo => by
  clear hbo
  unfold chkB at h
  split at h
  · rename_i e1 e2 r pos
    rw [Bool.and_eq_true] at h
    obtain ⟨h1, h2⟩ := h
    have hr : PW X (.BoolOp .And (e2 :: r) pos) (tB l W (evalB P cf xc b)) := by
      cases r with
      | nil => exact pw_and1 (hb _ X sc W k tk h2)
      | cons e3 r => exact hw _ X sc W k tk h2 rfl
    refine pwImp (pw_and (ha _ X sc W k tk h1) hr) ?_
    rintro σ H Q ⟨L, S, io, hL, hS, hp⟩
    unfold evalB at hp
    refine seqB hL hS hp fun t S1 io1 H1 g1 s1 l1 hp1 => ?_
    cases t with
    | true =>
      rw [if_pos rfl]
      exact ⟨L, S1, io1, l1, s1, hp1⟩
    | false =>
      rw [if_neg Bool.false_ne_true]
      exact hp1 io1 H1 Gr.refl s1
  · exact absurd h Bool.false_ne_true
theorem gw_or {a b : IB} (ha : GB P l N cf ht xc a) (hb : GB P l N cf ht xc b) (hw : GW P l N cf ht xc b) : GW P l N cf ht xc (.or a b) := fun e X sc W k tk h hbo => by
  clear hbo
  unfold chkB at h
  split at h
  · rename_i e1 e2 r pos
    rw [Bool.and_eq_true] at h
    obtain ⟨h1, h2⟩ := h
    have hr : PW X (.BoolOp .Or (e2 :: r) pos) (tB l W (evalB P cf xc b)) := by
      cases r with
      | nil => exact pw_or1 (hb _ X sc W k tk h2)
      | cons e3 r => exact hw _ X sc W k tk h2 rfl
    refine pwImp (pw_or (ha _ X sc W k tk h1) hr) ?_
    rintro σ H Q ⟨L, S, io, hL, hS, hp⟩
    unfold evalB at hp
    refine seqB hL hS hp fun t S1 io1 H1 g1 s1 l1 hp1 => ?_
    cases t with
    | true =>
      rw [if_pos rfl]
      exact hp1 io1 H1 Gr.refl s1
    | false =>
      rw [if_neg Bool.false_ne_true]
      exact ⟨L, S1, io1, l1, s1, hp1⟩
  · exact absurd h Bool.false_ne_true
theorem gb_and {a b : IB} (h : GW P l N cf ht xc (.and a b)) : GB P l N cf ht xc (.and a b) := fun e X sc W k tk hc => by
  refine PW.pt (h e X sc W k tk hc ?_)
  unfold chkB at hc
  split at hc
  · rfl
  · exact absurd hc Bool.false_ne_true
theorem gb_or {a b : IB} (h : GW P l N cf ht xc (.or a b)) : GB P l N cf ht xc (.or a b) := fun e X sc W k tk hc => by
  refine PW.pt (h e X sc W k tk hc ?_)
  unfold chkB at hc
  split at hc
  · rfl
  · exact absurd hc Bool.false_ne_true
theorem gw_not {a : IB} : GW P l N cf ht xc (.not a) := fun e X sc W k tk h hb => by
  unfold chkB at h
  split at h
  · exact absurd hb Bool.false_ne_true
  · exact absurd h Bool.false_ne_true
theorem gw_cmp {o : C2} {a b : IX} : GW P l N cf ht xc (.val (.cmp o a b)) := fun e X sc W k tk h hb => by
  unfold chkB at h
  split at h
  · exact absurd hb Bool.false_ne_true
  · exact absurd h Bool.false_ne_true
theorem gw_chn {o p : C2} {a b c : IX} : GW P l N cf ht xc (.val (.chn o p a b c)) := fun e X sc W k tk h hb => by
  unfold chkB at h
  split at h
  · exact absurd hb Bool.false_ne_true
  · exact absurd h Bool.false_ne_true
theorem gw_plain {e : Expr} {X : Cx} {t : TT} (h : plainT e = true) (hb : isBO e = true) : PW X e t := by
  cases e <;> first | exact absurd hb Bool.false_ne_true | exact absurd h Bool.false_ne_true

/-! ### walks -/
theorem gi_seq {a : IX} (ha : GE P l N cf ht xc a) : GI P l N cf ht xc (.seq a) := fun t e X sc W k tk h => by
  unfold chkI at h
  have hE := ha _ X sc W k tk h
  refine ⟨fun pins s σ H Rf I q => ?_⟩
  obtain ⟨L, S, io, hL, hS, hp⟩ := q
  unfold evalI at hp
  -- by what the value is: a list or a tuple
  have key : ∀ (pins : List (Addr × Obj)) (s : Shared) (σ : L2.St) (H : Hp) (Rf : It → Hp → Prop), Inv X pins σ H s → (tE l W (evalE P cf xc a) σ H fun u H1 => (∃ p, u = .ref p ∧ (∃ vs, SqL X.K H1 p vs) ∧ Rf (Itl X.K p) H1) ∨ (∃ p, u = .ref p ∧ (∃ vs, SqT X.K H1 p vs) ∧ Rf (Itt X.K p) H1)) →
      wpAny (model X.prog X.w) X.A (eval e X.env) (fun v s1 => wpAny (model X.prog X.w) X.A (pyIter v) (PIE X pins σ t Rf) X.xe s1) X.xe s := by
    intro pins s σ H Rf I q
    refine thn (hE.run pins s σ H _ I q) fun v s1 ⟨x, H1, I1, r1, q1⟩ => ?_
    rcases q1 with ⟨p, ex, ⟨vs, hq⟩, q⟩ | ⟨p, ex, ⟨vs, hq⟩, q⟩
    · subst ex
      cases r1
      obtain ⟨its, rv, pl, hz⟩ := I1.list hq
      refine wpAny_pyIter_list pl.isList ?_
      refine ⟨s1.heap.objs.size, [s1.heap.objs.size], _, _, H1, rfl, I1.kept (t' := s1.toks) fun b o e => Heap.get?_push_of_some _ e, turn_list p _, ⟨_, Heap.get?_push_size _ rfl, rfl, rfl⟩, fun b hb => ?_, q⟩
      have e : b = s1.heap.objs.size := by simpa using hb
      subst e
      exact I1.fpOk (Nat.le_refl _) (I1.hok.fresh (Nat.le_refl _))
    · subst ex
      cases r1
      obtain ⟨its, rv, pl, hz⟩ := I1.tuple hq
      refine wpAny_pyIter_tuple (show s1.heap.IsTuple p its.toArray from pl) ?_
      refine ⟨s1.heap.objs.size, [s1.heap.objs.size], _, _, H1, rfl, I1.kept (t' := s1.toks) fun b o e => Heap.get?_push_of_some _ e, turn_tuple p _, ⟨_, Heap.get?_push_size _ rfl, rfl, rfl⟩, fun b hb => ?_, q⟩
      have e : b = s1.heap.objs.size := by simpa using hb
      subst e
      exact I1.fpOk (Nat.le_refl _) (I1.hok.fresh (Nat.le_refl _))
  refine key pins s σ H Rf I (seqE hL hS hp fun x S1 io1 H1 u g1 s1 l1 r1 hp1 => ?_)
  rw [k.hK]
  cases x with
  | tup xs =>
    obtain ⟨p, vs, h1, h2, h3⟩ := r1
    exact .inr ⟨p, h1, ⟨vs, h2⟩, hp1 io1 H1 Gr.refl s1 _ (src_tup s1 h2 h3)⟩
  | kl xs =>
    obtain ⟨p, vs, h1, h2, h3⟩ := r1
    exact .inl ⟨p, h1, ⟨vs, h2.sq⟩, hp1 io1 H1 Gr.refl s1 _ (src_kl s1 h2 h3)⟩
  | ref n =>
    obtain ⟨p, h1, h2⟩ := r1
    have fin : Po l (.ok (Src.ls n) S1 : R Src) io1 H1 (fun src _ io' H' => ∀ J, SrcIt l src io' H' J → Rf J H') (EW l W σ) → (∃ xs, lstOf S1 (.ref n) = some xs) → (∃ p, u = .ref p ∧ (∃ vs, SqL l.K H1 p vs) ∧ Rf (Itl l.K p) H1) ∨ (∃ p, u = .ref p ∧ (∃ vs, SqT l.K H1 p vs) ∧ Rf (Itt l.K p) H1) := fun hp1 ⟨xs, e⟩ => by
      obtain ⟨p', vs, h3, h4, h5⟩ := lstRd (x := .ref n) s1 ⟨p, h1, h2⟩ e
      rw [h2] at h3
      cases h3
      exact .inl ⟨p, h2, ⟨vs, h4⟩, hp1 io1 H1 Gr.refl s1 _ (src_list h1)⟩
    unfold srcOf at hp1
    dsimp only at hp1
    split at hp1
    · rename_i src q
      split at q
      · rename_i xs q2
        cases q
        exact fin hp1 ⟨xs, by unfold lstOf; dsimp only; rw [q2]⟩
      · cases q
    · exact hp1.elim
  | _ => exact hp1.elim
theorem smallI_of {i : Int} (h : smallI i = true) : -(2 ^ 62) ≤ i ∧ i < 2 ^ 62 := by
  unfold smallI at h
  have h := of_decide_eq_true h
  omega
theorem gi_rng1 {a : IX} (ha : GE P l N cf ht xc a) : GI P l N cf ht xc (.rng1 a) := fun t e X sc W k tk h => by
  unfold chkI at h
  split at h
  · rename_i x _ e pos
    simp only [Bool.and_eq_true, decide_eq_true_eq] at h
    obtain ⟨⟨⟨h1, h2⟩, h3⟩, h4⟩ := h
    subst h1
    refine piImp (pi_range1 (k.gl h2) (k.blt _ isin_blt.2.1) (pa_cons (ha _ X sc W k tk h4) pa_nil (star1 h3 _ _)) (by rw [star1 h3]; rfl)) ?_
    rintro σ H Q ⟨L, S, io, hL, hS, hp⟩
    unfold evalI at hp
    refine seqE hL hS hp fun x S1 io1 H1 u g1 s1 l1 r1 hp1 => ?_
    cases q : intOf x with
    | none => rw [q] at hp1; exact hp1.elim
    | some j =>
      rw [q] at hp1
      dsimp only at hp1
      split at hp1
      · rename_i z
        obtain ⟨z1, z2⟩ := smallI_of z
        exact ⟨j, by rw [intOf_rv q r1], z1, z2, hp1 io1 H1 Gr.refl s1 _ src_rng⟩
      · exact hp1.elim
  · exact absurd h Bool.false_ne_true
theorem gi_rng2 {a b : IX} (ha : GE P l N cf ht xc a) (hb : GE P l N cf ht xc b) : GI P l N cf ht xc (.rng2 a b) := fun t e X sc W k tk h => by
  unfold chkI at h
  split at h
  · rename_i x _ e e2 pos
    simp only [Bool.and_eq_true, decide_eq_true_eq] at h
    obtain ⟨⟨⟨⟨⟨h1, h2⟩, h3⟩, h3'⟩, h4⟩, h5⟩ := h
    subst h1
    refine piImp (pi_range2 (k.gl h2) (k.blt _ isin_blt.2.1) (pa_cons (ha _ X sc W k tk h4) (pa_cons (hb _ X sc W k tk h5) pa_nil (star1 h3' _ _)) (star1 h3 _ _)) (by rw [star1 h3, star1 h3']; rfl) (by rw [star1 h3']; rfl)) ?_
    rintro σ H Q ⟨L, S, io, hL, hS, hp⟩
    unfold evalI at hp
    refine seqE hL hS hp fun x S1 io1 H1 u g1 s1 l1 r1 hp1 => seqE l1 s1 hp1 fun y S2 io2 H2 w g2 s2 l2 r2 hp2 => ?_
    cases q : intOf x with
    | none => rw [q] at hp2; exact hp2.elim
    | some i =>
      cases q' : intOf y with
      | none => rw [q, q'] at hp2; exact hp2.elim
      | some j =>
        rw [q, q'] at hp2
        dsimp only at hp2
        split at hp2
        · rename_i z
          rw [Bool.and_eq_true] at z
          obtain ⟨z1, z2⟩ := smallI_of z.1
          obtain ⟨z3, z4⟩ := smallI_of z.2
          exact ⟨i, j, by rw [intOf_rv q r1, intOf_rv q' r2], ⟨z1, z2, z3, z4⟩, hp2 io2 H2 Gr.refl s2 _ src_rng⟩
        · exact hp2.elim
  · exact absurd h Bool.false_ne_true
theorem gi_rng3 {a b c : IX} (ha : GE P l N cf ht xc a) (hb : GE P l N cf ht xc b) (hc : GE P l N cf ht xc c) : GI P l N cf ht xc (.rng3 a b c) := fun t e X sc W k tk h => by
  unfold chkI at h
  split at h
  · rename_i x _ e e2 e3 pos
    simp only [Bool.and_eq_true, decide_eq_true_eq] at h
    obtain ⟨⟨⟨⟨⟨⟨⟨h1, h2⟩, h3⟩, h3'⟩, h3''⟩, h4⟩, h5⟩, h6⟩ := h
    subst h1
    refine piImp (pi_range3 (k.gl h2) (k.blt _ isin_blt.2.1) (pa_cons (ha _ X sc W k tk h4) (pa_cons (hb _ X sc W k tk h5) (pa_cons (hc _ X sc W k tk h6) pa_nil (star1 h3'' _ _)) (star1 h3' _ _)) (star1 h3 _ _)) (star1 h3 _ _)
      (by rw [star1 h3', star1 h3'']; rfl)) ?_
    rintro σ H Q ⟨L, S, io, hL, hS, hp⟩
    unfold evalI at hp
    refine seqE hL hS hp fun x S1 io1 H1 u g1 s1 l1 r1 hp1 => seqE l1 s1 hp1 fun y S2 io2 H2 w g2 s2 l2 r2 hp2 => seqE l2 s2 hp2 fun z S3 io3 H3 v g3 s3 l3 r3 hp3 => ?_
    split at hp3
    · rename_i i j q1 q2 q3
      split at hp3
      · rename_i z
        rw [Bool.and_eq_true] at z
        obtain ⟨z1, z2⟩ := smallI_of z.1
        obtain ⟨z3, z4⟩ := smallI_of z.2
        exact ⟨i, j, -1, _, by rw [intOf_rv q1 r1, intOf_rv q2 r2, intOf_rv q3 r3], RgC.neg z1 z2 z3 z4, hp3 io3 H3 Gr.refl s3 _ src_rngC⟩
      · exact hp3.elim
    · exact hp3.elim
  · exact absurd h Bool.false_ne_true
/-- a source that is a list -/
theorem srcOf_list {S : Sto} {x : SV} {io : List Addr} {H : Hp} {u : V} {n : Nat} (s : Sim l S io H) (r : RV l.K io H x u) (e : srcOf S x = some (.ls n)) : ∃ p vs, u = .ref p ∧ io[n]? = some p ∧ SqL l.K H p vs := by
  cases x with
  | ref m =>
    have hx := r
    obtain ⟨p, h1, h2⟩ := r
    unfold srcOf at e
    dsimp only at e
    split at e
    · rename_i xs q
      cases e
      obtain ⟨p', vs, h3, h4, h5⟩ := lstRd s hx (show lstOf S (.ref n) = some xs by unfold lstOf; dsimp only; rw [q])
      rw [h2] at h3
      cases h3
      exact ⟨p, vs, h2, h1, h4⟩
    · cases e
  | tup xs => cases e
  | _ => cases e
end
end Bi

/-! Bi9: expressions put together; statements. -/
namespace Bi
open PySem PySem.Spec PyProof.Rows L2

section
variable {P : Prog} {l : Lk} {N : List Str} {cf : Nat → List SV → Sto → R SV} {ht : Bool} {xc : Option (Nat × Option Nat)}
theorem gi_enum {a : IX} (ha : GE P l N cf ht xc a) : GI P l N cf ht xc (.enum a) := fun t e X sc W k tk h => by
  unfold chkI at h
  split at h
  · rename_i ts kk tp x _ e pos
    simp only [Bool.and_eq_true, decide_eq_true_eq] at h
    obtain ⟨⟨⟨h1, h2⟩, h3⟩, h4⟩ := h
    subst h1
    refine piImp (pi_enum (k.gl h2) (k.blt _ isin_blt.2.2.1) (pa_cons (ha _ X sc W k tk h4) pa_nil (star1 h3 _ _)) (by rw [star1 h3]; rfl)) ?_
    rintro σ H Q ⟨L, S, io, hL, hS, hp⟩
    unfold evalI at hp
    refine seqE hL hS hp fun x S1 io1 H1 u g1 s1 l1 r1 hp1 => ?_
    split at hp1
    · rename_i n q
      obtain ⟨p, vs, h5, h6, h7⟩ := srcOf_list s1 r1 q
      exact ⟨p, vs, by rw [h5], by rw [k.hK]; exact h7, by rw [k.hK]; exact hp1 io1 H1 Gr.refl s1 _ (src_enum h6)⟩
    · exact hp1.elim
  · exact absurd h Bool.false_ne_true
theorem gi_zip {a b : IX} (ha : GE P l N cf ht xc a) (hb : GE P l N cf ht xc b) : GI P l N cf ht xc (.zip a b) := fun t e X sc W k tk h => by
  unfold chkI at h
  split at h
  · rename_i ts kk tp x _ e e2 pos
    simp only [Bool.and_eq_true, decide_eq_true_eq] at h
    obtain ⟨⟨⟨⟨⟨h1, h2⟩, h3⟩, h3'⟩, h4⟩, h5⟩ := h
    subst h1
    refine piImp (pi_zip (k.gl h2) (k.blt _ isin_blt.2.2.2) (pa_cons (ha _ X sc W k tk h4) (pa_cons (hb _ X sc W k tk h5) pa_nil (star1 h3' _ _)) (star1 h3 _ _)) (star1 h3 _ _) (by rw [star1 h3']; rfl)) ?_
    rintro σ H Q ⟨L, S, io, hL, hS, hp⟩
    unfold evalI at hp
    refine seqE hL hS hp fun x S1 io1 H1 u g1 s1 l1 r1 hp1 => seqE l1 s1 hp1 fun y S2 io2 H2 w g2 s2 l2 r2 hp2 => ?_
    split at hp2
    · rename_i n m q q'
      obtain ⟨p, vs, h6, h7, h8⟩ := srcOf_list s2 (g2.rv s1 r1) q
      obtain ⟨p', vs', h6', h7', h8'⟩ := srcOf_list s2 r2 q'
      exact ⟨p, p', vs, vs', by rw [h6, h6'], by rw [k.hK]; exact h8, by rw [k.hK]; exact h8', by rw [k.hK]; exact hp2 io2 H2 Gr.refl s2 _ (src_zip h7 h7')⟩
    · exact hp2.elim
  · exact absurd h Bool.false_ne_true
theorem ga_nil : GA P l N cf ht xc .nil := fun e X sc W k tk h => by
  unfold chkEs at h
  cases e with
  | nil =>
    refine paImp pa_nil ?_
    rintro σ H Q ⟨L, S, io, hL, hS, hp⟩
    unfold evalEs at hp
    exact hp io H Gr.refl hS [] rfl
  | cons e es => exact absurd h Bool.false_ne_true
theorem ga_cons {a : IX} {as : IXs} (ha : GE P l N cf ht xc a) (hb : GA P l N cf ht xc as) : GA P l N cf ht xc (.cons a as) := fun e X sc W k tk h => by
  unfold chkEs at h
  split at h
  · simp only [Bool.and_eq_true] at h
    obtain ⟨⟨h1, h2⟩, h3⟩ := h
    refine paImp (pa_cons (ha _ X sc W k tk h2) (hb _ X sc W k tk h3) (star1 h1 _ _)) ?_
    rintro σ H Q ⟨L, S, io, hL, hS, hp⟩
    unfold evalEs at hp
    refine seqE hL hS hp fun x S1 io1 H1 u g1 s1 l1 r1 hp1 => seqA l1 s1 hp1 fun xs S2 io2 H2 us g2 s2 l2 r2 hp2 => ?_
    exact hp2 io2 H2 Gr.refl s2 (u :: us) (.cons (g2.rv s1 r1) r2)
  · exact absurd h Bool.false_ne_true
theorem isx_bad {i : Nat} {ds : List Nat} {e : Expr} {X : Cx} {W : WX} (h : ∀ c, xc = some (c, some i) → False) : PE X e (tE l W (evalE P cf xc (.isx i ds))) := ⟨fun pins s σ H Q I ⟨L, S, io, hL, hS, hp⟩ => by
  unfold evalE at hp
  split at hp
  · rename_i c j
    split at hp
    · rename_i e1
      subst e1
      exact (h _ rfl).elim
    · exact hp.elim
  · exact hp.elim⟩
theorem cls_pa {X : Cx} {sc : Scope} (k : Ok P l N cf ht xc X sc) {c : Nat} {n : Option Nat} (hx : xc = some (c, n)) : ∀ (ds : List Nat) (ts : List Expr), clsT P sc ds ts = true →
    ∃ (cs : List V) (us : List Value), PA X ts (fun _ H Q => Q cs H) ∧ cs.length = ds.length ∧ (∀ ws, Vals cs ws → ws = us) ∧ PySem.W.kitAny X.K (l.ea c) us = some (ds.any (P.sub c))
  | [], [], _ => ⟨[], [], paImp pa_nil fun _ _ _ q => q, rfl, fun ws r => by cases r; rfl, rfl⟩
  | [], _ :: _, h => by unfold clsT at h; cases h
  | d :: ds, [], h => by unfold clsT at h; cases h
  | d :: ds, t :: ts, h => by
    unfold clsT at h
    split at h
    · rename_i q; cases q
    · rename_i d' ds' z pz ts' q1 q2
      cases q1; cases q2
      simp only [Bool.and_eq_true, decide_eq_true_eq] at h
      obtain ⟨⟨⟨h1, h2⟩, h3⟩, h4⟩ := h
      obtain ⟨n1, n2, n3⟩ := nameB_of h3
      obtain ⟨C, m1, m2, m3⟩ := k.isC c d n z hx h1
      obtain ⟨cs, us, g1, g2, g3, g4⟩ := cls_pa k hx ds ts h4
      refine ⟨.ref C :: cs, .ref C :: us, paImp (pa_cons (pe_glob (v := .ref C) (k.gl h2) m1 rfl n1) g1 (star1 rfl _ _)) (fun _ _ _ q => q), by rw [List.length_cons, List.length_cons, g2], fun ws r => ?_, ?_⟩
      · cases r with
        | cons r1 r2 =>
          cases r1
          rw [g3 _ r2]
      · cases hs : P.sub c d with
        | true =>
          rw [hs] at m3
          refine (kitAny_cons m3 (r := true) (fun z => nomatch z) fun _ => rfl).trans ?_
          rw [List.any_cons, hs]; rfl
        | false =>
          rw [hs] at m3
          refine (kitAny_cons m3 (r := ds.any (P.sub c)) (fun _ => g4) fun z => nomatch z).trans ?_
          rw [List.any_cons, hs]; rfl
    · cases h
theorem ge_isx (i : Nat) (ds : List Nat) : GE P l N cf ht xc (.isx i ds) := fun e X sc W k tk h => by
  by_cases hx : ∃ c, xc = some (c, some i)
  · obtain ⟨c, hx⟩ := hx
    have rd : ∀ σ H Q, tE l W (evalE P cf xc (.isx i ds)) σ H Q → ∀ a, l.gd = some (i, a) → σ[i]? = some (some (.ref a)) ∧ Q (.bl (ds.any (P.sub c))) H ∧ ∀ p vs, H p = none → Q (.bl (ds.any (P.sub c))) (upd H p (.tup vs)) := by
      rintro σ H Q ⟨L, S, io, hL, hS, hp⟩ a ga
      unfold evalE at hp
      rw [hx] at hp
      dsimp only at hp
      rw [if_pos rfl] at hp
      split at hp
      · rename_i q
        exact ⟨hL.ex i a ga q, hp.val hS rfl, fun p vs hn => hp _ _ (Gr.new hS hn) (hS.new hn) _ rfl⟩
      · exact hp.elim
    unfold chkE at h
    split at h
    · rename_i x p1 y p2 z p3 p4
      simp only [Bool.and_eq_true, decide_eq_true_eq] at h
      obtain ⟨⟨⟨⟨⟨⟨h0, h1⟩, h2⟩, h3⟩, h4⟩, h5⟩, h6⟩ := h
      subst h1
      split at h6
      · rename_i d
        simp only [Bool.and_eq_true, decide_eq_true_eq] at h6
        obtain ⟨⟨h6, h7⟩, h8⟩ := h6
        obtain ⟨n1, n2, n3⟩ := nameB_of h5
        obtain ⟨n4, n5, n6⟩ := nameB_of h8
        obtain ⟨a, D, g1, g2, r1, r2⟩ := k.isE h0 c i hx
        obtain ⟨C, m1, m2, m3⟩ := k.isC c d _ z hx h6
        refine peImp (pe_callB (id := "isinstance") r1 (k.gl h2) (k.blt _ isin_blt.1) PyProof.Rows.boot_isinstance (pa_cons (pe_var (i := i) (by rw [k.eN]; exact h3) (k.vis h4) n1 n2) (pa_cons (pe_glob (v := .ref C) (k.gl h7) m1 rfl n4) pa_nil (star1 rfl _ _)) (star1 rfl _ _)) (by decide) (by decide) (star1 rfl _ _) rfl) ?_
        intro σ H Q q
        obtain ⟨q1, q2, _⟩ := rd σ H Q q a g1
        refine ⟨.ref a, q1, .ref C, .ref C, P.sub c d, rfl, fun u r => r, by rw [← g2]; exact m3, ?_⟩
        have e : [d].any (P.sub c) = P.sub c d := by rw [List.any_cons]; exact Bool.or_false _
        rw [← e]; exact q2
      · cases h6
    · rename_i x p1 y p2 ts kk p3 p4
      simp only [Bool.and_eq_true, decide_eq_true_eq] at h
      obtain ⟨⟨⟨⟨⟨⟨⟨h0, h1⟩, h2⟩, h3⟩, h4⟩, h5⟩, h6⟩, h7⟩ := h
      subst h1
      obtain ⟨n1, n2, n3⟩ := nameB_of h5
      obtain ⟨a, D, g1, g2, r1, r2⟩ := k.isE h0 c i hx
      obtain ⟨cs, us, m1, m2, m3, m4⟩ := cls_pa k hx ds ts h7
      refine peImp (pe_callB (id := "isinstance") r2 (k.gl h2) (k.blt _ isin_blt.1) PyProof.Rows.boot_isinstance (pa_cons (pe_var (i := i) (by rw [k.eN]; exact h3) (k.vis h4) n1 n2) (pa_cons (pe_tup m1) pa_nil (star1 rfl _ _)) (star1 rfl _ _)) (by decide) (by decide) (star1 rfl _ _) rfl) ?_
      intro σ H Q q
      obtain ⟨q1, _, q2⟩ := rd σ H Q q a g1
      refine ⟨.ref a, q1, by rw [m2, PySem.sizeLine_eq]; omega, fun p hp => ⟨p, cs, us, ds.any (P.sub c), rfl, upd_same, m3, by rw [← g2]; exact m4, q2 p cs hp⟩⟩
    · exact absurd h Bool.false_ne_true
  · exact isx_bad fun c q => hx ⟨c, q⟩
theorem ge_no {x : IX} (h : ∀ sc e, chkE P N ht x sc e = false) : GE P l N cf ht xc x := fun e X sc W k tk hc => by
  rw [h sc e] at hc
  cases hc
theorem sV {a : IX} (ha : GE P l N cf ht xc a) (h : ∀ sc e, chkB P N ht (.val a) sc e = (plainT e && chkE P N ht a sc e)) : GB P l N cf ht xc (.val a) ∧ GW P l N cf ht xc (.val a) :=
  ⟨fun e X sc W k tk hc => gb_val ha e X sc W k tk (by rw [← h]; exact hc), fun e X sc W k tk hc hb => by
    rw [h, Bool.and_eq_true] at hc
    exact gw_plain hc.1 hb⟩
/-! ### own classes -/
theorem ge_att {c f : Nat} {o : IX} (ho : GE P l N cf ht xc o) : GE P l N cf ht xc (.att c f o) := fun e X sc W k tk h => by
  unfold chkE at h
  split at h
  · rename_i e x pos
    split at h
    · rename_i C q
      simp only [Bool.and_eq_true, decide_eq_true_eq] at h
      obtain ⟨⟨h1, h2⟩, h3⟩ := h
      have hO := ho _ X sc W k tk h3
      have ck := k.cls c C q
      obtain ⟨fe, na⟩ := ck.fn f x h1
      refine peImp (pe_fld hO (base_of h2 x X.env)) ?_
      rintro σ H Q ⟨L, S, io, hL, hS, hp⟩
      unfold evalE at hp
      refine seqE hL hS hp fun y S1 io1 H1 u g1 s1 l1 r1 hp1 => ?_
      unfold attS at hp1
      split at hp1
      · rename_i n
        split at hp1
        · rename_i c' fs e1
          split at hp1
          · rename_i ec
            subst ec
            split at hp1
            · rename_i v e2
              obtain ⟨a, h4, h5⟩ := s1.ob n _ e1
              obtain ⟨a', h6, h7⟩ := r1
              rw [h4] at h6
              cases h6
              obtain ⟨dx, gs, h8, _, h9⟩ := h5
              obtain ⟨w, h10, h11⟩ := h9 f (some v) e2
              exact ⟨a, l.ca c', dx, gs, w, h7, h8, ck.cl, na, by rw [← fe]; exact h10, hp1.val s1 h11⟩
            · exact hp1.elim
          · exact hp1.elim
        · exact hp1.elim
      · exact hp1.elim
    · exact absurd h Bool.false_ne_true
  · exact absurd h Bool.false_ne_true
theorem ge_make {d : Nat} {as : IXs} (ha : GA P l N cf ht xc as) : GE P l N cf ht xc (.make d as) := fun e X sc W k tk h => by
  unfold chkE at h
  split at h
  · rename_i x _ e es _
    split at h
    · rename_i C q
      simp only [Bool.and_eq_true, decide_eq_true_eq] at h
      obtain ⟨⟨⟨⟨⟨h0, h1⟩, h2⟩, h3⟩, h4⟩, h5⟩ := h
      obtain ⟨n1, n2, n3⟩ := nameB_of h4
      have hs := chkEs_star h5
      have hd : P.defs.length + (d - P.defs.length) = d := by omega
      have ck := k.cls _ C q
      obtain ⟨f, fd, kk, D, cf0, hD, M, F, hr, hbn, hl, he⟩ := k.mks (notT h0) _ C q
      generalize d - P.defs.length = c at *
      refine peImp (pe_makeS M F hr (k.gl h3) (by rw [← h2]; exact ck.nm) hbn (E := WE W) (fun σ => passAt tk σ) (ha _ X sc W k tk h5) n1 (star1 (hs e List.mem_cons_self) es _) (any_star fun e' z => hs e' (List.mem_cons_of_mem _ z))) ?_
      rintro σ H Q ⟨L, S, io, hL, hS, hp⟩
      unfold evalE at hp
      refine seqA hL hS hp fun vs S1 io1 H1 us g1 s1 l1 r1 hp1 => fun x dx hx hdx hne => ?_
      rw [← hd, he] at hp1
      have g2 := Gr.new (o := .own x) s1 hdx
      have s2 := s1.new (o := .own x) hdx
      have hx2 : L2.upd H1 dx (.own x) x = none := by rw [upd_ne hne.symm]; exact hx
      have g3 := Gr.push (o := .ins (l.ca c) dx []) s2 hx2
      have s3 := s2.push (x := .ins c (List.replicate C.flds.length none)) (o := .ins (l.ca c) dx []) hx2 ⟨dx, [], upd_same, ⟨List.nodup_nil, fun m h => by cases h⟩, fun f o hf => by
        rw [List.getElem?_replicate] at hf
        split at hf
        · cases hf; rfl
        · cases hf⟩
      have g23 := g2.trans g3
      refine ⟨.ref S1.length :: vs, _, io1 ++ [x], ⟨_, _, rfl, ⟨x, by rw [← s1.len]; simp, rfl⟩, g23.rvs s1 r1⟩, s3, ?_, ?_⟩
      · by_cases hlen : (SV.ref S1.length :: vs).length = D.np
        · exact hlen
        · rw [hl _ _ hlen] at hp1
          exact hp1.elim
      · refine (Po.bind (hp1.later g23)).imp fun v S2 io2 H2 g4 s4 q4 u hu => ?_
        cases v with
        | non =>
          refine ⟨hu, q4 io2 H2 Gr.refl s4 _ ⟨x, g4.get (by rw [← s1.len]; simp), rfl⟩⟩
        | _ => exact q4.elim
    · exact absurd h Bool.false_ne_true
  · exact absurd h Bool.false_ne_true
/-- a name that is no field's is no attribute's -/
theorem no_attr {C : ClsI} {c : Nat} {K : PySem.W.Frag} {mg : Str → Option Value} (ck : COk K mg l c C) {fs : List (Option SV)} {gs : List (Str × V)} {m : Str} (hl : fs.length = C.flds.length) (hm : C.flds.contains m = false)
    (hg : ∀ m ∈ gs.map (·.1), ∃ f, f < fs.length ∧ l.fn c f = m) : gs.lookup m = none := by
  cases q : gs.lookup m with
  | none => rfl
  | some v =>
    obtain ⟨f, h1, h2⟩ := hg m (mem_keys (by rw [q]; simp))
    have h3 : C.flds[f]? = some C.flds[f] := List.getElem?_eq_getElem (by omega)
    have h4 := (ck.fn f _ h3).1
    rw [h2] at h4
    have : C.flds.contains m = true := by rw [List.contains_iff_mem, h4]; exact List.getElem_mem _
    rw [hm] at this
    cases this
theorem ge_meth {c m : Nat} {o : IX} {as : IXs} (ho : GE P l N cf ht xc o) (ha : GA P l N cf ht xc as) : GE P l N cf ht xc (.meth c m o as) := fun e X sc W k tk h => by
  unfold chkE at h
  split at h
  · rename_i e x apos es cpos
    split at h
    · rename_i C q
      split at h
      · rename_i p q2
        simp only [Bool.and_eq_true, decide_eq_true_eq] at h
        obtain ⟨⟨⟨⟨⟨⟨⟨h0, h1⟩, h2⟩, h3⟩, h4⟩, h5⟩, h6⟩, h7⟩ := h
        obtain ⟨pn, pd⟩ := p
        have h1 : pn = x := h1
        subst h1
        have ck := k.cls c C q
        obtain ⟨D, f, fd, kk, hD, hM, F, hr, hbn⟩ := k.mts (notT h0) c C m pn pd q q2
        have hs := chkEs_star h7
        have hO := ho _ X sc W k tk h6
        have hA := ha _ X sc W k tk h7
        obtain ⟨pl, hf⟩ := meth_form (base_of h3 pn X.env) (few_of (pos := cpos) (env := X.env) hs h4) h5
        have rd : ∀ σ H Q, tE l W (evalE P cf xc (.meth c m o as)) σ H Q → tMethO (l.ca c) pn (spI l cf D.np pd) (WE W) (tE l W (evalE P cf xc o)) (tAs l W (evalEs P cf xc as)) σ H Q := by
          rintro σ H Q ⟨L, S, io, hL, hS, hp⟩
          unfold evalE at hp
          refine seqE hL hS hp fun y S1 io1 H1 u g1 s1 l1 r1 hp1 => ?_
          rw [q] at hp1
          cases y with
          | ref n =>
            dsimp only [fstOf] at hp1
            rw [q2] at hp1
            split at hp1
            · rename_i c' fs p' e1 e2
              split at hp1
              · rename_i hc
                obtain ⟨rfl, hl⟩ := hc
                obtain ⟨a, h8, h9⟩ := s1.ob n _ e1
                have r1' := r1
                obtain ⟨a', h10, h11⟩ := r1
                rw [h8] at h10
                cases h10
                obtain ⟨dx, gs, h12, ⟨_, h13⟩, _⟩ := h9
                cases e2
                refine ⟨a, dx, gs, h11, h12, no_attr ck hl (notT h2) h13, seqA l1 s1 hp1 fun vs S2 io2 H2 us g2 s2 l2 r2 hp2 => ⟨.ref n :: vs, S2, io2, ⟨_, _, rfl, g2.rv s1 r1', r2⟩, s2, ?_, hp2⟩⟩
                by_cases hlen : (SV.ref n :: vs).length = D.np
                · exact hlen
                · rw [k.cfl pd D _ S2 hD hlen] at hp2
                  exact hp2.elim
              · exact hp1.elim
            · exact hp1.elim
          | _ => exact hp1.elim
        cases es with
        | nil =>
          refine peImp (pe_methO0 hO ck.cl hM F hr hbn (E := WE W) (fun σ => passAt tk σ) hf) fun σ H Q z => ?_
          have z := rd σ H Q z
          obtain ⟨L, S, io, hL, hS, hp⟩ := z
          refine ⟨L, S, io, hL, hS, hp.imp fun v S1 io1 H1 g1 s1 f u r => ?_⟩
          obtain ⟨a, dx, fs, t1, t2, t3, L2, S2, io2, l2, s2, t4⟩ := f u r
          refine ⟨a, dx, fs, t1, t2, t3, ?_⟩
          cases as with
          | nil =>
            unfold evalEs at t4
            exact t4 io2 H1 Gr.refl s2 [] rfl
          | cons a as => exact absurd h7 (by unfold chkEs; exact Bool.false_ne_true)
        | cons e2 es =>
          exact peImp (pe_methO hO ck.cl hM F hr hbn (E := WE W) (fun σ => passAt tk σ) hA (star1 (hs e2 List.mem_cons_self) es _) (any_star fun e' z => hs e' (List.mem_cons_of_mem _ z)) hf) rd
      · exact absurd h Bool.false_ne_true
    · exact absurd h Bool.false_ne_true
  · exact absurd h Bool.false_ne_true
mutual
theorem sE : ∀ x : IX, GE P l N cf ht xc x
  | .cst v => ge_cst v
  | .var i => ge_var i
  | .glo g => ge_glo g
  | .bin o a b => ge_bin (sE a) (sE b)
  | .neg a => ge_neg (sE a)
  | .not a => ge_not (sE a)
  | .and a b => ge_and (sE a) (sE b)
  | .or a b => ge_or (sE a) (sE b)
  | .cmp o a b => ge_cmp (sE a) (sE b)
  | .chn o p a b c => ge_chn (sE a) (sE b) (sE c)
  | .ite c a b => ge_ite (sB c).1 (sE a) (sE b)
  | .call d as => ge_call (sA as)
  | .make c as => ge_make (sA as)
  | .meth c m o as => ge_meth (sE o) (sA as)
  | .bf b as => ge_bf (sA as)
  | .bm m o as => ge_bm (sE o) (sA as)
  | .isi a t => ge_isi (sE a)
  | .isx i ds => ge_isx i ds
  | .att c f o => ge_att (sE o)
  | .idx a i => ge_idx (sE a) (sE i)
  | .slL a lo => ge_slL (sE a) (sE lo)
  | .slH a hi => ge_slH (sE a) (sE hi)
  | .slB a lo hi => ge_slB (sE a) (sE lo) (sE hi)
  | .rev a => ge_rev (sE a)
  | .tup as => ge_tup (sA as)
  | .lst as => ge_lst (sA as)
  | .lc tg it e own => ge_lc (sI it) (sE e)
  | .lcc tg it c e own => ge_lcc (sI it) (sB c).1 (sE e)
  | .lc2 tg it tg2 it2 e own => ge_no fun sc e => by unfold chkE; rfl
theorem sB : ∀ x : IB, GB P l N cf ht xc x ∧ GW P l N cf ht xc x
  | .val (.cmp o a b) => ⟨gb_cmp (sE a) (sE b), gw_cmp⟩
  | .val (.chn o p a b c) => ⟨gb_chn (sE a) (sE b) (sE c), gw_chn⟩
  | .val (.cst v) => sV (sE (.cst v)) fun sc e => by unfold chkB; rfl
  | .val (.var v) => sV (sE (.var v)) fun sc e => by unfold chkB; rfl
  | .val (.glo v) => sV (sE (.glo v)) fun sc e => by unfold chkB; rfl
  | .val (.bin o a b) => sV (sE (.bin o a b)) fun sc e => by unfold chkB; rfl
  | .val (.neg a) => sV (sE (.neg a)) fun sc e => by unfold chkB; rfl
  | .val (.not a) => sV (sE (.not a)) fun sc e => by unfold chkB; rfl
  | .val (.and a b) => sV (sE (.and a b)) fun sc e => by unfold chkB; rfl
  | .val (.or a b) => sV (sE (.or a b)) fun sc e => by unfold chkB; rfl
  | .val (.ite c a b) => sV (sE (.ite c a b)) fun sc e => by unfold chkB; rfl
  | .val (.call d as) => sV (sE (.call d as)) fun sc e => by unfold chkB; rfl
  | .val (.make d as) => sV (sE (.make d as)) fun sc e => by unfold chkB; rfl
  | .val (.meth c m o as) => sV (sE (.meth c m o as)) fun sc e => by unfold chkB; rfl
  | .val (.bf d as) => sV (sE (.bf d as)) fun sc e => by unfold chkB; rfl
  | .val (.bm m o as) => sV (sE (.bm m o as)) fun sc e => by unfold chkB; rfl
  | .val (.isi a t) => sV (sE (.isi a t)) fun sc e => by unfold chkB; rfl
  | .val (.isx a t) => sV (sE (.isx a t)) fun sc e => by unfold chkB; rfl
  | .val (.att c f o) => sV (sE (.att c f o)) fun sc e => by unfold chkB; rfl
  | .val (.idx a i) => sV (sE (.idx a i)) fun sc e => by unfold chkB; rfl
  | .val (.slL a i) => sV (sE (.slL a i)) fun sc e => by unfold chkB; rfl
  | .val (.slH a i) => sV (sE (.slH a i)) fun sc e => by unfold chkB; rfl
  | .val (.slB a i j) => sV (sE (.slB a i j)) fun sc e => by unfold chkB; rfl
  | .val (.rev a) => sV (sE (.rev a)) fun sc e => by unfold chkB; rfl
  | .val (.tup a) => sV (sE (.tup a)) fun sc e => by unfold chkB; rfl
  | .val (.lst a) => sV (sE (.lst a)) fun sc e => by unfold chkB; rfl
  | .val (.lc a b c d) => sV (sE (.lc a b c d)) fun sc e => by unfold chkB; rfl
  | .val (.lcc a b c d e) => sV (sE (.lcc a b c d e)) fun sc e => by unfold chkB; rfl
  | .val (.lc2 a b c d e f) => sV (sE (.lc2 a b c d e f)) fun sc e => by unfold chkB; rfl
  | .not a => ⟨gb_not (sB a).1, gw_not⟩
  | .and a b => have w := gw_and (sB a).1 (sB b).1 (sB b).2; ⟨gb_and w, w⟩
  | .or a b => have w := gw_or (sB a).1 (sB b).1 (sB b).2; ⟨gb_or w, w⟩
theorem sI : ∀ x : IT, GI P l N cf ht xc x
  | .seq e => gi_seq (sE e)
  | .rng1 a => gi_rng1 (sE a)
  | .rng2 a b => gi_rng2 (sE a) (sE b)
  | .rng3 a b c => gi_rng3 (sE a) (sE b) (sE c)
  | .enum e => gi_enum (sE e)
  | .zip a b => gi_zip (sE a) (sE b)
theorem sA : ∀ x : IXs, GA P l N cf ht xc x
  | .nil => ga_nil
  | .cons a as => ga_cons (sE a) (sA as)
end
end
end Bi

/-! Bi10: statements. -/
namespace Bi
open PySem PySem.Spec PyProof.Rows L2

def notComp : Expr → Bool
  | .ListComp .. => false
  | .SetComp .. => false
  | .DictComp .. => false
  | _ => true
def notTup : Expr → Bool
  | .Tuple .. => false
  | .List .. => false
  | _ => true
/-- does a stored comprehension go by way of the comprehension's frame -/
def swV (sc : Scope) (t e : Expr) (line : Nat) : Bool := match e, t with
  | .ListComp _ _ s cpos, .Name y p => (sc.names.lookup y == some .local) && p.line == cpos.line && !(s.names.any fun (n, k) => n == y && (k == .local || k == .cell))
  | _, _ => false
theorem swNo {e : Expr} (h : notComp e = true) (t : Option Expr) (line : Nat) (env : Env) : swapsWith e t line env = pure false := by
  cases e <;> first | rfl | exact absurd h Bool.false_ne_true
theorem swLc {elt : Expr} {gs : List Comprehension} {s : Scope} {cpos : Pos} {t : Expr} {line : Nat} {env : Env} (hk : env.scope.kind = .function) :
    swapsWith (.ListComp elt gs s cpos) (some t) line env = pure (swV env.scope t (.ListComp elt gs s cpos) line) := by
  have hb : env.blockKind = .function := by unfold Env.blockKind; rw [hk]; rfl
  cases t with
  | Name y p =>
    unfold swapsWith swV Env.kindOf
    simp only [hb]
    rfl
  | _ => rfl
/-- a written tuple stored into a tuple of names: not by the swapped stores -/
def swT (sc : Scope) (t e : Expr) : Bool := match t, e with
  | .Tuple ts _ _, .Tuple vs _ _ => !(ts.length == 2 || ts.length == 3) || vs.length != ts.length || vs.all (foldedForSure 8)
  | .List .., _ => false
  | _, _ => true
theorem swTno {sc : Scope} {t e : Expr} {env : Env} (hk : env.scope.kind = .function) (h : swT sc t e = true) : swappedStores [t] e env = pure none := by
  have hb : env.blockKind = .function := by unfold Env.blockKind; rw [hk]; rfl
  unfold swT at h
  split at h
  · rename_i ts k1 p1 vs k2 p2
    unfold swappedStores
    dsimp only
    split
    · rfl
    · rename_i c1
      split
      · rfl
      · rename_i c2
        split
        · rfl
        · split
          · rfl
          · rename_i c4
            exfalso
            rw [hb] at c1
            simp only [bne_self_eq_false, Bool.or_false] at c1
            rcases Bool.or_eq_true_iff.mp h with h | h
            · exact c1 h
            · exact c4 h
  · cases h
  · rename_i h1 h2
    unfold swappedStores
    dsimp only
    split
    · rename_i ts vs q
      split at q
      · rename_i a b c d e' f g
        exact (h2 _ _ _ _ _ _ (List.cons.inj g).1 rfl).elim
      · rename_i a b c d e' g
        exact (h1 _ _ (List.cons.inj g).1).elim
      · cases q
    · rfl
/-- the swapped stores of two names, of three -/
def swP (sc : Scope) (ts vs : List Expr) : Bool := match ts with
  | .Name x px :: r => decide (ts.length = vs.length) && (ts.length == 2 || ts.length == 3) && (ts.all fun t => match t with
    | .Name y py => (sc.names.lookup y == some .local) && py.line == px.line
    | _ => false) && vs.all notStar && !(vs.all (foldedForSure 8)) && !(vs.all (constantsAlone 8))
  | _ => false
theorem swPar2 {env : Env} {x y : Str} {px py pt pt2 : Pos} {kt k2 : Nat} {a b : Expr} (hk : env.scope.kind = .function) (h : swP env.scope [.Name x px, .Name y py] [a, b] = true) (hxy : x ≠ y) :
    env.scope.names.lookup x = some .local ∧ env.scope.names.lookup y = some .local ∧ swappedStores [.Tuple [.Name x px, .Name y py] kt pt] (.Tuple [a, b] k2 pt2) env = pure (some [x, y]) := by
  have hb : env.blockKind = .function := by unfold Env.blockKind; rw [hk]; rfl
  unfold swP at h
  simp only [List.all_cons, List.all_nil, Bool.and_true, Bool.and_eq_true, decide_eq_true_eq, beq_iff_eq, Bool.not_eq_true'] at h
  obtain ⟨⟨⟨⟨_, ⟨⟨h1, _⟩, h2, h3⟩⟩, h4, h5⟩, h6⟩, h7⟩ := h
  refine ⟨h1, h2, ?_⟩
  unfold swappedStores
  have hx : env.kindOf x = some .local := h1
  have hy : env.kindOf y = some .local := h2
  simp [hb, hx, hy, h3, Expr.pos, h6, h7, List.eraseDups_cons, hxy, Ne.symm hxy]
  intro z
  exfalso
  rcases z with z | z
  · cases a <;> first | exact absurd h4 Bool.false_ne_true | exact absurd z Bool.false_ne_true
  · cases b <;> first | exact absurd h5 Bool.false_ne_true | exact absurd z Bool.false_ne_true
theorem swPar3 {env : Env} {x y z : Str} {px py pz pt pt2 : Pos} {kt k2 : Nat} {a b c : Expr} (hk : env.scope.kind = .function) (h : swP env.scope [.Name x px, .Name y py, .Name z pz] [a, b, c] = true) (hxy : x ≠ y) (hxz : x ≠ z) (hyz : y ≠ z) :
    env.scope.names.lookup x = some .local ∧ env.scope.names.lookup y = some .local ∧ env.scope.names.lookup z = some .local ∧ swappedStores [.Tuple [.Name x px, .Name y py, .Name z pz] kt pt] (.Tuple [a, b, c] k2 pt2) env = pure (some [x, y, z]) := by
  have hb : env.blockKind = .function := by unfold Env.blockKind; rw [hk]; rfl
  unfold swP at h
  simp only [List.all_cons, List.all_nil, Bool.and_true, Bool.and_eq_true, decide_eq_true_eq, beq_iff_eq, Bool.not_eq_true'] at h
  obtain ⟨⟨⟨⟨_, ⟨⟨h1, _⟩, ⟨h2, h3⟩, h8, h9⟩⟩, h4, h5, h10⟩, h6⟩, h7⟩ := h
  refine ⟨h1, h2, h8, ?_⟩
  unfold swappedStores
  have hx : env.kindOf x = some .local := h1
  have hy : env.kindOf y = some .local := h2
  have hz : env.kindOf z = some .local := h8
  simp [hb, hx, hy, hz, h3, h9, Expr.pos, h6, h7, List.eraseDups_cons, hxy, Ne.symm hxy, hxz, Ne.symm hxz, hyz, Ne.symm hyz]
  intro z
  exfalso
  rcases z with z | z | z
  · cases a <;> first | exact absurd h4 Bool.false_ne_true | exact absurd z Bool.false_ne_true
  · cases b <;> first | exact absurd h5 Bool.false_ne_true | exact absurd z Bool.false_ne_true
  · cases c <;> first | exact absurd h10 Bool.false_ne_true | exact absurd z Bool.false_ne_true
end Bi

/-! Bi11: statements put together. -/
namespace Bi
open PySem PySem.Spec PyProof.Rows L2

def a2ok : B2 → Bool
  | .add => true
  | .sub => true
  | .mul => true
  | _ => false
def isLcI : IX → Bool
  | .lc .. => true
  | .lcc .. => true
  | _ => false
def swNm (sc : Scope) : Expr → Bool
  | .Name y _ => sc.names.lookup y == some .local
  | _ => false
/-- a comprehension stored into a written tuple -/
def lcTup : Expr → Expr → Bool
  | .Tuple .., .ListComp .. => true
  | _, _ => false
def isNmT : Tg → Bool
  | .nm _ => true
  | _ => false
def alT : Str → Bool := fun _ => true
def parOk (N : List Str) (sc : Scope) : List Nat → List Expr → Bool
  | [i, j], [.Name x _, .Name y _] => decide (N[i]? = some x) && decide (N[j]? = some y) && decide (i ≠ j) && decide (x ≠ y)
  | [i, j, k], [.Name x _, .Name y _, .Name z _] => decide (N[i]? = some x) && decide (N[j]? = some y) && decide (N[k]? = some z) && decide (i ≠ j) && decide (i ≠ k) && decide (j ≠ k) && decide (x ≠ y) && decide (x ≠ z) && decide (y ≠ z)
  | _, _ => false
section
variable (P : Prog) (N : List Str)
mutual
def chkS : Bool → IS → Scope → Stmt → Bool
  | ht, .pass, _, s => (match s with
    | .Pass _ => true
    | _ => false)
  | ht, .expr e, sc, s => (match s with
    | .Expr ex _ => notComp ex && chkE P N ht e sc ex
    | _ => false)
  | ht, .ret e, sc, s => (match s with
    | .Return (some ex) _ => chkE P N ht e sc ex
    | .Return none _ => (match e with
      | .cst .non => true
      | _ => false)
    | _ => false)
  | ht, .asg tg e, sc, s => (match s with
    | .Assign [t] ex pos => (!ht || isNmT tg) && chkE P N ht e sc ex && chkT N sc alT tg t && ((notComp ex || lcTup t ex) && swT sc t ex || !ht && isLcI e && swNm sc t)
    | _ => false)
  | ht, .par is es, sc, s => (match s with
    | .Assign [.Tuple ts _ _] (.Tuple vs _ _) _ => !ht && swP sc ts vs && parOk N sc is ts && chkEs P N ht es sc vs
    | _ => false)
  | ht, .setI o i e, sc, s => (match s with
    | .Assign [.Subscript eo ei _] ex _ => notSlice ei && notComp ex && chkE P N ht e sc ex && chkE P N ht o sc eo && chkE P N ht i sc ei
    | _ => false)
  | ht, .setA c f o e, sc, s => (match s with
    | .Assign [.Attribute eo x _] ex _ => (match P.clss[c]? with
      | some C => decide (C.flds[f]? = some x) && notComp ex && chkE P N ht e sc ex && chkE P N ht o sc eo
      | none => false)
    | _ => false)
  | ht, .aug i o e, sc, s => (match s with
    | .AugAssign (.Name x _) op ex _ => a2ok o && decide (b2op o = op) && nmOk N sc alT i x && chkE P N ht e sc ex
    | _ => false)
  | ht, .iff c a b, sc, s => (match s with
    | .If ec ea eb _ => chkB P N ht c sc ec && chkSs ht a sc ea && chkSs ht b sc eb
    | _ => false)
  | ht, .whl c b, sc, s => (match s with
    | .While ec eb [] _ => !ht && chkB P N ht c sc ec && chkSs ht b sc eb
    | _ => false)
  | ht, .for_ tg it b, sc, s => (match s with
    | .For t ei eb [] _ => !ht && notSet ei && chkI P N ht it sc t ei && chkT N sc alT tg t && chkSs ht b sc eb
    | _ => false)
  | ht, .brk, _, s => (match s with
    | .Break _ => true
    | _ => false)
  | ht, .cont, _, s => (match s with
    | .Continue _ => true
    | _ => false)
  | ht, .rse c, sc, s => (match s with
    | .Raise (some (.Call (.Name x _) [.Constant (.str _) _ _] [] _)) none _ => !ht && decide (P.excs[c]? = some x) && glB sc x && nameB x
    | _ => false)
  | ht, .try_ b (.cons [d] (some i) b' .nil), sc, s => (match s with
    | .Try body [.ExceptHandler (some (.Name x _)) (some n) (b₀ :: suite) _] [] [] _ => !ht && decide (P.excs[d]? = some x) && glB sc x && nameB x && decide (N[i]? = some n) && (sc.names.lookup n == some .local) && chkSs ht b sc body && chkSs true b' sc (b₀ :: suite)
    | _ => false)
  | _, _, _, _ => false
def chkSs : Bool → ISs → Scope → List Stmt → Bool
  | _, .nil, _, ss => ss.isEmpty
  | ht, .cons s st, sc, ss => (match ss with
    | x :: xs => chkS ht s sc x && chkSs ht st sc xs
    | [] => false)
end
end
structure OkS (P : Prog) (l : Lk) (N : List Str) (cf : Nat → List SV → Sto → R SV) (ht : Bool) (xc : Option (Nat × Option Nat)) (X : Cx) (sc : Scope) : Prop where
  ok : Ok P l N cf ht xc X sc
  fn : ∀ x, X.fn x = true
  kind : sc.kind = .function
  po : ht = false → PassesOwn (model X.prog X.w) X.A X.env X.xe
  stk : ht = false → X.stack = X.env :: X.outer ∧ X.env.frame = some X.env.locals
  exs : ∀ (c : Nat) (x : Str), P.excs[c]? = some x → ∃ C, X.mg x = some (.ref C) ∧ l.ea c = .ref C ∧ PySem.W.keepIn X.K (.ref C) = true ∧ Raises X (.ref C) ∧
    ∃ B newId initId bmB, ExcBaseFacts B newId initId bmB ∧ PySem.W.excIn X.K C bmB newId = true
  exC : ∀ (c : Nat) (x : Str), P.excs[c]? = some x → ∃ D, l.ea c = .ref D ∧ ExcC X.K D
  sub : ∀ (c d : Nat) (x y : Str), P.excs[c]? = some x → P.excs[d]? = some y → PySem.W.kitOne X.K (l.ea c) (l.ea d) = some (P.sub c d) ∧ PySem.W.exmOne X.K (l.ea c) (l.ea d) = some (P.sub c d)
section
variable {P : Prog} {l : Lk} {N : List Str} {cf : Nat → List SV → Sto → R SV} {ht : Bool} {xc : Option (Nat × Option Nat)}
abbrev GS (P : Prog) (l : Lk) (N : List Str) (cf : Nat → List SV → Sto → R SV) (ht : Bool) (xc : Option (Nat × Option Nat)) (x : IS) : Prop :=
  ∀ (s : Stmt) (X : Cx) (sc : Scope) (W : WX), OkS P l N cf ht xc X sc → Takes X W → chkS P N ht x sc s = true → PS X s (tS l W (evalS P cf x xc))
abbrev GSs (P : Prog) (l : Lk) (N : List Str) (cf : Nat → List SV → Sto → R SV) (ht : Bool) (xc : Option (Nat × Option Nat)) (x : ISs) : Prop :=
  ∀ (s : List Stmt) (X : Cx) (sc : Scope) (W : WX), OkS P l N cf ht xc X sc → Takes X W → chkSs P N ht x sc s = true → PSs X s (tS l W (evalSs P cf x xc))
theorem gs_pass : GS P l N cf ht xc .pass := fun s X sc W k tk h => by
  unfold chkS at h
  split at h
  · refine psImp ps_pass ?_
    rintro D σ H ⟨L, S, io, hL, hS, hp⟩
    unfold evalS at hp
    exact hp io H σ Gr.refl hS hL
  · exact absurd h Bool.false_ne_true
theorem gs_brk : GS P l N cf ht xc .brk := fun s X sc W k tk h => by
  unfold chkS at h
  split at h
  · refine psImp ps_break ?_
    rintro D σ H ⟨L, S, io, hL, hS, hp⟩
    unfold evalS at hp
    exact hp io H σ Gr.refl hS hL
  · exact absurd h Bool.false_ne_true
theorem gs_cont : GS P l N cf ht xc .cont := fun s X sc W k tk h => by
  unfold chkS at h
  split at h
  · refine psImp ps_continue ?_
    rintro D σ H ⟨L, S, io, hL, hS, hp⟩
    unfold evalS at hp
    exact hp io H σ Gr.refl hS hL
  · exact absurd h Bool.false_ne_true
theorem gs_expr (e : IX) : GS P l N cf ht xc (.expr e) := fun s X sc W k tk h => by
  unfold chkS at h
  split at h
  · rw [Bool.and_eq_true] at h
    refine psImp (ps_expr (sE (xc := xc) e _ X sc W k.ok tk h.2) (swNo h.1 _ _ _)) ?_
    rintro D σ H ⟨L, S, io, hL, hS, hp⟩
    unfold evalS at hp
    exact stE hL hS hp fun v S1 io1 H1 u g s l1 r hp1 => hp1 io1 H1 σ Gr.refl s l1
  · exact absurd h Bool.false_ne_true
theorem gs_ret (e : IX) : GS P l N cf ht xc (.ret e) := fun s X sc W k tk h => by
  unfold chkS at h
  split at h
  · refine psImp (ps_ret (sE (xc := xc) e _ X sc W k.ok tk h)) ?_
    rintro D σ H ⟨L, S, io, hL, hS, hp⟩
    unfold evalS at hp
    exact stE hL hS hp fun v S1 io1 H1 u g s l1 r hp1 => hp1 io1 H1 u Gr.refl s r
  · split at h
    · refine psImp ps_retN ?_
      rintro D σ H ⟨L, S, io, hL, hS, hp⟩
      unfold evalS evalE at hp
      exact hp io H .non Gr.refl hS rfl
    · exact absurd h Bool.false_ne_true
  · exact absurd h Bool.false_ne_true
theorem gs_iff {c : IB} {a b : ISs} (ha : GSs P l N cf ht xc a) (hb : GSs P l N cf ht xc b) : GS P l N cf ht xc (.iff c a b) := fun s X sc W k tk h => by
  unfold chkS at h
  split at h
  · simp only [Bool.and_eq_true] at h
    refine psImp (ps_if ((sB (xc := xc) c).1 _ X sc W k.ok tk h.1.1) (ha _ X sc W k tk h.1.2) (hb _ X sc W k tk h.2)) ?_
    rintro D σ H ⟨L, S, io, hL, hS, hp⟩
    unfold evalS at hp
    refine stB hL hS hp fun t S1 io1 H1 g s l1 hp1 => ?_
    cases t with
    | true => exact ⟨L, S1, io1, l1, s, hp1⟩
    | false => exact ⟨L, S1, io1, l1, s, hp1⟩
  · exact absurd h Bool.false_ne_true
theorem gs_whl {c : IB} {b : ISs} (hb : GSs P l N cf ht xc b) : GS P l N cf ht xc (.whl c b) := fun s X sc W k tk h => by
  unfold chkS at h
  split at h
  · simp only [Bool.and_eq_true] at h
    refine psImp (ps_while (k.po (notT h.1.1)) ((sB (xc := xc) c).1 _ X sc W k.ok tk h.1.2) (hb _ X sc W k tk h.2)) ?_
    rintro D σ H ⟨L, S, io, hL, hS, hp⟩
    unfold evalS at hp
    exact while_read hL hS hp
  · exact absurd h Bool.false_ne_true
theorem gs_for {tg : Tg} {it : IT} {b : ISs} (hb : GSs P l N cf ht xc b) : GS P l N cf ht xc (.for_ tg it b) := fun s X sc W k tk h => by
  unfold chkS at h
  split at h
  · simp only [Bool.and_eq_true] at h
    obtain ⟨⟨⟨⟨h0, h1⟩, h2⟩, h3⟩, h4⟩ := h
    refine psImp (ps_for (k.po (notT h0)) (k.ok.calm (notT h0)) (sI (xc := xc) it _ _ X sc W k.ok tk h2) (sT k.ok.hK k.ok.nd k.ok.eN k.ok.esc (fun x _ => k.fn x) (k.ok.calm (notT h0)) h3) (hb _ X sc W k tk h4) (notSet_of h1 _)) ?_
    rintro D σ H ⟨L, S, io, hL, hS, hp⟩
    unfold evalS at hp
    exact for_read hL hS hp
  · exact absurd h Bool.false_ne_true
theorem gs_rse (c : Nat) : GS P l N cf ht xc (.rse c) := fun s X sc W k tk h => by
  unfold chkS at h
  split at h
  · simp only [Bool.and_eq_true, decide_eq_true_eq] at h
    obtain ⟨⟨⟨h0, h1⟩, h2⟩, h3⟩ := h
    obtain ⟨C, e1, e2, e3, e4, B, newId, initId, bmB, F, e5⟩ := k.exs _ _ h1
    refine psImp (ps_raise (k.ok.calm (notT h0)) tk (pmk_own F e5 e1 e3 e4 (k.ok.gl h2) (nameB_of h3).1)) ?_
    rintro D σ H ⟨L, S, io, hL, hS, hp⟩
    unfold evalS at hp
    rw [← e2]
    exact hp io H σ Gr.refl hS hL
  · exact absurd h Bool.false_ne_true
theorem gss_nil : GSs P l N cf ht xc .nil := fun s X sc W k tk h => by
  unfold chkSs at h
  cases s with
  | nil =>
    refine pssImp pss_nil ?_
    rintro D σ H ⟨L, S, io, hL, hS, hp⟩
    unfold evalSs at hp
    exact hp io H σ Gr.refl hS hL
  | cons x xs => exact absurd h Bool.false_ne_true
theorem gss_cons {a : IS} {as : ISs} (ha : GS P l N cf ht xc a) (hb : GSs P l N cf ht xc as) : GSs P l N cf ht xc (.cons a as) := fun s X sc W k tk h => by
  unfold chkSs at h
  split at h
  · rw [Bool.and_eq_true] at h
    refine pssImp (pss_cons (ha _ X sc W k tk h.1) (hb _ X sc W k tk h.2)) ?_
    rintro D σ H ⟨L, S, io, hL, hS, hp⟩
    unfold evalSs at hp
    refine ⟨L, S, io, hL, hS, ?_⟩
    cases e : evalS P cf a xc L S with
    | nx L1 S1 =>
      rw [e] at hp
      exact fun io1 H1 σ1 g1 s1 l1 => ⟨L1, S1, io1, l1, s1, PoS.later (o := evalSs P cf as xc L1 S1) hp g1⟩
    | rt v S1 => rw [e] at hp; exact hp
    | bk L1 S1 => rw [e] at hp; exact hp
    | ct L1 S1 => rw [e] at hp; exact hp
    | exc c L1 S1 => rw [e] at hp; exact hp
    | bad => rw [e] at hp; exact hp
  · exact absurd h Bool.false_ne_true
theorem sole_sw (t e : Expr) (line : Nat) (env : Env) : swapsWithSole [t] e line env = swapsWith e (some t) line env := rfl
theorem sole_no {e : Expr} (h : notComp e = true) (t : Expr) (line : Nat) (env : Env) : swapsWithSole [t] e line env = pure false := swNo h (some t) line env
theorem sole_no2 {e t : Expr} {line : Nat} {env : Env} (hk : env.scope.kind = .function) (h : notComp e = true ∨ lcTup t e = true) : swapsWithSole [t] e line env = pure false := by
  rcases h with h | h
  · exact sole_no h t line env
  · unfold lcTup at h
    split at h
    · exact (sole_sw _ _ _ _).trans (swLc hk)
    · cases h
theorem swNm_of {sc : Scope} {t : Expr} (h : swNm sc t = true) : ∃ y p, t = .Name y p ∧ sc.names.lookup y = some .local := by
  unfold swNm at h
  split at h
  · exact ⟨_, _, rfl, by simpa using h⟩
  · cases h
theorem chkT_h1 {N : List Str} {sc : Scope} {f : Str → Bool} {tg : Tg} {t : Expr} (h : chkT N sc f tg t = true) (env : Env) : (assignEach [t] env).map (·.2) = [assign t env] := by
  unfold chkT at h
  split at h
  · rfl
  · rfl
  · cases h
theorem asg_end {tg : Tg} {r : Loc → Sto → R SV} {D : Ends} {σ : L2.St} {H : Hp} {L : Loc} {S : Sto} {io : List Addr} {W : WX} (hL : RL l io H L σ) (hS : Sim l S io H)
    (hp : PoS l ((r L S).st L fun v S1 => match tgS tg v L with
      | some L1 => .nx L1 S1
      | none => .bad) io H D W) : tE l W r σ H (fun x H1 => tG l tg x σ H1 D.nx) := by
  refine stE hL hS hp fun v S1 io1 H1 u g s l1 r hp1 => ?_
  cases e : tgS tg v L with
  | none => rw [e] at hp1; exact hp1.elim
  | some L1 =>
    rw [e] at hp1
    exact ⟨v, L, L1, S1, io1, l1, s, r, e, fun σ' l' _ => hp1 io1 H1 σ' Gr.refl s l'⟩
theorem gs_asg (tg : Tg) (e : IX) : GS P l N cf ht xc (.asg tg e) := fun s X sc W k tk h => by
  unfold chkS at h
  split at h
  · rename_i t ex pos
    simp only [Bool.and_eq_true, Bool.or_eq_true] at h
    obtain ⟨⟨⟨h0, h1⟩, h2⟩, h3⟩ := h
    have hT : PG X t (tG l tg) := by
      rcases h0 with h0 | h0
      · exact sT k.ok.hK k.ok.nd k.ok.eN k.ok.esc (fun x _ => k.fn x) (k.ok.calm (notT h0)) h2
      · cases tg with
        | tp is => cases h0
        | nm i =>
          unfold chkT at h2
          split at h2
          · rename_i i' x p q
            cases q
            obtain ⟨g1, g2, g3⟩ := nmOk_of k.ok.hK k.ok.nd k.ok.eN k.ok.esc (fun x _ => k.fn x) h2
            refine ⟨fun pins s σ H v u Q I r q => (pg_name (i := i) k.ok.nd g1 g2 g3).run pins s σ H v u Q I r ?_⟩
            obtain ⟨y, L, L1, S, io, hL, hS, hx, e1, q⟩ := q
            cases e1
            exact q _ (hL.set hx i) (But.set (i := i) But.refl List.mem_cons_self)
          · rename_i q; cases q
          · cases h2
    have hkf : X.env.scope.kind = .function := by rw [k.ok.esc]; exact k.kind
    have last : ∀ D σ H, tS l W (evalS P cf (.asg tg e) xc) D σ H → tAsg (tE l W (evalE P cf xc e)) (tG l tg) D σ H := by
      rintro D σ H ⟨L, S, io, hL, hS, hp⟩
      unfold evalS at hp
      exact asg_end hL hS hp
    rcases h3 with ⟨h3, h4⟩ | ⟨⟨h9, h3⟩, h4⟩
    · exact psImp (ps_asg (sE (xc := xc) e _ X sc W k.ok tk h1) hT (sole_no2 hkf h3) (swTno (sc := sc) hkf h4) (chkT_h1 h2 _)) last
    · -- a stored comprehension
      obtain ⟨y, py, e1, hyl⟩ := swNm_of h4
      subst e1
      have hyl' : X.env.scope.names.lookup y = some .local := by rw [k.ok.esc]; exact hyl
      obtain ⟨i, e2, hy, hyn⟩ : ∃ i, tg = .nm i ∧ N[i]? = some y ∧ True := by
        unfold chkT at h2
        split at h2
        · rename_i i x p q
          cases q
          unfold nmOk at h2
          rw [Bool.and_eq_true, decide_eq_true_eq] at h2
          exact ⟨i, rfl, h2.1, trivial⟩
        · rename_i q; cases q
        · cases h2
      subst e2
      have hyX : X.N[i]? = some y := by rw [k.ok.eN]; exact hy
      cases e with
      | lc tg2 it e own =>
        have h1' := h1
        unfold chkE at h1
        split at h1
        · rename_i elt t iter as scope cpos
          by_cases hsw : swV X.env.scope (.Name y py) (.ListComp elt [⟨t, iter, [], as⟩] scope cpos) pos.line = true
          · simp only [Bool.and_eq_true, decide_eq_true_eq] at h1
            obtain ⟨⟨⟨⟨⟨⟨⟨_, g0⟩, g1⟩, g2⟩, g3⟩, g4⟩, g5⟩, g6⟩ := h1
            subst g0
            have bo : BlkOk X.N X.env.scope scope (ownP N own) := by rw [k.ok.eN, k.ok.esc]; exact blkOk_by g1
            have kb := fun s H C cl fp => k.ok.blk (notT h9) s H scope C cl fp
            refine psImp (ps_setLc (own := ownP N own) (k.ok.calm (notT h9)) k.ok.nd hyX hyl' (by rw [swLc hkf, hsw]) (sI (xc := xc) it t _ X sc W k.ok tk g4) bo
              (fun s H C cl fp => sT (kb s H C cl fp).hK (kb s H C cl fp).nd (kb s H C cl fp).eN (kb s H C cl fp).esc (fnl := fun x => scope.names.lookup x == some .cell) (fun x hx => hx) ((kb s H C cl fp).calm (notT h9)) g5)
              (fun _ _ _ _ _ => pts_nil) (fun s H C cl fp => sE (xc := xc) e _ _ _ (fun _ _ _ _ => False) (kb s H C cl fp) takes_blk g6) (notSet_of g3 _)) ?_
            rintro D σ H ⟨L, S, io, hL, hS, hp⟩
            rw [ownP_snd]
            have hq := asg_end (tg := .nm i) (r := evalE P cf xc (.lc tg2 it e own)) hL hS (by unfold evalS at hp; exact hp)
            obtain ⟨L', S', io', hL', hS', hp'⟩ := hq
            unfold evalE at hp'
            refine lc_read (Q := fun x H1 => gName i x σ H1 D.nx) (k.ok.cold (notT h9)) (own_of g2) hL' hS' (c := fun _ S => .ok true S) ?_ (Po.imp hp' fun v S1 io1 H1 g s1 f u r => ?_)
            · rintro σ2 H2 K ⟨L2', S2, io2, l2, s2, hp2⟩
              exact hp2 io2 H2 Gr.refl s2
            · obtain ⟨x, L3, L4, S4, io4, l4, s4, r4, e4, q4⟩ := f u r
              cases e4
              exact q4 _ (l4.set r4 i) (But.set (i := i) But.refl List.mem_cons_self)
          · rw [Bool.not_eq_true] at hsw
            exact psImp (ps_asg (sE (xc := xc) _ _ X sc W k.ok tk h1') hT ((sole_sw _ _ _ _).trans ((swLc hkf).trans (by rw [hsw]))) (swTno (sc := sc) hkf rfl) rfl) last
        · exact absurd h1 Bool.false_ne_true
      | lcc tg2 it c e own =>
        have h1' := h1
        unfold chkE at h1
        split at h1
        · rename_i elt t iter ec as scope cpos
          by_cases hsw : swV X.env.scope (.Name y py) (.ListComp elt [⟨t, iter, [ec], as⟩] scope cpos) pos.line = true
          · simp only [Bool.and_eq_true, decide_eq_true_eq] at h1
            obtain ⟨⟨⟨⟨⟨⟨⟨⟨_, g0⟩, g1⟩, g2⟩, g3⟩, g4⟩, g5⟩, g7⟩, g6⟩ := h1
            subst g0
            have bo : BlkOk X.N X.env.scope scope (ownP N own) := by rw [k.ok.eN, k.ok.esc]; exact blkOk_by g1
            have kb := fun s H C cl fp => k.ok.blk (notT h9) s H scope C cl fp
            refine psImp (ps_setLc (own := ownP N own) (k.ok.calm (notT h9)) k.ok.nd hyX hyl' (by rw [swLc hkf, hsw]) (sI (xc := xc) it t _ X sc W k.ok tk g4) bo
              (fun s H C cl fp => sT (kb s H C cl fp).hK (kb s H C cl fp).nd (kb s H C cl fp).eN (kb s H C cl fp).esc (fnl := fun x => scope.names.lookup x == some .cell) (fun x hx => hx) ((kb s H C cl fp).calm (notT h9)) g5)
              (fun s H C cl fp => pts_one ((sB (xc := xc) c).1 _ _ _ (fun _ _ _ _ => False) (kb s H C cl fp) takes_blk g7)) (fun s H C cl fp => sE (xc := xc) e _ _ _ (fun _ _ _ _ => False) (kb s H C cl fp) takes_blk g6) (notSet_of g3 _)) ?_
            rintro D σ H ⟨L, S, io, hL, hS, hp⟩
            rw [ownP_snd]
            have hq := asg_end (tg := .nm i) (r := evalE P cf xc (.lcc tg2 it c e own)) hL hS (by unfold evalS at hp; exact hp)
            obtain ⟨L', S', io', hL', hS', hp'⟩ := hq
            unfold evalE at hp'
            refine lc_read (Q := fun x H1 => gName i x σ H1 D.nx) (k.ok.cold (notT h9)) (own_of g2) hL' hS' (fun _ _ _ z => z) (Po.imp hp' fun v S1 io1 H1 g s1 f u r => ?_)
            obtain ⟨x, L3, L4, S4, io4, l4, s4, r4, e4, q4⟩ := f u r
            cases e4
            exact q4 _ (l4.set r4 i) (But.set (i := i) But.refl List.mem_cons_self)
          · rw [Bool.not_eq_true] at hsw
            exact psImp (ps_asg (sE (xc := xc) _ _ X sc W k.ok tk h1') hT ((sole_sw _ _ _ _).trans ((swLc hkf).trans (by rw [hsw]))) (swTno (sc := sc) hkf rfl) rfl) last
        · exact absurd h1 Bool.false_ne_true
      | _ => exact absurd h3 Bool.false_ne_true
  · exact absurd h Bool.false_ne_true
theorem gs_par (is : List Nat) (es : IXs) : GS P l N cf ht xc (.par is es) := fun s X sc W k tk h => by
  unfold chkS at h
  split at h
  · rename_i ts kt pt vs k2 pt2 pos
    simp only [Bool.and_eq_true] at h
    obtain ⟨⟨⟨h0, h1⟩, h2⟩, h3⟩ := h
    have hkf : X.env.scope.kind = .function := by rw [k.ok.esc]; exact k.kind
    have h1' : swP X.env.scope ts vs = true := by rw [k.ok.esc]; exact h1
    unfold parOk at h2
    split at h2
    · rename_i i j x px y py
      simp only [Bool.and_eq_true, decide_eq_true_eq] at h2
      obtain ⟨⟨⟨n1, n2⟩, n3⟩, n4⟩ := h2
      obtain ⟨a, b, hv⟩ : ∃ a b, vs = [a, b] := by
        unfold swP at h1
        simp only [Bool.and_eq_true, decide_eq_true_eq] at h1
        have z := h1.1.1.1.1.1
        match vs, z with
        | [a, b], _ => exact ⟨a, b, rfl⟩
      subst hv
      obtain ⟨w1, w2, w3⟩ := swPar2 (px := px) (py := py) (pt := pt) (kt := kt) (k2 := k2) (pt2 := pt2) hkf h1' n4
      refine psImp (ps_par (k.ok.calm (notT h0)) k.ok.nd (by rw [k.ok.eN]; exact n1) (by rw [k.ok.eN]; exact n2) n3 w1 w2 (sA (xc := xc) es _ X sc W k.ok tk h3) w3) ?_
      rintro D σ H ⟨L, S, io, hL, hS, hp⟩
      unfold evalS at hp
      refine stA hL hS hp fun vs S1 io1 H1 us g s l1 r hp1 => ?_
      unfold tgS at hp1
      match vs, hp1 with
      | [v, w], hp1 =>
        obtain ⟨u1, r1, e1, q1, u2, r2, e2, q2, q3⟩ := r
        cases q3; cases e2; cases e1
        exact ⟨u1, u2, rfl, hp1 io1 H1 _ Gr.refl s ((l1.set q1 i).set q2 j)⟩
      | [], hp1 => exact hp1.elim
      | [_], hp1 => exact hp1.elim
      | _ :: _ :: _ :: _, hp1 => exact (show False from hp1).elim
    · rename_i i j m x px y py z pz
      simp only [Bool.and_eq_true, decide_eq_true_eq] at h2
      obtain ⟨⟨⟨⟨⟨⟨⟨⟨n1, n2⟩, n3⟩, n4⟩, n5⟩, n6⟩, n7⟩, n8⟩, n9⟩ := h2
      obtain ⟨a, b, c, hv⟩ : ∃ a b c, vs = [a, b, c] := by
        unfold swP at h1
        simp only [Bool.and_eq_true, decide_eq_true_eq] at h1
        have z := h1.1.1.1.1.1
        match vs, z with
        | [a, b, c], _ => exact ⟨a, b, c, rfl⟩
      subst hv
      obtain ⟨w1, w2, w3, w4⟩ := swPar3 (px := px) (py := py) (pz := pz) (pt := pt) (kt := kt) (k2 := k2) (pt2 := pt2) hkf h1' n7 n8 n9
      refine psImp (ps_par3 (k.ok.calm (notT h0)) k.ok.nd (by rw [k.ok.eN]; exact n1) (by rw [k.ok.eN]; exact n2) (by rw [k.ok.eN]; exact n3) n4 n5 n6 w1 w2 w3 (sA (xc := xc) es _ X sc W k.ok tk h3) w4) ?_
      rintro D σ H ⟨L, S, io, hL, hS, hp⟩
      unfold evalS at hp
      refine stA hL hS hp fun vs S1 io1 H1 us g s l1 r hp1 => ?_
      unfold tgS at hp1
      match vs, hp1 with
      | [v, w, t], hp1 =>
        obtain ⟨u1, r1, e1, q1, u2, r2, e2, q2, u3, r3, e3, q3, q4⟩ := r
        cases q4; cases e3; cases e2; cases e1
        exact ⟨u1, u2, u3, rfl, hp1 io1 H1 _ Gr.refl s (((l1.set q1 i).set q2 j).set q3 m)⟩
      | [], hp1 => exact hp1.elim
      | [_], hp1 => exact hp1.elim
      | [_, _], hp1 => exact hp1.elim
      | _ :: _ :: _ :: _ :: _, hp1 => exact (show False from hp1).elim
    · cases h2
  · exact absurd h Bool.false_ne_true
theorem gs_setI (o i e : IX) : GS P l N cf ht xc (.setI o i e) := fun s X sc W k tk h => by
  unfold chkS at h
  split at h
  · rename_i eo ei tpos ex pos
    simp only [Bool.and_eq_true] at h
    obtain ⟨⟨⟨⟨h1, h2⟩, h3⟩, h4⟩, h5⟩ := h
    have ha : ∀ v, assign (.Subscript eo ei tpos) X.env v = (do
      let ov ← holding [v] (eval eo X.env)
      let iv ← holding [v, ov] (eval ei X.env)
      standAt tpos
      holding [v, ov, iv] (setItem ov iv v)
      release [v, ov, iv] []) := fun v => by
      cases ei <;> first | rfl | exact absurd h1 Bool.false_ne_true
    refine psImp (ps_asg (sE (xc := xc) e _ X sc W k.ok tk h3) (pg_sub (sE (xc := xc) o _ X sc W k.ok tk h4) (sE (xc := xc) i _ X sc W k.ok tk h5) (set_any k.ok.hK) ha) (sole_no h2 _ _ _) rfl rfl) ?_
    rintro D σ H ⟨L, S, io, hL, hS, hp⟩
    unfold evalS at hp
    refine stE hL hS hp fun v S1 io1 H1 u g1 s1 l1 r1 hp1 => ?_
    refine stE l1 s1 hp1 fun x S2 io2 H2 u2 g2 s2 l2 r2 hp2 => ?_
    refine stE l2 s2 hp2 fun y S3 io3 H3 u3 g3 s3 l3 r3 hp3 => ?_
    cases e1 : setS x y v S3 with
    | none => rw [e1] at hp3; exact hp3.elim
    | some S4 =>
      rw [e1] at hp3
      exact ⟨x, y, v, S3, S4, io3, s3, g3.rv s2 r2, r3, g3.rv s2 (g2.rv s1 r1), e1, fun io4 H4 g4 s4 => hp3 io4 H4 σ g4 s4 (g4.rl s3 l3)⟩
  · exact absurd h Bool.false_ne_true
theorem setAS_some {m c f : Nat} {x v : SV} {S S' : Sto} (h : setAS m c f x v S = some S') : ∃ n fs, x = .ref n ∧ S[n]? = some (.ins c fs) ∧ fs.length = m ∧ f < fs.length ∧ S' = S.set n (.ins c (fs.set f (some v))) := by
  unfold setAS at h
  split at h
  · rename_i n
    split at h
    · rename_i c' fs e
      split at h
      · rename_i hc
        obtain ⟨rfl, h1, h2⟩ := hc
        cases h
        exact ⟨n, fs, rfl, e, h1, h2, rfl⟩
      · cases h
    · cases h
  · cases h
/-- a field is stored -/
theorem sim_field {K : PySem.W.Frag} {mg : Str → Option Value} {c f n : Nat} {C : ClsI} {x : Str} {S : Sto} {io : List Addr} {H : Hp} {fs : List (Option SV)} {v : SV} {u : V} {a dx : Addr} {gs : List (Str × V)} (ck : COk K mg l c C) (hx : C.flds[f]? = some x)
    (s : Sim l S io H) (ha : io[n]? = some a) (hl : fs.length = C.flds.length) (hf : f < fs.length) (hnd : (gs.map (·.1)).Nodup) (hk : ∀ m ∈ gs.map (·.1), ∃ f, f < fs.length ∧ l.fn c f = m)
    (hv : ∀ (f : Nat) (o : Option SV), fs[f]? = some o → match o with
        | some v => ∃ u, gs.lookup (l.fn c f) = some u ∧ RV l.K io H v u
        | none => gs.lookup (l.fn c f) = none) (r : RV l.K io H v u) :
    Sim l (S.set n (.ins c (fs.set f (some v)))) io (L2.upd H a (.ins (l.ca c) dx (putF x u gs))) ∧ gs.length < 1000 := by
  have g := Gr.upd (o := .ins (l.ca c) dx (putF x u gs)) s ha
  have hfx := (ck.fn f x hx).1
  have nm : ∀ f', f' < fs.length → C.flds[f']? = some (l.fn c f') := fun f' h => by
    have h3 : C.flds[f']? = some C.flds[f'] := List.getElem?_eq_getElem (by omega)
    rw [(ck.fn f' _ h3).1]
    exact h3
  constructor
  · refine s.upd ha ⟨dx, _, upd_same, ⟨?_, fun m hm => ?_⟩, fun f' o ho => ?_⟩
    · rw [keys_putF]
      split
      · exact hnd
      · rename_i h
        rw [List.nodup_append]
        exact ⟨hnd, by simp, fun b hb d hd e => by
          rw [List.mem_singleton.mp hd] at e
          exact h (e ▸ hb)⟩
    · rw [List.length_set]
      rw [keys_putF] at hm
      split at hm
      · exact hk m hm
      · rcases List.mem_append.mp hm with hm | hm
        · exact hk m hm
        · rw [List.mem_singleton.mp hm]
          exact ⟨f, hf, hfx⟩
    · rw [lookup_putF]
      by_cases e : f' = f
      · subst e
        rw [List.getElem?_set_self hf] at ho
        cases ho
        refine ⟨u, by rw [if_pos hfx], g.rv s r⟩
      · rw [List.getElem?_set_ne (fun z => e z.symm)] at ho
        have hf' : f' < fs.length := (List.getElem?_eq_some_iff.mp ho).1
        have hne : l.fn c f' ≠ x := fun z => by
          have h1 := nm f' hf'
          rw [z] at h1
          have i1 := (List.getElem?_eq_some_iff.mp h1)
          have i2 := (List.getElem?_eq_some_iff.mp hx)
          obtain ⟨j1, e1⟩ := i1
          obtain ⟨j2, e2⟩ := i2
          rcases Nat.lt_trichotomy f' f with w | w | w
          · exact (List.pairwise_iff_getElem.mp ck.nd) f' f j1 j2 w (e1.trans e2.symm)
          · exact e w
          · exact (List.pairwise_iff_getElem.mp ck.nd) f f' j2 j1 w (e2.trans e1.symm)
        rw [if_neg hne]
        have old := hv f' o ho
        cases o with
        | none => exact old
        | some w =>
          obtain ⟨u', h1, h2⟩ := old
          exact ⟨u', h1, g.rv s h2⟩
  · have h1 : (gs.map (·.1)).length ≤ C.flds.length := few_of_sub hnd fun m hm => by
      obtain ⟨f', h2, h3⟩ := hk m hm
      have h4 := nm f' h2
      rw [h3] at h4
      exact List.mem_of_getElem? h4
    rw [List.length_map] at h1
    have := ck.few
    omega
theorem gs_setA (c f : Nat) (o e : IX) : GS P l N cf ht xc (.setA c f o e) := fun s X sc W k tk h => by
  unfold chkS at h
  split at h
  · rename_i eo x tpos ex pos
    split at h
    · rename_i C q
      simp only [Bool.and_eq_true, decide_eq_true_eq] at h
      obtain ⟨⟨⟨h1, h2⟩, h3⟩, h4⟩ := h
      have ck := k.ok.cls c C q
      obtain ⟨fe, na⟩ := ck.fn f x h1
      refine psImp (ps_fld (sE (xc := xc) o _ X sc W k.ok tk h4) (sE (xc := xc) e _ X sc W k.ok tk h3) (swNo h2 _ _ _)) ?_
      rintro D σ H ⟨L, S, io, hL, hS, hp⟩
      unfold evalS at hp
      refine stE hL hS hp fun v S1 io1 H1 u g1 s1 l1 r1 hp1 => ?_
      refine stE l1 s1 hp1 fun y S2 io2 H2 u2 g2 s2 l2 r2 hp2 => ?_
      rw [q] at hp2
      dsimp only at hp2
      cases e1 : setAS C.flds.length c f y v S2 with
      | none => rw [e1] at hp2; exact hp2.elim
      | some S3 =>
        rw [e1] at hp2
        obtain ⟨n, fs, rfl, hn, hl, hf, rfl⟩ := setAS_some e1
        obtain ⟨a, h8, h9⟩ := s2.ob n _ hn
        obtain ⟨a', h10, h11⟩ := r2
        rw [h8] at h10
        cases h10
        obtain ⟨dx, gs, h12, ⟨hnd, hk⟩, hv⟩ := h9
        have sf := sim_field (v := v) (u := u) (dx := dx) ck h1 s2 h8 hl hf hnd hk hv (g2.rv s1 r1)
        exact ⟨a, l.ca c, dx, gs, h11, h12, ck.cl, na, sf.2, hp2 io2 _ σ (Gr.upd s2 h8) sf.1 ((Gr.upd s2 h8).rl s2 l2)⟩
    · exact absurd h Bool.false_ne_true
  · exact absurd h Bool.false_ne_true
theorem iop_mulM {X : Cx} : OpR X (inplaceOp .Mult) (rI (fun i j => mulOk i j = true) fun i j => .int (i * j)) := opI fun i j _ _ _ _ _ hc q => imul_int q (CMulW.ok (show i.natAbs.log2 + j.natAbs.log2 < 1000000 from of_decide_eq_true hc))
theorem gs_aug (i : Nat) (o : B2) (e : IX) : GS P l N cf ht xc (.aug i o e) := fun s X sc W k tk h => by
  unfold chkS at h
  split at h
  · rename_i x px op ex pos
    simp only [Bool.and_eq_true, decide_eq_true_eq] at h
    obtain ⟨⟨⟨h1, h2⟩, h3⟩, h4⟩ := h
    subst h2
    obtain ⟨n1, n2, n3⟩ := nmOk_of k.ok.hK k.ok.nd k.ok.eN k.ok.esc (fun x _ => k.fn x) h3
    have go : ∀ {ti : TIp} {iw : SV → SV → Sto → R SV}, (∀ x y S, augop o x y S = iw x y S) → PIp X (b2op o) ti → (∀ {σ : L2.St} {H : Hp} {Q : VK} {L : Loc} {S : Sto} {io : List Addr} {x y : SV} {u v : V}, Sim l S io H → RV l.K io H x u → RV l.K io H y v → Po l (iw x y S) io H (FV l Q) (EW l W σ) → ti u v H Q) →
        PS X (.AugAssign (.Name x px) (b2op o) ex pos) (tS l W (evalS P cf (.aug i o e) xc)) := fun {ti iw} hi hp hk => by
      refine psImp (ps_aug k.ok.nd n1 n2 (sE (xc := xc) e _ X sc W k.ok tk h4) hp n3) ?_
      rintro D σ H ⟨L, S, io, hL, hS, hp⟩
      unfold evalS at hp
      split at hp
      · rename_i v ev
        obtain ⟨u, e1, r1⟩ := hL.at_ i v ev
        refine ⟨u, e1, ?_⟩
        refine stE hL hS hp fun y S1 io1 H1 w g1 s1 l1 r2 hp1 => ?_
        rw [hi] at hp1
        refine hk (S := S1) (L := L) (σ := σ) s1 (g1.rv hS r1) r2 ((PoS.st l1 s1 hp1).imp fun z S2 io2 H2 g2 s2 hp2 u2 r3 => ?_)
        exact hp2 io2 H2 _ Gr.refl s2 ((g2.rl s1 l1).set r3 i)
      · exact hp.elim
    cases o with
    | add =>
      refine go (iw := augop .add) (fun _ _ _ => rfl) iop_add fun {σ H Q L S io x y u v} hS r1 r2 hp => ?_
      unfold augop at hp
      split at hp
      all_goals first
        | (rename_i q; cases q; done)
        | exact hp.elim
        | skip
      rename_i i j _
      cases r1; cases r2
      exact ⟨_, _, rfl, rfl, hp.val hS rfl⟩
    | sub =>
      refine go (iw := augop .sub) (fun _ _ _ => rfl) iop_sub fun {σ H Q L S io x y u v} hS r1 r2 hp => ?_
      unfold augop at hp
      split at hp
      all_goals first
        | (rename_i q; cases q; done)
        | exact hp.elim
        | skip
      rename_i i j _
      cases r1; cases r2
      exact ⟨_, _, rfl, rfl, hp.val hS rfl⟩
    | mul =>
      refine go (iw := augop .mul) (fun _ _ _ => rfl) iop_mulM fun {σ H Q L S io x y u v} hS r1 r2 hp => ?_
      unfold augop at hp
      split at hp
      all_goals first
        | (rename_i q; cases q; done)
        | exact hp.elim
        | skip
      rename_i i j _
      cases r1; cases r2
      split at hp
      · rename_i hm
        exact ⟨_, _, rfl, rfl, hm, hp.val hS rfl⟩
      · exact hp.elim
    | _ => exact absurd h1 Bool.false_ne_true
  · exact absurd h Bool.false_ne_true
/-- isinstance of the handled exception, asked of a tuple -/
theorem call_isET {X : Cx} {a D : Addr} {oe : Obj} {pn : List (Addr × Obj)} (C : ExcC X.K D) (hz : Zc (.ref D) none oe) (hf : ∃ vs, oe.data = .fields vs) : CallR (X.suite a ((a, oe) :: pn)) (.builtin "isinstance") (rIsET X.K D a) := by
  intro pins s σ H xs us Q I r h
  obtain ⟨tp, cs, ws, b, rfl, hT, hu, e, q⟩ := h
  obtain ⟨u1, u2, rfl, r1, r2⟩ := vals2 r
  cases (show u1 = Value.ref a from r1)
  cases (show u2 = Value.ref tp from r2)
  obtain ⟨_, its, rv, o, h1, h2, n, h3⟩ := (show ObjOk X.prog X.w H s.heap tp (.tup cs) from I.hok tp _ hT)
  have e3 := hu _ rv
  subst e3
  obtain ⟨oc, od, dt, sl⟩ := o
  simp only at h2 h3
  subst h2 h3
  obtain ⟨hget, _⟩ := I.pin (a, oe) (List.mem_append.mpr (.inl List.mem_cons_self))
  obtain ⟨vs, hv⟩ := hf
  have J : PySem.W.InstAt s.heap a oe D none := by
    obtain ⟨oc, od, oda, osl⟩ := oe
    obtain ⟨h1, h2⟩ := hz
    dsimp only at h1 h2 hv
    subst h1 h2 hv
    exact ⟨hget, rfl, rfl, trivial⟩
  exact PySem.W.kia_tup (PySem.W.handS_kitx_exc C.hg C.hk C.hs C.hd C.ha C.hn C.ht C.hm) I.kIn J h1 e (fun z => nomatch z) fun tk => ⟨.bl b, H, I.tok tk, rfl, q⟩
theorem gs_try {b b' : ISs} {d i : Nat} (hb : GSs P l N cf ht xc b) (hb' : ∀ (l : Lk) (xc : Option (Nat × Option Nat)), GSs P l N cf true xc b') : GS P l N cf ht xc (.try_ b (.cons [d] (some i) b' .nil)) := fun s X sc W k tk h => by
  unfold chkS at h
  split at h
  · rename_i body x np n b0 suite pos' pos
    simp only [Bool.and_eq_true, decide_eq_true_eq, beq_iff_eq] at h
    obtain ⟨⟨⟨⟨⟨⟨⟨h0, h1⟩, h2⟩, h3⟩, h4⟩, h5⟩, h6⟩, h7⟩ := h
    have h0 := notT h0
    obtain ⟨st1, st2⟩ := k.stk h0
    obtain ⟨n1, n2, n3⟩ := nameB_of h3
    obtain ⟨C, e1, e2, _⟩ := k.exs d x h1
    have cold := k.ok.cold h0
    have hloc : X.env.kindOf n = some .local := by
      show X.env.scope.names.lookup n = some .local
      rw [k.ok.esc]; exact h5
    refine psImp (ps_try_as (X := X) (i := i) (c := .ref C) (tb := fun W' => tS l W' (evalSs P cf b xc))
      (ts := fun a cls dd D σ H => ∃ c x, P.excs[c]? = some x ∧ cls = l.ea c ∧ dd = none ∧ tS { l with gd := some (i, a) } (fun _ _ _ _ => False) (evalSs P cf b' (some (c, some i))) D σ H) (Wout := W) st1 st2 k.ok.nd (by rw [k.ok.eN]; exact h4) hloc ⟨k.ok.gl h2, n1, .inl e1⟩ tk
      (fun W' pn xe tk' po' => hb _ (X.tr pn xe) sc W' ⟨⟨k.ok.hK, k.ok.eN, k.ok.nd, k.ok.esc, k.ok.calm, k.ok.cold, k.ok.hu, k.ok.blt, k.ok.glo, k.ok.dfs, fun z => (by rw [h0] at z; cases z), k.ok.isC, k.ok.cfl, k.ok.cls, k.ok.mks, k.ok.mts⟩, k.fn, k.kind, fun _ => po', fun _ => ⟨st1, st2⟩, k.exs, k.exC, k.sub⟩ tk' h6)
      (fun a oe cls dd pn hz hf => ⟨fun pins s σ H D I ht' => ?_⟩)) ?_
    · obtain ⟨c, xn, hc, rfl, rfl, ht'⟩ := ht'
      obtain ⟨Dc, eD, eC⟩ := k.exC c xn hc
      rw [eD] at hz
      refine (hb' { l with gd := some (i, a) } (some (c, some i)) _ (X.suite a ((a, oe) :: pn)) sc (fun _ _ _ _ => False) ⟨⟨k.ok.hK, k.ok.eN, k.ok.nd, k.ok.esc, fun z => (nomatch z), fun z => (nomatch z), k.ok.hu, k.ok.blt, k.ok.glo, fun z => (nomatch z), fun _ c' i' q => ?_, fun c' d' n' x' q hd' => ?_, k.ok.cfl, fun c' C' q => have z := k.ok.cls c' C' q; ⟨z.cl, z.nm, z.nd, z.few, z.fn⟩, fun z => (nomatch z), fun z => (nomatch z)⟩, k.fn, k.kind, fun z => (nomatch z), fun z => (nomatch z), k.exs, k.exC, k.sub⟩ takes0 h7).run pins s σ H D I ht'
      · cases q
        exact ⟨a, Dc, rfl, eD, call_isE eC hz hf, call_isET eC hz hf⟩
      · cases q
        obtain ⟨C', g1, g2, _⟩ := k.exs d' x' hd'
        exact ⟨C', g1, g2, by rw [← g2]; exact (k.sub c d' xn x' hc hd').1⟩
    · rintro D σ H ⟨L, S, io, hL, hS, hp⟩
      unfold evalS at hp
      refine ⟨L, S, io, hL, hS, ?_⟩
      cases e : evalSs P cf b xc L S with
      | nx L1 S1 => rw [e] at hp; exact hp
      | rt v S1 => rw [e] at hp; exact hp
      | bk L1 S1 => rw [e] at hp; exact hp
      | ct L1 S1 => rw [e] at hp; exact hp
      | bad => rw [e] at hp; exact hp
      | exc c L1 S1 =>
        rw [e] at hp
        dsimp only at hp
        unfold evalH at hp
        intro io1 H1 σ1 g1 s1 l1
        cases hc : P.excs[c]? with
        | none => rw [hc] at hp; exact hp.elim
        | some xn =>
          rw [hc] at hp
          dsimp only at hp
          have hs := (k.sub c d xn x hc h1).2
          rw [e2] at hs
          have ea : [d].any (P.sub c) = P.sub c d := by rw [List.any_cons]; exact Bool.or_false _
          rw [ea] at hp
          refine ⟨P.sub c d, hs, fun hb a na => ⟨c, xn, hc, rfl, rfl, L1.set i none, S1, io1, l1.exIn i a, ⟨s1.len, s1.nd, s1.ob⟩, ?_⟩, fun hf => ?_⟩
          · rw [hb] at hp
            dsimp only at hp
            have hp := PoS.later hp g1
            have hp : PoS l (dropN (some i) (evalSs P cf b' (some (c, some i)) (L1.set i none) S1)) io1 H1 D W := hp
            cases e4 : evalSs P cf b' (some (c, some i)) (L1.set i none) S1 with
            | nx L2 S2 => rw [e4] at hp; exact fun io2 H2 σ2 g2 s2 l2 => hp io2 H2 _ g2 ⟨s2.len, s2.nd, s2.ob⟩ ((l2.exOut cold).none cold i)
            | rt v S2 => rw [e4] at hp; exact fun io2 H2 u2 g2 s2 r2 => hp io2 H2 u2 g2 ⟨s2.len, s2.nd, s2.ob⟩ r2
            | bk L2 S2 => rw [e4] at hp; exact fun io2 H2 σ2 g2 s2 l2 => hp io2 H2 _ g2 ⟨s2.len, s2.nd, s2.ob⟩ ((l2.exOut cold).none cold i)
            | ct L2 S2 => rw [e4] at hp; exact fun io2 H2 σ2 g2 s2 l2 => hp io2 H2 _ g2 ⟨s2.len, s2.nd, s2.ob⟩ ((l2.exOut cold).none cold i)
            | exc c2 L2 S2 => rw [e4] at hp; exact hp.elim
            | bad => rw [e4] at hp; exact hp.elim
          · rw [hf] at hp
            dsimp only at hp
            unfold evalH at hp
            exact hp io1 H1 σ1 g1 s1 l1
  · exact absurd h Bool.false_ne_true
theorem gs_no {x : IS} (h : ∀ sc s, chkS P N ht x sc s = false) : GS P l N cf ht xc x := fun s X sc W k tk hc => by
  rw [h sc s] at hc
  cases hc
mutual
theorem sS : ∀ (x : IS) (l : Lk) (ht : Bool) (xc : Option (Nat × Option Nat)), GS P l N cf ht xc x
  | .pass, l, ht, xc => gs_pass
  | .expr e, l, ht, xc => gs_expr e
  | .ret e, l, ht, xc => gs_ret e
  | .asg tg e, l, ht, xc => gs_asg tg e
  | .par is es, l, ht, xc => gs_par is es
  | .setI o i e, l, ht, xc => gs_setI o i e
  | .setA c f o e, l, ht, xc => gs_setA c f o e
  | .aug i o e, l, ht, xc => gs_aug i o e
  | .augA c f o op e, l, ht, xc => gs_no fun sc s => by unfold chkS; rfl
  | .iff c a b, l, ht, xc => gs_iff (sSs a l ht xc) (sSs b l ht xc)
  | .whl c b, l, ht, xc => gs_whl (sSs b l ht xc)
  | .for_ tg it b, l, ht, xc => gs_for (sSs b l ht xc)
  | .brk, l, ht, xc => gs_brk
  | .cont, l, ht, xc => gs_cont
  | .rse c, l, ht, xc => gs_rse c
  | .try_ b (.cons [d] (some i) b' .nil), l, ht, xc => gs_try (sSs b l ht xc) fun l xc => sSs b' l true xc
  | .try_ b .nil, l, ht, xc => gs_no fun sc s => by unfold chkS; rfl
  | .try_ b (.cons [] n b' hs), l, ht, xc => gs_no fun sc s => by unfold chkS; rfl
  | .try_ b (.cons (_ :: _ :: _) n b' hs), l, ht, xc => gs_no fun sc s => by unfold chkS; rfl
  | .try_ b (.cons [_] none b' hs), l, ht, xc => gs_no fun sc s => by unfold chkS; rfl
  | .try_ b (.cons [_] (some _) b' (.cons ..)), l, ht, xc => gs_no fun sc s => by unfold chkS; rfl
theorem sSs : ∀ (x : ISs) (l : Lk) (ht : Bool) (xc : Option (Nat × Option Nat)), GSs P l N cf ht xc x
  | .nil, l, ht, xc => gss_nil
  | .cons a as, l, ht, xc => gss_cons (sS a l ht xc) (sSs as l ht xc)
end
end
end Bi

/-! Bi12: the whole program; the law's end. -/
namespace Bi
open PySem PySem.Spec PyProof.Rows L2

/-- one def behind the top -/
structure DOk (K : PySem.W.Frag) (mg : Str → Option Value) (D : DefI) (p : Addr × FuncData) : Prop where
  fn : Fun K D.nm D.qual D.st p.1 p.2
  bd : Binds K p.2 (D.N.take D.np) []
  gl : D.qual = D.nm → mg D.nm = some (.ref p.1)
def DAll (R : DefI → Addr × FuncData → Prop) : List DefI → List (Addr × FuncData) → Prop
  | [], [] => True
  | D :: Ds, p :: ps => R D p ∧ DAll R Ds ps
  | _, _ => False
theorem DAll.get {R : DefI → Addr × FuncData → Prop} : ∀ {Ds : List DefI} {ps : List (Addr × FuncData)}, DAll R Ds ps → ∀ {d : Nat} {D : DefI}, Ds[d]? = some D → ∃ p, ps[d]? = some p ∧ R D p
  | [], [], _, d, D, h => by simp at h
  | [], _ :: _, h, _, _, _ => h.elim
  | _ :: _, [], h, _, _, _ => h.elim
  | D :: Ds, p :: ps, h, 0, D', e => by
    have e2 : D = D' := by simpa using e
    subst e2
    exact ⟨p, rfl, h.1⟩
  | D :: Ds, p :: ps, h, d + 1, D', e => by
    obtain ⟨q, h1, h2⟩ := DAll.get (Ds := Ds) (ps := ps) h.2 (d := d) (D := D') (by simpa using e)
    exact ⟨q, by simpa using h1, h2⟩
theorem DAll.some {R : DefI → Addr × FuncData → Prop} : ∀ {Ds : List DefI} {ps : List (Addr × FuncData)}, DAll R Ds ps → ∀ {d : Nat} {p : Addr × FuncData}, ps[d]? = some p → ∃ D, Ds[d]? = some D
  | [], [], _, d, p, h => by simp at h
  | [], _ :: _, h, _, _, _ => h.elim
  | _ :: _, [], h, _, _, _ => h.elim
  | D :: Ds, p :: ps, h, 0, p', e => ⟨D, rfl⟩
  | D :: Ds, p :: ps, h, d + 1, p', e => by
    obtain ⟨q, h1⟩ := DAll.some (Ds := Ds) (ps := ps) h.2 (d := d) (p := p') (by simpa using e)
    exact ⟨q, by simpa using h1⟩
theorem DAll.nil {R : DefI → Addr × FuncData → Prop} : DAll R [] [] := True.intro
theorem DAll.cons {R : DefI → Addr × FuncData → Prop} {D : DefI} {p : Addr × FuncData} {Ds : List DefI} {ps : List (Addr × FuncData)} (h : R D p) (t : DAll R Ds ps) : DAll R (D :: Ds) (p :: ps) := ⟨h, t⟩
/-- the text of a def is what its program in the small language says -/
structure TOk (P : Prog) (D : DefI) : Prop where
  sc : FnScope D.N (D.N.take D.np) (defScope D.st)
  np : D.np ≤ D.N.length
  ck : chkSs P D.N false D.body (defScope D.st) (defBody D.st) = true
structure EOk (K : PySem.W.Frag) (mg : Str → Option Value) (x : Str) (C : Addr) : Prop where
  gC : mg x = some (.ref C)
  kC : PySem.W.keepIn K (.ref C) = true
  sub : PySem.W.subIn K (.ref C) (.type "BaseException") = some true
  ty : PySem.W.typeIn K (.ref C) = some (.type "type")
  ex : ∃ B newId initId bmB, ExcBaseFacts B newId initId bmB ∧ PySem.W.excIn K C bmB newId = true
  ec : ExcC K C
structure Tx (P : Prog) (l : Lk) (mg : Str → Option Value) (fs : List (Addr × FuncData)) : Prop where
  cold : l.gd = none
  defs : DAll (DOk l.K mg) P.defs fs
  txt : ∀ D ∈ P.defs, TOk P D
  blt : ∀ x ∈ bltNames, mg x = none
  glo : ∀ (g : Nat) (p : Str × SV), P.glos[g]? = some p → ∃ u v, mg p.1 = some u ∧ RelV v u ∧ ∀ io H, RV l.K io H p.2 v
  exs : ∀ (c : Nat) (x : Str), P.excs[c]? = some x → ∃ C, l.ea c = .ref C ∧ EOk l.K mg x C
  sub : ∀ (c d : Nat) (x y : Str), P.excs[c]? = some x → P.excs[d]? = some y → PySem.W.kitOne l.K (l.ea c) (l.ea d) = some (P.sub c d) ∧ PySem.W.exmOne l.K (l.ea c) (l.ea d) = some (P.sub c d)
  cls : ∀ (c : Nat) (C : ClsI), P.clss[c]? = some C → COk l.K mg l c C ∧ ∃ p, fs[C.ini]? = some p ∧ Mk l.K (l.ca c) p.1
  mts : ∀ (c : Nat) (C : ClsI) (m : Nat) (x : Str) (d : Nat), P.clss[c]? = some C → C.mts[m]? = some (x, d) → ∃ p, fs[d]? = some p ∧ Meth l.K (l.ca c) x p.1
section
variable {P : Prog} {l : Lk} {mg : Str → Option Value} {fs : List (Addr × FuncData)} {Pm : Program} {w : World} {base : Heap}
theorem callD_len : ∀ (k d : Nat) (D : DefI) (vs : List SV) (S : Sto), P.defs[d]? = some D → vs.length ≠ D.np → callD P k d vs S = .bad
  | 0, _, _, _, _, _, _ => rfl
  | k + 1, d, D, vs, S, h, n => by
    unfold callD
    rw [h]
    dsimp only
    rw [if_neg n]
theorem make_eq {k c : Nat} {C : ClsI} (q : P.clss[c]? = some C) (vs : List SV) (S : Sto) : callD P (k + 1) (P.defs.length + c) vs S = (callD P k C.ini (.ref S.length :: vs) (S ++ [.ins c (List.replicate C.flds.length none)])).bind fun v S2 => match v with
      | .non => .ok (.ref S.length) S2
      | _ => .bad := by
  have hno : P.defs[P.defs.length + c]? = none := List.getElem?_eq_none (by omega)
  have hc : P.defs.length + c - P.defs.length = c := by omega
  conv => lhs; unfold callD
  rw [hno]
  dsimp only
  rw [hc, q] <;> rfl
theorem rl_start {io : List Addr} {H : Hp} {as : List SV} {vs : List V} (N : List Str) (hg : l.gd = none) (h : RVs l.K io H as vs) : RL l io H (Bi.start N.length as) (L2.start N vs) := by
  have hl := h.length
  unfold Bi.start L2.start
  refine ⟨by simp [hl], fun i v e => ?_, fun i a g => by rw [hg] at g; cases g⟩
  by_cases hi : i < as.length
  · rw [List.getElem?_append_left (by simpa using hi), List.getElem?_map] at e
    cases q : as[i]? with
    | none => rw [q] at e; cases e
    | some x =>
      rw [q] at e
      cases e
      obtain ⟨u, h1, h2⟩ := h.get q
      exact ⟨u, by rw [List.getElem?_append_left (by rw [List.length_map, ← hl]; exact hi), List.getElem?_map, h1]; rfl, h2⟩
  · rw [List.getElem?_append_right (by simpa using hi), List.getElem?_replicate] at e
    split at e <;> cases e
theorem all_ok (T : Tx P l mg fs) : ∀ (k d : Nat) (D : DefI) (p : Addr × FuncData), P.defs[d]? = some D → fs[d]? = some p →
    FnOk Pm w l.K mg base (L2.CX Pm w) (2 * k) p.1 p.2 (D.N.take D.np) (spI l (callD P k) D.np d)
  | 0, d, D, p, hD, hp => by
    have no : ∀ vs H Q E, ¬ spI l (callD P 0) D.np d vs H Q E := fun vs H Q E ⟨as, S, io, _, _, _, h⟩ => h
    exact ⟨fun vs H Q E h => (no _ _ _ _ h).elim, fun _ _ _ _ _ _ _ _ _ _ _ _ _ h => (no _ _ _ _ h).elim⟩
  | k + 1, d, D, p, hD, hp => by
    obtain ⟨p', e1, dk⟩ := T.defs.get hD
    rw [hp] at e1
    cases e1
    have tx := T.txt D (List.mem_of_getElem? hD)
    show FnOk Pm w l.K mg base (L2.CX Pm w) ((2 * k + 1) + 1) p.1 p.2 (D.N.take D.np) (spI l (callD P (k + 1)) D.np d)
    refine dk.fn.okX tx.sc (fun vs H Q E h => ?_) (fun cdv A outer s H vs Q E hr h => ?_)
    · obtain ⟨as, S, io, h1, _, h2, _⟩ := h
      rw [← h1.length, h2, List.length_take]
      exact (Nat.min_eq_left tx.np).symm
    · obtain ⟨as, S, io, h1, hS, h2, hpo⟩ := h
      refine ⟨_, sSs (P := P) (N := D.N) (cf := callD P k) D.body l false none (defBody D.st) _ (defScope D.st) (fun cls d _ H => E cls d H) ⟨⟨rfl, rfl, tx.sc.nd, rfl, fun _ => rfl, fun _ => T.cold, hr.units, T.blt, T.glo, fun _ d' D' hD' => ?_, fun h => (by cases h), fun c d n x h => (by cases h), fun d' D' vs' S' hD' hn => callD_len k d' D' vs' S' hD' hn, fun c C q => (T.cls c C q).1, fun _ c C q => ?_, fun _ c C m x d' q q2 => ?_⟩, fun _ => rfl, tx.sc.kind, fun _ => passes_of rfl, fun _ => ⟨rfl, rfl⟩, fun c x hc => ?_, fun c x hc => (T.exs c x hc).imp fun C q => ⟨q.1, q.2.ec⟩, T.sub⟩ (takes_of rfl rfl rfl rfl) tx.ck, ?_⟩
      · obtain ⟨p', e1, dk'⟩ := T.defs.get hD'
        exact ⟨p'.1, p'.2, 2 * k, all_ok T k d' D' p' hD' e1, hr.mono (by omega), dk'.bd, dk'.fn.kp, dk'.gl⟩
      · obtain ⟨_, p', e1, hM⟩ := T.cls c C q
        obtain ⟨D', hD'⟩ := T.defs.some e1
        obtain ⟨p2, e2, dk'⟩ := T.defs.get hD'
        rw [e1] at e2
        cases e2
        cases k with
        | zero => exact ⟨p'.1, p'.2, 0, D', callD P 0, hD', hM, all_ok T 0 C.ini D' p' hD' e1, hr, dk'.bd, fun vs S hn => callD_len 0 C.ini D' vs S hD' hn, fun vs S => rfl⟩
        | succ k =>
          refine ⟨p'.1, p'.2, 2 * k, D', callD P k, hD', hM, all_ok T k C.ini D' p' hD' e1, hr.mono (by omega), dk'.bd, fun vs S hn => callD_len k C.ini D' vs S hD' hn, fun vs S => ?_⟩
          exact make_eq q vs S
      · obtain ⟨p', e1, hM⟩ := T.mts c C m x d' q q2
        obtain ⟨D', hD'⟩ := T.defs.some e1
        obtain ⟨p2, e2, dk'⟩ := T.defs.get hD'
        rw [e1] at e2
        cases e2
        exact ⟨D', p'.1, p'.2, 2 * k, hD', hM, all_ok T k d' D' p' hD' e1, hr.mono (by omega), dk'.bd⟩
      · obtain ⟨C, e1, ek⟩ := T.exs c x hc
        exact ⟨C, ek.gC, e1, ek.kC, raises_own ek.sub ek.ty, ek.ex⟩
      · refine ⟨Bi.start D.N.length as, S, io, rl_start D.N T.cold h1, hS, ?_⟩
        unfold callD at hpo
        rw [hD] at hpo
        dsimp only at hpo
        rw [if_pos h2] at hpo
        cases e : evalSs P (callD P k) D.body none (Bi.start D.N.length as) S with
        | nx L1 S1 =>
          rw [e] at hpo
          exact fun io' H' σ' g s' l' => hpo io' H' g s' .non rfl
        | rt v S1 =>
          rw [e] at hpo
          exact fun io' H' u g s' r => hpo io' H' g s' u r
        | exc c L1 S1 =>
          rw [e] at hpo
          exact fun io' H' σ' g s' l' => hpo io' H' g s'
        | bk L1 S1 => rw [e] at hpo; exact hpo.elim
        | ct L1 S1 => rw [e] at hpo; exact hpo.elim
        | bad => rw [e] at hpo; exact hpo.elim
/-- the law's own promise -/
def spLaw (K : PySem.W.Frag) (n : Nat) : Sp := fun vs H Q _ => ∃ (a : Addr) (ns : List Int), vs = [.ref a] ∧ ns.length ≤ n ∧ Only H ∧ SqL K H a (ns.map V.int) ∧ ∀ H', Q (.bl true) H'
/-- .. from what the interpreter says of it -/
theorem law_imp {k n d : Nat} (hs : ∀ ns : List Int, ns.length ≤ n → ∃ S, callD P k d [.kl (ns.map SV.int)] [] = .ok (.bl true) S) {vs : List V} {H : Hp} {Q : VK} {E : XK} (h : spLaw l.K n vs H Q E) :
    spI l (callD P k) 1 d vs H Q E := by
  obtain ⟨a, ns, rfl, hn, hO, hS, q⟩ := h
  obtain ⟨S, e⟩ := hs ns hn
  have kl : KL l.K H a (ns.map V.int) := by
    rcases hS with (h | ⟨o, h⟩) | h
    · rcases hO a with z | ⟨o, xs, z⟩
      · rw [h] at z; cases z
      · rw [h] at z; cases z
    · exact .inl ⟨o, h⟩
    · exact .inr h
  refine ⟨[.kl (ns.map SV.int)], [], [], .one ⟨a, _, rfl, kl, ?_⟩, ⟨rfl, List.nodup_nil, fun n o e => by simp at e⟩, rfl, ?_⟩
  · refine RVs.of (by simp) fun i x v h1 h2 => ?_
    rw [List.getElem?_map] at h1 h2
    cases q : ns[i]? with
    | none => rw [q] at h1; cases h1
    | some z =>
      rw [q] at h1 h2
      cases h1; cases h2
      rfl
  · rw [e]
    exact fun io' H' g s u r => by rw [show u = V.bl true from r]; exact q H'
theorem walk_end {l : PySem.W.OpenLaw} {n k : Nat} {q : Program} {loose : List Str} {XP : (Str → Option Value) → Heap → Prop} {YP : World → Heap → Prop} {d : DefRec} {K : Params → PySem.W.Frag} {x : Str} (hn : l.most = some n) (hn2 : n ≤ sizeLine) (hdf : d.params.defaults = []) (hr : Room k callerA)
    (hY : ∀ (w : World) (h : Heap), YP w h → (K w.params).In h)
    (F : ∀ (w : World) (mg : Str → Option Value) (fa : Addr) (h : Heap), (K w.params).In h → h.Ns mainGlobals mg → mg d.name = some (.ref fa) →
      ∃ fd : FuncData, (∀ (s : Shared) (u : Value), BindsTo s fd ⟨[u], []⟩ [(x, u)]) ∧ ∀ base : Heap, (K w.params).In base → base.Ns mainGlobals mg → FnOk l.prog w (K w.params) mg base (L2.CX l.prog w) k fa fd [x] (spLaw (K w.params) n)) :
    PySem.W.WalkO q loose XP YP l.row.toRowW d [] (fun f vs => PySem.call f vs) :=
  L2.walk_of (n := n) (k := k) (x := x) (CX := fun w => L2.CX l.prog w) (sp := fun w => spLaw (K w.params) n) hn hn2 hdf hr hY F (fun _ _ a ns hl hO hS => ⟨a, ns, rfl, hl, hO, hS, fun _ => rfl⟩) fun _ _ _ _ _ ⟨_, _, _, _, _, _, _, _, _, _, _, _, z⟩ => z
theorem dok_mk {K : PySem.W.Frag} {h : Heap} {D : DefI} {f : Addr} {oc : Value} {od an : Option Addr} {osl : Array (Option Value)} {kV doc pm cdv ct : Value} (X : K.In h) (G : h.Ns mainGlobals mg)
    (a : PySem.W.nsIn K mainGlobals D.nm = some (some (.ref f))) (i : K.lookup f = some ⟨oc, od, .func (PySem.W.fnOf D.nm D.qual (defArgs D.st) (defBody D.st) (defScope D.st) .none kV doc pm an cdv ct), osl⟩)
    (c : PySem.W.codeIn K cdv D.qual = true) (k : PySem.W.keepIn K (.ref f) = true)
    (b : ∀ (kV doc pm : Value) (an : Option Addr) (cdv ct : Value) (us : List Value), us.length = (D.N.take D.np).length → bindArgs (PySem.W.fnOf D.nm D.qual (defArgs D.st) (defBody D.st) (defScope D.st) .none kV doc pm an cdv ct) ⟨us, []⟩ = pure ((D.N.take D.np).zip us)) :
    DOk K mg D (f, PySem.W.fnOf D.nm D.qual (defArgs D.st) (defBody D.st) (defScope D.st) .none kV doc pm an cdv ct) :=
  ⟨fun_mk i c k, (fun_mk i c k).binds b, fun _ => PySem.W.mg_of X G a⟩
/-- a method -/
theorem dokm_mk {K : PySem.W.Frag} {D : DefI} {f : Addr} {oc : Value} {od an : Option Addr} {osl : Array (Option Value)} {kV doc pm cdv ct : Value}
    (hq : D.qual ≠ D.nm) (i : K.lookup f = some ⟨oc, od, .func (PySem.W.fnOf D.nm D.qual (defArgs D.st) (defBody D.st) (defScope D.st) .none kV doc pm an cdv ct), osl⟩)
    (c : PySem.W.codeIn K cdv D.qual = true) (k : PySem.W.keepIn K (.ref f) = true)
    (b : ∀ (kV doc pm : Value) (an : Option Addr) (cdv ct : Value) (us : List Value), us.length = (D.N.take D.np).length → bindArgs (PySem.W.fnOf D.nm D.qual (defArgs D.st) (defBody D.st) (defScope D.st) .none kV doc pm an cdv ct) ⟨us, []⟩ = pure ((D.N.take D.np).zip us)) :
    DOk K mg D (f, PySem.W.fnOf D.nm D.qual (defArgs D.st) (defBody D.st) (defScope D.st) .none kV doc pm an cdv ct) :=
  ⟨fun_mk i c k, (fun_mk i c k).binds b, fun h => absurd h hq⟩
/-- a class -/
theorem cok_mk {K : PySem.W.Frag} {h : Heap} {l : Lk} {c : Nat} {C : ClsI} (X : K.In h) (G : h.Ns mainGlobals mg) (a : PySem.W.nsIn K mainGlobals C.nm = some (some (.ref (l.ca c))))
    (pg : PySem.W.plainGet K (l.ca c) Str.empty = true) (hd : PySem.W.hasDictIn K (l.ca c) = true) (po : PySem.W.plainOver K (l.ca c) = true) (sa : PySem.W.findIn K (.ref (l.ca c)) "__setattr__" = some (some (.builtin "object.__setattr__")))
    (nd : C.flds.Nodup) (few : C.flds.length < 1000) (fn : ∀ f x, C.flds[f]? = some x → l.fn c f = x ∧ PySem.W.findIn K (.ref (l.ca c)) x = some none) : COk K mg l c C :=
  ⟨⟨pg, hd, po, sa⟩, PySem.W.mg_of X G a, nd, few, fn⟩
theorem eok_mk {K : PySem.W.Frag} {h : Heap} {x : Str} {C : Addr} (X : K.In h) (G : h.Ns mainGlobals mg)
    (a : PySem.W.nsIn K mainGlobals x = some (some (.ref C))) (k : PySem.W.keepIn K (.ref C) = true) (s : PySem.W.subIn K (.ref C) (.type "BaseException") = some true) (t : PySem.W.typeIn K (.ref C) = some (.type "type"))
    (e : PySem.W.excIn K C [.type "ValueError", .type "Exception", .type "BaseException", .type "object"] "ValueError.__new__" = true)
    (g : PySem.W.findIn K (.ref C) "__getattribute__" = some (some (.builtin "BaseException.__getattribute__"))) (g2 : PySem.W.findIn K (.ref C) "__getattr__" = some none) (d : PySem.W.hasDictIn K C = true) (c : PySem.W.findIn K (.ref C) "__class__" = some (some (.builtin "object.__class__")))
    (m : PySem.W.mroIn K C (.type "object") = some true) (n : PySem.W.specialIn K (.builtin "object.__class__") "__get__" = some (some (.builtin "getset_descriptor.__get__"))) (tk : PySem.W.takesIn K (.builtin "object.__class__") = some true) : EOk K mg x C :=
  ⟨PySem.W.mg_of X G a, k, s, t, ⟨_, _, _, _, PySem.F.excBase_ValueError, e⟩, ⟨g, g2, s, d, c, n, tk, m⟩⟩
theorem sub_mk {x : Str} {K : PySem.W.Frag} {C D : Addr} {b : Bool} (h : EOk K mg x D) (sf : PySem.W.subIn K (.ref D) (.ref D) = some true) (r : PySem.W.subIn K (.ref C) (.ref D) = some b) :
    PySem.W.kitOne K (.ref C) (.ref D) = some b ∧ PySem.W.exmOne K (.ref C) (.ref D) = some b := by
  refine ⟨?_, PySem.W.exm_ref h.ec.hs h.ec.hd h.ty r⟩
  unfold PySem.W.kitOne
  by_cases e : C = D
  · subst e
    rw [sf] at r
    cases r
    rw [if_pos (beq_self_eq_true _)]
  · have e1 : ¬ (Value.ref C == Value.ref D) = true := fun q => e (Value.ref.inj (beq_iff_eq.mp q))
    rw [if_neg e1]
    obtain ⟨cd, hc, _⟩ := PySem.W.any_some h.ec.hd
    have e2 : ((PySem.W.clsIn K D).isSome && PySem.W.typeIn K (.ref D) == some (.type "type")) = true := by rw [hc, h.ty] <;> rfl
    show (if ((PySem.W.clsIn K D).isSome && PySem.W.typeIn K (.ref D) == some (.type "type")) = true then PySem.W.subIn K (.ref C) (.ref D) else none) = some b
    rw [if_pos e2]
    exact r
end
end Bi

/-! Bi13: plain laws of the interpreter: calls, loops, the defs that all laws share. -/
namespace Bi
open PySem

@[simp] def fin : O → R SV
  | .rt v S => .ok v S
  | .nx _ S => .ok .non S
  | .exc c _ S => .exc c S
  | _ => .bad
theorem callD_eq {P : Prog} {k d : Nat} {D : DefI} {vs : List SV} {S : Sto} (h : P.defs[d]? = some D) (hl : vs.length = D.np) : callD P (k + 1) d vs S = fin (evalSs P (callD P k) D.body none (start D.N.length vs) S) := by
  conv => lhs; unfold callD
  rw [h]
  dsimp only
  rw [if_pos hl]
  cases evalSs P (callD P k) D.body none (start D.N.length vs) S <;> rfl
/-- a turn's end -/
def Step (o : O) (I : Loc → Sto → Prop) (Post : O → Prop) : Prop :=
  match o with
  | .nx L S => I L S
  | .ct L S => I L S
  | .bk L S => Post (.nx L S)
  | o => Post o
theorem forF_go {get : Sto → Nat → Option (Option SV)} {tg : Tg} {body : Loc → Sto → O} {Inv : Nat → Loc → Sto → Prop} {Post : O → Prop} {n : Nat}
    (step : ∀ i L S, i < n → Inv i L S → ∃ v L1, get S i = some (some v) ∧ tgS tg v L = some L1 ∧ Step (body L1 S) (Inv (i + 1)) Post)
    (stop : ∀ L S, Inv n L S → get S n = some none ∧ Post (.nx L S)) : ∀ m i L S, Inv i L S → i ≤ n → n < i + m → Post (forF get tg body m i L S)
  | 0, i, L, S, _, h1, h2 => by omega
  | m + 1, i, L, S, h, h1, h2 => by
    unfold forF
    by_cases hi : i = n
    · subst hi
      obtain ⟨e, p⟩ := stop L S h
      rw [e]
      exact p
    · obtain ⟨v, L1, e1, e2, st⟩ := step i L S (by omega) h
      rw [e1]
      dsimp only
      rw [e2]
      dsimp only
      unfold Step at st
      cases e3 : body L1 S with
      | nx L2 S2 => rw [e3] at st; exact forF_go step stop m (i + 1) L2 S2 st (by omega) (by omega)
      | ct L2 S2 => rw [e3] at st; exact forF_go step stop m (i + 1) L2 S2 st (by omega) (by omega)
      | bk L2 S2 => rw [e3] at st; exact st
      | rt v S2 => rw [e3] at st; exact st
      | exc c L2 S2 => rw [e3] at st; exact st
      | bad => rw [e3] at st; exact st
/-- a loop over values -/
theorem run_vs {xs : List SV} {tg : Tg} {body : Loc → Sto → O} {L : Loc} {S : Sto} (Inv : Nat → Loc → Sto → Prop) {Post : O → Prop} (h0 : Inv 0 L S)
    (step : ∀ i v L S, xs[i]? = some v → Inv i L S → ∃ L1, tgS tg v L = some L1 ∧ Step (body L1 S) (Inv (i + 1)) Post) (stop : ∀ L S, Inv xs.length L S → Post (.nx L S)) : Post (runF (.vs xs) tg body L S) := by
  unfold runF
  refine forF_go (Inv := Inv) (n := xs.length) (fun i L S hi h => ?_) (fun L S h => ⟨?_, stop L S h⟩) _ 0 L S h0 (Nat.zero_le _) (by unfold Src.cnt; omega)
  · obtain ⟨L1, e, st⟩ := step i xs[i] L S (by simp [hi]) h
    exact ⟨xs[i], L1, by unfold Src.get; simp [hi], e, st⟩
  · unfold Src.get; simp
/-- .. over a range from lo -/
theorem run_rg {lo : Int} {n : Nat} {tg : Tg} {body : Loc → Sto → O} {L : Loc} {S : Sto} (Inv : Nat → Loc → Sto → Prop) {Post : O → Prop} (h0 : Inv 0 L S)
    (step : ∀ i L S, i < n → Inv i L S → ∃ L1, tgS tg (.int (lo + i)) L = some L1 ∧ Step (body L1 S) (Inv (i + 1)) Post) (stop : ∀ L S, Inv n L S → Post (.nx L S)) : Post (runF (.vs (rgI lo n 1)) tg body L S) := by
  have hl : (rgI lo n 1).length = n := by unfold rgI; simp
  refine run_vs Inv h0 (fun i v L S e h => ?_) (fun L S h => stop L S (by rw [hl] at h; exact h))
  have hi : i < n := by rw [← hl]; exact (List.getElem?_eq_some_iff.mp e).1
  rw [rgI_get, if_pos hi] at e
  cases e
  rw [Int.mul_one]
  exact step i L S hi h
theorem run_r0 {n : Nat} {tg : Tg} {body : Loc → Sto → O} {L : Loc} {S : Sto} (Inv : Nat → Loc → Sto → Prop) {Post : O → Prop} (h0 : Inv 0 L S)
    (step : ∀ i L S, i < n → Inv i L S → ∃ L1, tgS tg (.int (i : Int)) L = some L1 ∧ Step (body L1 S) (Inv (i + 1)) Post) (stop : ∀ L S, Inv n L S → Post (.nx L S)) : Post (runF (.vs (rgI 0 n 1)) tg body L S) :=
  run_rg Inv h0 (fun i L S hi h => by
    obtain ⟨L1, e, st⟩ := step i L S hi h
    exact ⟨L1, by rw [Int.zero_add]; exact e, st⟩) stop
/-- .. over a list of the store that stays -/
theorem run_ls {a : Nat} {xs : List SV} {tg : Tg} {body : Loc → Sto → O} {L : Loc} {S : Sto} (Inv : Nat → Loc → Sto → Prop) {Post : O → Prop} (h0 : Inv 0 L S) (hs : ∀ i L S, Inv i L S → S[a]? = some (.lst xs))
    (step : ∀ i v L S, xs[i]? = some v → Inv i L S → ∃ L1, tgS tg v L = some L1 ∧ Step (body L1 S) (Inv (i + 1)) Post) (stop : ∀ L S, Inv xs.length L S → Post (.nx L S)) : Post (runF (.ls a) tg body L S) := by
  unfold runF
  refine forF_go (Inv := Inv) (n := xs.length) (fun i L S hi h => ?_) (fun L S h => ⟨?_, stop L S h⟩) _ 0 L S h0 (Nat.zero_le _) (by unfold Src.cnt; rw [hs 0 L S h0]; dsimp only; omega)
  · obtain ⟨L1, e, st⟩ := step i xs[i] L S (by simp [hi]) h
    exact ⟨xs[i], L1, by unfold Src.get; rw [hs i L S h]; simp [hi], e, st⟩
  · unfold Src.get; rw [hs _ L S h]; simp
/-- a while loop -/
theorem wh_go {c : Loc → Sto → R Bool} {b : Loc → Sto → O} {Inv : Nat → Loc → Sto → Prop} {Post : O → Prop}
    (step : ∀ m L S, Inv m L S → (∃ S1, c L S = .ok false S1 ∧ Post (.nx L S1)) ∨ (∃ S1, c L S = .ok true S1 ∧ Step (b L S1) (fun L' S' => ∃ m', m' < m ∧ Inv m' L' S') Post)) :
    ∀ n m L S, m < n → Inv m L S → Post (whF c b n L S)
  | 0, m, L, S, h, _ => by omega
  | n + 1, m, L, S, h, hi => by
    unfold whF
    rcases step m L S hi with ⟨S1, e, p⟩ | ⟨S1, e, st⟩
    · rw [e]; exact p
    · rw [e]
      dsimp only
      unfold Step at st
      cases e3 : b L S1 with
      | nx L2 S2 => rw [e3] at st; obtain ⟨m', h1, h2⟩ := st; exact wh_go step n m' L2 S2 (by omega) h2
      | ct L2 S2 => rw [e3] at st; obtain ⟨m', h1, h2⟩ := st; exact wh_go step n m' L2 S2 (by omega) h2
      | bk L2 S2 => rw [e3] at st; exact st
      | rt v S2 => rw [e3] at st; exact st
      | exc c L2 S2 => rw [e3] at st; exact st
      | bad => rw [e3] at st; exact st
/-- a comprehension without side effects -/
theorem runL_go {src : Src} {tg : Tg} {c : Loc → Sto → R Bool} {e : Loc → Sto → R SV} {L : Loc} {S : Sto} (xs : List SV) (f : SV → Option SV) (hc : src.cnt S = xs.length) (hg : ∀ i, src.get S i = some xs[i]?)
    (step : ∀ v ∈ xs, ∃ L1, tgS tg v L = some L1 ∧ match f v with
      | none => c L1 S = .ok false S
      | some y => c L1 S = .ok true S ∧ e L1 S = .ok y S) (hz : xs.length ≤ sizeLine) : runL src tg c e L S = .ok (xs.filterMap f) S := by
  unfold runL
  rw [hc]
  have key : ∀ m i acc, i ≤ xs.length → xs.length < i + m → acc.length ≤ i → lcF (fun S => src.get S) tg c e L m i acc S = .ok (acc ++ (xs.drop i).filterMap f) S := by
    intro m
    induction m with
    | zero => intro i acc h1 h2; omega
    | succ m ih =>
      intro i acc h1 h2 h3
      unfold lcF
      rw [hg i]
      by_cases hi : i = xs.length
      · subst hi; simp
      · have hlt : i < xs.length := by omega
        have hd : xs.drop i = xs[i] :: xs.drop (i + 1) := List.drop_eq_getElem_cons hlt
        rw [List.getElem?_eq_getElem hlt]
        dsimp only
        obtain ⟨L1, e1, e2⟩ := step xs[i] (List.getElem_mem hlt)
        rw [e1]
        dsimp only
        cases q : f xs[i] with
        | none =>
          rw [q] at e2
          rw [e2]
          dsimp only
          rw [ih (i + 1) acc (by omega) (by omega) (by omega), hd, List.filterMap_cons, q]
        | some y =>
          rw [q] at e2
          rw [e2.1]
          dsimp only
          rw [e2.2]
          dsimp only
          rw [if_pos (by omega), ih (i + 1) (acc ++ [y]) (by omega) (by omega) (by simp; omega), hd, List.filterMap_cons, q]
          simp
  rw [key _ 0 [] (Nat.zero_le _) (by omega) (Nat.le_refl _)]
  simp
theorem mulOk_of {i j : Int} (hi : i.natAbs < 2 ^ 60) (hj : j.natAbs < 2 ^ 60) : mulOk i j = true := by
  unfold mulOk
  have h1 : i.natAbs.log2 < 60 := by
    by_cases h : i.natAbs = 0
    · rw [h]; decide
    · exact (Nat.log2_lt h).mpr hi
  have h2 : j.natAbs.log2 < 60 := by
    by_cases h : j.natAbs = 0
    · rw [h]; decide
    · exact (Nat.log2_lt h).mpr hj
  exact decide_eq_true (by omega)
open L2 (atI ixN)
@[simp] theorem ixN_nat (n i : Nat) : ixN n (i : Int) = if i < n then some i else none := by
  unfold ixN
  rw [if_pos (by omega)]
  by_cases h : i < n
  · rw [if_pos (by omega), if_pos h]; simp
  · rw [if_neg (by omega), if_neg h]
@[simp] theorem ixN_0 (n : Nat) : ixN n 0 = if 0 < n then some 0 else none := ixN_nat n 0
@[simp] theorem ixN_1 (n : Nat) : ixN n 1 = if 1 < n then some 1 else none := ixN_nat n 1
@[simp] theorem ixN_lit (n i : Nat) : ixN n (no_index (OfNat.ofNat i : Int)) = if i < n then some i else none := ixN_nat n i
@[simp] theorem atI_nat {α : Type} (xs : List α) (i : Nat) : atI xs (i : Int) = xs[i]? := by
  unfold atI
  rw [ixN_nat]
  by_cases h : i < xs.length
  · rw [if_pos h]; rfl
  · rw [if_neg h, List.getElem?_eq_none (by omega)]; rfl
@[simp] theorem atI_0 {α : Type} (xs : List α) : atI xs 0 = xs[0]? := atI_nat xs 0
@[simp] theorem atI_1 {α : Type} (xs : List α) : atI xs 1 = xs[1]? := atI_nat xs 1
@[simp] theorem atI_lit {α : Type} (xs : List α) (i : Nat) : atI xs (no_index (OfNat.ofNat i : Int)) = xs[i]? := atI_nat xs i
@[simp] theorem atI_m1 {α : Type} (xs : List α) : atI xs (-1) = xs[xs.length - 1]? := by
  unfold atI ixN
  rw [if_neg (by decide)]
  cases xs with
  | nil => rfl
  | cons x xs =>
    rw [if_pos (by simp; omega)]
    have e : ((-1 : Int) + ((x :: xs).length : Nat)).toNat = (x :: xs).length - 1 := by simp; omega
    rw [e]; rfl
@[simp] theorem idx_ref (a : Nat) (i : Int) (S : Sto) : idxS (.ref a) (.int i) S = okO ((seqOf S (.ref a)).bind fun xs => atI xs i) S := rfl
@[simp] theorem idx_tup (xs : List SV) (i : Int) (S : Sto) : idxS (.tup xs) (.int i) S = okO (atI xs i) S := rfl
/-! ### _law_mixed -/
def mixB : ISs := .cons (.asg (.nm 2) (.bin .mod (.bin .add (.bin .add (.bin .mul (.var 0) (.cst (.int 48271))) (.bin .mul (.var 1) (.cst (.int 69621)))) (.cst (.int 12345))) (.cst (.int 2147483647)))) (.cons (.ret (.bin .mod (.bin .add (.bin .mul (.var 2) (.bin .add (.bin .fdiv (.var 2) (.cst (.int 65536))) (.cst (.int 3)))) (.var 1)) (.cst (.int 2147483647)))) (.nil))
structure IsD (P : Prog) (d : Nat) (b : ISs) (n np : Nat) : Prop where
  ex : ∃ D, P.defs[d]? = some D ∧ D.body = b ∧ D.N.length = n ∧ D.np = np
theorem IsD.call {P : Prog} {d : Nat} {b : ISs} {n np k : Nat} (h : IsD P d b n np) {vs : List SV} {S : Sto} (hl : vs.length = np) : callD P (k + 1) d vs S = fin (evalSs P (callD P k) b none (start n vs) S) := by
  obtain ⟨D, h1, h2, h3, h4⟩ := h.ex
  rw [callD_eq h1 (hl.trans h4.symm), h2, h3]
def mixZ (a b : Int) : Int := (((a * 48271 + b * 69621 + 12345) % 2147483647) * (((a * 48271 + b * 69621 + 12345) % 2147483647) / 65536 + 3) + b) % 2147483647
theorem mix_rg (a b : Int) : 0 ≤ mixZ a b ∧ mixZ a b < 2147483647 := ⟨Int.emod_nonneg _ (by decide), Int.emod_lt_of_pos _ (by decide)⟩
theorem mix_sp {P : Prog} {d k : Nat} (h : IsD P d mixB 3 2) {a b : Int} {S : Sto} (ha : 0 ≤ a) (ha2 : a < 2 ^ 40) (hb : 0 ≤ b) (hb2 : b < 2 ^ 40) : callD P (k + 1) d [.int a, .int b] S = .ok (.int (mixZ a b)) S := by
  rw [h.call rfl]
  have m1 : mulOk a 48271 = true := mulOk_of (by omega) (by decide)
  have m2 : mulOk b 69621 = true := mulOk_of (by omega) (by decide)
  have r1 : 0 ≤ (a * 48271 + b * 69621 + 12345) % 2147483647 := Int.emod_nonneg _ (by decide)
  have r2 : (a * 48271 + b * 69621 + 12345) % 2147483647 < 2147483647 := Int.emod_lt_of_pos _ (by decide)
  have m3 : mulOk ((a * 48271 + b * 69621 + 12345) % 2147483647) ((a * 48271 + b * 69621 + 12345) % 2147483647 / 65536 + 3) = true := mulOk_of (by omega) (by omega)
  have m4 : divOk 65536 = true := by decide
  simp [mixB, m1, m2, m3, m4, mixZ]
/-- .. with a store that grows -/
theorem runL_inv {src : Src} {tg : Tg} {c : Loc → Sto → R Bool} {e : Loc → Sto → R SV} {L : Loc} {S : Sto} {n : Nat} (Inv : Nat → List SV → Sto → Prop) {Post : R (List SV) → Prop} (h0 : Inv 0 [] S) (hc : src.cnt S = n)
    (step : ∀ i acc S, i < n → Inv i acc S → ∃ v L1, src.get S i = some (some v) ∧ tgS tg v L = some L1 ∧ ((∃ S1, c L1 S = .ok false S1 ∧ Inv (i + 1) acc S1) ∨ (∃ S1 y S2, c L1 S = .ok true S1 ∧ e L1 S1 = .ok y S2 ∧ acc.length < sizeLine ∧ Inv (i + 1) (acc ++ [y]) S2)))
    (stop : ∀ acc S, Inv n acc S → src.get S n = some none ∧ Post (.ok acc S)) : Post (runL src tg c e L S) := by
  unfold runL
  rw [hc]
  have key : ∀ m i acc S, i ≤ n → n < i + m → Inv i acc S → Post (lcF (fun S => src.get S) tg c e L m i acc S) := by
    intro m
    induction m with
    | zero => intro i acc S h1 h2; omega
    | succ m ih =>
      intro i acc S h1 h2 h3
      unfold lcF
      by_cases hi : i = n
      · subst hi
        obtain ⟨g, p⟩ := stop acc S h3
        rw [g]
        exact p
      · obtain ⟨v, L1, g, e1, st⟩ := step i acc S (by omega) h3
        rw [g]
        dsimp only
        rw [e1]
        dsimp only
        rcases st with ⟨S1, c1, hI⟩ | ⟨S1, y, S2, c1, e2, hz, hI⟩
        · rw [c1]
          exact ih (i + 1) acc S1 (by omega) (by omega) hI
        · rw [c1]
          dsimp only
          rw [e2]
          dsimp only
          rw [if_pos hz]
          exact ih (i + 1) _ S2 (by omega) (by omega) hI
  exact key _ 0 [] S (Nat.zero_le _) (by omega) h0
/-- a list of statements, cut -/
@[simp] def ISs.tk : Nat → ISs → ISs
  | 0, _ => .nil
  | _ + 1, .nil => .nil
  | n + 1, .cons s ss => .cons s (ISs.tk n ss)
@[simp] def ISs.dr : Nat → ISs → ISs
  | 0, ss => ss
  | _ + 1, .nil => .nil
  | n + 1, .cons _ ss => ISs.dr n ss
theorem ev_cut (P : Prog) (cf : Nat → List SV → Sto → R SV) (xc : Option (Nat × Option Nat)) : ∀ (n : Nat) (ss : ISs) (L : Loc) (S : Sto), evalSs P cf ss xc L S = (match evalSs P cf (ss.tk n) xc L S with
    | .nx L1 S1 => evalSs P cf (ss.dr n) xc L1 S1
    | o => o)
  | 0, ss, L, S => by simp
  | n + 1, .nil, L, S => by simp
  | n + 1, .cons s ss, L, S => by
    show (match evalS P cf s xc L S with
      | .nx L1 S1 => evalSs P cf ss xc L1 S1
      | o => o) = (match (match evalS P cf s xc L S with
      | .nx L1 S1 => evalSs P cf (ss.tk n) xc L1 S1
      | o => o) with
      | .nx L1 S1 => evalSs P cf (ss.dr n) xc L1 S1
      | o => o)
    cases evalS P cf s xc L S with
    | nx L1 S1 => exact ev_cut P cf xc n ss L1 S1
    | _ => rfl
theorem ev_nx {P : Prog} {cf : Nat → List SV → Sto → R SV} {xc : Option (Nat × Option Nat)} (n : Nat) {ss : ISs} {L L1 : Loc} {S S1 : Sto} (h : evalSs P cf (ss.tk n) xc L S = .nx L1 S1) : evalSs P cf ss xc L S = evalSs P cf (ss.dr n) xc L1 S1 := by
  rw [ev_cut P cf xc n, h]
end Bi

/-! Bi14: _law_numbers, _law_draw. -/
namespace Bi
open PySem
open L2 (atI ixN)

theorem getE_app {S : Sto} {o : SO} : (S ++ [o])[S.length]? = some o := by simp
theorem setE_app {S : Sto} {o o' : SO} : (S ++ [o]).set S.length o' = S ++ [o'] := by simp
/-- small numbers -/
def Sml (ns : List Int) : Prop := ∀ x ∈ ns, 0 ≤ x ∧ x < 1000000
theorem Sml.app {ns : List Int} (h : Sml ns) (z : Int) : Sml (ns ++ [z % 1000000]) := fun x hx => by
  rcases List.mem_append.mp hx with q | q
  · exact h x q
  · rw [List.mem_singleton.mp q]
    exact ⟨Int.emod_nonneg _ (by decide), Int.emod_lt_of_pos _ (by decide)⟩
def numI : ISs := .cons (.iff (.val (.cmp .gt (.var 3) (.cst (.int 0)))) (.cons (.expr (.bm .append (.var 1) (.cons (.bin .mod (.var 3) (.cst (.int 1000000))) (.nil)))) (.cons (.asg (.nm 3) (.bin .fdiv (.var 3) (.cst (.int 1000000)))) (.nil))) (.nil)) (.nil)
def numJ (m : Nat) : ISs := .cons (.expr (.bm .append (.var 1) (.cons (.bin .mod (.call m (.cons (.call m (.cons (.bin .mod (.var 2) (.cst (.int 2147483647))) (.cons (.var 4) (.nil)))) (.cons (.bin .add (.var 4) (.cst (.int 7))) (.nil)))) (.cst (.int 1000000))) (.nil)))) (.nil)
def numC (m : Nat) : ISs := .cons (.iff (.val (.cmp .ge (.var 2) (.bin .pow (.cst (.int 10)) (.cst (.int 18))))) (.cons (.asg (.nm 3) (.var 2)) (.cons (.for_ (.nm 4) (.rng1 (.cst (.int 60))) numI) (.nil))) (.cons (.expr (.bm .append (.var 1) (.cons (.bin .mod (.var 2) (.cst (.int 1000000))) (.nil)))) (.cons (.for_ (.nm 4) (.rng1 (.cst (.int 5))) (numJ m)) (.nil)))) (.nil)
def numB (m : Nat) : ISs := .cons (.asg (.nm 1) (.lst (.nil))) (.cons (.for_ (.nm 2) (.seq (.var 0)) (numC m)) (.cons (.ret (.var 1)) (.nil)))
section
variable {P : Prog} {m k : Nat}
@[simp] theorem vI_nil : ([] : List Int).map SV.int = [] := rfl
abbrev vI (ns : List Int) : List SV := ns.map SV.int
@[simp] theorem szOk_le {n : Nat} (h : n ≤ 100000) : szOk n = true := by
  unfold szOk
  rw [decide_eq_true_eq, sizeLine_eq]
  omega
theorem vI_app (ns : List Int) (z : Int) : vI ns ++ [.int z] = vI (ns ++ [z]) := by simp
theorem numI_sp {cf : Nat → List SV → Sto → R SV} {S : Sto} {v0 v2 v3 v4 : Option SV} {ns : List Int} {z : Int} (hz : ns.length ≤ 90000) :
    ∃ (L' : Loc) (ns' : List Int), evalSs P cf numI none [v0, some (.ref S.length), v2, some (.int z), v4] (S ++ [.lst (vI ns)]) = .nx [v0, some (.ref S.length), v2, some (.int (if z > 0 then z / 1000000 else z)), v4] (S ++ [.lst (vI ns')]) ∧ (Sml ns → Sml ns') ∧ ns'.length ≤ ns.length + 1 := by
  have d1 : divOk 1000000 = true := by decide
  by_cases h : 0 < z
  · refine ⟨[], ns ++ [z % 1000000], ?_, fun q => q.app z, by simp⟩
    simp [numI, h, d1, szOk_le (show ns.length + 1 ≤ 100000 by omega)]
  · refine ⟨[], ns, ?_, fun q => q, by omega⟩
    simp [numI, h]
theorem numI_run {cf : Nat → List SV → Sto → R SV} {S : Sto} {v0 v2 v4 : Option SV} {ns : List Int} {z : Int} (hz : ns.length ≤ 80000) (hs : Sml ns) :
    ∃ (L' : Loc) (ns' : List Int) (w3 w4 : Option SV), runF (.vs (rgI 0 60 1)) (.nm 4) (evalSs P cf numI none) [v0, some (.ref S.length), v2, some (.int z), v4] (S ++ [.lst (vI ns)]) = .nx [v0, some (.ref S.length), v2, w3, w4] (S ++ [.lst (vI ns')]) ∧ Sml ns' ∧ ns'.length ≤ ns.length + 60 := by
  refine run_r0 (fun i L S' => ∃ ns' z w4, L = [v0, some (.ref S.length), v2, some (.int z), w4] ∧ S' = S ++ [.lst (vI ns')] ∧ Sml ns' ∧ ns'.length ≤ ns.length + i) (Post := fun o => ∃ (L' : Loc) (ns' : List Int) (w3 w4 : Option SV), o = .nx [v0, some (.ref S.length), v2, w3, w4] (S ++ [.lst (vI ns')]) ∧ Sml ns' ∧ ns'.length ≤ ns.length + 60)
    ⟨ns, z, v4, rfl, rfl, hs, Nat.le_refl _⟩ ?_ ?_
  · rintro i L S' hi ⟨ns', z, w4, rfl, rfl, h1, h2⟩
    refine ⟨_, rfl, ?_⟩
    obtain ⟨_, ns2, e, h3, h4⟩ := numI_sp (P := P) (cf := cf) (S := S) (v0 := v0) (v2 := v2) (v3 := none) (v4 := some (.int (i : Int))) (ns := ns') (z := z) (by omega)
    show Step (evalSs P cf numI none [v0, some (.ref S.length), v2, some (.int z), some (.int (i : Int))] _) _ _
    rw [e]
    exact ⟨ns2, _, _, rfl, rfl, h3 h1, by omega⟩
  · rintro L S' ⟨ns', z, w4, rfl, rfl, h1, h2⟩
    exact ⟨[], ns', _, _, rfl, h1, h2⟩
theorem numJ_run (hm : IsD P m mixB 3 2) {S : Sto} {v0 v3 v4 : Option SV} {ns : List Int} {z : Int} (hz : ns.length ≤ 80000) (hs : Sml ns) :
    ∃ (L' : Loc) (ns' : List Int) (w4 : Option SV), runF (.vs (rgI 0 5 1)) (.nm 4) (evalSs P (callD P (k + 1)) (numJ m) none) [v0, some (.ref S.length), some (.int z), v3, v4] (S ++ [.lst (vI ns)]) = .nx [v0, some (.ref S.length), some (.int z), v3, w4] (S ++ [.lst (vI ns')]) ∧ Sml ns' ∧ ns'.length ≤ ns.length + 5 := by
  refine run_r0 (fun i L S' => ∃ ns' w4, L = [v0, some (.ref S.length), some (.int z), v3, w4] ∧ S' = S ++ [.lst (vI ns')] ∧ Sml ns' ∧ ns'.length ≤ ns.length + i) (Post := fun o => ∃ (L' : Loc) (ns' : List Int) (w4 : Option SV), o = .nx [v0, some (.ref S.length), some (.int z), v3, w4] (S ++ [.lst (vI ns')]) ∧ Sml ns' ∧ ns'.length ≤ ns.length + 5)
    ⟨ns, v4, rfl, rfl, hs, Nat.le_refl _⟩ ?_ ?_
  · rintro i L S' hi ⟨ns', w4, rfl, rfl, h1, h2⟩
    refine ⟨_, rfl, ?_⟩
    have r1 : 0 ≤ z % 2147483647 := Int.emod_nonneg _ (by decide)
    have r2 : z % 2147483647 < 2147483647 := Int.emod_lt_of_pos _ (by decide)
    have r3 := mix_rg (z % 2147483647) (i : Int)
    have e1 := fun S => mix_sp (k := k) hm (a := z % 2147483647) (b := (i : Int)) (S := S) r1 (by omega) (by omega) (by omega)
    have e2 := fun S => mix_sp (k := k) hm (a := mixZ (z % 2147483647) i) (b := (i : Int) + 7) (S := S) r3.1 (by omega) (by omega) (by omega)
    show Step (evalSs P _ (numJ m) none [v0, some (.ref S.length), some (.int z), v3, some (.int (i : Int))] _) _ _
    have e : evalSs P (callD P (k + 1)) (numJ m) none [v0, some (.ref S.length), some (.int z), v3, some (.int (i : Int))] (S ++ [.lst (vI ns')]) = .nx [v0, some (.ref S.length), some (.int z), v3, some (.int (i : Int))] (S ++ [.lst (vI (ns' ++ [mixZ (mixZ (z % 2147483647) (i : Int)) ((i : Int) + 7) % 1000000]))]) := by
      simp [numJ, e1, e2, szOk_le (show ns'.length + 1 ≤ 100000 by omega)]
    rw [e]
    exact ⟨_, _, rfl, rfl, h1.app _, by simp; omega⟩
  · rintro L S' ⟨ns', w4, rfl, rfl, h1, h2⟩
    exact ⟨[], ns', _, rfl, h1, h2⟩
theorem numC_sp (hm : IsD P m mixB 3 2) {S : Sto} {v0 v3 v4 : Option SV} {ns : List Int} {z : Int} (hz : ns.length ≤ 70000) (hs : Sml ns) :
    ∃ (ns' : List Int) (w3 w4 : Option SV), evalSs P (callD P (k + 1)) (numC m) none [v0, some (.ref S.length), some (.int z), v3, v4] (S ++ [.lst (vI ns)]) = .nx [v0, some (.ref S.length), some (.int z), w3, w4] (S ++ [.lst (vI ns')]) ∧ Sml ns' ∧ ns'.length ≤ ns.length + 60 := by
  have p1 : powOk 10 18 = true := by decide
  by_cases h : z ≥ 10 ^ 18
  · obtain ⟨_, ns', w3, w4, e, h1, h2⟩ := numI_run (P := P) (cf := callD P (k + 1)) (S := S) (v0 := v0) (v2 := some (.int z)) (v4 := v4) (ns := ns) (z := z) (by omega) hs
    refine ⟨ns', w3, w4, ?_, h1, h2⟩
    have h' : (1000000000000000000 : Int) ≤ z := h
    simp [numC, p1, h', e, smallI]
  · obtain ⟨_, ns', w4, e, h1, h2⟩ := numJ_run (P := P) (k := k) hm (S := S) (v0 := v0) (v3 := v3) (v4 := v4) (ns := ns ++ [z % 1000000]) (z := z) (by simp; omega) (hs.app z)
    refine ⟨ns', v3, w4, ?_, h1, by simp at h2; omega⟩
    have h' : ¬ (1000000000000000000 : Int) ≤ z := h
    have e' := e
    rw [← vI_app] at e'
    simp [numC, p1, h', e', smallI, szOk_le (show ns.length + 1 ≤ 100000 by omega)]
theorem num_sp {d : Nat} (hd : IsD P d (numB m) 5 1) (hm : IsD P m mixB 3 2) {S : Sto} {xs : List Int} (hx : xs.length ≤ 63) :
    ∃ ns : List Int, Sml ns ∧ ns.length ≤ 10000 ∧ callD P (k + 2) d [.kl (vI xs)] S = .ok (.ref S.length) (S ++ [.lst (vI ns)]) := by
  have hr : ∃ (ns : List Int) (w2 w3 w4 : Option SV), runF (.vs (vI xs)) (.nm 2) (evalSs P (callD P (k + 1)) (numC m) none) [some (.kl (vI xs)), some (.ref S.length), none, none, none] (S ++ [.lst (vI [])]) = .nx [some (.kl (vI xs)), some (.ref S.length), w2, w3, w4] (S ++ [.lst (vI ns)]) ∧ Sml ns ∧ ns.length ≤ 60 * 63 := by
    refine run_vs (fun i L S' => ∃ ns w2 w3 w4, L = [some (.kl (vI xs)), some (.ref S.length), w2, w3, w4] ∧ S' = S ++ [.lst (vI ns)] ∧ Sml ns ∧ ns.length ≤ 60 * i) (Post := fun o => ∃ (ns : List Int) (w2 w3 w4 : Option SV), o = .nx [some (.kl (vI xs)), some (.ref S.length), w2, w3, w4] (S ++ [.lst (vI ns)]) ∧ Sml ns ∧ ns.length ≤ 60 * 63)
      ⟨[], none, none, none, rfl, rfl, fun _ h => by simp at h, by simp⟩ ?_ ?_
    · rintro i v L S' hi ⟨ns, w2, w3, w4, rfl, rfl, h1, h2⟩
      have hil : i < xs.length := by have := (List.getElem?_eq_some_iff.mp hi).1; simpa using this
      rw [List.getElem?_map, List.getElem?_eq_getElem hil] at hi
      cases hi
      refine ⟨_, rfl, ?_⟩
      obtain ⟨ns', w3', w4', e, h3, h4⟩ := numC_sp (P := P) (k := k) hm (S := S) (v0 := some (.kl (vI xs))) (v3 := w3) (v4 := w4) (ns := ns) (z := xs[i]) (by omega) h1
      show Step (evalSs P _ (numC m) none [some (.kl (vI xs)), some (.ref S.length), some (.int xs[i]), w3, w4] _) _ _
      rw [e]
      exact ⟨ns', _, _, _, rfl, rfl, h3, by omega⟩
    · rintro L S' ⟨ns, w2, w3, w4, rfl, rfl, h1, h2⟩
      rw [List.length_map] at h2
      exact ⟨ns, _, _, _, rfl, h1, by omega⟩
  obtain ⟨ns, w2, w3, w4, e, h1, h2⟩ := hr
  refine ⟨ns, h1, by omega, ?_⟩
  rw [hd.call rfl]
  have e' := e
  simp at e'
  simp [numB, szOk_le, e', vI]
/-! ### _law_draw -/
def drwB (m : Nat) : ISs := .cons (.asg (.nm 1) (.idx (.var 0) (.cst (.int 1)))) (.cons (.setI (.var 0) (.cst (.int 1)) (.bin .add (.var 1) (.cst (.int 1)))) (.cons (.iff (.val (.cmp .lt (.var 1) (.bf .len (.cons (.idx (.var 0) (.cst (.int 0))) (.nil))))) (.cons (.ret (.idx (.idx (.var 0) (.cst (.int 0))) (.var 1))) (.nil)) (.nil)) (.cons (.asg (.nm 2) (.bin .add (.cst (.int 1)) (.var 1))) (.cons (.iff (.val (.cmp .gt (.bf .len (.cons (.idx (.var 0) (.cst (.int 0))) (.nil))) (.cst (.int 0)))) (.cons (.asg (.nm 2) (.bin .add (.var 2) (.bin .mul (.cst (.int 1009)) (.idx (.idx (.var 0) (.cst (.int 0))) (.cst (.int 0)))))) (.nil)) (.nil)) (.cons (.ret (.bin .mod (.call m (.cons (.call m (.cons (.var 2) (.cons (.var 1) (.nil)))) (.cons (.cst (.int 5)) (.nil)))) (.cst (.int 1000000)))) (.nil))))))
/-- the draws at a: so many were drawn -/
def Dr (S : Sto) (a b n : Nat) : Prop := ∃ ns, a ≠ b ∧ S[a]? = some (.lst [.ref b, .int (n : Int)]) ∧ S[b]? = some (.lst (vI ns)) ∧ Sml ns
/-- what stays but the draws at a; new objects may come -/
structure Ex (a : Nat) (S S' : Sto) : Prop where
  le : S.length ≤ S'.length
  at_ : ∀ i, i < S.length → i ≠ a → S'[i]? = S[i]?
theorem Ex.refl {a : Nat} {S : Sto} : Ex a S S := ⟨Nat.le_refl _, fun _ _ _ => rfl⟩
theorem Ex.trans {a : Nat} {S S1 S2 : Sto} (h : Ex a S S1) (g : Ex a S1 S2) : Ex a S S2 :=
  ⟨Nat.le_trans h.le g.le, fun i hi hn => (g.at_ i (Nat.lt_of_lt_of_le hi h.le) hn).trans (h.at_ i hi hn)⟩
theorem Ex.get {a : Nat} {S S' : Sto} (h : Ex a S S') {i : Nat} {o : SO} (hn : i ≠ a) (e : S[i]? = some o) : S'[i]? = some o := by
  rw [h.at_ i (List.getElem?_eq_some_iff.mp e).1 hn]
  exact e
theorem Ex.app {a : Nat} {S G : Sto} : Ex a S (S ++ G) := ⟨by simp, fun i hi _ => by rw [List.getElem?_append_left hi]⟩
theorem Ex.set {a : Nat} {S : Sto} {o : SO} : Ex a S (S.set a o) := ⟨by simp, fun i hi hn => by rw [List.getElem?_set_ne (Ne.symm hn)]⟩
theorem Dr.app {S G : Sto} {a b n : Nat} (h : Dr S a b n) : Dr (S ++ G) a b n := by
  obtain ⟨ns, h1, h2, h3, h4⟩ := h
  exact ⟨ns, h1, by rw [List.getElem?_append_left (List.getElem?_eq_some_iff.mp h2).1]; exact h2, by rw [List.getElem?_append_left (List.getElem?_eq_some_iff.mp h3).1]; exact h3, h4⟩
theorem Dr.lt {S : Sto} {a b n : Nat} (h : Dr S a b n) : a < S.length ∧ b < S.length ∧ a ≠ b := by
  obtain ⟨ns, h1, h2, h3, h4⟩ := h
  exact ⟨(List.getElem?_eq_some_iff.mp h2).1, (List.getElem?_eq_some_iff.mp h3).1, h1⟩
theorem Dr.set {S : Sto} {a b n i : Nat} {o : SO} (h : Dr S a b n) (ha : i ≠ a) (hb : i ≠ b) : Dr (S.set i o) a b n := by
  obtain ⟨ns, h1, h2, h3, h4⟩ := h
  exact ⟨ns, h1, by rw [List.getElem?_set_ne ha]; exact h2, by rw [List.getElem?_set_ne hb]; exact h3, h4⟩
/-- a new object changed -/
theorem Ex.setN {a : Nat} {S S' : Sto} {i : Nat} {o : SO} (h : Ex a S S') (hi : S.length ≤ i) : Ex a S (S'.set i o) :=
  ⟨by rw [List.length_set]; exact h.le, fun j hj hn => by rw [List.getElem?_set_ne (by omega)]; exact h.at_ j hj hn⟩
theorem drw_sp {d : Nat} (hd : IsD P d (drwB m) 3 1) (hm : IsD P m mixB 3 2) {S : Sto} {a b n : Nat} (h : Dr S a b n) (hn : n < 1000000000) :
    ∃ (r : Nat) (S' : Sto), r < 1000000 ∧ callD P (k + 2) d [.ref a] S = .ok (.int r) S' ∧ Dr S' a b (n + 1) ∧ Ex a S S' ∧ S'.length = S.length := by
  obtain ⟨ns, hab, h1, h2, h3⟩ := h
  have ha : a < S.length := (List.getElem?_eq_some_iff.mp h1).1
  have hS1 : (S.set a (.lst [.ref b, .int ((n : Int) + 1)]))[a]? = some (.lst [.ref b, .int ((n : Int) + 1)]) := List.getElem?_set_self ha
  have hS2 : (S.set a (.lst [.ref b, .int ((n : Int) + 1)]))[b]? = some (.lst (vI ns)) := by rw [List.getElem?_set_ne hab]; exact h2
  have dr : Dr (S.set a (.lst [.ref b, .int ((n : Int) + 1)])) a b (n + 1) := ⟨ns, hab, by rw [hS1]; rfl, hS2, h3⟩
  have hl : szOk ns.length = true ∨ True := .inr trivial
  by_cases hlt : n < ns.length
  · have hr := h3 ns[n] (List.getElem_mem hlt)
    refine ⟨ns[n].toNat, _, by omega, ?_, dr, Ex.set, by simp⟩
    rw [hd.call rfl]
    simp [drwB, h1, hS1, hS2, hlt, hr.1]
    omega
  · have go : ∀ f : Int, 0 ≤ f → f < 3000000000 → ∃ r : Nat, r < 1000000 ∧ mixZ (mixZ f n) 5 % 1000000 = (r : Int) ∧ ∀ S, callD P (k + 1) m [.int f, .int n] S = .ok (.int (mixZ f n)) S ∧ callD P (k + 1) m [.int (mixZ f n), .int 5] S = .ok (.int (mixZ (mixZ f n) 5)) S := fun f f0 f1 => by
      have r3 := mix_rg f n
      refine ⟨(mixZ (mixZ f n) 5 % 1000000).toNat, ?_, ?_, fun S => ⟨mix_sp hm f0 (by omega) (by omega) (by omega), mix_sp hm r3.1 (by omega) (by omega) (by omega)⟩⟩
      · omega
      · have := Int.emod_nonneg (mixZ (mixZ f n) 5) (show (1000000 : Int) ≠ 0 by decide); omega
    cases hns : ns with
    | nil =>
      subst hns
      obtain ⟨r, h4, h5, h6⟩ := go (1 + n) (by omega) (by omega)
      refine ⟨r, _, h4, ?_, dr, Ex.set, by simp⟩
      rw [hd.call rfl]
      have n0 : ¬ (n : Int) < 0 := by omega
      simp [drwB, h1, hS1, hS2, h6, h5, n0]
    | cons z zs =>
      have hz := h3 z (by rw [hns]; exact List.mem_cons_self)
      obtain ⟨r, h4, h5, h6⟩ := go (1 + n + 1009 * z) (by omega) (by omega)
      refine ⟨r, _, h4, ?_, dr, Ex.set, by simp⟩
      rw [hd.call rfl]
      subst hns
      have m1 : mulOk 1009 z = true := mulOk_of (by decide) (by omega)
      have hlt' : ¬ (n : Int) < (zs.length : Int) + 1 := by simp at hlt; omega
      have hpos : (0 : Int) < (zs.length : Int) + 1 := by omega
      simp [drwB, h1, hS1, hS2, h6, h5, m1, hlt', hpos]
end
end Bi

/-! Bi15: _law_equal, is_integer, is_number. -/
namespace Bi
open PySem
open L2 (atI ixN)

/-- data by value -/
inductive DV where
  | non | bl (b : Bool) | int (i : Int) | str (s : Str) | tup (xs : List DV) | lst (xs : List DV)
mutual
def Rep (S : Sto) : SV → DV → Prop
  | x, .non => x = .non
  | x, .bl b => x = .bl b
  | x, .int i => x = .int i
  | x, .str s => x = .str s
  | x, .tup vs => ∃ xs, x = .tup xs ∧ xs.length < 1152921504606846976 ∧ Reps S xs vs
  | x, .lst vs => ∃ a xs, x = .ref a ∧ S[a]? = some (.lst xs) ∧ xs.length < 1152921504606846976 ∧ Reps S xs vs
def Reps (S : Sto) : List SV → List DV → Prop
  | xs, [] => xs = []
  | xs, v :: vs => ∃ x r, xs = x :: r ∧ Rep S x v ∧ Reps S r vs
end
mutual
def dep : DV → Nat
  | .tup vs => deps vs + 1
  | .lst vs => deps vs + 1
  | _ => 0
def deps : List DV → Nat
  | [] => 0
  | v :: vs => max (dep v) (deps vs)
end
theorem deps_get : ∀ {vs : List DV} {v : DV}, v ∈ vs → dep v ≤ deps vs
  | [], v, h => by simp at h
  | w :: ws, v, h => by
    unfold deps
    rcases List.mem_cons.mp h with q | q
    · subst q; omega
    · have := deps_get q; omega
theorem Reps.len {S : Sto} : ∀ {xs : List SV} {vs : List DV}, Reps S xs vs → xs.length = vs.length
  | xs, [], h => by unfold Reps at h; rw [h]; rfl
  | xs, v :: vs, h => by
    unfold Reps at h
    obtain ⟨x, r, e, _, t⟩ := h
    rw [e, List.length_cons, List.length_cons, Reps.len t]
theorem Reps.at {S : Sto} : ∀ {xs : List SV} {vs : List DV} {i : Nat} (h : i < vs.length), Reps S xs vs → ∃ x, xs[i]? = some x ∧ Rep S x vs[i]
  | xs, [], i, h, _ => by simp at h
  | xs, v :: vs, 0, _, h => by
    unfold Reps at h
    obtain ⟨x, r, e, a, t⟩ := h
    exact ⟨x, by rw [e]; rfl, a⟩
  | xs, v :: vs, i + 1, hi, h => by
    unfold Reps at h
    obtain ⟨x, r, e, a, t⟩ := h
    obtain ⟨y, h1, h2⟩ := Reps.at (i := i) (by simpa using hi) t
    exact ⟨y, by rw [e]; simpa using h1, by simpa using h2⟩
theorem Reps.of {S : Sto} : ∀ {xs : List SV} {vs : List DV}, xs.length = vs.length → (∀ i (h : i < vs.length) x, xs[i]? = some x → Rep S x vs[i]) → Reps S xs vs
  | [], [], _, _ => by unfold Reps; rfl
  | [], _ :: _, h, _ => by simp at h
  | _ :: _, [], h, _ => by simp at h
  | x :: xs, v :: vs, h, g => by
    unfold Reps
    refine ⟨x, xs, rfl, g 0 (by simp) x rfl, Reps.of (by simpa using h) fun i hi y e => ?_⟩
    have := g (i + 1) (by simpa using hi) y (by simpa using e)
    simpa using this
theorem smallI_len {n : Nat} (h : n < 1152921504606846976) : smallI (n : Int) = true := by
  exact decide_eq_true (by omega)
/-! ### _law_equal -/
def allI (e : Nat) : ISs := .cons (.iff (.not (.val (.call e (.cons (.idx (.var 0) (.var 2)) (.cons (.idx (.var 1) (.var 2)) (.nil)))))) (.cons (.ret (.cst (.bl false))) (.nil)) (.nil)) (.nil)
def allB (e : Nat) : ISs := .cons (.for_ (.nm 2) (.rng1 (.bf .len (.cons (.var 1) (.nil)))) (allI e)) (.cons (.ret (.cst (.bl true))) (.nil))
def equB (ae : Nat) : ISs := .cons (.iff (.val (.isi (.var 1) .lst)) (.cons (.iff (.or (.not (.val (.isi (.var 0) .lst))) (.val (.cmp .ne (.bf .len (.cons (.var 0) (.nil))) (.bf .len (.cons (.var 1) (.nil)))))) (.cons (.ret (.cst (.bl false))) (.nil)) (.nil)) (.cons (.ret (.call ae (.cons (.var 0) (.cons (.var 1) (.nil))))) (.nil))) (.nil)) (.cons (.iff (.val (.isi (.var 1) .tup)) (.cons (.iff (.or (.not (.val (.isi (.var 0) .tup))) (.val (.cmp .ne (.bf .len (.cons (.var 0) (.nil))) (.bf .len (.cons (.var 1) (.nil)))))) (.cons (.ret (.cst (.bl false))) (.nil)) (.nil)) (.cons (.ret (.call ae (.cons (.var 0) (.cons (.var 1) (.nil))))) (.nil))) (.nil)) (.cons (.iff (.val (.isi (.var 1) .bool)) (.cons (.ret (.and (.isi (.var 0) .bool) (.cmp .eq (.var 0) (.var 1)))) (.nil)) (.nil)) (.cons (.iff (.val (.isi (.var 1) .int)) (.cons (.ret (.and (.isi (.var 0) .int) (.and (.not (.isi (.var 0) .bool)) (.cmp .eq (.var 0) (.var 1))))) (.nil)) (.nil)) (.cons (.iff (.val (.isi (.var 1) .str)) (.cons (.ret (.and (.isi (.var 0) .str) (.cmp .eq (.var 0) (.var 1)))) (.nil)) (.nil)) (.cons (.ret (.cmp .is (.var 0) (.cst (.non)))) (.nil))))))
section
variable {P : Prog}
theorem all_run {cf : Nat → List SV → Sto → R SV} {e : Nat} {S : Sto} {x y : SV} {xs ys : List SV} {v3 : Option SV} {g : Nat → Prop} {n : Nat} (hx : seqOf S x = some xs) (hy : seqOf S y = some ys) (lx : xs.length = n) (ly : ys.length = n)
    (hi : ∀ (i : Nat) (a b : SV), i < n → xs[i]? = some a → ys[i]? = some b → ∃ c, cf e [a, b] S = .ok (.bl c) S ∧ (c = true ↔ g i)) :
    ∃ c, ((c = true ∧ ∃ L, runF (.vs (rgI 0 n 1)) (.nm 2) (evalSs P cf (allI e) none) [some x, some y, v3] S = .nx L S) ∨ (c = false ∧ runF (.vs (rgI 0 n 1)) (.nm 2) (evalSs P cf (allI e) none) [some x, some y, v3] S = .rt (.bl false) S)) ∧ (c = true ↔ ∀ i, i < n → g i) := by
  refine run_r0 (fun i L S' => S' = S ∧ (∃ w, L = [some x, some y, w]) ∧ ∀ j, j < i → g j) (Post := fun o => ∃ c, ((c = true ∧ ∃ L, o = .nx L S) ∨ (c = false ∧ o = .rt (.bl false) S)) ∧ (c = true ↔ ∀ i, i < n → g i)) ⟨rfl, ⟨_, rfl⟩, fun j hj => absurd hj (Nat.not_lt_zero j)⟩ ?_ ?_
  · rintro i L S' hi' ⟨rfl, ⟨w, rfl⟩, hj⟩
    refine ⟨_, rfl, ?_⟩
    have hax : i < xs.length := by omega
    have hay : i < ys.length := by omega
    obtain ⟨c, h1, h2⟩ := hi i xs[i] ys[i] hi' (by simp [hax]) (by simp [hay])
    have ex : idxS x (.int (i : Int)) S' = .ok xs[i] S' := by
      cases x with
      | tup z => rw [idx_tup]; simp at hx; subst hx; simp [hax]
      | ref z => rw [idx_ref, hx]; simp [hax]
      | _ => simp at hx
    have ey : idxS y (.int (i : Int)) S' = .ok ys[i] S' := by
      cases y with
      | tup z => rw [idx_tup]; simp at hy; subst hy; simp [hay]
      | ref z => rw [idx_ref, hy]; simp [hay]
      | _ => simp at hy
    have e1 : evalSs P cf (allI e) none [some x, some y, some (.int (i : Int))] S' = if c = true then .nx [some x, some y, some (.int (i : Int))] S' else .rt (.bl false) S' := by
      cases c <;> simp [allI, ex, ey, h1]
    show Step (evalSs P cf (allI e) none [some x, some y, some (.int (i : Int))] S') _ _
    rw [e1]
    cases c with
    | true => exact ⟨rfl, ⟨_, rfl⟩, fun j hj' => by
        rcases Nat.lt_succ_iff_lt_or_eq.mp hj' with q | q
        · exact hj j q
        · rw [q]; exact h2.mp rfl⟩
    | false => exact ⟨false, .inr ⟨rfl, rfl⟩, ⟨fun h => (by cases h), fun h => h2.mpr (h i hi')⟩⟩
  · rintro L S' ⟨rfl, ⟨w, rfl⟩, hj⟩
    exact ⟨true, .inl ⟨rfl, _, rfl⟩, ⟨fun _ => hj, fun _ => rfl⟩⟩
theorem all_call {e ae k : Nat} (ha : IsD P ae (allB e) 3 2) {S : Sto} {x y : SV} {xs ys : List SV} {us vs : List DV} (hx : seqOf S x = some xs) (hy : seqOf S y = some ys) (hb : bfS .len [y] S = .ok (.int ys.length) S) (sm : ys.length < 1152921504606846976) (rx : Reps S xs us) (ry : Reps S ys vs) (hl : us.length = vs.length)
    (ih : ∀ (v w : DV) (x y : SV), w ∈ vs → Rep S x v → Rep S y w → ∃ c, callD P (k + 1) e [x, y] S = .ok (.bl c) S ∧ (c = true ↔ v = w)) :
    ∃ c, callD P (k + 2) ae [x, y] S = .ok (.bl c) S ∧ (c = true ↔ us = vs) := by
  have e1 := rx.len
  have e2 := ry.len
  obtain ⟨c, h3, h4⟩ := all_run (P := P) (cf := callD P (k + 1)) (e := e) (S := S) (x := x) (y := y) (xs := xs) (ys := ys) (v3 := none) (n := ys.length) (g := fun i => us[i]? = vs[i]?) hx hy (by omega) rfl fun i a b hi h1 h2 => by
    obtain ⟨a', g1, g2⟩ := rx.at (i := i) (by omega)
    obtain ⟨b', g3, g4⟩ := ry.at (i := i) (by omega)
    rw [h1] at g1; rw [h2] at g3
    cases g1; cases g3
    obtain ⟨c, h5, h6⟩ := ih _ _ a b (List.getElem_mem _) g2 g4
    refine ⟨c, h5, h6.trans ?_⟩
    rw [List.getElem?_eq_getElem (by omega), List.getElem?_eq_getElem (by omega), Option.some_inj]
  refine ⟨c, ?_, h4.trans ⟨fun q => ?_, fun q i _ => by rw [q]⟩⟩
  · rw [ha.call rfl]
    have sm := smallI_len sm
    rcases h3 with ⟨rfl, L, h3⟩ | ⟨rfl, h3⟩
    · simp [allB, hb, sm, h3, -bfS]
    · simp [allB, hb, sm, h3, -bfS]
  · apply List.ext_getElem?
    intro i
    by_cases hi : i < ys.length
    · exact q i hi
    · rw [List.getElem?_eq_none (by omega), List.getElem?_eq_none (by omega)]
theorem equ_sp {e ae : Nat} (he : IsD P e (equB ae) 2 2) (ha : IsD P ae (allB e) 3 2) {S : Sto} : ∀ (h k : Nat) (v w : DV) (x y : SV), dep w ≤ h → Rep S x v → Rep S y w → ∃ c, callD P (2 * h + k + 1) e [x, y] S = .ok (.bl c) S ∧ (c = true ↔ v = w) := by
  intro h
  induction h with
  | zero =>
    intro k v w x y hd hv hw
    rw [he.call rfl]
    cases w with
    | tup vs => unfold dep at hd; omega
    | lst vs => unfold dep at hd; omega
    | non =>
      unfold Rep at hw; subst hw
      cases v with
      | tup vs => unfold Rep at hv; obtain ⟨xs, rfl, _⟩ := hv; exact ⟨false, by simp [equB], by simp⟩
      | lst vs => unfold Rep at hv; obtain ⟨a, xs, rfl, _⟩ := hv; exact ⟨false, by simp [equB], by simp⟩
      | non => unfold Rep at hv; subst hv; exact ⟨true, by simp [equB], by simp⟩
      | _ => unfold Rep at hv; subst hv; exact ⟨false, by simp [equB], by simp⟩
    | bl b =>
      unfold Rep at hw; subst hw
      cases v with
      | tup vs => unfold Rep at hv; obtain ⟨xs, rfl, _⟩ := hv; exact ⟨false, by simp [equB], by simp⟩
      | lst vs => unfold Rep at hv; obtain ⟨a, xs, rfl, h1, _⟩ := hv; exact ⟨false, by simp [equB, h1], by simp⟩
      | bl b' => unfold Rep at hv; subst hv; exact ⟨decide (b' = b), by simp [equB], by simp⟩
      | _ => unfold Rep at hv; subst hv; exact ⟨false, by simp [equB], by simp⟩
    | int b =>
      unfold Rep at hw; subst hw
      cases v with
      | tup vs => unfold Rep at hv; obtain ⟨xs, rfl, _⟩ := hv; exact ⟨false, by simp [equB], by simp⟩
      | lst vs => unfold Rep at hv; obtain ⟨a, xs, rfl, h1, _⟩ := hv; exact ⟨false, by simp [equB, h1], by simp⟩
      | int b' => unfold Rep at hv; subst hv; exact ⟨decide (b' = b), by simp [equB], by simp⟩
      | _ => unfold Rep at hv; subst hv; exact ⟨false, by simp [equB], by simp⟩
    | str b =>
      unfold Rep at hw; subst hw
      cases v with
      | tup vs => unfold Rep at hv; obtain ⟨xs, rfl, _⟩ := hv; exact ⟨false, by simp [equB], by simp⟩
      | lst vs => unfold Rep at hv; obtain ⟨a, xs, rfl, h1, _⟩ := hv; exact ⟨false, by simp [equB, h1], by simp⟩
      | str b' => unfold Rep at hv; subst hv; exact ⟨decide (b' = b), by simp [equB], by simp⟩
      | _ => unfold Rep at hv; subst hv; exact ⟨false, by simp [equB], by simp⟩
  | succ h ih =>
    intro k v w x y hd hv hw
    have cases_on_dep : dep w ≤ h ∨ (∃ vs, w = .tup vs) ∨ ∃ vs, w = .lst vs := by
      cases w with
      | tup vs => exact .inr (.inl ⟨vs, rfl⟩)
      | lst vs => exact .inr (.inr ⟨vs, rfl⟩)
      | _ => exact .inl (by unfold dep; omega)
    rcases cases_on_dep with q | ⟨vs, rfl⟩ | ⟨vs, rfl⟩
    · have := ih (k + 2) v w x y q hv hw
      rw [show 2 * h + (k + 2) + 1 = 2 * (h + 1) + k + 1 by omega] at this
      exact this
    · unfold Rep at hw
      obtain ⟨ys, rfl, ly, ry⟩ := hw
      have e2 := ry.len
      rw [show 2 * (h + 1) + k + 1 = (2 * h + k + 2) + 1 by omega, he.call rfl]
      cases v with
      | tup us =>
        unfold Rep at hv
        obtain ⟨xs, rfl, lx, rx⟩ := hv
        have e1 := rx.len
        by_cases hl : us.length = vs.length
        · obtain ⟨c, hc, h4⟩ := all_call (P := P) (k := 2 * h + k) ha (x := .tup xs) (y := .tup ys) rfl rfl rfl ly rx ry hl fun v w x y hm h1 h2 => ih k v w x y (by unfold dep at hd; have := deps_get hm; omega) h1 h2
          have hl2 : ((xs.length : Int) = (ys.length : Int)) := by omega
          exact ⟨c, by simp [equB, hl2, hc], h4.trans ⟨fun q => by rw [q], fun q => by cases q; rfl⟩⟩
        · have hl' : ¬ ((xs.length : Int) = (ys.length : Int)) := by omega
          exact ⟨false, by simp [equB, hl'], ⟨fun q => (by cases q), fun q => (by cases q; exact absurd rfl hl)⟩⟩
      | lst us => unfold Rep at hv; obtain ⟨a, xs, rfl, h1, _⟩ := hv; exact ⟨false, by simp [equB, h1], by simp⟩
      | _ => unfold Rep at hv; subst hv; exact ⟨false, by simp [equB], by simp⟩
    · unfold Rep at hw
      obtain ⟨b, ys, rfl, hb, ly, ry⟩ := hw
      have e2 := ry.len
      rw [show 2 * (h + 1) + k + 1 = (2 * h + k + 2) + 1 by omega, he.call rfl]
      cases v with
      | lst us =>
        unfold Rep at hv
        obtain ⟨a, xs, rfl, hxa, lx, rx⟩ := hv
        have e1 := rx.len
        by_cases hl : us.length = vs.length
        · obtain ⟨c, hc, h4⟩ := all_call (P := P) (k := 2 * h + k) ha (x := .ref a) (y := .ref b) (xs := xs) (ys := ys) (by simp [hxa]) (by simp [hb]) (by simp [hb]) ly rx ry hl fun v w x y hm h1 h2 => ih k v w x y (by unfold dep at hd; have := deps_get hm; omega) h1 h2
          have hl2 : ((xs.length : Int) = (ys.length : Int)) := by omega
          exact ⟨c, by simp [equB, hl2, hc, hxa, hb], h4.trans ⟨fun q => by rw [q], fun q => by cases q; rfl⟩⟩
        · have hl' : ¬ ((xs.length : Int) = (ys.length : Int)) := by omega
          exact ⟨false, by simp [equB, hl', hxa, hb], ⟨fun q => (by cases q), fun q => (by cases q; exact absurd rfl hl)⟩⟩
      | tup us => unfold Rep at hv; obtain ⟨xs, rfl, _⟩ := hv; exact ⟨false, by simp [equB, hb], by simp⟩
      | _ => unfold Rep at hv; subst hv; exact ⟨false, by simp [equB, hb], by simp⟩
end
end Bi

/-! Bi16: plain facts that several laws share: places of the store, lists of numbers, sorting, is_number, check_gate. -/
namespace Bi
open PySem
open L2 (atI ixN)
@[simp] theorem getA0 {S G : Sto} {o : SO} : (S ++ (o :: G))[S.length]? = some o := by simp
@[simp] theorem getA1 {S G : Sto} {i : Nat} : (S ++ G)[S.length + i]? = G[i]? := by
  rw [List.getElem?_append_right (by omega)]
  congr 1
  omega
@[simp] theorem setA0 {S G : Sto} {o o' : SO} : (S ++ (o :: G)).set S.length o' = S ++ (o' :: G) := by simp
@[simp] theorem setA1 {S G : Sto} {i : Nat} {o : SO} : (S ++ G).set (S.length + i) o = S ++ G.set i o := by
  rw [List.set_append_right _ _ (by omega)]
  congr 2
  omega
abbrev nI (cs : List Nat) : List SV := cs.map fun (c : Nat) => SV.int (c : Int)
/-! ### is_integer, is_number -/
def isiB : ISs := .cons (.ret (.and (.isi (.var 0) .int) (.not (.isi (.var 0) .bool)))) (.nil)
def isnB (i : Nat) : ISs := .cons (.ret (.and (.call i (.cons (.var 0) (.nil))) (.chn .le .lt (.cst (.int 0)) (.var 0) (.var 1)))) (.nil)
theorem isi_sp {P : Prog} {d k : Nat} (h : IsD P d isiB 1 1) {i : Int} {S : Sto} : callD P (k + 1) d [.int i] S = .ok (.bl true) S := by
  rw [h.call rfl]
  simp [isiB]
theorem isn_sp {P : Prog} {d e k : Nat} (h : IsD P d (isnB e) 2 2) (he : IsD P e isiB 1 1) {i m : Int} {S : Sto} : callD P (k + 2) d [.int i, .int m] S = .ok (.bl (decide (0 ≤ i ∧ i < m))) S := by
  rw [h.call rfl]
  by_cases h0 : 0 ≤ i
  · simp [isnB, isi_sp he, h0]
  · simp [isnB, isi_sp he, h0]
theorem inF_nI {c : Nat} {xs : List Nat} : inF (.int (c : Int)) (nI xs) = decide (c ∈ xs) := by
  unfold inF
  induction xs with
  | nil => rfl
  | cons x xs ih =>
    show (eqF (.int (x : Int)) (.int (c : Int)) || (nI xs).any fun y => eqF y (.int (c : Int))) = _
    rw [ih]
    have e : eqF (.int (x : Int)) (.int (c : Int)) = decide (c = x) := by
      show ((x : Int) == (c : Int)) = decide (c = x)
      by_cases h : c = x
      · subst h; simp
      · rw [decide_eq_false h]; simp; omega
    rw [e]
    by_cases h : c = x <;> simp [h]
theorem flat_nI (xs : List Nat) : (nI xs).all flatS = true := by
  induction xs with
  | nil => rfl
  | cons x xs ih => show (true && (nI xs).all flatS) = true; rw [ih]; rfl
theorem cut_from (xs : List SV) (k : Nat) : cut xs (some (k : Int)) none = xs.drop k := by
  unfold cut
  rw [HT.sIx_nat, HT.sIx_none, List.take_of_length_le (by rw [List.length_drop]; omega)]
  by_cases h : k ≤ xs.length
  · rw [Nat.min_eq_left h]
  · rw [Nat.min_eq_right (by omega), List.drop_eq_nil_of_le (by omega), List.drop_eq_nil_of_le (by omega)]
theorem cut_to (xs : List SV) (k : Nat) : cut xs none (some (k : Int)) = xs.take k := by
  unfold cut
  rw [HT.sIx_nat, HT.sIx_none]
  simp
theorem cut_in (xs : List SV) (j k : Nat) : cut xs (some (j : Int)) (some (k : Int)) = (xs.take k).drop j := by
  unfold cut
  rw [HT.sIx_nat, HT.sIx_nat]
  apply List.ext_getElem?
  intro i
  simp only [List.getElem?_take, List.getElem?_drop]
  by_cases h : j ≤ xs.length
  · have hj : min j xs.length = j := by omega
    rw [hj]
    by_cases h2 : j + i < k
    · by_cases h3 : j + i < xs.length
      · rw [if_pos (by omega), if_pos h2]
      · rw [List.getElem?_eq_none (by omega)]; simp
    · rw [if_neg (by omega), if_neg h2]
  · have hj : min j xs.length = xs.length := by omega
    rw [hj, List.getElem?_eq_none (by omega), List.getElem?_eq_none (by omega)]; simp
theorem nI_get {cs : List Nat} {i : Nat} (h : i < cs.length) : (nI cs)[i]? = some (.int (cs.getD i 0 : Nat)) := by
  rw [List.getElem?_map, List.getElem?_eq_getElem h, List.getD_eq_getElem?_getD, List.getElem?_eq_getElem h]
  rfl
/-! ### sorting -/
def insN (x : Nat) : List Nat → List Nat
  | [] => [x]
  | y :: ys => if x ≤ y then x :: y :: ys else y :: insN x ys
def sortN : List Nat → List Nat
  | [] => []
  | x :: xs => insN x (sortN xs)
theorem insI_cast (x : Nat) : ∀ ys : List Nat, insI (x : Int) (ys.map fun (c : Nat) => (c : Int)) = (insN x ys).map fun (c : Nat) => (c : Int)
  | [] => rfl
  | y :: ys => by
    show (if (x : Int) ≤ (y : Int) then _ else _) = _
    unfold insN
    by_cases h : x ≤ y
    · rw [if_pos (by omega), if_pos h]; rfl
    · rw [if_neg (by omega), if_neg h, insI_cast x ys]; rfl
theorem sortI_cast : ∀ xs : List Nat, sortI (xs.map fun (c : Nat) => (c : Int)) = (sortN xs).map fun (c : Nat) => (c : Int)
  | [] => rfl
  | x :: xs => by
    show insI (x : Int) (sortI (xs.map fun (c : Nat) => (c : Int))) = _
    rw [sortI_cast xs, insI_cast]; rfl
theorem insN_perm (x : Nat) : ∀ ys : List Nat, (insN x ys).Perm (x :: ys)
  | [] => .refl _
  | y :: ys => by
    unfold insN
    by_cases h : x ≤ y
    · rw [if_pos h]
    · rw [if_neg h]
      exact (List.Perm.cons y (insN_perm x ys)).trans (List.Perm.swap x y ys)
theorem sortN_perm : ∀ xs : List Nat, (sortN xs).Perm xs
  | [] => .refl _
  | x :: xs => (insN_perm x (sortN xs)).trans ((sortN_perm xs).cons x)
theorem insN_up (x : Nat) : ∀ ys : List Nat, ys.Pairwise (· ≤ ·) → (insN x ys).Pairwise (· ≤ ·)
  | [], _ => List.pairwise_singleton _ _
  | y :: ys, h => by
    unfold insN
    have h' := List.pairwise_cons.mp h
    by_cases hx : x ≤ y
    · rw [if_pos hx]
      refine List.pairwise_cons.mpr ⟨fun z hz => ?_, h⟩
      rcases List.mem_cons.mp hz with q | q
      · omega
      · have := h'.1 z q; omega
    · rw [if_neg hx]
      refine List.pairwise_cons.mpr ⟨fun z hz => ?_, insN_up x ys h'.2⟩
      have hz := (insN_perm x ys).mem_iff.mp hz
      rcases List.mem_cons.mp hz with q | q
      · omega
      · exact h'.1 z q
theorem sortN_up : ∀ xs : List Nat, (sortN xs).Pairwise (· ≤ ·)
  | [] => .nil
  | x :: xs => insN_up x _ (sortN_up xs)
theorem up_lt {xs : List Nat} (h : xs.Pairwise (· ≤ ·)) (n : xs.Nodup) : xs.Pairwise (· < ·) :=
  (List.Pairwise.and h n).imp fun ⟨a, b⟩ => Nat.lt_of_le_of_ne a b
theorem intsOf_nI : ∀ xs : List Nat, intsOf (nI xs) = some (xs.map fun (c : Nat) => (c : Int))
  | [] => rfl
  | x :: xs => by
    show (intsOf (nI xs)).map ((x : Int) :: ·) = _
    rw [intsOf_nI xs]; rfl
theorem toDs_nI (S : Sto) : ∀ (xs : List Nat) (n : Nat), xs.length < n → toDs S n (nI xs) = some (xs.map fun (c : Nat) => PyData.int (c : Int))
  | [], n, _ => by cases n <;> rfl
  | x :: xs, 0, h => by simp at h
  | x :: xs, n + 1, h => by
    have ih := toDs_nI S xs n (by simpa using h)
    have e : toD S n (.int (x : Int)) = some (.int (x : Int)) := by cases n <;> rfl
    show (match toD S n (.int (x : Int)), toDs S n (nI xs) with
      | some d, some ds => some (d :: ds)
      | _, _ => none) = _
    rw [e, ih]
    rfl
theorem lay_ints : ∀ xs : List Nat, PyData.canLayAll0 (xs.map fun (c : Nat) => PyData.int (c : Int)) = true
  | [] => by simp [PyData.canLayAll0]
  | x :: xs => by
    have ih := lay_ints xs
    simp [PyData.canLayAll0, PyData.canLay0, ih]
theorem depth_ints : ∀ xs : List Nat, PyData.depthAll (xs.map fun (c : Nat) => PyData.int (c : Int)) = 0
  | [] => by simp [PyData.depthAll]
  | x :: xs => by
    have ih := depth_ints xs
    simp [PyData.depthAll, PyData.depth, ih]
theorem eqv_ints : ∀ xs ys : List Nat, PyData.eqvAll (xs.map fun (c : Nat) => PyData.int (c : Int)) (ys.map fun (c : Nat) => PyData.int (c : Int)) = decide (xs = ys)
  | [], [] => by simp [PyData.eqvAll]
  | [], y :: ys => by simp [PyData.eqvAll]
  | x :: xs, [] => by simp [PyData.eqvAll]
  | x :: xs, y :: ys => by
    have ih := eqv_ints xs ys
    have e : PyData.eqvAll ((x :: xs).map fun (c : Nat) => PyData.int (c : Int)) ((y :: ys).map fun (c : Nat) => PyData.int (c : Int)) = (((x : Int) == (y : Int)) && PyData.eqvAll (xs.map fun (c : Nat) => PyData.int (c : Int)) (ys.map fun (c : Nat) => PyData.int (c : Int))) := by
      simp [PyData.eqvAll, PyData.eqv]
    rw [e, ih]
    by_cases h : x = y
    · subst h; simp
    · have : ¬ ((x : Int) = (y : Int)) := by omega
      simp [h, this]
theorem toD_nI {S : Sto} {a : Nat} {xs : List Nat} (h : S[a]? = some (.lst (nI xs))) (hl : xs.length < 999) : toD S 1000 (.ref a) = some (.list (xs.map fun (c : Nat) => PyData.int (c : Int))) := by
  show (match S[a]? with
    | some (.lst xs) => (toDs S 999 xs).map PyData.list
    | _ => none) = _
  rw [h]
  show (toDs S 999 (nI xs)).map PyData.list = _
  rw [toDs_nI S xs 999 hl]
  rfl
theorem eqD_nI {S : Sto} {a b : Nat} {xs ys : List Nat} (ha : S[a]? = some (.lst (nI xs))) (hb : S[b]? = some (.lst (nI ys))) (la : xs.length < 999) (lb : ys.length < 999) : eqD S (.ref a) (.ref b) = some (decide (xs = ys)) := by
  unfold eqD
  rw [toD_nI ha la, toD_nI hb lb]
  have s : ∀ zs : List Nat, SeqAt.shaped (.list (zs.map fun (c : Nat) => PyData.int (c : Int))) = true := fun zs => by
    simp [SeqAt.shaped, PyData.canLay0, PyData.depth, lay_ints, depth_ints]
  show (if SeqAt.shaped _ && SeqAt.shaped _ then some (PyData.eqv _ _) else none) = _
  rw [s, s]
  show some (PyData.eqv (.list _) (.list _)) = _
  have e : PyData.eqv (.list (xs.map fun (c : Nat) => PyData.int (c : Int))) (.list (ys.map fun (c : Nat) => PyData.int (c : Int))) = PyData.eqvAll (xs.map fun (c : Nat) => PyData.int (c : Int)) (ys.map fun (c : Nat) => PyData.int (c : Int)) := by
    simp [PyData.eqv]
  rw [e, eqv_ints]
theorem flat_set {xs : List SV} {j : Nat} {v : SV} (h : xs.all flatS = true) (hv : flatS v = true) : (xs.set j v).all flatS = true :=
  List.all_eq_true.mpr fun x hx => by
    rcases List.mem_or_eq_of_mem_set hx with q | q
    · exact (List.all_eq_true.mp h) x q
    · rw [q]; exact hv
theorem nI_drop (xs : List Nat) (k : Nat) : nI (xs.drop k) = (nI xs).drop k := List.map_drop ..
theorem nI_take (xs : List Nat) (k : Nat) : nI (xs.take k) = (nI xs).take k := List.map_take ..
abbrev vB (bs : List Bool) : List SV := bs.map SV.bl
theorem vB_get {bs : List Bool} {i : Nat} (h : i < bs.length) : (vB bs)[i]? = some (.bl (bs.getD i false)) := by
  rw [List.getElem?_map, List.getElem?_eq_getElem h, List.getD_eq_getElem?_getD, List.getElem?_eq_getElem h]
  rfl
/-- a bit's number -/
def isb : SV → Bool
  | .int i => decide (0 ≤ i) && decide (i < 120)
  | _ => false
theorem isn_any {P : Prog} {k n0 n1 : Nat} (i1 : IsD P n1 (isnB n0) 2 2) (i0 : IsD P n0 isiB 1 1) {v : SV} {S : Sto} (f : flatS v = true) : callD P (k + 2) n1 [v, .int 120] S = .ok (.bl (isb v)) S := by
  cases v with
  | int i =>
    rw [isn_sp i1 i0]
    unfold isb
    by_cases h : 0 ≤ i <;> simp [h]
  | bl b => rw [i1.call rfl]; simp [isnB, i0.call, isiB, isb]
  | str z => rw [i1.call rfl]; simp [isnB, i0.call, isiB, isb]
  | non => rw [i1.call rfl]; simp [isnB, i0.call, isiB, isb]
  | tup xs => cases f
  | ref n => cases f
  | kl xs => cases f
/-- the controls, one after another -/
def chkC (t : Int) : Int → List SV → Bool
  | _, [] => true
  | la, .int c :: r => isb (.int c) && decide (la < c) && decide (c ≠ t) && chkC t c r
  | _, _ :: _ => false
def gateOk (t : SV) (cs : List SV) : Bool := match t with
  | .int i => isb (.int i) && chkC i (-1) cs
  | _ => false
def gateI (n c : Nat) : ISs := .cons (.iff (.or (.not (.val (.call n (.cons (.var 5) (.cons (.var 1) (.nil)))))) (.or (.val (.cmp .le (.var 5) (.var 4))) (.val (.cmp .eq (.var 5) (.var 2))))) (.cons (.rse c) (.nil)) (.nil)) (.cons (.asg (.nm 4) (.var 5)) (.nil))
def gateB (n c : Nat) : ISs := .cons (.iff (.or (.not (.val (.isi (.var 0) .tup))) (.val (.cmp .ne (.bf .len (.cons (.var 0) (.nil))) (.cst (.int 2))))) (.cons (.rse c) (.nil)) (.nil)) (.cons (.asg (.tp [2, 3]) (.var 0)) (.cons (.iff (.or (.not (.val (.call n (.cons (.var 2) (.cons (.var 1) (.nil)))))) (.not (.val (.isi (.var 3) .tup)))) (.cons (.rse c) (.nil)) (.nil)) (.cons (.asg (.nm 4) (.neg (.cst (.int 1)))) (.cons (.for_ (.nm 5) (.seq (.var 3)) (gateI n c)) (.nil)))))
theorem gate_any {P : Prog} {k n0 n1 n2 c : Nat} (i2 : IsD P n2 (gateB n1 c) 6 2) (i1 : IsD P n1 (isnB n0) 2 2) (i0 : IsD P n0 isiB 1 1) {t : SV} {cs : List SV} {S : Sto} (ft : flatS t = true) (fc : cs.all flatS = true) :
    callD P (k + 3) n2 [.tup [t, .tup cs], .int 120] S = if gateOk t cs then .ok .non S else .exc c S := by
  rw [i2.call rfl]
  by_cases hb : isb t = true
  · obtain ⟨i, rfl⟩ : ∃ i, t = .int i := by
      cases t with
      | int i => exact ⟨i, rfl⟩
      | _ => cases hb
    have hr : (∃ L, chkC i (-1) cs = true ∧ runF (.vs cs) (.nm 5) (evalSs P (callD P (k + 2)) (gateI n1 c) none) [some (.tup [.int i, .tup cs]), some (.int 120), some (.int i), some (.tup cs), some (.int (-1)), none] S = .nx L S) ∨
        (∃ L, chkC i (-1) cs = false ∧ runF (.vs cs) (.nm 5) (evalSs P (callD P (k + 2)) (gateI n1 c) none) [some (.tup [.int i, .tup cs]), some (.int 120), some (.int i), some (.tup cs), some (.int (-1)), none] S = .exc c L S) := by
      refine run_vs (fun j L S' => S' = S ∧ ∃ (la : Int) (w : Option SV), L = [some (.tup [.int i, .tup cs]), some (.int 120), some (.int i), some (.tup cs), some (.int la), w] ∧ chkC i la (cs.drop j) = chkC i (-1) cs)
        (Post := fun o => (∃ L, chkC i (-1) cs = true ∧ o = .nx L S) ∨ (∃ L, chkC i (-1) cs = false ∧ o = .exc c L S)) ⟨rfl, -1, none, rfl, rfl⟩ ?_ ?_
      · rintro j v L S' hj ⟨rfl, la, w, rfl, hc⟩
        refine ⟨_, rfl, ?_⟩
        have hjl : j < cs.length := (List.getElem?_eq_some_iff.mp hj).1
        have hv : cs[j] = v := (List.getElem?_eq_some_iff.mp hj).2
        rw [List.drop_eq_getElem_cons hjl, hv] at hc
        have fv : flatS v = true := (List.all_eq_true.mp fc) v (List.mem_of_getElem? hj)
        generalize cs.drop (j + 1) = r at hc
        show Step (evalSs P _ (gateI n1 c) none [some (.tup [.int i, .tup cs]), some (.int 120), some (.int i), some (.tup cs), some (.int la), some v] S') _ _
        by_cases hv1 : isb v = true
        · obtain ⟨z, rfl⟩ : ∃ z, v = .int z := by
            cases v with
            | int z => exact ⟨z, rfl⟩
            | _ => cases hv1
          have hcc : chkC i la (.int z :: r) = (isb (.int z) && decide (la < z) && decide (z ≠ i) && chkC i z r) := rfl
          rw [hcc, hv1] at hc
          by_cases h1 : la < z
          · by_cases h2 : z = i
            · subst h2
              have h1' : ¬ z ≤ la := by omega
              have e : evalSs P (callD P (k + 2)) (gateI n1 c) none [some (.tup [.int z, .tup cs]), some (.int 120), some (.int z), some (.tup cs), some (.int la), some (.int z)] S' = .exc c [some (.tup [.int z, .tup cs]), some (.int 120), some (.int z), some (.tup cs), some (.int la), some (.int z)] S' := by
                simp [gateI, isn_any i1 i0 fv, hv1, h1']
              rw [e]
              refine .inr ⟨_, ?_, rfl⟩
              rw [← hc]; simp
            · have h1' : ¬ z ≤ la := by omega
              have e : evalSs P (callD P (k + 2)) (gateI n1 c) none [some (.tup [.int i, .tup cs]), some (.int 120), some (.int i), some (.tup cs), some (.int la), some (.int z)] S' = .nx [some (.tup [.int i, .tup cs]), some (.int 120), some (.int i), some (.tup cs), some (.int z), some (.int z)] S' := by
                simp [gateI, isn_any i1 i0 fv, hv1, h2, h1']
              rw [e]
              refine ⟨rfl, z, _, rfl, ?_⟩
              rw [← hc]; simp [h1, h2]
          · have h1' : z ≤ la := by omega
            have e : evalSs P (callD P (k + 2)) (gateI n1 c) none [some (.tup [.int i, .tup cs]), some (.int 120), some (.int i), some (.tup cs), some (.int la), some (.int z)] S' = .exc c [some (.tup [.int i, .tup cs]), some (.int 120), some (.int i), some (.tup cs), some (.int la), some (.int z)] S' := by
              simp [gateI, isn_any i1 i0 fv, hv1, h1']
            rw [e]
            refine .inr ⟨_, ?_, rfl⟩
            rw [← hc]; simp [h1]
        · rw [Bool.not_eq_true] at hv1
          have e : evalSs P (callD P (k + 2)) (gateI n1 c) none [some (.tup [.int i, .tup cs]), some (.int 120), some (.int i), some (.tup cs), some (.int la), some v] S' = .exc c [some (.tup [.int i, .tup cs]), some (.int 120), some (.int i), some (.tup cs), some (.int la), some v] S' := by
            simp [gateI, isn_any i1 i0 fv, hv1]
          rw [e]
          refine .inr ⟨_, ?_, rfl⟩
          rw [← hc]
          cases v with
          | int z => show (isb (.int z) && decide (la < z) && decide (z ≠ i) && chkC i z r) = false; rw [hv1]; rfl
          | _ => rfl
      · rintro L S' ⟨rfl, la, w, rfl, hc⟩
        rw [List.drop_length] at hc
        exact .inl ⟨_, by rw [← hc]; rfl, rfl⟩
    have hg : gateOk (.int i) cs = chkC i (-1) cs := by
      show (isb (.int i) && chkC i (-1) cs) = _
      rw [hb]; rfl
    rw [hg]
    rcases hr with ⟨L, h1, h2⟩ | ⟨L, h1, h2⟩
    · simp [gateB, isn_any i1 i0 ft, hb, h1, h2]
    · simp [gateB, isn_any i1 i0 ft, hb, h1, h2]
  · have hg : gateOk t cs = false := by
      unfold gateOk
      cases t with
      | int i => rw [Bool.not_eq_true] at hb; show (isb (.int i) && chkC i (-1) cs) = false; rw [hb]; rfl
      | _ => rfl
    rw [hg, if_neg Bool.false_ne_true]
    rw [Bool.not_eq_true] at hb
    simp [gateB, isn_any i1 i0 ft, hb]
theorem nats_of : ∀ vs : List SV, vs.all isb = true → ∃ ns : List Nat, vs = nI ns ∧ ∀ c ∈ ns, c < 120
  | [], _ => ⟨[], rfl, fun c h => by simp at h⟩
  | v :: vs, h => by
    rw [List.all_cons, Bool.and_eq_true] at h
    obtain ⟨ns, rfl, h2⟩ := nats_of vs h.2
    cases v with
    | int i =>
      have h1 := h.1
      unfold isb at h1
      simp at h1
      refine ⟨i.toNat :: ns, ?_, fun c hc => ?_⟩
      · have : ((i.toNat : Nat) : Int) = i := by omega
        show _ = SV.int ((i.toNat : Nat) : Int) :: nI ns
        rw [this]
      · rcases List.mem_cons.mp hc with q | q
        · rw [q]; omega
        · exact h2 c q
    | _ => cases h.1
theorem isb_nI {c : Nat} (h : c < 120) : isb (.int (c : Int)) = true := by unfold isb; simp; omega
theorem chkC_nI {t : Nat} : ∀ (cs : List Nat) (la : Int), (∀ c ∈ cs, c < 120) → (chkC t la (nI cs) = true ↔ (∀ c ∈ cs, la < (c : Int) ∧ c ≠ t) ∧ cs.Pairwise (· < ·))
  | [], la, _ => ⟨fun _ => ⟨fun c h => by simp at h, .nil⟩, fun _ => rfl⟩
  | c :: cs, la, h => by
    have ih := chkC_nI (t := t) cs (c : Int) fun d hd => h d (List.mem_cons_of_mem _ hd)
    show (isb (.int (c : Int)) && decide (la < (c : Int)) && decide ((c : Int) ≠ (t : Int)) && chkC t (c : Int) (nI cs)) = true ↔ _
    rw [isb_nI (h c List.mem_cons_self), Bool.true_and, Bool.and_eq_true, Bool.and_eq_true, decide_eq_true_eq, decide_eq_true_eq, ih]
    constructor
    · rintro ⟨⟨h1, h2⟩, h3, h4⟩
      refine ⟨fun d hd => ?_, List.pairwise_cons.mpr ⟨fun d hd => ?_, h4⟩⟩
      · rcases List.mem_cons.mp hd with q | q
        · rw [q]; exact ⟨h1, fun z => h2 (by omega)⟩
        · have := h3 d q; exact ⟨by omega, this.2⟩
      · have := h3 d hd; omega
    · rintro ⟨h1, h2⟩
      have h2 := List.pairwise_cons.mp h2
      have h3 := h1 c List.mem_cons_self
      exact ⟨⟨h3.1, fun z => h3.2 (by omega)⟩, fun d hd => ⟨by have := h2.1 d hd; omega, (h1 d (List.mem_cons_of_mem _ hd)).2⟩, h2.2⟩
theorem chkC_isb {t : Int} : ∀ (cs : List SV) (la : Int), chkC t la cs = true → cs.all isb = true
  | [], _, _ => rfl
  | .int c :: cs, la, h => by
    have h : (isb (.int c) && decide (la < c) && decide (c ≠ t) && chkC t c cs) = true := h
    rw [Bool.and_eq_true, Bool.and_eq_true, Bool.and_eq_true] at h
    rw [List.all_cons, h.1.1.1, chkC_isb cs c h.2]; rfl
  | .non :: _, _, h => by cases h
  | .bl _ :: _, _, h => by cases h
  | .str _ :: _, _, h => by cases h
  | .tup _ :: _, _, h => by cases h
  | .ref _ :: _, _, h => by cases h
  | .kl _ :: _, _, h => by cases h
theorem sorted_up : ∀ {xs : List Nat}, xs.Pairwise (· ≤ ·) → sortN xs = xs
  | [], _ => rfl
  | x :: xs, h => by
    have h := List.pairwise_cons.mp h
    show insN x (sortN xs) = _
    rw [sorted_up h.2]
    cases xs with
    | nil => rfl
    | cons y ys => unfold insN; rw [if_pos (h.1 y List.mem_cons_self)]
end Bi

/-! Bi17: trees: is_table, is_leaf, is_inner, listed, rows_of, tree_value on right trees. -/
namespace Bi
open L2 (atI ixN)
def tabI (n : Nat) : ISs := .cons (.iff (.not (.val (.call n (.cons (.var 3) (.cons (.var 1) (.nil)))))) (.cons (.ret (.cst (.bl false))) (.nil)) (.nil)) (.nil)
def tabJ (n : Nat) : ISs := .cons (.iff (.or (.not (.val (.isi (.var 2) .tup))) (.val (.cmp .ne (.bf .len (.cons (.var 2) (.nil))) (.bf .len (.cons (.var 0) (.nil)))))) (.cons (.ret (.cst (.bl false))) (.nil)) (.nil)) (.cons (.for_ (.nm 3) (.seq (.var 2)) (tabI n)) (.nil))
def tabB (n : Nat) : ISs := .cons (.iff (.or (.not (.val (.isi (.var 0) .tup))) (.not (.val (.chn .le .le (.cst (.int 1)) (.bf .len (.cons (.var 0) (.nil))) (.var 1))))) (.cons (.ret (.cst (.bl false))) (.nil)) (.nil)) (.cons (.for_ (.nm 2) (.seq (.var 0)) (tabJ n)) (.cons (.ret (.cst (.bl true))) (.nil)))
def lfB (n : Nat) : ISs := .cons (.iff (.or (.not (.val (.isi (.var 0) .tup))) (.or (.val (.cmp .ne (.bf .len (.cons (.var 0) (.nil))) (.cst (.int 2)))) (.val (.cmp .ne (.idx (.var 0) (.cst (.int 0))) (.cst (.str "leaf")))))) (.cons (.ret (.cst (.bl false))) (.nil)) (.nil)) (.cons (.ret (.call n (.cons (.idx (.var 0) (.cst (.int 1))) (.cons (.var 1) (.nil))))) (.nil))
def inB (t : Nat) : ISs := .cons (.iff (.or (.not (.val (.isi (.var 0) .tup))) (.or (.val (.cmp .ne (.bf .len (.cons (.var 0) (.nil))) (.cst (.int 4)))) (.val (.cmp .ne (.idx (.var 0) (.cst (.int 0))) (.cst (.str "node")))))) (.cons (.ret (.cst (.bl false))) (.nil)) (.nil)) (.cons (.ret (.and (.call t (.cons (.idx (.var 0) (.cst (.int 1))) (.cons (.var 1) (.nil)))) (.cmp .eq (.bf .len (.cons (.idx (.var 0) (.cst (.int 1))) (.nil))) (.var 1)))) (.nil))
def lsQ : IB := .val (.var 4)
def lsI (lf inn gn go e : Nat) : ISs := .cons (.asg (.tp [5, 6, 7]) (.bm .pop (.var 4) (.nil))) (.cons (.iff (.val (.var 7)) (.cons (.asg (.nm 8) (.bm .pop (.var 3) (.nil))) (.cons (.asg (.nm 9) (.bm .pop (.var 3) (.nil))) (.cons (.expr (.bm .append (.var 2) (.cons (.tup (.cons (.var 5) (.cons (.var 9) (.cons (.var 8) (.nil))))) (.nil)))) (.cons (.expr (.bm .append (.var 3) (.cons (.bin .sub (.bf .len (.cons (.var 2) (.nil))) (.cst (.int 1))) (.nil)))) (.cons (.cont) (.nil)))))) (.nil)) (.cons (.iff (.or (.val (.cmp .gt (.var 6) (.glo gn))) (.val (.cmp .ge (.bin .add (.bf .len (.cons (.var 2) (.nil))) (.bf .len (.cons (.var 4) (.nil)))) (.glo go)))) (.cons (.rse e) (.nil)) (.nil)) (.cons (.iff (.val (.call lf (.cons (.var 5) (.cons (.var 1) (.nil))))) (.cons (.expr (.bm .append (.var 2) (.cons (.tup (.cons (.var 5) (.cons (.neg (.cst (.int 1))) (.cons (.neg (.cst (.int 1))) (.nil))))) (.nil)))) (.cons (.expr (.bm .append (.var 3) (.cons (.bin .sub (.bf .len (.cons (.var 2) (.nil))) (.cst (.int 1))) (.nil)))) (.nil))) (.cons (.iff (.val (.call inn (.cons (.var 5) (.cons (.var 1) (.nil))))) (.cons (.expr (.bm .append (.var 4) (.cons (.tup (.cons (.var 5) (.cons (.var 6) (.cons (.cst (.bl true)) (.nil))))) (.nil)))) (.cons (.expr (.bm .append (.var 4) (.cons (.tup (.cons (.idx (.var 5) (.cst (.int 3))) (.cons (.bin .add (.var 6) (.cst (.int 1))) (.cons (.cst (.bl false)) (.nil))))) (.nil)))) (.cons (.expr (.bm .append (.var 4) (.cons (.tup (.cons (.idx (.var 5) (.cst (.int 2))) (.cons (.bin .add (.var 6) (.cst (.int 1))) (.cons (.cst (.bl false)) (.nil))))) (.nil)))) (.nil)))) (.cons (.rse e) (.nil))) (.nil))) (.nil))))
def lsB (lf inn gn go e : Nat) : ISs := .cons (.asg (.nm 2) (.lst (.nil))) (.cons (.asg (.nm 3) (.lst (.nil))) (.cons (.asg (.nm 4) (.lst (.cons (.tup (.cons (.var 0) (.cons (.cst (.int 1)) (.cons (.cst (.bl false)) (.nil))))) (.nil)))) (.cons (.whl lsQ (lsI lf inn gn go e)) (.cons (.ret (.var 2)) (.nil)))))
def roB (i gv ls go e : Nat) : ISs := .cons (.iff (.or (.not (.val (.call i (.cons (.var 1) (.nil))))) (.not (.val (.chn .le .le (.cst (.int 1)) (.var 1) (.glo gv))))) (.cons (.rse e) (.nil)) (.nil)) (.cons (.asg (.nm 2) (.call ls (.cons (.var 0) (.cons (.var 1) (.nil))))) (.cons (.iff (.val (.cmp .gt (.bf .len (.cons (.var 2) (.nil))) (.glo go))) (.cons (.rse e) (.nil)) (.nil)) (.cons (.ret (.var 2)) (.nil))))
def tvI : ISs := .cons (.iff (.val (.cmp .lt (.var 4) (.cst (.int 0)))) (.cons (.expr (.bm .append (.var 2) (.cons (.idx (.var 3) (.cst (.int 1))) (.nil)))) (.nil)) (.cons (.expr (.bm .append (.var 2) (.cons (.idx (.idx (.idx (.var 3) (.cst (.int 1))) (.idx (.var 2) (.var 4))) (.idx (.var 2) (.var 5))) (.nil)))) (.nil))) (.nil)
def tvB (ro : Nat) : ISs := .cons (.asg (.nm 2) (.lst (.nil))) (.cons (.for_ (.tp [3, 4, 5]) (.seq (.call ro (.cons (.var 0) (.cons (.var 1) (.nil))))) tvI) (.cons (.ret (.idx (.var 2) (.neg (.cst (.int 1))))) (.nil)))
/-! ### trees -/
inductive Tr where
  | leaf (v : Nat) | node (tb : List (List Nat)) (a b : Tr)
abbrev tabS (tb : List (List Nat)) : SV := .tup (tb.map fun r => SV.tup (nI r))
def trS : Tr → SV
  | .leaf v => .tup [.str "leaf", .int (v : Nat)]
  | .node tb a b => .tup [.str "node", tabS tb, trS a, trS b]
/-- a table of numbers below m -/
structure TabM (m : Nat) (tb : List (List Nat)) : Prop where
  lo : 1 ≤ tb.length
  hi : tb.length ≤ m
  rw_ : ∀ r ∈ tb, r.length = tb.length ∧ ∀ c ∈ r, c < m
def WT (n : Nat) : Tr → Prop
  | .leaf v => v < n
  | .node tb a b => (TabM n tb ∧ tb.length = n) ∧ WT n a ∧ WT n b
def tval : Tr → Nat
  | .leaf v => v
  | .node tb a b => (tb.getD (tval a) []).getD (tval b) 0
def nds : Tr → Nat
  | .leaf _ => 1
  | .node _ a b => nds a + nds b + 1
def dpt : Tr → Nat
  | .leaf _ => 1
  | .node _ a b => max (dpt a) (dpt b) + 1
theorem nds_pos : ∀ t : Tr, 1 ≤ nds t
  | .leaf _ => Nat.le_refl _
  | .node _ a b => by unfold nds; omega
theorem getD_mem' {α : Type} {d : α} {xs : List α} {i : Nat} (h : i < xs.length) : xs.getD i d ∈ xs := by
  rw [List.getD_eq_getElem?_getD, List.getElem?_eq_getElem h]
  exact List.getElem_mem h
theorem tval_lt {n : Nat} : ∀ {t : Tr}, WT n t → tval t < n
  | .leaf v, h => h
  | .node tb a b, h => by
    unfold WT at h
    obtain ⟨⟨h1, h2⟩, h3, h4⟩ := h
    have ia := tval_lt h3
    have ib := tval_lt h4
    have r := h1.rw_ _ (getD_mem' (d := []) (show tval a < tb.length by omega))
    exact r.2 _ (getD_mem' (show tval b < (tb.getD (tval a) []).length by omega))
theorem tab_sp {P : Prog} {i n t k m : Nat} (hi : IsD P i isiB 1 1) (hn : IsD P n (isnB i) 2 2) (ht : IsD P t (tabB n) 4 2) {tb : List (List Nat)} {S : Sto} (h : TabM m tb) : callD P (k + 3) t [tabS tb, .int m] S = .ok (.bl true) S := by
  have hr : ∃ L, runF (.vs (tb.map fun r => SV.tup (nI r))) (.nm 2) (evalSs P (callD P (k + 2)) (tabJ n) none) [some (tabS tb), some (.int m), none, none] S = .nx L S := by
    refine run_vs (fun j L S' => S' = S ∧ ∃ w2 w3, L = [some (tabS tb), some (.int m), w2, w3]) (Post := fun o => ∃ L, o = .nx L S) ⟨rfl, none, none, rfl⟩ ?_ ?_
    · rintro j v L S' hj ⟨rfl, w2, w3, rfl⟩
      obtain ⟨r, hr, rfl⟩ := List.mem_map.mp (List.mem_of_getElem? hj)
      refine ⟨_, rfl, ?_⟩
      obtain ⟨h1, h2⟩ := h.rw_ r hr
      have hin : ∃ w3', runF (.vs (nI r)) (.nm 3) (evalSs P (callD P (k + 2)) (tabI n) none) [some (tabS tb), some (.int m), some (.tup (nI r)), w3] S' = .nx [some (tabS tb), some (.int m), some (.tup (nI r)), w3'] S' := by
        refine run_vs (fun j L S2 => S2 = S' ∧ ∃ w3, L = [some (tabS tb), some (.int m), some (.tup (nI r)), w3]) (Post := fun o => ∃ w3', o = .nx [some (tabS tb), some (.int m), some (.tup (nI r)), w3'] S') ⟨rfl, _, rfl⟩ ?_ ?_
        · rintro j v L S2 hj ⟨rfl, w3, rfl⟩
          obtain ⟨c, hc, rfl⟩ := List.mem_map.mp (List.mem_of_getElem? hj)
          refine ⟨_, rfl, ?_⟩
          have hcl : (c : Int) < (m : Int) := by have := h2 c hc; omega
          show Step (evalSs P (callD P (k + 2)) (tabI n) none [some (tabS tb), some (.int m), some (.tup (nI r)), some (.int (c : Int))] S2) _ _
          have e : evalSs P (callD P (k + 2)) (tabI n) none [some (tabS tb), some (.int m), some (.tup (nI r)), some (.int (c : Int))] S2 = .nx [some (tabS tb), some (.int m), some (.tup (nI r)), some (.int (c : Int))] S2 := by
            generalize tabS tb = T
            generalize nI r = R
            simp [tabI, isn_sp hn hi, hcl]
          rw [e]
          exact ⟨rfl, _, rfl⟩
        · rintro L S2 ⟨rfl, w3, rfl⟩; exact ⟨w3, rfl⟩
      obtain ⟨w3', e⟩ := hin
      have hl : ((nI r).length : Int) = ((tb.map fun r => SV.tup (nI r)).length : Int) := by rw [List.length_map, List.length_map]; omega
      show Step (evalSs P (callD P (k + 2)) (tabJ n) none [some (tabS tb), some (.int m), some (.tup (nI r)), w3] S') _ _
      have e2 : evalSs P (callD P (k + 2)) (tabJ n) none [some (tabS tb), some (.int m), some (.tup (nI r)), w3] S' = .nx [some (tabS tb), some (.int m), some (.tup (nI r)), w3'] S' := by
        unfold tabS at e ⊢
        generalize (tb.map fun r => SV.tup (nI r)) = T at *
        generalize nI r = R at *
        simp [tabJ, hl, e]
      rw [e2]
      exact ⟨rfl, _, _, rfl⟩
    · rintro L S' ⟨rfl, _⟩; exact ⟨L, rfl⟩
  obtain ⟨L, e⟩ := hr
  rw [ht.call rfl]
  have h1 : (1 : Int) ≤ ((tb.map fun r => SV.tup (nI r)).length : Int) := by rw [List.length_map]; have := h.lo; omega
  have h2 : ((tb.map fun r => SV.tup (nI r)).length : Int) ≤ (m : Int) := by rw [List.length_map]; have := h.hi; omega
  unfold tabS at e ⊢
  generalize (tb.map fun r => SV.tup (nI r)) = T at *
  simp [tabB, h1, h2, e]
structure TD (P : Prog) (i n t lf inn ls ro gn go gv ex : Nat) : Prop where
  hi : IsD P i isiB 1 1
  hn : IsD P n (isnB i) 2 2
  ht : IsD P t (tabB n) 4 2
  hlf : IsD P lf (lfB n) 2 2
  hin : IsD P inn (inB t) 2 2
  hls : IsD P ls (lsB lf inn gn go ex) 10 2
  hro : IsD P ro (roB i gv ls go ex) 3 2
  hgn : (P.glos[gn]?).map (·.2) = some (.int 40)
  hgo : (P.glos[go]?).map (·.2) = some (.int 200)
  hgv : (P.glos[gv]?).map (·.2) = some (.int 40)
section
variable {P : Prog} {i n t lf inn ls ro gn go gv ex : Nat} (D : TD P i n t lf inn ls ro gn go gv ex)
include D
theorem TD.g1 : ∃ s, P.glos[gn]? = some (s, .int 40) := by
  have h := D.hgn
  cases q : P.glos[gn]? with
  | none => rw [q] at h; cases h
  | some p => rw [q] at h; obtain ⟨s, v⟩ := p; cases h; exact ⟨s, rfl⟩
theorem TD.g2 : ∃ s, P.glos[go]? = some (s, .int 200) := by
  have h := D.hgo
  cases q : P.glos[go]? with
  | none => rw [q] at h; cases h
  | some p => rw [q] at h; obtain ⟨s, v⟩ := p; cases h; exact ⟨s, rfl⟩
theorem TD.g3 : ∃ s, P.glos[gv]? = some (s, .int 40) := by
  have h := D.hgv
  cases q : P.glos[gv]? with
  | none => rw [q] at h; cases h
  | some p => rw [q] at h; obtain ⟨s, v⟩ := p; cases h; exact ⟨s, rfl⟩
theorem TD.tab_sp {k m : Nat} {tb : List (List Nat)} {S : Sto} (h : TabM m tb) : callD P (k + 3) t [tabS tb, .int m] S = .ok (.bl true) S := Bi.tab_sp D.hi D.hn D.ht h
theorem TD.lf_y {k v m : Nat} {S : Sto} (h : v < m) : callD P (k + 3) lf [trS (.leaf v), .int m] S = .ok (.bl true) S := by
  rw [D.hlf.call rfl]
  have h' : (v : Int) < (m : Int) := by omega
  simp [lfB, trS, isn_sp D.hn D.hi, h']
theorem TD.lf_n {k m : Nat} {tb : List (List Nat)} {a b : Tr} {S : Sto} : callD P (k + 3) lf [trS (.node tb a b), .int m] S = .ok (.bl false) S := by
  rw [D.hlf.call rfl]
  simp [lfB, trS]
theorem TD.in_y {k m : Nat} {tb : List (List Nat)} {a b : Tr} {S : Sto} (h : TabM m tb) (hl : tb.length = m) : callD P (k + 4) inn [trS (.node tb a b), .int m] S = .ok (.bl true) S := by
  rw [D.hin.call rfl]
  have e := D.tab_sp (k := k) (S := S) h
  have h2 : ((tb.map fun r => SV.tup (nI r)).length : Int) = (m : Int) := by rw [List.length_map]; omega
  unfold trS
  unfold tabS at e ⊢
  generalize (tb.map fun r => SV.tup (nI r)) = T at *
  simp [inB, e, h2]
/-! ### listed -/
omit D in
def post : Tr → Nat → List (Tr × Int × Int)
  | .leaf v, _ => [(.leaf v, -1, -1)]
  | .node tb a b, s => post a s ++ post b (s + nds a) ++ [(.node tb a b, ((s + nds a - 1 : Nat) : Int), ((s + nds a + nds b - 1 : Nat) : Int))]
omit D in
theorem post_len : ∀ (t : Tr) (s : Nat), (post t s).length = nds t
  | .leaf _, _ => rfl
  | .node tb a b, s => by
    unfold post
    rw [List.length_append, List.length_append, post_len a, post_len b]
    rfl
omit D in
abbrev rowS (q : Tr × Int × Int) : SV := .tup [trS q.1, .int q.2.1, .int q.2.2]
omit D in
abbrev tskS (t : Tr) (d : Nat) (o : Bool) : SV := .tup [trS t, .int (d : Nat), .bl o]
omit D in
theorem pop_last {S : Sto} {a : Nat} {xs : List SV} {y : SV} (h : S[a]? = some (.lst (xs ++ [y]))) : popS (.ref a) [] S = .ok y (S.set a (.lst xs)) := by
  simp [popS, h]
omit D in
def stp : Tr → Nat
  | .leaf _ => 1
  | .node _ a b => stp a + stp b + 2
omit D in
theorem stp_le : ∀ t : Tr, stp t ≤ 2 * nds t
  | .leaf _ => by unfold stp nds; omega
  | .node _ a b => by have := stp_le a; have := stp_le b; unfold stp nds; omega
omit D in
abbrev lsL (tv : SV) (m s : Nat) (w5 w6 w7 w8 w9 : Option SV) : Loc := [some tv, some (.int m), some (.ref s), some (.ref (s + 1)), some (.ref (s + 2)), w5, w6, w7, w8, w9]
omit D in
abbrev lsS (S : Sto) (R Pl T : List SV) : Sto := S ++ [.lst R, .lst Pl, .lst T]
omit D in
theorem lsq {cf : Nat → List SV → Sto → R SV} {tv : SV} {m : Nat} {S : Sto} {w5 w6 w7 w8 w9 : Option SV} {R Pl T : List SV} {y : SV} :
    evalB P cf none lsQ (lsL tv m S.length w5 w6 w7 w8 w9) (lsS S R Pl (T ++ [y])) = .ok true (lsS S R Pl (T ++ [y])) := by
  simp [lsQ]
theorem TD.ls_leaf {k m d v : Nat} {tv : SV} {S : Sto} {w5 w6 w7 w8 w9 : Option SV} {R Pl T : List SV} (hv : v < m) (hd : d ≤ 40) (hz : R.length + T.length < 200) (hp : Pl.length ≤ 1000) :
    ∃ w5' w6' w7', evalSs P (callD P (k + 4)) (lsI lf inn gn go ex) none (lsL tv m S.length w5 w6 w7 w8 w9) (lsS S R Pl (T ++ [tskS (.leaf v) d false])) =
      .nx (lsL tv m S.length w5' w6' w7' w8 w9) (lsS S (R ++ [rowS (.leaf v, -1, -1)]) (Pl ++ [.int (R.length : Nat)]) T) := by
  obtain ⟨s1, g1⟩ := D.g1
  obtain ⟨s2, g2⟩ := D.g2
  have e := D.lf_y (k := k + 1) (S := lsS S R Pl T) hv
  have hpop : popS (.ref (S.length + 2)) [] (lsS S R Pl (T ++ [tskS (.leaf v) d false])) = .ok (tskS (.leaf v) d false) (lsS S R Pl T) := by
    rw [pop_last (xs := T) (by rw [getA1]; rfl)]
    simp
  have h1 : ¬ (40 : Int) < (d : Int) := by omega
  have h2 : ¬ (200 : Int) ≤ (R.length : Int) + (T.length : Int) := by omega
  have z1 : szOk (R.length + 1) = true := szOk_le (by omega)
  have z2 : szOk (Pl.length + 1) = true := szOk_le (by omega)
  refine ⟨some (trS (.leaf v)), some (.int d), some (.bl false), ?_⟩
  dsimp only [tskS, rowS] at hpop ⊢
  generalize trS (.leaf v) = V at *
  simp [lsI, hpop, h1, h2, g1, g2, e, z1, z2]
theorem TD.ls_open {k m d : Nat} {tb : List (List Nat)} {a b : Tr} {tv : SV} {S : Sto} {w5 w6 w7 w8 w9 : Option SV} {R Pl T : List SV} (h : TabM m tb) (hl : tb.length = m) (hd : d ≤ 40) (hz : R.length + T.length < 200) :
    ∃ w5' w6' w7', evalSs P (callD P (k + 4)) (lsI lf inn gn go ex) none (lsL tv m S.length w5 w6 w7 w8 w9) (lsS S R Pl (T ++ [tskS (.node tb a b) d false])) =
      .nx (lsL tv m S.length w5' w6' w7' w8 w9) (lsS S R Pl (T ++ [tskS (.node tb a b) d true] ++ [tskS b (d + 1) false] ++ [tskS a (d + 1) false])) := by
  obtain ⟨s1, g1⟩ := D.g1
  obtain ⟨s2, g2⟩ := D.g2
  have e := D.lf_n (k := k + 1) (m := m) (tb := tb) (a := a) (b := b) (S := lsS S R Pl T)
  have e2 := D.in_y (k := k) (a := a) (b := b) (S := lsS S R Pl T) h hl
  have hpop : popS (.ref (S.length + 2)) [] (lsS S R Pl (T ++ [tskS (.node tb a b) d false])) = .ok (tskS (.node tb a b) d false) (lsS S R Pl T) := by
    rw [pop_last (xs := T) (by rw [getA1]; rfl)]
    simp
  have h1 : ¬ (40 : Int) < (d : Int) := by omega
  have h2 : ¬ (200 : Int) ≤ (R.length : Int) + (T.length : Int) := by omega
  have z1 : szOk (T.length + 1) = true := szOk_le (by omega)
  have z2 : szOk (T.length + 1 + 1) = true := szOk_le (by omega)
  have z3 : szOk (T.length + 1 + 1 + 1) = true := szOk_le (by omega)
  have z4 : szOk (T.length + (1 + 1)) = true := szOk_le (by omega)
  have z5 : szOk (T.length + (1 + 1 + 1)) = true := szOk_le (by omega)
  have z6 : szOk (T.length + 2) = true := szOk_le (by omega)
  have z7 : szOk (T.length + 2 + 1) = true := szOk_le (by omega)
  have i2 : idxS (trS (.node tb a b)) (.int 2) = fun Z => .ok (trS a) Z := by funext Z; simp [trS]
  have i3 : idxS (trS (.node tb a b)) (.int 3) = fun Z => .ok (trS b) Z := by funext Z; simp [trS]
  refine ⟨some (trS (.node tb a b)), some (.int d), some (.bl false), ?_⟩
  dsimp only [tskS] at hpop ⊢
  generalize trS (.node tb a b) = V at *
  generalize trS a = A at *
  generalize trS b = B at *
  simp [lsI, hpop, h1, h2, g1, g2, e, e2, z1, z2, z3, z4, z5, z6, z7, i2, i3]
theorem TD.ls_done {k m d : Nat} {tr : Tr} {l r : Int} {tv : SV} {S : Sto} {w5 w6 w7 w8 w9 : Option SV} {R Pl T : List SV} (hz : R.length + T.length ≤ 1000) (hp : Pl.length ≤ 1000) :
    ∃ w5' w6' w7' w8' w9', evalSs P (callD P (k + 4)) (lsI lf inn gn go ex) none (lsL tv m S.length w5 w6 w7 w8 w9) (lsS S R (Pl ++ [.int l] ++ [.int r]) (T ++ [tskS tr d true])) =
      .ct (lsL tv m S.length w5' w6' w7' w8' w9') (lsS S (R ++ [rowS (tr, l, r)]) (Pl ++ [.int (R.length : Nat)]) T) := by
  have hpop : popS (.ref (S.length + 2)) [] (lsS S R (Pl ++ [.int l] ++ [.int r]) (T ++ [tskS tr d true])) = .ok (tskS tr d true) (lsS S R (Pl ++ [.int l] ++ [.int r]) T) := by
    rw [pop_last (xs := T) (by rw [getA1]; rfl)]
    simp
  have hp1 : popS (.ref (S.length + 1)) [] (lsS S R (Pl ++ [.int l] ++ [.int r]) T) = .ok (.int r) (lsS S R (Pl ++ [.int l]) T) := by
    rw [pop_last (xs := Pl ++ [.int l]) (y := .int r) (by rw [getA1]; rfl)]
    simp
  have hp2 : popS (.ref (S.length + 1)) [] (lsS S R (Pl ++ [.int l]) T) = .ok (.int l) (lsS S R Pl T) := by
    rw [pop_last (xs := Pl) (y := .int l) (by rw [getA1]; rfl)]
    simp
  have z1 : szOk (R.length + 1) = true := szOk_le (by omega)
  have z2 : szOk (Pl.length + 1) = true := szOk_le (by omega)
  refine ⟨some (trS tr), some (.int d), some (.bl true), some (.int r), some (.int l), ?_⟩
  have a1 : Pl ++ [.int l] ++ [.int r] = Pl ++ [SV.int l, .int r] := by simp
  rw [a1] at hpop hp1
  rw [a1]
  dsimp only [tskS, rowS] at hpop ⊢
  generalize trS tr = V at *
  simp [lsI, hpop, hp1, hp2, z1, z2]
theorem TD.ls_run {k m : Nat} {tv : SV} {S : Sto} : ∀ (tr : Tr) (d : Nat) (R Pl T : List SV) (x : Nat) (w5 w6 w7 w8 w9 : Option SV), WT m tr → d + dpt tr ≤ 41 → R.length + T.length + nds tr ≤ 200 → Pl.length + nds tr ≤ 1000 →
    ∃ w5' w6' w7' w8' w9', whF (evalB P (callD P (k + 4)) none lsQ) (evalSs P (callD P (k + 4)) (lsI lf inn gn go ex) none) (x + stp tr) (lsL tv m S.length w5 w6 w7 w8 w9) (lsS S R Pl (T ++ [tskS tr d false])) =
      whF (evalB P (callD P (k + 4)) none lsQ) (evalSs P (callD P (k + 4)) (lsI lf inn gn go ex) none) x (lsL tv m S.length w5' w6' w7' w8' w9') (lsS S (R ++ (post tr R.length).map rowS) (Pl ++ [.int ((R.length + nds tr - 1 : Nat) : Int)]) T) := by
  intro tr
  induction tr with
  | leaf v =>
    intro d R Pl T x w5 w6 w7 w8 w9 hw hd hz hp
    unfold dpt at hd
    unfold nds at hz hp
    obtain ⟨w5', w6', w7', e⟩ := D.ls_leaf (k := k) (tv := tv) (S := S) (w5 := w5) (w6 := w6) (w7 := w7) (w8 := w8) (w9 := w9) (R := R) (Pl := Pl) (T := T) (d := d) (show v < m from hw) (by omega) (by omega) (by omega)
    refine ⟨w5', w6', w7', w8, w9, ?_⟩
    show whF _ _ (x + 1) _ _ = _
    rw [whF, lsq]
    dsimp only
    rw [e]
    rfl
  | node tb a b iha ihb =>
    intro d R Pl T x w5 w6 w7 w8 w9 hw hd hz hp
    unfold WT at hw
    unfold dpt at hd
    unfold nds at hz hp
    have na := nds_pos a
    have nb := nds_pos b
    obtain ⟨⟨h1, h2⟩, h3, h4⟩ := hw
    obtain ⟨w5', w6', w7', e⟩ := D.ls_open (k := k) (a := a) (b := b) (tv := tv) (S := S) (w5 := w5) (w6 := w6) (w7 := w7) (w8 := w8) (w9 := w9) (R := R) (Pl := Pl) (T := T) (d := d) h1 h2 (by omega) (by omega)
    obtain ⟨u5, u6, u7, u8, u9, ea⟩ := iha (d + 1) R Pl (T ++ [tskS (.node tb a b) d true] ++ [tskS b (d + 1) false]) (x + stp b + 1) w5' w6' w7' w8 w9 h3 (by omega) (by simp; omega) (by omega)
    obtain ⟨v5, v6, v7, v8, v9, eb⟩ := ihb (d + 1) (R ++ (post a R.length).map rowS) (Pl ++ [.int ((R.length + nds a - 1 : Nat) : Int)]) (T ++ [tskS (.node tb a b) d true]) (x + 1) u5 u6 u7 u8 u9 h4 (by omega) (by rw [List.length_append, List.length_map, post_len]; simp; omega) (by simp; omega)
    have hRb : (R ++ (post a R.length).map rowS).length = R.length + nds a := by rw [List.length_append, List.length_map, post_len]
    rw [hRb] at eb
    have hRc : (R ++ (post a R.length).map rowS ++ (post b (R.length + nds a)).map rowS).length = R.length + nds a + nds b := by rw [List.length_append, hRb, List.length_map, post_len]
    obtain ⟨q5, q6, q7, q8, q9, ec⟩ := D.ls_done (k := k) (m := m) (d := d) (tr := .node tb a b) (l := ((R.length + nds a - 1 : Nat) : Int)) (r := ((R.length + nds a + nds b - 1 : Nat) : Int)) (tv := tv) (S := S) (w5 := v5) (w6 := v6) (w7 := v7) (w8 := v8) (w9 := v9) (R := R ++ (post a R.length).map rowS ++ (post b (R.length + nds a)).map rowS) (Pl := Pl) (T := T) (by rw [hRc]; omega) (by omega)
    refine ⟨q5, q6, q7, q8, q9, ?_⟩
    show whF _ _ (x + (stp a + stp b + 2)) _ _ = _
    rw [show x + (stp a + stp b + 2) = (x + stp b + 1 + stp a) + 1 by omega, whF, lsq]
    dsimp only
    rw [e]
    dsimp only
    rw [ea, show x + stp b + 1 = x + 1 + stp b by omega, eb, whF, lsq]
    dsimp only
    rw [ec]
    dsimp only
    rw [hRc]
    have ep : R ++ (post a R.length).map rowS ++ (post b (R.length + nds a)).map rowS ++ [rowS (.node tb a b, ((R.length + nds a - 1 : Nat) : Int), ((R.length + nds a + nds b - 1 : Nat) : Int))] = R ++ (post (.node tb a b) R.length).map rowS := by
      show _ = R ++ (post a R.length ++ post b (R.length + nds a) ++ [(Tr.node tb a b, ((R.length + nds a - 1 : Nat) : Int), ((R.length + nds a + nds b - 1 : Nat) : Int))]).map rowS
      simp
    rw [ep]
    have en : R.length + nds (.node tb a b) - 1 = R.length + nds a + nds b := by have : nds (.node tb a b) = nds a + nds b + 1 := rfl; omega
    rw [en]
theorem TD.ls_sp {k m : Nat} {tr : Tr} {S : Sto} (hw : WT m tr) (hd : dpt tr ≤ 40) (hn : nds tr ≤ 200) :
    ∃ G, callD P (k + 5) ls [trS tr, .int m] S = .ok (.ref S.length) (S ++ (.lst ((post tr 0).map rowS) :: G)) := by
  have hs := stp_le tr
  obtain ⟨w5, w6, w7, w8, w9, e⟩ := D.ls_run (k := k) (tv := trS tr) (S := S) tr 1 [] [] [] (wFuel - stp tr) none none none none none hw (by omega) (by simpa using hn) (by simp; omega)
  rw [show wFuel - stp tr + stp tr = wFuel by unfold wFuel; omega, show wFuel - stp tr = (wFuel - stp tr - 1) + 1 by unfold wFuel; omega] at e
  have hlast : ∀ (x : Nat) (L : Loc) (R Pl : List SV) (u5 u6 u7 u8 u9 : Option SV), whF (evalB P (callD P (k + 4)) none lsQ) (evalSs P (callD P (k + 4)) (lsI lf inn gn go ex) none) (x + 1) (lsL (trS tr) m S.length u5 u6 u7 u8 u9) (lsS S R Pl []) = .nx (lsL (trS tr) m S.length u5 u6 u7 u8 u9) (lsS S R Pl []) := fun x L R Pl u5 u6 u7 u8 u9 => by
    rw [whF]
    have : evalB P (callD P (k + 4)) none lsQ (lsL (trS tr) m S.length u5 u6 u7 u8 u9) (lsS S R Pl []) = .ok false (lsS S R Pl []) := by simp [lsQ]
    rw [this]
  rw [hlast _ []] at e
  refine ⟨[.lst [.int ((0 + nds tr - 1 : Nat) : Int)], .lst []], ?_⟩
  rw [D.hls.call rfl]
  have e' : whF (evalB P (callD P (k + 4)) none lsQ) (evalSs P (callD P (k + 4)) (lsI lf inn gn go ex) none) wFuel [some (trS tr), some (.int m), some (.ref S.length), some (.ref (S.length + 1)), some (.ref (S.length + 1 + 1)), none, none, none, none, none] (S ++ [.lst [], .lst [], .lst [tskS tr 1 false]]) = .nx (lsL (trS tr) m S.length w5 w6 w7 w8 w9) (S ++ (.lst ((post tr 0).map rowS) :: [.lst [.int ((0 + nds tr - 1 : Nat) : Int)], .lst []])) := e
  dsimp only [tskS] at e'
  generalize (post tr 0).map rowS = RR at *
  generalize trS tr = V at *
  simp at e'
  simp [lsB, e']
theorem TD.ro_sp {k m : Nat} {tr : Tr} {S : Sto} (hw : WT m tr) (hd : dpt tr ≤ 40) (hn : nds tr ≤ 200) (h1 : 1 ≤ m) (h2 : m ≤ 40) :
    ∃ G, callD P (k + 6) ro [trS tr, .int m] S = .ok (.ref S.length) (S ++ (.lst ((post tr 0).map rowS) :: G)) := by
  obtain ⟨G, e⟩ := D.ls_sp (k := k) (S := S) hw hd hn
  obtain ⟨s2, g2⟩ := D.g2
  obtain ⟨s3, g3⟩ := D.g3
  refine ⟨G, ?_⟩
  rw [D.hro.call rfl]
  have hl : ¬ (200 : Int) < (((post tr 0).map rowS).length : Int) := by rw [List.length_map, post_len]; omega
  have h1' : (1 : Int) ≤ (m : Int) := by omega
  have h2' : (m : Int) ≤ 40 := by omega
  generalize (post tr 0).map rowS = RR at *
  generalize trS tr = V at *
  simp [roB, isi_sp D.hi, h1, h1', h2', g2, g3, e, hl]
end
/-! ### the rows -/
def RowOk (ps : List (Tr × Int × Int)) (s i : Nat) : Tr × Int × Int → Prop
  | (.leaf _, l, _) => l = -1
  | (.node _ a b, l, r) => ∃ x y, x < i ∧ y < i ∧ l = ((s + x : Nat) : Int) ∧ r = ((s + y : Nat) : Int) ∧ (ps[x]?).map (·.1) = some a ∧ (ps[y]?).map (·.1) = some b
theorem post_last : ∀ (t : Tr) (s : Nat), ((post t s)[nds t - 1]?).map (·.1) = some t
  | .leaf v, s => rfl
  | .node tb a b, s => by
    unfold post
    have : nds (.node tb a b) - 1 = (post a s ++ post b (s + nds a)).length := by rw [List.length_append, post_len, post_len]; have : nds (.node tb a b) = nds a + nds b + 1 := rfl; omega
    rw [this, List.getElem?_append_right (Nat.le_refl _), Nat.sub_self]
    rfl
theorem RowOk.app {ps qs : List (Tr × Int × Int)} {s i : Nat} : ∀ {q : Tr × Int × Int}, RowOk ps s i q → i ≤ ps.length → RowOk (ps ++ qs) s i q
  | (.leaf _, l, _), h, _ => h
  | (.node _ a b, l, r), ⟨x, y, h1, h2, h3, h4, h5, h6⟩, hi =>
    ⟨x, y, h1, h2, h3, h4, by rw [List.getElem?_append_left (by omega)]; exact h5, by rw [List.getElem?_append_left (by omega)]; exact h6⟩
theorem RowOk.shift {ps qs : List (Tr × Int × Int)} {s i : Nat} : ∀ {q : Tr × Int × Int}, RowOk ps (s + qs.length) i q → RowOk (qs ++ ps) s (qs.length + i) q
  | (.leaf _, l, _), h => h
  | (.node _ a b, l, r), ⟨x, y, h1, h2, h3, h4, h5, h6⟩ =>
    ⟨qs.length + x, qs.length + y, by omega, by omega, by rw [h3, Nat.add_assoc], by rw [h4, Nat.add_assoc], by rw [List.getElem?_append_right (by omega), Nat.add_sub_cancel_left]; exact h5, by rw [List.getElem?_append_right (by omega), Nat.add_sub_cancel_left]; exact h6⟩
theorem post_ok : ∀ (t : Tr) (s i : Nat) (q : Tr × Int × Int), (post t s)[i]? = some q → RowOk (post t s) s i q
  | .leaf v, s, i, q, h => by
    unfold post at h
    cases i with
    | zero => cases h; rfl
    | succ i => simp at h
  | .node tb a b, s, i, q, h => by
    have la := post_len a s
    have lb := post_len b (s + nds a)
    unfold post at h ⊢
    by_cases h1 : i < (post a s).length
    · rw [List.append_assoc, List.getElem?_append_left h1] at h
      rw [List.append_assoc]
      exact (post_ok a s i q h).app (by omega)
    · by_cases h2 : i < (post a s ++ post b (s + nds a)).length
      · rw [List.getElem?_append_left h2, List.getElem?_append_right (by omega)] at h
        have := post_ok b (s + nds a) _ q h
        rw [← la] at this
        have r := this.shift (qs := post a s)
        rw [la] at r
        rw [show nds a + (i - nds a) = i by rw [la] at h1; omega] at r
        exact r.app (by omega)
      · have h3 := (List.getElem?_eq_some_iff.mp h).1
        have na := nds_pos a
        have nb := nds_pos b
        rw [List.length_append, List.length_append, la, lb] at h3
        rw [List.length_append, la, lb] at h2
        have hi : i = (post a s ++ post b (s + nds a)).length := by rw [List.length_append, la, lb]; simp at h3; omega
        rw [hi, List.getElem?_append_right (Nat.le_refl _), Nat.sub_self] at h
        cases h
        refine ⟨nds a - 1, nds a + (nds b - 1), by omega, by omega, by rw [show s + (nds a - 1) = s + nds a - 1 by omega], by rw [show s + (nds a + (nds b - 1)) = s + nds a + nds b - 1 by omega], ?_, ?_⟩
        · rw [List.append_assoc, List.getElem?_append_left (by omega)]
          exact post_last a s
        · rw [List.getElem?_append_left (by rw [List.length_append, la, lb]; omega), List.getElem?_append_right (by omega), la, Nat.add_sub_cancel_left]
          exact post_last b _
theorem post_wt {n : Nat} : ∀ (t : Tr) (s : Nat), WT n t → ∀ q ∈ post t s, WT n q.1
  | .leaf v, s, h, q, hq => by unfold post at hq; rw [List.mem_singleton.mp hq]; exact h
  | .node tb a b, s, h, q, hq => by
    unfold post at hq
    have h' := h
    unfold WT at h'
    rcases List.mem_append.mp hq with hq | hq
    · rcases List.mem_append.mp hq with hq | hq
      · exact post_wt a s h'.2.1 q hq
      · exact post_wt b _ h'.2.2 q hq
    · rw [List.mem_singleton.mp hq]; exact h
section
variable {P : Prog} {i n t lf inn ls ro gn go gv ex : Nat} (D : TD P i n t lf inn ls ro gn go gv ex)
include D
theorem TD.tv_sp {k m tvd : Nat} {tr : Tr} {S : Sto} (hd : IsD P tvd (tvB ro) 6 2) (hw : WT m tr) (hdp : dpt tr ≤ 40) (hn : nds tr ≤ 200) (h1 : 1 ≤ m) (h2 : m ≤ 40) :
    ∃ G, callD P (k + 7) tvd [trS tr, .int m] S = .ok (.int (tval tr : Nat)) (S ++ G) := by
  obtain ⟨G, e⟩ := D.ro_sp (k := k) (S := S ++ [.lst []]) hw hdp hn h1 h2
  have hl : (S ++ [SO.lst []]).length = S.length + 1 := by simp
  rw [hl] at e
  have hr : ∃ w3 w4 w5, runF (.ls (S.length + 1)) (.tp [3, 4, 5]) (evalSs P (callD P (k + 6)) tvI none) [some (trS tr), some (.int m), some (.ref S.length), none, none, none] (S ++ (.lst (nI []) :: .lst ((post tr 0).map rowS) :: G)) =
      .nx [some (trS tr), some (.int m), some (.ref S.length), w3, w4, w5] (S ++ (.lst (nI ((post tr 0).map fun q => tval q.1)) :: .lst ((post tr 0).map rowS) :: G)) := by
    refine run_ls (xs := (post tr 0).map rowS) (fun i L S' => (∃ w3 w4 w5, L = [some (trS tr), some (.int m), some (.ref S.length), w3, w4, w5]) ∧ S' = S ++ (.lst (nI (((post tr 0).take i).map fun q => tval q.1)) :: .lst ((post tr 0).map rowS) :: G)) (Post := fun o => ∃ w3 w4 w5, o = .nx [some (trS tr), some (.int m), some (.ref S.length), w3, w4, w5] (S ++ (.lst (nI ((post tr 0).map fun q => tval q.1)) :: .lst ((post tr 0).map rowS) :: G))) ⟨⟨_, _, _, rfl⟩, by rw [List.take_zero]; rfl⟩ ?_ ?_ ?_
    · rintro i L S' ⟨_, rfl⟩
      rw [getA1]; rfl
    · rintro i v L S' hv ⟨⟨w3, w4, w5, rfl⟩, rfl⟩
      have hil : i < (post tr 0).length := by have := (List.getElem?_eq_some_iff.mp hv).1; simpa using this
      rw [List.getElem?_map, List.getElem?_eq_getElem hil] at hv
      cases hv
      have hok := post_ok tr 0 i _ (List.getElem?_eq_getElem hil)
      have hwt := post_wt tr 0 hw _ (List.getElem_mem hil)
      have et : ((post tr 0).take (i + 1)).map (fun q => tval q.1) = ((post tr 0).take i).map (fun q => tval q.1) ++ [tval (post tr 0)[i].1] := by
        rw [← List.take_append_getElem hil, List.map_append]; rfl
      have hlen := post_len tr 0
      have htl : (((post tr 0).take i).map fun q => tval q.1).length = i := by rw [List.length_map, List.length_take]; omega
      rw [et]
      have hat : ∀ (x : Nat) (a : Tr), x < i → ((post tr 0)[x]?).map (·.1) = some a → (nI (((post tr 0).take i).map fun q => tval q.1))[x]? = some (.int (tval a : Nat)) := fun x a hx h => by
        rw [List.getElem?_map, List.getElem?_map, List.getElem?_take, if_pos hx]
        cases q : (post tr 0)[x]? with
        | none => rw [q] at h; cases h
        | some p => rw [q] at h; cases h; rfl
      have hz : szOk (i + 1) = true := szOk_le (by omega)
      generalize hF : ((post tr 0).take i).map (fun q => tval q.1) = F at *
      generalize hq : (post tr 0)[i] = q at *
      have hFl : (nI F).length = i := by rw [List.length_map, htl]
      have eapp : ∀ z : Nat, nI (F ++ [z]) = nI F ++ [.int (z : Nat)] := fun z => by simp
      rw [eapp]
      obtain ⟨nd, l, r⟩ := q
      refine ⟨[some (trS tr), some (.int m), some (.ref S.length), some (trS nd), some (.int l), some (.int r)], rfl, ?_⟩
      show Step (evalSs P (callD P (k + 6)) tvI none [some (trS tr), some (.int m), some (.ref S.length), some (trS nd), some (.int l), some (.int r)] (S ++ (.lst (nI F) :: .lst ((post tr 0).map rowS) :: G))) _ _
      have e : evalSs P (callD P (k + 6)) tvI none [some (trS tr), some (.int m), some (.ref S.length), some (trS nd), some (.int l), some (.int r)] (S ++ (.lst (nI F) :: .lst ((post tr 0).map rowS) :: G)) =
          .nx [some (trS tr), some (.int m), some (.ref S.length), some (trS nd), some (.int l), some (.int r)] (S ++ (.lst (nI F ++ [.int (tval nd : Nat)]) :: .lst ((post tr 0).map rowS) :: G)) := by
        cases nd with
        | leaf v =>
          have hl : l = -1 := hok
          subst hl
          generalize (post tr 0).map rowS = RR at *
          generalize trS tr = V at *
          generalize nI F = FF at *
          simp [tvI, trS, tval, hFl, hz]
        | node tb a b =>
          obtain ⟨x, y, hx, hy, hl, hr, ha, hb⟩ := hok
          rw [Nat.zero_add] at hl hr
          subst hl hr
          have hwt' : WT m (.node tb a b) := hwt
          unfold WT at hwt'
          have fa := hat x a hx ha
          have fb := hat y b hy hb
          have va := tval_lt hwt'.2.1
          have vb := tval_lt hwt'.2.2
          have r1 : (tb.map fun r => SV.tup (nI r))[tval a]? = some (.tup (nI (tb.getD (tval a) []))) := by
            rw [List.getElem?_map, List.getElem?_eq_getElem (by omega), List.getD_eq_getElem?_getD, List.getElem?_eq_getElem (by omega)]; rfl
          have r2 : (nI (tb.getD (tval a) []))[tval b]? = some (.int (tval (.node tb a b) : Nat)) := by
            have := hwt'.1.1.rw_ _ (getD_mem' (d := []) (show tval a < tb.length by omega))
            exact nI_get (by omega)
          have hx0 : ¬ ((x : Int) < 0) := by omega
          generalize (post tr 0).map rowS = RR at *
          generalize trS tr = V at *
          generalize tval (.node tb a b) = z at *
          generalize nI (tb.getD (tval a) []) = RW at *
          generalize tval a = za at *
          generalize tval b = zb at *
          generalize nI F = FF at *
          unfold trS tabS
          generalize (tb.map fun r => SV.tup (nI r)) = TB at *
          simp [tvI, hFl, hz, hx0, fa, fb, r1, r2, List.getElem?_cons_zero, List.getElem?_cons_succ, -getElem?_pos]
      rw [e]
      exact ⟨⟨_, _, _, rfl⟩, rfl⟩
    · rintro L S' ⟨⟨w3, w4, w5, rfl⟩, rfl⟩
      rw [List.length_map, List.take_length]
      exact ⟨_, _, _, rfl⟩
  obtain ⟨w3, w4, w5, e2⟩ := hr
  refine ⟨.lst (nI ((post tr 0).map fun q => tval q.1)) :: .lst ((post tr 0).map rowS) :: G, ?_⟩
  rw [hd.call rfl]
  have hlast : (nI ((post tr 0).map fun q => tval q.1))[(nI ((post tr 0).map fun q => tval q.1)).length - 1]? = some (.int (tval tr : Nat)) := by
    rw [List.length_map, List.length_map, post_len, List.getElem?_map, List.getElem?_map]
    have := post_last tr 0
    cases q : (post tr 0)[nds tr - 1]? with
    | none => rw [q] at this; cases this
    | some p => rw [q] at this; cases this; rfl
  have e2' : runF (.ls (S.length + 1)) (.tp [3, 4, 5]) (evalSs P (callD P (k + 6)) tvI none) [some (trS tr), some (.int m), some (.ref S.length), none, none, none] (S ++ (.lst [] :: .lst ((post tr 0).map rowS) :: G)) = _ := e2
  have e' : callD P (k + 6) ro [trS tr, .int m] (S ++ [.lst []]) = .ok (.ref (S.length + 1)) (S ++ (.lst [] :: .lst ((post tr 0).map rowS) :: G)) := by rw [e]; simp
  generalize nI ((post tr 0).map fun q => tval q.1) = FF at *
  generalize (post tr 0).map rowS = RR at *
  generalize trS tr = V at *
  simp [tvB, e', e2', hlast, List.getElem?_cons_zero, List.getElem?_cons_succ, -getElem?_pos]
end
end Bi

/-! Bi18: is_prime, prime_of, _law_prime; _law_table, _law_tree, _law_value, _law_cost. -/
namespace Bi
open L2 (atI ixN)
def prQ : IB := .val (.cmp .le (.bin .mul (.var 1) (.var 1)) (.var 0))
def prI : ISs := .cons (.iff (.val (.cmp .eq (.bin .mod (.var 0) (.var 1)) (.cst (.int 0)))) (.cons (.ret (.cst (.bl false))) (.nil)) (.nil)) (.cons (.aug 1 .add (.cst (.int 2))) (.nil))
def prB : ISs := .cons (.iff (.val (.cmp .lt (.var 0) (.cst (.int 2)))) (.cons (.ret (.cst (.bl false))) (.nil)) (.nil)) (.cons (.iff (.val (.cmp .eq (.bin .mod (.var 0) (.cst (.int 2))) (.cst (.int 0)))) (.cons (.ret (.cmp .eq (.var 0) (.cst (.int 2)))) (.nil)) (.nil)) (.cons (.asg (.nm 1) (.cst (.int 3))) (.cons (.whl prQ prI) (.cons (.ret (.cst (.bl true))) (.nil)))))
def poQ (pr : Nat) : IB := .not (.val (.call pr (.cons (.var 1) (.nil))))
def poI : ISs := .cons (.aug 1 .add (.cst (.int 1))) (.nil)
def poB (i pr gv ex : Nat) : ISs := .cons (.iff (.or (.not (.val (.call i (.cons (.var 0) (.nil))))) (.not (.val (.chn .le .le (.cst (.int 1)) (.var 0) (.glo gv))))) (.cons (.rse ex) (.nil)) (.nil)) (.cons (.asg (.nm 1) (.bf .max2 (.cons (.cst (.int 3)) (.cons (.bin .mul (.cst (.int 2)) (.var 0)) (.nil))))) (.cons (.whl (poQ pr) poI) (.cons (.ret (.var 1)) (.nil))))
def lpQ : IB := .val (.cmp .eq (.bin .mod (.var 1) (.var 2)) (.cst (.int 0)))
def lpE : IX := .var 2
def lpI : ISs := .cons (.iff (.val (.cmp .eq (.bf .len (.cons (.lcc (.nm 2) (.rng2 (.cst (.int 2)) (.var 1)) lpQ lpE [2]) (.nil))) (.cst (.int 0)))) (.cons (.ret (.var 1)) (.nil)) (.nil)) (.nil)
def lpB : ISs := .cons (.for_ (.nm 1) (.rng2 (.bf .max2 (.cons (.cst (.int 3)) (.cons (.bin .mul (.cst (.int 2)) (.var 0)) (.nil)))) (.cst (.int 200))) lpI) (.cons (.ret (.cst (.int 0))) (.nil))
/-! ### is_prime -/
def ispL : Nat → Nat → Nat → Bool
  | 0, _, _ => true
  | f + 1, d, n => if d * d ≤ n then (if n % d = 0 then false else ispL f (d + 2) n) else true
def isP (n : Nat) : Bool := if n < 2 then false else if n % 2 = 0 then decide (n = 2) else ispL 50000 3 n
section
variable {P : Prog}
theorem pr_run {cf : Nat → List SV → Sto → R SV} {n : Nat} {S : Sto} (hn : n < 2 ^ 40) : ∀ (f d x : Nat), 1 ≤ d → d ≤ n + 3 → n < (d + 2 * f) * (d + 2 * f) →
    ∃ d', whF (evalB P cf none prQ) (evalSs P cf prI none) (x + f + 1) [some (.int n), some (.int d)] S = if ispL f d n then .nx [some (.int n), some (.int d')] S else .rt (.bl false) S
  | 0, d, x, h1, h2, h3 => by
    refine ⟨d, ?_⟩
    have m1 : mulOk (d : Int) (d : Int) = true := mulOk_of (by omega) (by omega)
    have c : ¬ ((d : Int) * (d : Int) ≤ (n : Int)) := by
      intro q
      have : d * d ≤ n := by exact_mod_cast q
      simp at h3
      omega
    rw [whF]
    simp [prQ, m1, c, ispL]
  | f + 1, d, x, h1, h2, h3 => by
    have m1 : mulOk (d : Int) (d : Int) = true := mulOk_of (by omega) (by omega)
    by_cases q : d * d ≤ n
    · have c : ((d : Int) * (d : Int) ≤ (n : Int)) := by exact_mod_cast q
      have hd0 : (0 : Int) < (d : Int) := by omega
      have em : (n : Int) % (d : Int) = ((n % d : Nat) : Int) := (Int.natCast_emod n d).symm
      by_cases z : n % d = 0
      · refine ⟨d, ?_⟩
        rw [whF]
        have z' : ((n % d : Nat) : Int) = 0 := by omega
        simp [prQ, prI, m1, c, hd0, em, z, ispL, q, h1, show 0 < d by omega]
      · have hle : d ≤ n := Nat.le_trans (Nat.le_mul_self d) q
        obtain ⟨d', ih⟩ := pr_run (cf := cf) (S := S) hn f (d + 2) x (by omega) (by omega) (by rw [show d + 2 + 2 * f = d + 2 * (f + 1) by omega]; exact h3)
        refine ⟨d', ?_⟩
        rw [show x + (f + 1) + 1 = (x + f + 1) + 1 by omega, whF]
        have z' : ¬ ((n % d : Nat) : Int) = 0 := by omega
        have e1 : evalB P cf none prQ [some (.int n), some (.int d)] S = .ok true S := by simp [prQ, m1, c]
        have e2 : evalSs P cf prI none [some (.int n), some (.int d)] S = .nx [some (.int n), some (.int ((d + 2 : Nat) : Int))] S := by
          have hz : (n : Int) % (d : Int) ≠ 0 := by rw [em]; exact z'
          simp [prI, hd0, hz, show 0 < d by omega]
        rw [e1]
        dsimp only
        rw [e2]
        dsimp only
        rw [ih]
        have : ispL (f + 1) d n = ispL f (d + 2) n := by
          show (if d * d ≤ n then (if n % d = 0 then false else ispL f (d + 2) n) else true) = _
          rw [if_pos q, if_neg z]
        rw [this]
    · refine ⟨d, ?_⟩
      have c : ¬ ((d : Int) * (d : Int) ≤ (n : Int)) := fun z => q (by exact_mod_cast z)
      rw [whF]
      simp [prQ, m1, c, ispL, q]
theorem pr_sp {k pr n : Nat} {S : Sto} (h : IsD P pr prB 2 1) (hn : n < 10000000000) : callD P (k + 1) pr [.int n] S = .ok (.bl (isP n)) S := by
  rw [h.call rfl]
  by_cases h2 : n < 2
  · have h2' : (n : Int) < 2 := by omega
    simp [prB, isP, h2, h2']
  · have h2' : ¬ (n : Int) < 2 := by omega
    have em : (n : Int) % 2 = ((n % 2 : Nat) : Int) := by omega
    by_cases h3 : n % 2 = 0
    · have h3' : (n : Int) % 2 = 0 := by omega
      have h4 : decide ((n : Int) = 2) = decide (n = 2) := by
        by_cases q : n = 2
        · subst q; rfl
        · rw [decide_eq_false q, decide_eq_false (by omega)]
      have hx : isP n = decide (n = 2) := by unfold isP; rw [if_neg h2, if_pos h3]
      rw [hx, ← h4]
      simp [prB, h2', h3']
    · have h3' : ¬ (n : Int) % 2 = 0 := by omega
      obtain ⟨d', e⟩ := pr_run (P := P) (cf := callD P k) (S := S) (n := n) (by omega) 50000 3 (wFuel - 50001) (by omega) (by omega) (by omega)
      rw [show wFuel - 50001 + 50000 + 1 = wFuel by unfold wFuel; omega] at e
      have hx : isP n = ispL 50000 3 n := by unfold isP; rw [if_neg h2, if_neg h3]
      rw [hx]
      have e : whF (evalB P (callD P k) none prQ) (evalSs P (callD P k) prI none) wFuel [some (.int n), some (.int 3)] S = _ := e
      cases q : ispL 50000 3 n with
      | true => rw [q, if_pos rfl] at e; simp [prB, h2', h3', e]
      | false => rw [q, if_neg Bool.false_ne_true] at e; simp [prB, h2', h3', e]
/-! ### prime_of, _law_prime -/
def lo3 (v : Nat) : Nat := max 3 (2 * v)
def lpN (v : Nat) : Nat := ((List.range 200).find? fun n => decide (lo3 v ≤ n) && isP n).getD 0
theorem lpN_all : ∀ v, v < 41 → lo3 v ≤ lpN v ∧ lpN v < 200 ∧ isP (lpN v) = true ∧ ∀ n, n < 200 → lo3 v ≤ n → n < lpN v → isP n = false := by decide +kernel
theorem lo3_int (v : Nat) : (if (3 : Int) < 2 * (v : Int) then 2 * (v : Int) else 3) = ((lo3 v : Nat) : Int) := by
  unfold lo3; split <;> omega
theorem po_run {cf : Nat → List SV → Sto → R SV} {pr v : Nat} {S : Sto} (hcf : ∀ n : Nat, n < 10000000000 → ∀ S, cf pr [.int n] S = .ok (.bl (isP n)) S) (hv : v < 41) : ∀ (j p x : Nat), p + j = lpN v → lo3 v ≤ p →
    whF (evalB P cf none (poQ pr)) (evalSs P cf poI none) (x + j + 1) [some (.int v), some (.int p)] S = .nx [some (.int v), some (.int (lpN v : Nat))] S
  | 0, p, x, h1, h2 => by
    obtain ⟨_, l2, l3, _⟩ := lpN_all v hv
    have e : p = lpN v := by omega
    subst e
    have := hcf (lpN v) (by omega) S
    rw [whF]
    simp [poQ, this, l3]
  | j + 1, p, x, h1, h2 => by
    obtain ⟨_, l2, l3, l4⟩ := lpN_all v hv
    have := hcf p (by omega) S
    have hp := l4 p (by omega) h2 (by omega)
    have ih := po_run (cf := cf) (S := S) hcf hv j (p + 1) x (by omega) (by omega)
    rw [show x + (j + 1) + 1 = (x + j + 1) + 1 by omega, whF]
    have e1 : evalB P cf none (poQ pr) [some (.int v), some (.int p)] S = .ok true S := by simp [poQ, this, hp]
    have e2 : evalSs P cf poI none [some (.int v), some (.int p)] S = .nx [some (.int v), some (.int ((p + 1 : Nat) : Int))] S := by simp [poI]
    rw [e1]
    dsimp only
    rw [e2]
    exact ih
theorem po_sp {k po i pr gv ex v : Nat} {S : Sto} (h : IsD P po (poB i pr gv ex) 2 1) (hi : IsD P i isiB 1 1) (hp : IsD P pr prB 2 1) (hg : ∃ s, P.glos[gv]? = some (s, .int 40)) (h1 : 1 ≤ v) (h2 : v ≤ 40) :
    callD P (k + 2) po [.int v] S = .ok (.int (lpN v : Nat)) S := by
  obtain ⟨s, hg⟩ := hg
  obtain ⟨l1, l2, _, _⟩ := lpN_all v (by omega)
  have e := po_run (P := P) (cf := callD P (k + 1)) (pr := pr) (v := v) (S := S) (fun n hn S => pr_sp hp hn) (by omega) (lpN v - lo3 v) (lo3 v) (wFuel - (lpN v - lo3 v) - 1) (by omega) (by omega)
  rw [show wFuel - (lpN v - lo3 v) - 1 + (lpN v - lo3 v) + 1 = wFuel by unfold wFuel; omega] at e
  rw [h.call rfl]
  have h1' : (1 : Int) ≤ (v : Int) := by omega
  have h2' : (v : Int) ≤ 40 := by omega
  have m1 : mulOk 2 (v : Int) = true := mulOk_of (by decide) (by omega)
  have hlo := lo3_int v
  have hlo' : (if 2 * (v : Int) > 3 then 2 * (v : Int) else 3) = ((lo3 v : Nat) : Int) := hlo
  generalize ((lo3 v : Nat) : Int) = lo at *
  simp [poB, isi_sp hi, h1, h1', h2', hg, m1, hlo, hlo', e]
def dvs (n : Nat) : List SV := (rgI 2 (n - 2) 1).filterMap fun v => match v with
  | .int k => if (n : Int) % k = 0 then some (.int k) else none
  | _ => none
theorem dvs_all : ∀ n, n < 200 → 3 ≤ n → decide ((dvs n).length = 0) = isP n := by decide +kernel
theorem lp_sp {k lp v : Nat} {S : Sto} (h : IsD P lp lpB 3 1) (h1 : 1 ≤ v) (h2 : v ≤ 40) : ∃ G, callD P (k + 1) lp [.int v] S = .ok (.int (lpN v : Nat)) (S ++ G) := by
  obtain ⟨l1, l2, l3, l4⟩ := lpN_all v (by omega)
  have hr : ∃ G, runF (.vs (rgI ((lo3 v : Nat) : Int) (200 - lo3 v) 1)) (.nm 1) (evalSs P (callD P k) lpI none) [some (.int v), none, none] S = .rt (.int (lpN v : Nat)) (S ++ G) := by
    refine run_rg (fun i L S' => (∃ G, S' = S ++ G) ∧ (∃ w, L = [some (.int v), w, none]) ∧ lo3 v + i ≤ lpN v) (Post := fun o => ∃ G, o = .rt (.int (lpN v : Nat)) (S ++ G)) ⟨⟨[], by simp⟩, ⟨_, rfl⟩, by omega⟩ ?_ ?_
    · rintro i L S' hi ⟨⟨G, rfl⟩, ⟨w, rfl⟩, hle⟩
      refine ⟨_, rfl, ?_⟩
      have en : ((lo3 v : Nat) : Int) + (i : Int) = ((lo3 v + i : Nat) : Int) := by omega
      rw [en]
      have h3 : 3 ≤ lo3 v + i := by unfold lo3; omega
      have hlt : lo3 v + i < 200 := by omega
      have hdv := dvs_all (lo3 v + i) hlt h3
      have hpn : lo3 v + i ≠ lpN v → isP (lo3 v + i) = false := fun q => l4 _ hlt (by omega) (by omega)
      generalize hN : lo3 v + i = N at *
      have hL : runL (.vs (rgI 2 (N - 2) 1)) (.nm 2) (evalB P (callD P k) none lpQ) (evalE P (callD P k) none lpE) [some (.int v), some (.int N), none] (S ++ G) = .ok (dvs N) (S ++ G) := by
        unfold dvs
        refine runL_go (rgI 2 (N - 2) 1) _ rfl (fun i => rfl) (fun x hx => ?_) (by rw [PySem.sizeLine_eq]; simp [rgI]; omega)
        unfold rgI at hx
        obtain ⟨j, hj, rfl⟩ := List.mem_map.mp hx
        refine ⟨_, rfl, ?_⟩
        have h0 : (0 : Int) < 2 + (j : Int) * 1 := by omega
        by_cases q : (N : Int) % (2 + (j : Int) * 1) = 0
        · dsimp only
          rw [if_pos q]
          dsimp only
          generalize (2 + (j : Int) * 1) = z at *
          constructor
          · show evalB P (callD P k) none lpQ [some (.int v), some (.int N), some (.int z)] (S ++ G) = _
            simp [lpQ, h0, q]
          · show evalE P (callD P k) none lpE [some (.int v), some (.int N), some (.int z)] (S ++ G) = _
            simp [lpE]
        · dsimp only
          rw [if_neg q]
          dsimp only
          generalize (2 + (j : Int) * 1) = z at *
          show evalB P (callD P k) none lpQ [some (.int v), some (.int N), some (.int z)] (S ++ G) = _
          simp [lpQ, h0, q]
      have tn : ((N : Int) - 2).toNat = N - 2 := by omega
      have s2 : smallI 2 = true := by decide
      have sN : smallI (N : Int) = true := smallI_len (by omega)
      show Step (evalSs P (callD P k) lpI none [some (.int v), some (.int N), none] (S ++ G)) _ _
      have e : evalSs P (callD P k) lpI none [some (.int v), some (.int N), none] (S ++ G) = if isP N then .rt (.int N) (S ++ G ++ [.lst (dvs N)]) else .nx [some (.int v), some (.int N), none] (S ++ G ++ [.lst (dvs N)]) := by
        rw [← hdv]
        by_cases q : (dvs N).length = 0
        · generalize dvs N = Dv at *
          have q' : Dv = [] := List.length_eq_zero_iff.mp q
          subst q'
          simp [lpI, s2, sN, tn, hL]
        · generalize dvs N = Dv at *
          have q' : ¬ ((Dv.length : Int) = 0) := by omega
          have q2 : ¬ Dv = [] := fun z => q (by rw [z]; rfl)
          simp [lpI, s2, sN, tn, hL, q, q', q2]
      rw [e]
      by_cases q : N = lpN v
      · subst q
        rw [if_pos l3]
        exact ⟨_, by rw [List.append_assoc]⟩
      · rw [hpn q, if_neg Bool.false_ne_true]
        exact ⟨⟨_, by rw [List.append_assoc]⟩, ⟨_, rfl⟩, by omega⟩
    · rintro L S' ⟨_, _, hle⟩
      omega
  obtain ⟨G, e⟩ := hr
  refine ⟨G, ?_⟩
  rw [h.call rfl]
  have m1 : mulOk 2 (v : Int) = true := mulOk_of (by decide) (by omega)
  have hlo := lo3_int v
  have hlo' : (if 2 * (v : Int) > 3 then 2 * (v : Int) else 3) = ((lo3 v : Nat) : Int) := hlo
  have sm : smallI ((lo3 v : Nat) : Int) = true := smallI_len (by omega)
  have s2 : smallI 200 = true := by decide
  have tn : ((200 : Int) - ((lo3 v : Nat) : Int)).toNat = 200 - lo3 v := by omega
  generalize 200 - lo3 v = cn at *
  generalize ((lo3 v : Nat) : Int) = lo at *
  simp [lpB, m1, hlo, hlo', sm, s2, tn, e]
end
end Bi

/-! Bi19: _law_table, _law_tree, _law_value, _law_cost. -/
namespace Bi
open L2 (atI ixN)
def ltI (w : Nat) : ISs := .cons (.iff (.val (.cmp .eq (.var 2) (.cst (.int 0)))) (.cons (.expr (.bm .append (.var 5) (.cons (.bin .mod (.bin .add (.var 4) (.var 6)) (.var 1)) (.nil)))) (.nil)) (.cons (.iff (.val (.cmp .eq (.var 2) (.cst (.int 1)))) (.cons (.expr (.bm .append (.var 5) (.cons (.bin .mod (.bin .mul (.var 4) (.var 6)) (.var 1)) (.nil)))) (.nil)) (.cons (.expr (.bm .append (.var 5) (.cons (.bin .mod (.call w (.cons (.var 0) (.nil))) (.var 1)) (.nil)))) (.nil))) (.nil))) (.nil)
def ltJ (w : Nat) : ISs := .cons (.asg (.nm 5) (.lst (.nil))) (.cons (.for_ (.nm 6) (.rng1 (.var 1)) (ltI w)) (.cons (.expr (.bm .append (.var 3) (.cons (.bf .tuple (.cons (.var 5) (.nil))) (.nil)))) (.nil)))
def ltB (w : Nat) : ISs := .cons (.asg (.nm 2) (.bin .mod (.call w (.cons (.var 0) (.nil))) (.cst (.int 4)))) (.cons (.asg (.nm 3) (.lst (.nil))) (.cons (.for_ (.nm 4) (.rng1 (.var 1)) (ltJ w)) (.cons (.ret (.bf .tuple (.cons (.var 3) (.nil)))) (.nil))))
def trB (w tb self : Nat) : ISs := .cons (.iff (.or (.val (.cmp .le (.var 2) (.cst (.int 1)))) (.or (.val (.cmp .lt (.idx (.var 3) (.cst (.int 0))) (.cst (.int 2)))) (.val (.cmp .eq (.bin .mod (.call w (.cons (.var 0) (.nil))) (.cst (.int 5))) (.cst (.int 0)))))) (.cons (.ret (.tup (.cons (.cst (.str "leaf")) (.cons (.bin .mod (.call w (.cons (.var 0) (.nil))) (.var 1)) (.nil))))) (.nil)) (.nil)) (.cons (.setI (.var 3) (.cst (.int 0)) (.bin .sub (.idx (.var 3) (.cst (.int 0))) (.cst (.int 2)))) (.cons (.asg (.nm 4) (.call self (.cons (.var 0) (.cons (.var 1) (.cons (.bin .sub (.var 2) (.cst (.int 1))) (.cons (.var 3) (.nil))))))) (.cons (.ret (.tup (.cons (.cst (.str "node")) (.cons (.call tb (.cons (.var 0) (.cons (.var 1) (.nil)))) (.cons (.var 4) (.cons (.call self (.cons (.var 0) (.cons (.var 1) (.cons (.bin .sub (.var 2) (.cst (.int 1))) (.cons (.var 3) (.nil)))))) (.nil))))))) (.nil))))
def lvB (self : Nat) : ISs := .cons (.iff (.val (.cmp .eq (.idx (.var 0) (.cst (.int 0))) (.cst (.str "leaf")))) (.cons (.ret (.idx (.var 0) (.cst (.int 1)))) (.nil)) (.nil)) (.cons (.ret (.idx (.idx (.idx (.var 0) (.cst (.int 1))) (.call self (.cons (.idx (.var 0) (.cst (.int 2))) (.nil)))) (.call self (.cons (.idx (.var 0) (.cst (.int 3))) (.nil))))) (.nil))
def lcB (self : Nat) : ISs := .cons (.iff (.val (.cmp .eq (.idx (.var 0) (.cst (.int 0))) (.cst (.str "leaf")))) (.cons (.ret (.cst (.int 1))) (.nil)) (.nil)) (.cons (.ret (.bin .mul (.bin .sub (.var 1) (.cst (.int 1))) (.bin .add (.bin .mul (.cst (.int 2)) (.bin .add (.call self (.cons (.idx (.var 0) (.cst (.int 2))) (.cons (.var 1) (.nil)))) (.call self (.cons (.idx (.var 0) (.cst (.int 3))) (.cons (.var 1) (.nil)))))) (.cst (.int 5))))) (.nil))
section
variable {P : Prog}
theorem lt_in {k w mi : Nat} (hw : IsD P w (drwB mi) 3 1) (hm : IsD P mi mixB 3 2) {S0 S : Sto} {a b n v kd i rr ro : Nat} {rs : List SV} {w6 : Option SV} (h : Dr S a b n) (hn : n + v < 900000000) (hr : S[rr]? = some (.lst rs)) (ho : S[ro]? = some (.lst (nI []))) (hne : rr ≠ ro)
    (ra : rr ≠ a) (rb : rr ≠ b) (oa : ro ≠ a) (ob : ro ≠ b) (x0 : Ex a S0 S) (lo : S0.length ≤ ro) (hv0 : 1 ≤ v) (hv : v ≤ 1000) (hi : i < v) :
    ∃ (cs : List Nat) (S' : Sto) (n' : Nat) (w6' : Option SV), runF (.vs (rgI 0 v 1)) (.nm 6) (evalSs P (callD P (k + 2)) (ltI w) none) [some (.ref a), some (.int v), some (.int kd), some (.ref rr), some (.int i), some (.ref ro), w6] S =
      .nx [some (.ref a), some (.int v), some (.int kd), some (.ref rr), some (.int i), some (.ref ro), w6'] S' ∧ S'[ro]? = some (.lst (nI cs)) ∧ cs.length = v ∧ (∀ c ∈ cs, c < v) ∧ S'[rr]? = some (.lst rs) ∧ Dr S' a b n' ∧ n' ≤ n + v ∧ Ex a S0 S' := by
  refine run_r0 (fun j L S' => (∃ w6, L = [some (.ref a), some (.int v), some (.int kd), some (.ref rr), some (.int i), some (.ref ro), w6]) ∧ j ≤ v ∧ ∃ cs : List Nat, S'[ro]? = some (.lst (nI cs)) ∧ cs.length = j ∧ (∀ c ∈ cs, c < v) ∧ S'[rr]? = some (.lst rs) ∧ Ex a S0 S' ∧ ∃ n', Dr S' a b n' ∧ n' ≤ n + j)
    (Post := fun o => ∃ (cs : List Nat) (S' : Sto) (n' : Nat) (w6' : Option SV), o = .nx [some (.ref a), some (.int v), some (.int kd), some (.ref rr), some (.int i), some (.ref ro), w6'] S' ∧ S'[ro]? = some (.lst (nI cs)) ∧ cs.length = v ∧ (∀ c ∈ cs, c < v) ∧ S'[rr]? = some (.lst rs) ∧ Dr S' a b n' ∧ n' ≤ n + v ∧ Ex a S0 S')
    ⟨⟨_, rfl⟩, Nat.zero_le _, [], ho, rfl, fun c h => by simp at h, hr, x0, n, h, by omega⟩ ?_ ?_
  · rintro j L S' hj ⟨⟨w6, rfl⟩, _, cs, h1, h2, h3, h4, x, n', d, hn'⟩
    refine ⟨_, rfl, ?_⟩
    have hz : szOk ((nI cs).length + 1) = true := szOk_le (by rw [List.length_map]; omega)
    have hv0' : (0 : Int) < (v : Int) := by omega
    have fin : ∀ (c n2 : Nat) (S2 : Sto), c < v → S2[ro]? = some (.lst (nI cs)) → S2[rr]? = some (.lst rs) → Ex a S0 S2 → Dr S2 a b n2 → n2 ≤ n + (j + 1) →
        evalSs P (callD P (k + 2)) (ltI w) none [some (.ref a), some (.int v), some (.int kd), some (.ref rr), some (.int i), some (.ref ro), some (.int (j : Int))] S' = .nx [some (.ref a), some (.int v), some (.int kd), some (.ref rr), some (.int i), some (.ref ro), some (.int (j : Int))] (S2.set ro (.lst (nI cs ++ [.int (c : Int)]))) →
        ∃ (S3 : Sto) (c n3 : Nat), evalSs P (callD P (k + 2)) (ltI w) none [some (.ref a), some (.int v), some (.int kd), some (.ref rr), some (.int i), some (.ref ro), some (.int (j : Int))] S' = .nx [some (.ref a), some (.int v), some (.int kd), some (.ref rr), some (.int i), some (.ref ro), some (.int (j : Int))] S3 ∧ S3[ro]? = some (.lst (nI (cs ++ [c]))) ∧ c < v ∧ S3[rr]? = some (.lst rs) ∧ Ex a S0 S3 ∧ Dr S3 a b n3 ∧ n3 ≤ n + (j + 1) := fun c n2 S2 hc g1 g2 x2 d2 hn2 e => by
      have eapp : nI cs ++ [.int (c : Int)] = nI (cs ++ [c]) := by simp
      rw [eapp] at e
      exact ⟨_, c, n2, e, List.getElem?_set_self (List.getElem?_eq_some_iff.mp g1).1, hc, by rw [List.getElem?_set_ne hne.symm]; exact g2, x2.setN lo, d2.set oa ob, hn2⟩
    suffices hst : ∃ (S3 : Sto) (c n3 : Nat), evalSs P (callD P (k + 2)) (ltI w) none [some (.ref a), some (.int v), some (.int kd), some (.ref rr), some (.int i), some (.ref ro), some (.int (j : Int))] S' = .nx [some (.ref a), some (.int v), some (.int kd), some (.ref rr), some (.int i), some (.ref ro), some (.int (j : Int))] S3 ∧ S3[ro]? = some (.lst (nI (cs ++ [c]))) ∧ c < v ∧ S3[rr]? = some (.lst rs) ∧ Ex a S0 S3 ∧ Dr S3 a b n3 ∧ n3 ≤ n + (j + 1) by
      obtain ⟨S3, c, n3, e, g1, hc, g2, x3, d3, hn3⟩ := hst
      show Step (evalSs P (callD P (k + 2)) (ltI w) none [some (.ref a), some (.int v), some (.int kd), some (.ref rr), some (.int i), some (.ref ro), some (.int (j : Int))] S') _ _
      rw [e]
      refine ⟨⟨_, rfl⟩, hj, cs ++ [c], g1, by simp [h2], fun c' hc' => ?_, g2, x3, n3, d3, hn3⟩
      rcases List.mem_append.mp hc' with q | q
      · exact h3 c' q
      · rw [List.mem_singleton.mp q]; exact hc
    by_cases k0 : kd = 0
    · subst k0
      have em : ((i : Int) + (j : Int)) % (v : Int) = (((i + j) % v : Nat) : Int) := by
        rw [show ((i : Int) + (j : Int)) = ((i + j : Nat) : Int) by omega]
        exact (Int.natCast_emod _ _).symm
      refine fin ((i + j) % v) n' S' (Nat.mod_lt _ (by omega)) h1 h4 x d (by omega) ?_
      generalize (((i + j) % v : Nat) : Int) = z at *
      generalize nI cs = C at *
      simp [ltI, hv0', em, h1, hz, show 0 < v by omega]
    · have k0' : ¬ (kd : Int) = 0 := by omega
      by_cases k1 : kd = 1
      · subst k1
        have m1 : mulOk (i : Int) (j : Int) = true := mulOk_of (by omega) (by omega)
        have em : ((i : Int) * (j : Int)) % (v : Int) = (((i * j) % v : Nat) : Int) := by
          rw [show ((i : Int) * (j : Int)) = ((i * j : Nat) : Int) by simp]
          exact (Int.natCast_emod _ _).symm
        refine fin ((i * j) % v) n' S' (Nat.mod_lt _ (by omega)) h1 h4 x d (by omega) ?_
        generalize (((i * j) % v : Nat) : Int) = z at *
        generalize nI cs = C at *
        simp [ltI, hv0', m1, em, h1, hz, show 0 < v by omega]
      · have k1' : ¬ (kd : Int) = 1 := by omega
        obtain ⟨r, S2, hr2, e2, d2, x2, l2⟩ := drw_sp (k := k) hw hm d (by omega)
        have em : (r : Int) % (v : Int) = ((r % v : Nat) : Int) := (Int.natCast_emod r v).symm
        have g1 := x2.get oa h1
        refine fin (r % v) (n' + 1) S2 (Nat.mod_lt _ (by omega)) g1 (x2.get ra h4) (x.trans x2) d2 (by omega) ?_
        generalize ((r % v : Nat) : Int) = z at *
        generalize nI cs = C at *
        simp [ltI, k0, k0', k1, k1', hv0', e2, em, h1, g1, hz, show 0 < v by omega]
  · rintro L S' ⟨⟨w6, rfl⟩, _, cs, h1, h2, h3, h4, x, n', d, hn'⟩
    exact ⟨cs, S', n', _, rfl, h1, h2, h3, h4, d, hn', x⟩
theorem ltab_sp {k d w mi : Nat} (hd : IsD P d (ltB w) 7 2) (hw : IsD P w (drwB mi) 3 1) (hm : IsD P mi mixB 3 2) {S : Sto} {a b n v : Nat} (h : Dr S a b n) (hn : n + v * v < 800000000) (hv0 : 1 ≤ v) (hv : v ≤ 1000) :
    ∃ (tb : List (List Nat)) (S' : Sto) (n' : Nat), callD P (k + 3) d [.ref a, .int v] S = .ok (tabS tb) S' ∧ TabM v tb ∧ tb.length = v ∧ Dr S' a b n' ∧ n' ≤ n + 1 + v * v ∧ Ex a S S' := by
  obtain ⟨r, S1, hr1, e1, d1, x1, l1⟩ := drw_sp (k := k) hw hm h (by omega)
  have ek : (r : Int) % 4 = ((r % 4 : Nat) : Int) := by omega
  generalize r % 4 = kd at *
  obtain ⟨ha, hb, hab⟩ := d1.lt
  have hr : ∃ (tb : List (List Nat)) (S' : Sto) (n' : Nat) (w4 w5 w6 : Option SV), runF (.vs (rgI 0 v 1)) (.nm 4) (evalSs P (callD P (k + 2)) (ltJ w) none) [some (.ref a), some (.int v), some (.int kd), some (.ref S1.length), none, none, none] (S1 ++ [.lst []]) =
      .nx [some (.ref a), some (.int v), some (.int kd), some (.ref S1.length), w4, w5, w6] S' ∧ S'[S1.length]? = some (.lst (tb.map fun r => SV.tup (nI r))) ∧ tb.length = v ∧ (∀ r ∈ tb, r.length = v ∧ ∀ c ∈ r, c < v) ∧ Dr S' a b n' ∧ n' ≤ n + 1 + v * v ∧ Ex a S S' := by
    refine run_r0 (fun i L S' => (∃ w4 w5 w6, L = [some (.ref a), some (.int v), some (.int kd), some (.ref S1.length), w4, w5, w6]) ∧ i ≤ v ∧ ∃ tb : List (List Nat), S'[S1.length]? = some (.lst (tb.map fun r => SV.tup (nI r))) ∧ tb.length = i ∧ (∀ r ∈ tb, r.length = v ∧ ∀ c ∈ r, c < v) ∧ Ex a S S' ∧ ∃ n', Dr S' a b n' ∧ n' ≤ n + 1 + i * v)
      (Post := fun o => ∃ (tb : List (List Nat)) (S' : Sto) (n' : Nat) (w4 w5 w6 : Option SV), o = .nx [some (.ref a), some (.int v), some (.int kd), some (.ref S1.length), w4, w5, w6] S' ∧ S'[S1.length]? = some (.lst (tb.map fun r => SV.tup (nI r))) ∧ tb.length = v ∧ (∀ r ∈ tb, r.length = v ∧ ∀ c ∈ r, c < v) ∧ Dr S' a b n' ∧ n' ≤ n + 1 + v * v ∧ Ex a S S')
      ⟨⟨_, _, _, rfl⟩, Nat.zero_le _, [], getA0 (G := []), rfl, fun r h => by simp at h, x1.trans Ex.app, n + 1, d1.app, by omega⟩ ?_ ?_
    · rintro i L S' hi ⟨⟨w4, w5, w6, rfl⟩, _, tb, h1, h2, h3, x, n', d', hn'⟩
      refine ⟨_, rfl, ?_⟩
      have hsl : S1.length < S'.length := (List.getElem?_eq_some_iff.mp h1).1
      have hiv : i * v + v ≤ v * v := by
        have := Nat.mul_le_mul_right v (show i + 1 ≤ v by omega)
        rw [Nat.succ_mul] at this
        exact this
      obtain ⟨da, db, dab⟩ := d'.lt
      obtain ⟨cs, S2, n2, w6', e2, g1, g2, g3, g4, d2, hn2, x2⟩ := lt_in (k := k) hw hm (S0 := S) (S := S' ++ [.lst (nI [])]) (kd := kd) (i := i) (rr := S1.length) (ro := S'.length) (w6 := w6) d'.app (by omega) (by rw [List.getElem?_append_left hsl]; exact h1) getA0 (by omega) (by omega) (by omega) (by omega) (by omega) (x.trans Ex.app) (by have := x.le; omega) hv0 hv hi
      have hz : szOk ((tb.map fun r => SV.tup (nI r)).length + 1) = true := szOk_le (by rw [List.length_map]; omega)
      have sm : smallI (v : Int) = true := smallI_len (by omega)
      have e2' : runF (.vs (rgI 0 v 1)) (.nm 6) (evalSs P (callD P (k + 2)) (ltI w) none) [some (.ref a), some (.int v), some (.int kd), some (.ref S1.length), some (.int i), some (.ref S'.length), w6] (S' ++ [.lst []]) = _ := e2
      have e : evalSs P (callD P (k + 2)) (ltJ w) none [some (.ref a), some (.int v), some (.int kd), some (.ref S1.length), some (.int (i : Int)), w5, w6] S' = .nx [some (.ref a), some (.int v), some (.int kd), some (.ref S1.length), some (.int (i : Int)), some (.ref S'.length), w6'] (S2.set S1.length (.lst ((tb.map fun r => SV.tup (nI r)) ++ [.tup (nI cs)]))) := by
        generalize nI cs = C at *
        generalize (tb.map fun r => SV.tup (nI r)) = T at *
        simp [ltJ, sm, e2', g1, g4, hz]
      show Step (evalSs P (callD P (k + 2)) (ltJ w) none [some (.ref a), some (.int v), some (.int kd), some (.ref S1.length), some (.int (i : Int)), w5, w6] S') _ _
      rw [e]
      have eapp : (tb.map fun r => SV.tup (nI r)) ++ [.tup (nI cs)] = ((tb ++ [cs]).map fun r => SV.tup (nI r)) := by simp
      rw [eapp]
      refine ⟨⟨_, _, _, rfl⟩, hi, tb ++ [cs], List.getElem?_set_self (List.getElem?_eq_some_iff.mp g4).1, by simp [h2], fun r hr => ?_, x2.setN (by have := x1.le; omega), n2, d2.set (by omega) (by omega), ?_⟩
      · rcases List.mem_append.mp hr with q | q
        · exact h3 r q
        · rw [List.mem_singleton.mp q]; exact ⟨g2, g3⟩
      · rw [Nat.succ_mul]; omega
    · rintro L S' ⟨⟨w4, w5, w6, rfl⟩, _, tb, h1, h2, h3, x, n', d', hn'⟩
      exact ⟨tb, S', n', _, _, _, rfl, h1, h2, h3, d', hn', x⟩
  obtain ⟨tb, S', n', w4, w5, w6, e2, g1, g2, g3, d', hn', x⟩ := hr
  refine ⟨tb, S', n', ?_, ⟨by omega, by omega, fun r hr => ⟨by rw [g2]; exact (g3 r hr).1, (g3 r hr).2⟩⟩, g2, d', hn', x⟩
  rw [hd.call rfl]
  have sm : smallI (v : Int) = true := smallI_len (by omega)
  unfold tabS
  generalize (tb.map fun r => SV.tup (nI r)) = T at *
  simp [ltB, e1, ek, sm, e2, g1]
theorem ltree_sp {d tb w mi : Nat} (hd : IsD P d (trB w tb d) 5 4) (ht : IsD P tb (ltB w) 7 2) (hw : IsD P w (drwB mi) 3 1) (hm : IsD P mi mixB 3 2) {a b v : Nat} (hv0 : 1 ≤ v) (hv : v ≤ 1000) {S0 : Sto} : ∀ (dp k : Nat) (S : Sto) (n lf Lf : Nat), Dr S a b n → n + (Lf + 1) * (v * v + 3) ≤ 700000000 → S[lf]? = some (.lst [.int (Lf : Nat)]) → lf ≠ a → lf ≠ b → Ex a S0 S → S0.length ≤ lf →
    ∃ (t : Tr) (S' : Sto) (n' Lf' : Nat), callD P (k + 4 + dp) d [.ref a, .int v, .int dp, .ref lf] S = .ok (trS t) S' ∧ WT v t ∧ dpt t ≤ max 1 dp ∧ nds t + Lf' = Lf + 1 ∧ S'[lf]? = some (.lst [.int (Lf' : Nat)]) ∧ Dr S' a b n' ∧ n' ≤ n + nds t * (v * v + 3) ∧ Ex a S0 S' := by
  intro dp
  induction dp with
  | zero =>
    intro k S n lf Lf h hn hl la lb x hle
    obtain ⟨r, S1, hr1, e1, d1, x1, l1⟩ := drw_sp (k := k + 1) hw hm h (by omega)
    have em : (r : Int) % (v : Int) = ((r % v : Nat) : Int) := (Int.natCast_emod r v).symm
    have hlt := Nat.mod_lt r (show 0 < v by omega)
    generalize r % v = z at *
    refine ⟨.leaf z, S1, n + 1, Lf, ?_, hlt, by unfold dpt; omega, by unfold nds; omega, x1.get la hl, d1, by unfold nds; omega, x.trans x1⟩
    rw [hd.call rfl]
    have hv0' : (0 : Int) < (v : Int) := by omega
    simp [trB, trS, e1, em, hv0', show 0 < v by omega]
  | succ dp ih =>
    intro k S n lf Lf h hn hl la lb x hle
    have hv0' : (0 : Int) < (v : Int) := by omega
    have hvn : 0 < v := by omega
    by_cases hdp : dp = 0
    · subst hdp
      obtain ⟨r, S1, hr1, e1, d1, x1, l1⟩ := drw_sp (k := k + 2) hw hm h (by omega)
      have em : (r : Int) % (v : Int) = ((r % v : Nat) : Int) := (Int.natCast_emod r v).symm
      have hlt := Nat.mod_lt r (show 0 < v by omega)
      generalize r % v = z at *
      refine ⟨.leaf z, S1, n + 1, Lf, ?_, hlt, by unfold dpt; omega, by unfold nds; omega, x1.get la hl, d1, by unfold nds; omega, x.trans x1⟩
      rw [hd.call rfl]
      simp [trB, trS, e1, em, hv0', hvn]
    · have hdp' : ¬ ((dp + 1 : Nat) : Int) ≤ 1 := by omega
      have hdp2 : ¬ ((dp : Int) + 1 ≤ 1) := by omega
      have hdp3 : ¬ ((dp : Int) ≤ 0) := by omega
      by_cases hL : Lf < 2
      · have hL' : (Lf : Int) < 2 := by omega
        obtain ⟨r, S1, hr1, e1, d1, x1, l1⟩ := drw_sp (k := k + 2 + dp) hw hm h (by omega)
        have em : (r : Int) % (v : Int) = ((r % v : Nat) : Int) := (Int.natCast_emod r v).symm
        have hlt := Nat.mod_lt r (show 0 < v by omega)
        generalize r % v = z at *
        refine ⟨.leaf z, S1, n + 1, Lf, ?_, hlt, by unfold dpt; omega, by unfold nds; omega, x1.get la hl, d1, by unfold nds; omega, x.trans x1⟩
        rw [show k + 4 + (dp + 1) = (k + 2 + dp + 2) + 1 by omega, hd.call rfl]
        simp [trB, trS, e1, em, hv0', hvn, hdp, hdp', hdp2, hdp3, hl, hL', hL]
      · have hL' : ¬ (Lf : Int) < 2 := by omega
        obtain ⟨r0, S1, hr0, e0, d1, x1, l1⟩ := drw_sp (k := k + 2 + dp) hw hm h (by omega)
        have hl1 := x1.get la hl
        by_cases h5 : (r0 : Int) % 5 = 0
        · obtain ⟨r, S2, hr1, e1, d2, x2, l2⟩ := drw_sp (k := k + 2 + dp) hw hm d1 (by omega)
          have em : (r : Int) % (v : Int) = ((r % v : Nat) : Int) := (Int.natCast_emod r v).symm
          have hlt := Nat.mod_lt r (show 0 < v by omega)
          generalize r % v = z at *
          refine ⟨.leaf z, S2, n + 1 + 1, Lf, ?_, hlt, by unfold dpt; omega, by unfold nds; omega, x2.get la hl1, d2, by unfold nds; omega, (x.trans x1).trans x2⟩
          rw [show k + 4 + (dp + 1) = (k + 2 + dp + 2) + 1 by omega, hd.call rfl]
          simp [trB, trS, e0, e1, em, hv0', hvn, hdp, hdp', hdp2, hdp3, hl, hL', hL, h5]
        · have hQ : (Lf + 1) * (v * v + 3) = (Lf - 2 + 1) * (v * v + 3) + 2 * (v * v + 3) := by
            rw [← Nat.add_mul]
            congr 1
            omega
          generalize hq : v * v + 3 = Q at *
          have hQ3 : v * v + 3 ≤ Q := by omega
          have ll1 : lf < S1.length := (List.getElem?_eq_some_iff.mp hl1).1
          obtain ⟨ta, S3, n3, L3, e3, w3, p3, c3, g3, d3, hn3, x3⟩ := ih k (S1.set lf (.lst [.int ((Lf - 2 : Nat) : Int)])) (n + 1) lf (Lf - 2) (d1.set la lb) (by omega) (List.getElem?_set_self ll1) la lb ((x.trans x1).setN hle) hle
          have hc3 : nds ta * Q + (L3 + 1) * Q = (Lf - 2 + 1) * Q + Q := by
            rw [← Nat.add_mul, ← Nat.succ_mul]
            congr 1
            omega
          obtain ⟨tbl, S4, n4, e4, w4, c4, d4, hn4, x4⟩ := ltab_sp (k := k + dp + 1) ht hw hm d3 (v := v) (by omega) hv0 hv
          have g4 := x4.get la g3
          obtain ⟨tb', S5, n5, L5, e5, w5, p5, c5, g5, d5, hn5, x5⟩ := ih k S4 n4 lf L3 d4 (by omega) g4 la lb (x3.trans x4) hle
          refine ⟨.node tbl ta tb', S5, n5, L5, ?_, ?_, ?_, ?_, g5, d5, ?_, x5⟩
          · rw [show k + 4 + (dp + 1) = (k + 4 + dp) + 1 by omega, hd.call rfl]
            have e0' : callD P (k + 4 + dp) w [.ref a] S = .ok (.int r0) S1 := by rw [show k + 4 + dp = k + 2 + dp + 2 by omega]; exact e0
            have e4' : callD P (k + 4 + dp) tb [.ref a, .int v] S3 = .ok (tabS tbl) S4 := by rw [show k + 4 + dp = k + dp + 1 + 3 by omega]; exact e4
            have ed : ((dp : Int) + 1 - 1) = (dp : Int) := by omega
            have eL : ((Lf : Int) - 2) = ((Lf - 2 : Nat) : Int) := by omega
            show fin (evalSs P (callD P (k + 4 + dp)) (trB w tb d) none [some (.ref a), some (.int v), some (.int ((dp + 1 : Nat) : Int)), some (.ref lf), none] S) = .ok (.tup [.str "node", tabS tbl, trS ta, trS tb']) S5
            generalize tabS tbl = V1 at *
            generalize trS ta = V2 at *
            generalize trS tb' = V3 at *
            generalize ((Lf - 2 : Nat) : Int) = z at *
            simp [trB, e0', h5, hdp, hdp', hdp2, hdp3, hl, hL', hL, hl1, ed, eL, e3, e4', e5]
          · exact ⟨⟨w4, c4⟩, w3, w5⟩
          · unfold dpt; omega
          · unfold nds; omega
          · have : nds (.node tbl ta tb') * Q = nds ta * Q + nds tb' * Q + Q := by
              show (nds ta + nds tb' + 1) * Q = _
              rw [Nat.add_mul, Nat.add_mul, Nat.one_mul]
            omega
theorem nl_ne : ¬ (PySem.Str.ofString "node" = PySem.Str.ofString "leaf") := by decide
theorem lval_sp {d m : Nat} (hd : IsD P d (lvB d) 1 1) {S : Sto} : ∀ (t : Tr) (K : Nat), WT m t → dpt t ≤ K → callD P K d [trS t] S = .ok (.int (tval t : Nat)) S
  | .leaf v, K, hw, hK => by
    unfold dpt at hK
    obtain ⟨K, rfl⟩ : ∃ K', K = K' + 1 := ⟨K - 1, by omega⟩
    rw [hd.call rfl]
    simp [lvB, trS, tval]
  | .node tb a b, K, hw, hK => by
    unfold dpt at hK
    obtain ⟨K, rfl⟩ : ∃ K', K = K' + 1 := ⟨K - 1, by omega⟩
    have hw' := hw
    unfold WT at hw'
    have ea := lval_sp hd (S := S) a K hw'.2.1 (by omega)
    have eb := lval_sp hd (S := S) b K hw'.2.2 (by omega)
    have va := tval_lt hw'.2.1
    have vb := tval_lt hw'.2.2
    have r1 : (tb.map fun r => SV.tup (nI r))[tval a]? = some (.tup (nI (tb.getD (tval a) []))) := by
      rw [List.getElem?_map, List.getElem?_eq_getElem (by omega), List.getD_eq_getElem?_getD, List.getElem?_eq_getElem (by omega)]; rfl
    have r2 : (nI (tb.getD (tval a) []))[tval b]? = some (.int (tval (.node tb a b) : Nat)) := by
      have := hw'.1.1.rw_ _ (getD_mem' (d := []) (show tval a < tb.length by omega))
      exact nI_get (by omega)
    rw [hd.call rfl]
    generalize tval (.node tb a b) = z at *
    generalize nI (tb.getD (tval a) []) = RW at *
    generalize tval a = za at *
    generalize tval b = zb at *
    unfold trS tabS
    generalize (tb.map fun r => SV.tup (nI r)) = TB at *
    generalize trS a = A at *
    generalize trS b = B at *
    simp [lvB, nl_ne, ea, eb, r1, r2, List.getElem?_cons_zero, List.getElem?_cons_succ, -getElem?_pos]
def tcost (p : Nat) : Tr → Nat
  | .leaf _ => 1
  | .node _ a b => (p - 1) * (2 * (tcost p a + tcost p b) + 5)
theorem tcost_le {p : Nat} (hp : p ≤ 200) : ∀ t : Tr, tcost p t ≤ 2 ^ (11 * dpt t)
  | .leaf _ => by unfold tcost dpt; decide
  | .node _ a b => by
    have ia := tcost_le hp a
    have ib := tcost_le hp b
    unfold tcost dpt
    have ja : 2 ^ (11 * dpt a) ≤ 2 ^ (11 * max (dpt a) (dpt b)) := Nat.pow_le_pow_right (by decide) (by omega)
    have jb : 2 ^ (11 * dpt b) ≤ 2 ^ (11 * max (dpt a) (dpt b)) := Nat.pow_le_pow_right (by decide) (by omega)
    have e : 2 ^ (11 * (max (dpt a) (dpt b) + 1)) = 2 ^ (11 * max (dpt a) (dpt b)) * 2048 := by rw [Nat.mul_add, Nat.pow_add]
    rw [e]
    have hpos : 1 ≤ 2 ^ (11 * max (dpt a) (dpt b)) := Nat.one_le_two_pow
    generalize 2 ^ (11 * max (dpt a) (dpt b)) = Z at *
    have h1 : 2 * (tcost p a + tcost p b) + 5 ≤ 9 * Z := by omega
    have h2 := Nat.mul_le_mul (show p - 1 ≤ 200 by omega) h1
    omega
theorem mulOk_pow {i j : Int} {e1 e2 : Nat} (h1 : i.natAbs < 2 ^ e1) (h2 : j.natAbs < 2 ^ e2) (h : e1 + e2 < 1000000) : mulOk i j = true := by
  unfold mulOk
  have h3 : i.natAbs.log2 ≤ e1 := by
    by_cases q : i.natAbs = 0
    · rw [q]; exact Nat.zero_le _
    · exact Nat.le_of_lt ((Nat.log2_lt q).mpr h1)
  have h4 : j.natAbs.log2 ≤ e2 := by
    by_cases q : j.natAbs = 0
    · rw [q]; exact Nat.zero_le _
    · exact Nat.le_of_lt ((Nat.log2_lt q).mpr h2)
  exact decide_eq_true (by omega)
theorem lcost_sp {d p : Nat} (hd : IsD P d (lcB d) 2 2) (hp0 : 1 ≤ p) (hp : p ≤ 200) {S : Sto} : ∀ (t : Tr) (K : Nat), dpt t ≤ 1000 → dpt t ≤ K → callD P K d [trS t, .int p] S = .ok (.int (tcost p t : Nat)) S
  | .leaf v, K, hT, hK => by
    unfold dpt at hK
    obtain ⟨K, rfl⟩ : ∃ K', K = K' + 1 := ⟨K - 1, by omega⟩
    rw [hd.call rfl]
    simp [lcB, trS, tcost]
  | .node tb a b, K, hT, hK => by
    unfold dpt at hK hT
    obtain ⟨K, rfl⟩ : ∃ K', K = K' + 1 := ⟨K - 1, by omega⟩
    have ea := lcost_sp hd hp0 hp (S := S) a K (by omega) (by omega)
    have eb := lcost_sp hd hp0 hp (S := S) b K (by omega) (by omega)
    have la := tcost_le hp a
    have lb := tcost_le hp b
    obtain ⟨E, hE⟩ : ∃ E, E = 11000 := ⟨_, rfl⟩
    have ja : 2 ^ (11 * dpt a) ≤ 2 ^ E := Nat.pow_le_pow_right (by decide) (by omega)
    have jb : 2 ^ (11 * dpt b) ≤ 2 ^ E := Nat.pow_le_pow_right (by decide) (by omega)
    have e3 : 2 ^ (E + 3) = 2 ^ E * 8 := Nat.pow_add 2 E 3
    have e4 : 2 ^ (E + 10) = 2 ^ E * 1024 := Nat.pow_add 2 E 10
    have hpos : 1 ≤ 2 ^ E := Nat.one_le_two_pow
    have m1 : mulOk 2 ((tcost p a : Int) + (tcost p b : Int)) = true := mulOk_pow (e1 := 2) (e2 := E + 3) (by decide) (by
      rw [e3]
      generalize 2 ^ E = Z at *
      omega) (by omega)
    have m2 : mulOk ((p : Int) - 1) (2 * ((tcost p a : Int) + (tcost p b : Int)) + 5) = true := mulOk_pow (e1 := 8) (e2 := E + 10) (by
      rw [show (2 : Nat) ^ 8 = 256 from rfl]; omega) (by
      rw [e4]
      generalize 2 ^ E = Z at *
      omega) (by omega)
    have ez : ((p : Int) - 1) * (2 * ((tcost p a : Int) + (tcost p b : Int)) + 5) = ((tcost p (.node tb a b) : Nat) : Int) := by
      show _ = (((p - 1) * (2 * (tcost p a + tcost p b) + 5) : Nat) : Int)
      rw [Int.natCast_mul, show ((p - 1 : Nat) : Int) = (p : Int) - 1 by omega]
      congr 1
    rw [hd.call rfl]
    clear e3 e4 ja jb la lb hpos
    generalize tcost p (.node tb a b) = z at *
    generalize tcost p a = za at *
    generalize tcost p b = zb at *
    unfold trS tabS
    generalize trS a = A at *
    generalize trS b = B at *
    generalize (tb.map fun r => SV.tup (nI r)) = TB at *
    simp [lcB, nl_ne, ea, eb, m1, m2, ez]
end
end Bi

/-! Bi21: tables and trees that are none. -/
namespace Bi
open L2 (atI ixN)
/-- a number below m -/
def isN (m : Nat) : SV → Bool
  | .int i => decide (0 ≤ i) && decide (i < (m : Int))
  | _ => false
theorem isN_any {P : Prog} {k m n0 n1 : Nat} (i1 : IsD P n1 (isnB n0) 2 2) (i0 : IsD P n0 isiB 1 1) {v : SV} {S : Sto} (f : flatS v = true) : callD P (k + 2) n1 [v, .int m] S = .ok (.bl (isN m v)) S := by
  cases v with
  | int i =>
    rw [isn_sp i1 i0]
    unfold isN
    by_cases h : 0 ≤ i <;> simp [h]
  | bl b => rw [i1.call rfl]; simp [isnB, i0.call, isiB, isN]
  | str z => rw [i1.call rfl]; simp [isnB, i0.call, isiB, isN]
  | non => rw [i1.call rfl]; simp [isnB, i0.call, isiB, isN]
  | tup xs => cases f
  | ref n => cases f
  | kl xs => cases f
def tabOk (m : Nat) (rs : List (List SV)) : Bool := decide (1 ≤ rs.length) && decide (rs.length ≤ m) && rs.all fun r => decide (r.length = rs.length) && r.all (isN m)
theorem tab_any {P : Prog} {i n t k m : Nat} (hi : IsD P i isiB 1 1) (hn : IsD P n (isnB i) 2 2) (ht : IsD P t (tabB n) 4 2) {rs : List (List SV)} {S : Sto} (f : ∀ r ∈ rs, r.all flatS = true) : callD P (k + 3) t [.tup (rs.map .tup), .int m] S = .ok (.bl (tabOk m rs)) S := by
  rw [ht.call rfl]
  by_cases h1 : 1 ≤ rs.length
  · by_cases h2 : rs.length ≤ m
    · have hr : (rs.all (fun r => decide (r.length = rs.length) && r.all (isN m)) = true ∧ ∃ L, runF (.vs (rs.map .tup)) (.nm 2) (evalSs P (callD P (k + 2)) (tabJ n) none) [some (.tup (rs.map .tup)), some (.int m), none, none] S = .nx L S) ∨
          (rs.all (fun r => decide (r.length = rs.length) && r.all (isN m)) = false ∧ runF (.vs (rs.map .tup)) (.nm 2) (evalSs P (callD P (k + 2)) (tabJ n) none) [some (.tup (rs.map .tup)), some (.int m), none, none] S = .rt (.bl false) S) := by
        refine run_vs (fun j L S' => S' = S ∧ (∃ w2 w3, L = [some (.tup (rs.map .tup)), some (.int m), w2, w3]) ∧ (rs.take j).all (fun r => decide (r.length = rs.length) && r.all (isN m)) = true)
          (Post := fun o => (rs.all (fun r => decide (r.length = rs.length) && r.all (isN m)) = true ∧ ∃ L, o = .nx L S) ∨ (rs.all (fun r => decide (r.length = rs.length) && r.all (isN m)) = false ∧ o = .rt (.bl false) S)) ⟨rfl, ⟨none, none, rfl⟩, rfl⟩ ?_ ?_
        · rintro j v L S' hj ⟨rfl, ⟨w2, w3, rfl⟩, hp⟩
          have hjl : j < rs.length := by have := (List.getElem?_eq_some_iff.mp hj).1; simpa using this
          rw [List.getElem?_map, List.getElem?_eq_getElem hjl] at hj
          cases hj
          refine ⟨_, rfl, ?_⟩
          have hf := f rs[j] (List.getElem_mem hjl)
          have hall : (decide (rs[j].length = rs.length) && rs[j].all (isN m)) = false → rs.all (fun r => decide (r.length = rs.length) && r.all (isN m)) = false := fun q => by
            rw [Bool.eq_false_iff]
            intro z
            have := (List.all_eq_true.mp z) _ (List.getElem_mem hjl)
            rw [q] at this
            cases this
          have et : (rs.take (j + 1)).all (fun r => decide (r.length = rs.length) && r.all (isN m)) = ((rs.take j).all (fun r => decide (r.length = rs.length) && r.all (isN m)) && (decide (rs[j].length = rs.length) && rs[j].all (isN m))) := by
            rw [← List.take_append_getElem hjl, List.all_append]; simp
          rw [et, hp, Bool.true_and]
          generalize rs[j] = r at *
          have lT : (rs.map SV.tup).length = rs.length := by simp
          obtain ⟨T, hT⟩ : ∃ T, rs.map SV.tup = T := ⟨_, rfl⟩
          rw [hT] at lT ⊢
          by_cases hl : r.length = rs.length
          · have hl' : (r.length : Int) = (T.length : Int) := by omega
            have hin : (r.all (isN m) = true ∧ ∃ w3', runF (.vs r) (.nm 3) (evalSs P (callD P (k + 2)) (tabI n) none) [some (.tup T), some (.int m), some (.tup r), w3] S' = .nx [some (.tup T), some (.int m), some (.tup r), w3'] S') ∨
                (r.all (isN m) = false ∧ runF (.vs r) (.nm 3) (evalSs P (callD P (k + 2)) (tabI n) none) [some (.tup T), some (.int m), some (.tup r), w3] S' = .rt (.bl false) S') := by
              refine run_vs (fun j L S2 => S2 = S' ∧ (∃ w3, L = [some (.tup T), some (.int m), some (.tup r), w3]) ∧ (r.take j).all (isN m) = true)
                (Post := fun o => (r.all (isN m) = true ∧ ∃ w3', o = .nx [some (.tup T), some (.int m), some (.tup r), w3'] S') ∨ (r.all (isN m) = false ∧ o = .rt (.bl false) S')) ⟨rfl, ⟨_, rfl⟩, rfl⟩ ?_ ?_
              · rintro j v L S2 hj ⟨rfl, ⟨w3, rfl⟩, hq⟩
                have hjl2 : j < r.length := (List.getElem?_eq_some_iff.mp hj).1
                have hv : r[j] = v := (List.getElem?_eq_some_iff.mp hj).2
                refine ⟨_, rfl, ?_⟩
                have e0 := isN_any (k := k) (m := m) hn hi (v := v) (S := S2) ((List.all_eq_true.mp hf) v (List.mem_of_getElem? hj))
                show Step (evalSs P (callD P (k + 2)) (tabI n) none [some (.tup T), some (.int m), some (.tup r), some v] S2) _ _
                have e : evalSs P (callD P (k + 2)) (tabI n) none [some (.tup T), some (.int m), some (.tup r), some v] S2 = if isN m v then .nx [some (.tup T), some (.int m), some (.tup r), some v] S2 else .rt (.bl false) S2 := by
                  cases q : isN m v <;> rw [q] at e0 <;> simp [tabI, e0]
                rw [e]
                cases q : isN m v with
                | true =>
                  rw [if_pos rfl]
                  refine ⟨rfl, ⟨_, rfl⟩, ?_⟩
                  rw [← List.take_append_getElem hjl2, List.all_append, hq, hv]
                  simp [q]
                | false =>
                  rw [if_neg Bool.false_ne_true]
                  refine .inr ⟨?_, rfl⟩
                  rw [Bool.eq_false_iff]
                  intro z
                  have := (List.all_eq_true.mp z) v (List.mem_of_getElem? hj)
                  rw [q] at this
                  cases this
              · rintro L S2 ⟨rfl, ⟨w3, rfl⟩, hq⟩
                rw [List.take_length] at hq
                exact .inl ⟨hq, _, rfl⟩
            show Step (evalSs P (callD P (k + 2)) (tabJ n) none [some (.tup T), some (.int m), some (.tup r), w3] S') _ _
            rcases hin with ⟨h3, w3', e⟩ | ⟨h3, e⟩
            · have e2 : evalSs P (callD P (k + 2)) (tabJ n) none [some (.tup T), some (.int m), some (.tup r), w3] S' = .nx [some (.tup T), some (.int m), some (.tup r), w3'] S' := by simp [tabJ, hl', e]
              rw [e2]
              exact ⟨rfl, ⟨_, _, rfl⟩, by rw [h3, decide_eq_true hl]; rfl⟩
            · have e2 : evalSs P (callD P (k + 2)) (tabJ n) none [some (.tup T), some (.int m), some (.tup r), w3] S' = .rt (.bl false) S' := by simp [tabJ, hl', e]
              rw [e2]
              exact .inr ⟨hall (by rw [h3, Bool.and_false]), rfl⟩
          · have hl' : ¬ (r.length : Int) = (T.length : Int) := by omega
            show Step (evalSs P (callD P (k + 2)) (tabJ n) none [some (.tup T), some (.int m), some (.tup r), w3] S') _ _
            have e2 : evalSs P (callD P (k + 2)) (tabJ n) none [some (.tup T), some (.int m), some (.tup r), w3] S' = .rt (.bl false) S' := by simp [tabJ, hl']
            rw [e2]
            exact .inr ⟨hall (by rw [decide_eq_false hl]; rfl), rfl⟩
        · rintro L S' ⟨rfl, _, hp⟩
          rw [List.length_map, List.take_length] at hp
          exact .inl ⟨hp, L, rfl⟩
      have h1' : (1 : Int) ≤ ((rs.map SV.tup).length : Int) := by rw [List.length_map]; omega
      have h2' : ((rs.map SV.tup).length : Int) ≤ (m : Int) := by rw [List.length_map]; omega
      have hk : tabOk m rs = rs.all fun r => decide (r.length = rs.length) && r.all (isN m) := by unfold tabOk; rw [decide_eq_true h1, decide_eq_true h2]; rfl
      rw [hk]
      obtain ⟨T, hT⟩ : ∃ T, rs.map SV.tup = T := ⟨_, rfl⟩
      rw [hT] at hr h1' h2' ⊢
      rcases hr with ⟨h3, L, e⟩ | ⟨h3, e⟩
      · rw [h3]; simp [tabB, h1', h2', e]
      · rw [h3]; simp [tabB, h1', h2', e]
    · have h1' : (1 : Int) ≤ ((rs.map SV.tup).length : Int) := by rw [List.length_map]; omega
      have h2' : ¬ ((rs.map SV.tup).length : Int) ≤ (m : Int) := by rw [List.length_map]; omega
      have hk : tabOk m rs = false := by unfold tabOk; rw [decide_eq_false h2, Bool.and_false]; rfl
      rw [hk]
      generalize rs.map SV.tup = T at *
      simp [tabB, h1', h2']
  · have h1' : ¬ (1 : Int) ≤ ((rs.map SV.tup).length : Int) := by rw [List.length_map]; omega
    have hk : tabOk m rs = false := by unfold tabOk; rw [decide_eq_false h1]; rfl
    rw [hk]
    generalize rs.map SV.tup = T at *
    simp [tabB, h1']
/-! ### nodes that are none -/
section
variable {P : Prog} {i n t lf inn ls ro gn go gv ex : Nat} (D : TD P i n t lf inn ls ro gn go gv ex)
/-- what is no node over m values, while the store grows -/
def BadN (P : Prog) (lf inn : Nat) (S : Sto) (x : SV) (m : Nat) : Prop := ∀ (k : Nat) (G : Sto), callD P (k + 3) lf [x, .int m] (S ++ G) = .ok (.bl false) (S ++ G) ∧ callD P (k + 4) inn [x, .int m] (S ++ G) = .ok (.bl false) (S ++ G)
inductive SpT where
  | bad (x : SV) | l (tb : List (List Nat)) (s : SpT) (b : Tr) | r (tb : List (List Nat)) (a : Tr) (s : SpT)
def spT : SpT → SV
  | .bad x => x
  | .l tb s b => .tup [.str "node", tabS tb, spT s, trS b]
  | .r tb a s => .tup [.str "node", tabS tb, trS a, spT s]
def SOk (P : Prog) (lf inn : Nat) (S : Sto) (m : Nat) : SpT → Prop
  | .bad x => BadN P lf inn S x m
  | .l tb s b => (TabM m tb ∧ tb.length = m) ∧ SOk P lf inn S m s
  | .r tb a s => (TabM m tb ∧ tb.length = m) ∧ WT m a ∧ SOk P lf inn S m s
def stpS : SpT → Nat
  | .bad _ => 1
  | .l _ s _ => stpS s + 1
  | .r _ a s => stpS s + stp a + 1
abbrev tskX (x : SV) (d : Nat) (o : Bool) : SV := .tup [x, .int (d : Nat), .bl o]
include D
theorem TD.lf_4 {k m : Nat} {tv a b : SV} {S : Sto} : callD P (k + 3) lf [.tup [.str "node", tv, a, b], .int m] S = .ok (.bl false) S := by
  rw [D.hlf.call rfl]
  simp [lfB]
theorem TD.in_4 {k m : Nat} {tb : List (List Nat)} {a b : SV} {S : Sto} (h : TabM m tb) (hl : tb.length = m) : callD P (k + 4) inn [.tup [.str "node", tabS tb, a, b], .int m] S = .ok (.bl true) S := by
  rw [D.hin.call rfl]
  have e := D.tab_sp (k := k) (S := S) h
  have h2 : ((tb.map fun r => SV.tup (nI r)).length : Int) = (m : Int) := by rw [List.length_map]; omega
  unfold tabS at e ⊢
  obtain ⟨T, hT⟩ : ∃ T, (tb.map fun r => SV.tup (nI r)) = T := ⟨_, rfl⟩
  rw [hT] at e h2 ⊢
  simp [inB, e, h2]
theorem TD.ls_stop {k m d : Nat} {tv x : SV} {S : Sto} {w5 w6 w7 w8 w9 : Option SV} {R Pl T : List SV} (hd : 40 < d ∨ 200 ≤ R.length + T.length) :
    ∃ L' G', evalSs P (callD P (k + 4)) (lsI lf inn gn go ex) none (lsL tv m S.length w5 w6 w7 w8 w9) (lsS S R Pl (T ++ [tskX x d false])) = .exc ex L' (S ++ G') := by
  obtain ⟨s1, g1⟩ := D.g1
  obtain ⟨s2, g2⟩ := D.g2
  have hpop : popS (.ref (S.length + 2)) [] (lsS S R Pl (T ++ [tskX x d false])) = .ok (tskX x d false) (lsS S R Pl T) := by
    rw [pop_last (xs := T) (by rw [getA1]; rfl)]
    simp
  refine ⟨lsL tv m S.length (some x) (some (.int d)) (some (.bl false)) w8 w9, [.lst R, .lst Pl, .lst T], ?_⟩
  dsimp only [tskX] at hpop ⊢
  by_cases h1 : 40 < d
  · have h1' : (40 : Int) < (d : Int) := by omega
    simp [lsI, hpop, h1', g1, g2]
  · have h1' : ¬ (40 : Int) < (d : Int) := by omega
    have h2 : (200 : Int) ≤ (R.length : Int) + (T.length : Int) := by omega
    simp [lsI, hpop, h1', h2, g1, g2]
theorem TD.ls_badn {k m d : Nat} {tv x : SV} {S G : Sto} {w5 w6 w7 w8 w9 : Option SV} {R Pl T : List SV} (hb : BadN P lf inn S x m) :
    ∃ L' G', evalSs P (callD P (k + 4)) (lsI lf inn gn go ex) none (lsL tv m (S ++ G).length w5 w6 w7 w8 w9) (lsS (S ++ G) R Pl (T ++ [tskX x d false])) = .exc ex L' (S ++ G ++ G') := by
  by_cases hd : 40 < d ∨ 200 ≤ R.length + T.length
  · exact D.ls_stop hd
  · obtain ⟨s1, g1⟩ := D.g1
    obtain ⟨s2, g2⟩ := D.g2
    have hpop : popS (.ref ((S ++ G).length + 2)) [] (lsS (S ++ G) R Pl (T ++ [tskX x d false])) = .ok (tskX x d false) (lsS (S ++ G) R Pl T) := by
      generalize S ++ G = Y
      rw [pop_last (xs := T) (by rw [getA1]; rfl)]
      simp
    have h1 : ¬ (40 : Int) < (d : Int) := by omega
    have h2 : ¬ (200 : Int) ≤ (R.length : Int) + (T.length : Int) := by omega
    have e1 := (hb (k + 1) (G ++ [.lst R, .lst Pl, .lst T])).1
    have e2 := (hb k (G ++ [.lst R, .lst Pl, .lst T])).2
    rw [← List.append_assoc] at e1 e2
    refine ⟨lsL tv m (S ++ G).length (some x) (some (.int d)) (some (.bl false)) w8 w9, [.lst R, .lst Pl, .lst T], ?_⟩
    dsimp only [tskX] at hpop ⊢
    have e1 : callD P (k + 4) lf [x, .int m] (lsS (S ++ G) R Pl T) = .ok (.bl false) (lsS (S ++ G) R Pl T) := e1
    have e2 : callD P (k + 4) inn [x, .int m] (lsS (S ++ G) R Pl T) = .ok (.bl false) (lsS (S ++ G) R Pl T) := e2
    generalize S ++ G = Y at *
    simp [lsI, hpop, h1, h2, g1, g2, e1, e2]
theorem TD.ls_openX {k m d : Nat} {tb : List (List Nat)} {a b tv : SV} {S : Sto} {w5 w6 w7 w8 w9 : Option SV} {R Pl T : List SV} (h : TabM m tb) (hl : tb.length = m) (hd : d ≤ 40) (hz : R.length + T.length < 200) :
    ∃ w5' w6' w7', evalSs P (callD P (k + 4)) (lsI lf inn gn go ex) none (lsL tv m S.length w5 w6 w7 w8 w9) (lsS S R Pl (T ++ [tskX (.tup [.str "node", tabS tb, a, b]) d false])) =
      .nx (lsL tv m S.length w5' w6' w7' w8 w9) (lsS S R Pl (T ++ [tskX (.tup [.str "node", tabS tb, a, b]) d true] ++ [tskX b (d + 1) false] ++ [tskX a (d + 1) false])) := by
  obtain ⟨s1, g1⟩ := D.g1
  obtain ⟨s2, g2⟩ := D.g2
  have e := D.lf_4 (k := k + 1) (m := m) (tv := tabS tb) (a := a) (b := b) (S := lsS S R Pl T)
  have e2 := D.in_4 (k := k) (a := a) (b := b) (S := lsS S R Pl T) h hl
  have hpop : popS (.ref (S.length + 2)) [] (lsS S R Pl (T ++ [tskX (.tup [.str "node", tabS tb, a, b]) d false])) = .ok (tskX (.tup [.str "node", tabS tb, a, b]) d false) (lsS S R Pl T) := by
    rw [pop_last (xs := T) (by rw [getA1]; rfl)]
    simp
  have h1 : ¬ (40 : Int) < (d : Int) := by omega
  have h2 : ¬ (200 : Int) ≤ (R.length : Int) + (T.length : Int) := by omega
  have z1 : szOk (T.length + 1) = true := szOk_le (by omega)
  have z2 : szOk (T.length + 1 + 1) = true := szOk_le (by omega)
  have z3 : szOk (T.length + 1 + 1 + 1) = true := szOk_le (by omega)
  have z4 : szOk (T.length + (1 + 1)) = true := szOk_le (by omega)
  have z5 : szOk (T.length + (1 + 1 + 1)) = true := szOk_le (by omega)
  have z6 : szOk (T.length + 2) = true := szOk_le (by omega)
  have z7 : szOk (T.length + 2 + 1) = true := szOk_le (by omega)
  have i2 : idxS (.tup [.str "node", tabS tb, a, b]) (.int 2) = fun Z => .ok a Z := by funext Z; simp
  have i3 : idxS (.tup [.str "node", tabS tb, a, b]) (.int 3) = fun Z => .ok b Z := by funext Z; simp
  refine ⟨some (.tup [.str "node", tabS tb, a, b]), some (.int d), some (.bl false), ?_⟩
  dsimp only [tskX] at hpop ⊢
  obtain ⟨V, hV⟩ : ∃ V, SV.tup [.str "node", tabS tb, a, b] = V := ⟨_, rfl⟩
  rw [hV] at hpop e e2 i2 i3 ⊢
  simp [lsI, hpop, h1, h2, g1, g2, e, e2, z1, z2, z3, z4, z5, z6, z7, i2, i3]
/-- a right tree that is too large, or nested too deep -/
theorem TD.ls_over {k m : Nat} {tv : SV} {S : Sto} : ∀ (tr : Tr) (d : Nat) (R Pl T : List SV) (x : Nat) (w5 w6 w7 w8 w9 : Option SV), WT m tr → ¬ (d + dpt tr ≤ 41 ∧ R.length + T.length + nds tr ≤ 200) → Pl.length ≤ R.length →
    ∃ L' G', whF (evalB P (callD P (k + 4)) none lsQ) (evalSs P (callD P (k + 4)) (lsI lf inn gn go ex) none) (x + stp tr) (lsL tv m S.length w5 w6 w7 w8 w9) (lsS S R Pl (T ++ [tskS tr d false])) = .exc ex L' (S ++ G') := by
  intro tr
  induction tr with
  | leaf v =>
    intro d R Pl T x w5 w6 w7 w8 w9 hw hno hp
    have hno : ¬ (d + 1 ≤ 41 ∧ R.length + T.length + 1 ≤ 200) := hno
    obtain ⟨L', G', e⟩ := D.ls_stop (k := k) (m := m) (d := d) (tv := tv) (x := trS (.leaf v)) (S := S) (w5 := w5) (w6 := w6) (w7 := w7) (w8 := w8) (w9 := w9) (R := R) (Pl := Pl) (T := T) (by omega)
    refine ⟨L', G', ?_⟩
    show whF _ _ (x + 1) _ _ = _
    rw [whF, lsq]
    dsimp only
    rw [e]
  | node tb a b iha ihb =>
    intro d R Pl T x w5 w6 w7 w8 w9 hw hno hp
    have hno : ¬ (d + (max (dpt a) (dpt b) + 1) ≤ 41 ∧ R.length + T.length + (nds a + nds b + 1) ≤ 200) := hno
    unfold WT at hw
    obtain ⟨⟨h1, h2⟩, h3, h4⟩ := hw
    have na := nds_pos a
    have nb := nds_pos b
    by_cases hs : 40 < d ∨ 200 ≤ R.length + T.length
    · obtain ⟨L', G', e⟩ := D.ls_stop (k := k) (m := m) (d := d) (tv := tv) (x := trS (.node tb a b)) (S := S) (w5 := w5) (w6 := w6) (w7 := w7) (w8 := w8) (w9 := w9) (R := R) (Pl := Pl) (T := T) hs
      refine ⟨L', G', ?_⟩
      show whF _ _ ((x + (stp a + stp b + 1)) + 1) _ _ = _
      rw [whF, lsq]
      dsimp only
      rw [e]
    · obtain ⟨w5', w6', w7', e⟩ := D.ls_openX (k := k) (a := trS a) (b := trS b) (tv := tv) (S := S) (w5 := w5) (w6 := w6) (w7 := w7) (w8 := w8) (w9 := w9) (R := R) (Pl := Pl) (T := T) (d := d) h1 h2 (by omega) (by omega)
      have eT : T ++ [tskX (.tup [.str "node", tabS tb, trS a, trS b]) d true] ++ [tskX (trS b) (d + 1) false] ++ [tskX (trS a) (d + 1) false] = T ++ [tskS (.node tb a b) d true] ++ [tskS b (d + 1) false] ++ [tskS a (d + 1) false] := rfl
      rw [eT] at e
      by_cases fa : d + 1 + dpt a ≤ 41 ∧ R.length + (T.length + 2) + nds a ≤ 200
      · obtain ⟨u5, u6, u7, u8, u9, ea⟩ := D.ls_run (k := k) (tv := tv) (S := S) a (d + 1) R Pl (T ++ [tskS (.node tb a b) d true] ++ [tskS b (d + 1) false]) (x + stp b + 1) w5' w6' w7' w8 w9 h3 fa.1 (by simp; omega) (by omega)
        have hRb : (R ++ (post a R.length).map rowS).length = R.length + nds a := by rw [List.length_append, List.length_map, post_len]
        obtain ⟨L', G', eb⟩ := ihb (d + 1) (R ++ (post a R.length).map rowS) (Pl ++ [.int ((R.length + nds a - 1 : Nat) : Int)]) (T ++ [tskS (.node tb a b) d true]) (x + 1) u5 u6 u7 u8 u9 h4 (by
          rw [hRb]
          simp
          omega) (by rw [hRb]; simp; omega)
        refine ⟨L', G', ?_⟩
        show whF _ _ ((x + (stp a + stp b + 1)) + 1) _ _ = _
        rw [show (x + (stp a + stp b + 1)) = x + stp b + 1 + stp a by omega, whF, lsq]
        dsimp only
        have e : evalSs P (callD P (k + 4)) (lsI lf inn gn go ex) none (lsL tv m S.length w5 w6 w7 w8 w9) (lsS S R Pl (T ++ [tskS (.node tb a b) d false])) = _ := e
        rw [e]
        dsimp only
        rw [ea, show x + stp b + 1 = x + 1 + stp b by omega, eb]
      · obtain ⟨L', G', ea⟩ := iha (d + 1) R Pl (T ++ [tskS (.node tb a b) d true] ++ [tskS b (d + 1) false]) (x + stp b + 1) w5' w6' w7' w8 w9 h3 (by simp at fa ⊢; omega) hp
        refine ⟨L', G', ?_⟩
        show whF _ _ ((x + (stp a + stp b + 1)) + 1) _ _ = _
        rw [show (x + (stp a + stp b + 1)) = x + stp b + 1 + stp a by omega, whF, lsq]
        dsimp only
        have e : evalSs P (callD P (k + 4)) (lsI lf inn gn go ex) none (lsL tv m S.length w5 w6 w7 w8 w9) (lsS S R Pl (T ++ [tskS (.node tb a b) d false])) = _ := e
        rw [e]
        dsimp only
        rw [ea]
/-- a tree that is spoilt somewhere -/
theorem TD.ls_spoilt {k m : Nat} {tv : SV} {S G : Sto} : ∀ (s : SpT) (d : Nat) (R Pl T : List SV) (x : Nat) (w5 w6 w7 w8 w9 : Option SV), SOk P lf inn S m s → Pl.length ≤ R.length →
    ∃ L' G', whF (evalB P (callD P (k + 4)) none lsQ) (evalSs P (callD P (k + 4)) (lsI lf inn gn go ex) none) (x + stpS s) (lsL tv m (S ++ G).length w5 w6 w7 w8 w9) (lsS (S ++ G) R Pl (T ++ [tskX (spT s) d false])) = .exc ex L' (S ++ G ++ G') := by
  intro s
  induction s with
  | bad y =>
    intro d R Pl T x w5 w6 w7 w8 w9 hs hp
    obtain ⟨L', G', e⟩ := D.ls_badn (k := k) (m := m) (d := d) (tv := tv) (x := y) (S := S) (G := G) (w5 := w5) (w6 := w6) (w7 := w7) (w8 := w8) (w9 := w9) (R := R) (Pl := Pl) (T := T) hs
    refine ⟨L', G', ?_⟩
    show whF _ _ (x + 1) _ _ = _
    rw [whF, lsq]
    dsimp only
    have e : evalSs P (callD P (k + 4)) (lsI lf inn gn go ex) none (lsL tv m (S ++ G).length w5 w6 w7 w8 w9) (lsS (S ++ G) R Pl (T ++ [tskX (spT (.bad y)) d false])) = _ := e
    rw [e]
  | l tb s b ih =>
    intro d R Pl T x w5 w6 w7 w8 w9 hs hp
    unfold SOk at hs
    obtain ⟨⟨h1, h2⟩, h3⟩ := hs
    by_cases hst : 40 < d ∨ 200 ≤ R.length + T.length
    · obtain ⟨L', G', e⟩ := D.ls_stop (k := k) (m := m) (d := d) (tv := tv) (x := spT (.l tb s b)) (S := S ++ G) (w5 := w5) (w6 := w6) (w7 := w7) (w8 := w8) (w9 := w9) (R := R) (Pl := Pl) (T := T) hst
      refine ⟨L', G', ?_⟩
      show whF _ _ ((x + stpS s) + 1) _ _ = _
      rw [whF, lsq]
      dsimp only
      rw [e]
    · obtain ⟨w5', w6', w7', e⟩ := D.ls_openX (k := k) (a := spT s) (b := trS b) (tv := tv) (S := S ++ G) (w5 := w5) (w6 := w6) (w7 := w7) (w8 := w8) (w9 := w9) (R := R) (Pl := Pl) (T := T) (d := d) h1 h2 (by omega) (by omega)
      obtain ⟨L', G', ea⟩ := ih (d + 1) R Pl (T ++ [tskX (.tup [.str "node", tabS tb, spT s, trS b]) d true] ++ [tskX (trS b) (d + 1) false]) x w5' w6' w7' w8 w9 h3 hp
      refine ⟨L', G', ?_⟩
      show whF _ _ ((x + stpS s) + 1) _ _ = _
      rw [whF, lsq]
      dsimp only
      have e : evalSs P (callD P (k + 4)) (lsI lf inn gn go ex) none (lsL tv m (S ++ G).length w5 w6 w7 w8 w9) (lsS (S ++ G) R Pl (T ++ [tskX (spT (.l tb s b)) d false])) = _ := e
      rw [e]
      dsimp only
      rw [ea]
  | r tb a s ih =>
    intro d R Pl T x w5 w6 w7 w8 w9 hs hp
    unfold SOk at hs
    obtain ⟨⟨h1, h2⟩, hw, h3⟩ := hs
    have na := nds_pos a
    by_cases hst : 40 < d ∨ 200 ≤ R.length + T.length
    · obtain ⟨L', G', e⟩ := D.ls_stop (k := k) (m := m) (d := d) (tv := tv) (x := spT (.r tb a s)) (S := S ++ G) (w5 := w5) (w6 := w6) (w7 := w7) (w8 := w8) (w9 := w9) (R := R) (Pl := Pl) (T := T) hst
      refine ⟨L', G', ?_⟩
      show whF _ _ ((x + (stpS s + stp a)) + 1) _ _ = _
      rw [whF, lsq]
      dsimp only
      rw [e]
    · obtain ⟨w5', w6', w7', e⟩ := D.ls_openX (k := k) (a := trS a) (b := spT s) (tv := tv) (S := S ++ G) (w5 := w5) (w6 := w6) (w7 := w7) (w8 := w8) (w9 := w9) (R := R) (Pl := Pl) (T := T) (d := d) h1 h2 (by omega) (by omega)
      have e : evalSs P (callD P (k + 4)) (lsI lf inn gn go ex) none (lsL tv m (S ++ G).length w5 w6 w7 w8 w9) (lsS (S ++ G) R Pl (T ++ [tskX (spT (.r tb a s)) d false])) = _ := e
      by_cases fa : d + 1 + dpt a ≤ 41 ∧ R.length + (T.length + 2) + nds a ≤ 200
      · obtain ⟨u5, u6, u7, u8, u9, ea⟩ := D.ls_run (k := k) (tv := tv) (S := S ++ G) a (d + 1) R Pl (T ++ [tskX (.tup [.str "node", tabS tb, trS a, spT s]) d true] ++ [tskX (spT s) (d + 1) false]) (x + stpS s) w5' w6' w7' w8 w9 hw fa.1 (by simp; omega) (by omega)
        obtain ⟨L', G', eb⟩ := ih (d + 1) (R ++ (post a R.length).map rowS) (Pl ++ [.int ((R.length + nds a - 1 : Nat) : Int)]) (T ++ [tskX (.tup [.str "node", tabS tb, trS a, spT s]) d true]) x u5 u6 u7 u8 u9 h3 (by rw [List.length_append, List.length_append, List.length_map, post_len]; simp; omega)
        refine ⟨L', G', ?_⟩
        show whF _ _ ((x + (stpS s + stp a)) + 1) _ _ = _
        rw [show x + (stpS s + stp a) = x + stpS s + stp a by omega, whF, lsq]
        dsimp only
        rw [e]
        dsimp only
        rw [ea, eb]
      · obtain ⟨L', G', ea⟩ := D.ls_over (k := k) (tv := tv) (S := S ++ G) a (d + 1) R Pl (T ++ [tskX (.tup [.str "node", tabS tb, trS a, spT s]) d true] ++ [tskX (spT s) (d + 1) false]) (x + stpS s) w5' w6' w7' w8 w9 hw (by simp at fa ⊢; omega) hp
        refine ⟨L', G', ?_⟩
        show whF _ _ ((x + (stpS s + stp a)) + 1) _ _ = _
        rw [show x + (stpS s + stp a) = x + stpS s + stp a by omega, whF, lsq]
        dsimp only
        rw [e]
        dsimp only
        rw [ea]
theorem TD.ls_exc {k m n' : Nat} {tv : SV} {S : Sto} (hn : n' ≤ 100000) (h : ∀ x, ∃ L' G', whF (evalB P (callD P (k + 4)) none lsQ) (evalSs P (callD P (k + 4)) (lsI lf inn gn go ex) none) (x + n') (lsL tv m S.length none none none none none) (lsS S [] [] [tskX tv 1 false]) = .exc ex L' (S ++ G')) :
    ∃ G', callD P (k + 5) ls [tv, .int m] S = .exc ex (S ++ G') := by
  obtain ⟨L', G', e⟩ := h (wFuel - n')
  rw [show wFuel - n' + n' = wFuel by unfold wFuel; omega] at e
  refine ⟨G', ?_⟩
  rw [D.hls.call rfl]
  have e' : whF (evalB P (callD P (k + 4)) none lsQ) (evalSs P (callD P (k + 4)) (lsI lf inn gn go ex) none) wFuel [some tv, some (.int m), some (.ref S.length), some (.ref (S.length + 1)), some (.ref (S.length + 1 + 1)), none, none, none, none, none] (S ++ [.lst [], .lst [], .lst [tskX tv 1 false]]) = .exc ex L' (S ++ G') := e
  dsimp only [tskX] at e'
  simp at e'
  simp [lsB, e']
theorem TD.ro_exc {k m : Nat} {tv : SV} {S S' : Sto} (h1 : 1 ≤ m) (h2 : m ≤ 40) (h : callD P (k + 5) ls [tv, .int m] S = .exc ex S') : callD P (k + 6) ro [tv, .int m] S = .exc ex S' := by
  obtain ⟨s3, g3⟩ := D.g3
  rw [D.hro.call rfl]
  have h1' : (1 : Int) ≤ (m : Int) := by omega
  have h2' : (m : Int) ≤ 40 := by omega
  simp [roB, isi_sp D.hi, h1, h1', h2', g3, h]
end
end Bi

namespace K37
open PySem PySem.Spec PyProof.Rows L2 Bi
def top (i : Nat) : Stmt := PySem.Challenge.pw_brimful_k37_trees_are_checked.main.body.getD i (.Pass ⟨0, 0, 0, 0⟩)
/-- is_integer -/
def b0 : ISs := .cons (.ret (.and (.isi (.var 0) .int) (.not (.isi (.var 0) .bool)))) (.nil)
def D0 : DefI := ⟨"is_integer", "is_integer", (top 9), ["value"], 1, b0⟩
/-- is_number -/
def b1 : ISs := .cons (.ret (.and (.call 0 (.cons (.var 0) (.nil))) (.chn .le .lt (.cst (.int 0)) (.var 0) (.var 1)))) (.nil)
def D1 : DefI := ⟨"is_number", "is_number", (top 10), ["value", "modulus"], 2, b1⟩
/-- is_prime -/
def b2_0 : IB := .val (.cmp .le (.bin .mul (.var 1) (.var 1)) (.var 0))
def b2_1 : ISs := .cons (.iff (.val (.cmp .eq (.bin .mod (.var 0) (.var 1)) (.cst (.int 0)))) (.cons (.ret (.cst (.bl false))) (.nil)) (.nil)) (.cons (.aug 1 .add (.cst (.int 2))) (.nil))
def b2 : ISs := .cons (.iff (.val (.cmp .lt (.var 0) (.cst (.int 2)))) (.cons (.ret (.cst (.bl false))) (.nil)) (.nil)) (.cons (.iff (.val (.cmp .eq (.bin .mod (.var 0) (.cst (.int 2))) (.cst (.int 0)))) (.cons (.ret (.cmp .eq (.var 0) (.cst (.int 2)))) (.nil)) (.nil)) (.cons (.asg (.nm 1) (.cst (.int 3))) (.cons (.whl b2_0 b2_1) (.cons (.ret (.cst (.bl true))) (.nil)))))
def D2 : DefI := ⟨"is_prime", "is_prime", (top 11), ["n", "divisor"], 1, b2⟩
/-- inverse_of -/
def b3_0 : IB := .val (.cmp .gt (.var 3) (.cst (.int 0)))
def b3_1 : ISs := .cons (.asg (.nm 6) (.bin .fdiv (.var 2) (.var 3))) (.cons (.par [2, 3] (.cons (.var 3) (.cons (.bin .sub (.var 2) (.bin .mul (.var 6) (.var 3))) (.nil)))) (.cons (.par [4, 5] (.cons (.var 5) (.cons (.bin .sub (.var 4) (.bin .mul (.var 6) (.var 5))) (.nil)))) (.nil)))
def b3 : ISs := .cons (.par [2, 3] (.cons (.bin .mod (.var 0) (.var 1)) (.cons (.var 1) (.nil)))) (.cons (.asg (.tp [4, 5]) (.tup (.cons (.cst (.int 1)) (.cons (.cst (.int 0)) (.nil))))) (.cons (.whl b3_0 b3_1) (.cons (.iff (.val (.cmp .ne (.var 2) (.cst (.int 1)))) (.cons (.ret (.cst (.non))) (.nil)) (.nil)) (.cons (.ret (.bin .mod (.var 4) (.var 1))) (.nil)))))
def D3 : DefI := ⟨"inverse_of", "inverse_of", (top 12), ["n", "modulus", "rest", "other", "mine", "yours", "times"], 2, b3⟩
/-- is_factor -/
def b4 : ISs := .cons (.iff (.or (.not (.val (.isi (.var 0) .tup))) (.val (.cmp .ne (.bf .len (.cons (.var 0) (.nil))) (.cst (.int 2))))) (.cons (.ret (.cst (.bl false))) (.nil)) (.nil)) (.cons (.iff (.val (.cmp .eq (.idx (.var 0) (.cst (.int 0))) (.cst (.str "cell")))) (.cons (.ret (.and (.call 1 (.cons (.idx (.var 0) (.cst (.int 1))) (.cons (.var 2) (.nil)))) (.cmp .ne (.idx (.var 0) (.cst (.int 1))) (.var 1)))) (.nil)) (.nil)) (.cons (.ret (.and (.cmp .eq (.idx (.var 0) (.cst (.int 0))) (.cst (.str "input"))) (.call 1 (.cons (.idx (.var 0) (.cst (.int 1))) (.cons (.var 3) (.nil)))))) (.nil)))
def D4 : DefI := ⟨"is_factor", "is_factor", (top 15), ["factor", "target", "cells", "inputs"], 4, b4⟩
/-- is_table -/
def b5_0 : ISs := .cons (.iff (.not (.val (.call 1 (.cons (.var 3) (.cons (.var 1) (.nil)))))) (.cons (.ret (.cst (.bl false))) (.nil)) (.nil)) (.nil)
def b5_1 : ISs := .cons (.iff (.or (.not (.val (.isi (.var 2) .tup))) (.val (.cmp .ne (.bf .len (.cons (.var 2) (.nil))) (.bf .len (.cons (.var 0) (.nil)))))) (.cons (.ret (.cst (.bl false))) (.nil)) (.nil)) (.cons (.for_ (.nm 3) (.seq (.var 2)) b5_0) (.nil))
def b5 : ISs := .cons (.iff (.or (.not (.val (.isi (.var 0) .tup))) (.not (.val (.chn .le .le (.cst (.int 1)) (.bf .len (.cons (.var 0) (.nil))) (.var 1))))) (.cons (.ret (.cst (.bl false))) (.nil)) (.nil)) (.cons (.for_ (.nm 2) (.seq (.var 0)) b5_1) (.cons (.ret (.cst (.bl true))) (.nil)))
def D5 : DefI := ⟨"is_table", "is_table", (top 16), ["table", "modulus", "row", "entry"], 2, b5⟩
/-- is_add -/
def b6_0 : ISs := .cons (.iff (.not (.val (.call 4 (.cons (.var 8) (.cons (.var 5) (.cons (.var 2) (.cons (.var 3) (.nil)))))))) (.cons (.ret (.cst (.bl false))) (.nil)) (.nil)) (.nil)
def b6 : ISs := .cons (.asg (.tp [4, 5, 6, 7]) (.var 0)) (.cons (.iff (.or (.not (.val (.call 1 (.cons (.var 5) (.cons (.var 2) (.nil)))))) (.not (.val (.call 1 (.cons (.var 6) (.cons (.var 1) (.nil))))))) (.cons (.ret (.cst (.bl false))) (.nil)) (.nil)) (.cons (.iff (.or (.not (.val (.isi (.var 7) .tup))) (.val (.cmp .gt (.bf .len (.cons (.var 7) (.nil))) (.glo 0)))) (.cons (.ret (.cst (.bl false))) (.nil)) (.nil)) (.cons (.for_ (.nm 8) (.seq (.var 7)) b6_0) (.cons (.ret (.cst (.bl true))) (.nil)))))
def D6 : DefI := ⟨"is_add", "is_add", (top 17), ["step", "modulus", "cells", "inputs", "_", "target", "coefficient", "factors", "factor"], 4, b6⟩
/-- is_look -/
def b7_0 : ISs := .cons (.iff (.not (.val (.call 1 (.cons (.var 9) (.cons (.var 2) (.nil)))))) (.cons (.ret (.cst (.bl false))) (.nil)) (.nil)) (.nil)
def b7 : ISs := .cons (.asg (.tp [3, 4, 5, 6, 7, 8]) (.var 0)) (.cons (.for_ (.nm 9) (.seq (.tup (.cons (.var 4) (.cons (.var 7) (.cons (.var 8) (.nil)))))) b7_0) (.cons (.iff (.or (.val (.cmp .eq (.var 4) (.var 7))) (.or (.val (.cmp .eq (.var 4) (.var 8))) (.or (.val (.cmp .eq (.var 7) (.var 8))) (.not (.val (.call 0 (.cons (.var 5) (.nil)))))))) (.cons (.ret (.cst (.bl false))) (.nil)) (.nil)) (.cons (.iff (.and (.val (.cmp .ne (.var 5) (.cst (.int 1)))) (.val (.cmp .ne (.var 5) (.bin .sub (.var 1) (.cst (.int 1)))))) (.cons (.ret (.cst (.bl false))) (.nil)) (.nil)) (.cons (.ret (.call 5 (.cons (.var 6) (.cons (.var 1) (.nil))))) (.nil)))))
def D7 : DefI := ⟨"is_look", "is_look", (top 18), ["step", "modulus", "cells", "_", "target", "sign", "table", "a", "b", "cell"], 3, b7⟩
/-- is_step -/
def b8 : ISs := .cons (.iff (.or (.not (.val (.isi (.var 0) .tup))) (.val (.cmp .lt (.bf .len (.cons (.var 0) (.nil))) (.cst (.int 3))))) (.cons (.ret (.cst (.bl false))) (.nil)) (.nil)) (.cons (.iff (.and (.val (.cmp .eq (.idx (.var 0) (.cst (.int 0))) (.cst (.str "add")))) (.val (.cmp .eq (.bf .len (.cons (.var 0) (.nil))) (.cst (.int 4))))) (.cons (.ret (.call 6 (.cons (.var 0) (.cons (.var 1) (.cons (.var 2) (.cons (.var 3) (.nil))))))) (.nil)) (.nil)) (.cons (.iff (.and (.val (.cmp .eq (.idx (.var 0) (.cst (.int 0))) (.cst (.str "scale")))) (.val (.cmp .eq (.bf .len (.cons (.var 0) (.nil))) (.cst (.int 3))))) (.cons (.iff (.or (.not (.val (.call 1 (.cons (.idx (.var 0) (.cst (.int 1))) (.cons (.var 2) (.nil)))))) (.not (.val (.call 1 (.cons (.idx (.var 0) (.cst (.int 2))) (.cons (.var 1) (.nil))))))) (.cons (.ret (.cst (.bl false))) (.nil)) (.nil)) (.cons (.ret (.cmp .isnt (.call 3 (.cons (.idx (.var 0) (.cst (.int 2))) (.cons (.var 1) (.nil)))) (.cst (.non)))) (.nil))) (.nil)) (.cons (.iff (.and (.val (.cmp .eq (.idx (.var 0) (.cst (.int 0))) (.cst (.str "swap")))) (.val (.cmp .eq (.bf .len (.cons (.var 0) (.nil))) (.cst (.int 3))))) (.cons (.iff (.or (.not (.val (.call 1 (.cons (.idx (.var 0) (.cst (.int 1))) (.cons (.var 2) (.nil)))))) (.not (.val (.call 1 (.cons (.idx (.var 0) (.cst (.int 2))) (.cons (.var 2) (.nil))))))) (.cons (.ret (.cst (.bl false))) (.nil)) (.nil)) (.cons (.ret (.cmp .ne (.idx (.var 0) (.cst (.int 1))) (.idx (.var 0) (.cst (.int 2))))) (.nil))) (.nil)) (.cons (.ret (.and (.cmp .eq (.idx (.var 0) (.cst (.int 0))) (.cst (.str "table"))) (.and (.cmp .eq (.bf .len (.cons (.var 0) (.nil))) (.cst (.int 6))) (.call 7 (.cons (.var 0) (.cons (.var 1) (.cons (.var 2) (.nil)))))))) (.nil)))))
def D8 : DefI := ⟨"is_step", "is_step", (top 19), ["step", "modulus", "cells", "inputs"], 4, b8⟩
/-- check_steps -/
def b9_0 : ISs := .cons (.iff (.not (.val (.call 8 (.cons (.var 6) (.cons (.var 1) (.cons (.var 2) (.cons (.var 3) (.nil)))))))) (.cons (.rse 1) (.nil)) (.nil)) (.cons (.asg (.nm 5) (.or (.var 5) (.cmp .eq (.idx (.var 6) (.cst (.int 0))) (.cst (.str "table"))))) (.nil))
def b9 : ISs := .cons (.iff (.or (.not (.val (.isi (.var 0) .lst))) (.val (.cmp .gt (.bf .len (.cons (.var 0) (.nil))) (.var 4)))) (.cons (.rse 1) (.nil)) (.nil)) (.cons (.asg (.nm 5) (.cst (.bl false))) (.cons (.for_ (.nm 6) (.seq (.var 0)) b9_0) (.cons (.iff (.and (.val (.var 5)) (.not (.val (.call 2 (.cons (.var 1) (.nil)))))) (.cons (.rse 1) (.nil)) (.nil)) (.nil))))
def D9 : DefI := ⟨"check_steps", "check_steps", (top 21), ["steps", "modulus", "cells", "inputs", "most", "looks", "step"], 5, b9⟩
/-- Program.__init__ -/
def b10 : ISs := .cons (.iff (.or (.not (.val (.call 0 (.cons (.var 1) (.nil))))) (.not (.val (.chn .le .le (.cst (.int 2)) (.var 1) (.glo 1))))) (.cons (.rse 1) (.nil)) (.nil)) (.cons (.iff (.or (.not (.val (.call 0 (.cons (.var 2) (.nil))))) (.not (.val (.chn .le .le (.cst (.int 1)) (.var 2) (.glo 2))))) (.cons (.rse 1) (.nil)) (.nil)) (.cons (.iff (.or (.not (.val (.call 0 (.cons (.var 3) (.nil))))) (.not (.val (.chn .le .le (.cst (.int 0)) (.var 3) (.glo 3))))) (.cons (.rse 1) (.nil)) (.nil)) (.cons (.expr (.call 9 (.cons (.var 4) (.cons (.var 1) (.cons (.var 2) (.cons (.var 3) (.cons (.glo 4) (.nil)))))))) (.cons (.setA 0 0 (.var 0) (.var 1)) (.cons (.setA 0 1 (.var 0) (.var 2)) (.cons (.setA 0 2 (.var 0) (.var 3)) (.cons (.setA 0 3 (.var 0) (.bf .list (.cons (.var 4) (.nil)))) (.nil))))))))
def D10 : DefI := ⟨"__init__", "Program.__init__", (inClass (top 27) 0), ["self", "modulus", "cells", "inputs", "steps"], 5, b10⟩
/-- listed -/
def b11_0 : IB := .val (.var 4)
def b11_1 : ISs := .cons (.asg (.tp [5, 6, 7]) (.bm .pop (.var 4) (.nil))) (.cons (.iff (.val (.var 7)) (.cons (.asg (.nm 8) (.bm .pop (.var 3) (.nil))) (.cons (.asg (.nm 9) (.bm .pop (.var 3) (.nil))) (.cons (.expr (.bm .append (.var 2) (.cons (.tup (.cons (.var 5) (.cons (.var 9) (.cons (.var 8) (.nil))))) (.nil)))) (.cons (.expr (.bm .append (.var 3) (.cons (.bin .sub (.bf .len (.cons (.var 2) (.nil))) (.cst (.int 1))) (.nil)))) (.cons (.cont) (.nil)))))) (.nil)) (.cons (.iff (.or (.val (.cmp .gt (.var 6) (.glo 5))) (.val (.cmp .ge (.bin .add (.bf .len (.cons (.var 2) (.nil))) (.bf .len (.cons (.var 4) (.nil)))) (.glo 6)))) (.cons (.rse 5) (.nil)) (.nil)) (.cons (.iff (.val (.call 12 (.cons (.var 5) (.cons (.var 1) (.nil))))) (.cons (.expr (.bm .append (.var 2) (.cons (.tup (.cons (.var 5) (.cons (.neg (.cst (.int 1))) (.cons (.neg (.cst (.int 1))) (.nil))))) (.nil)))) (.cons (.expr (.bm .append (.var 3) (.cons (.bin .sub (.bf .len (.cons (.var 2) (.nil))) (.cst (.int 1))) (.nil)))) (.nil))) (.cons (.iff (.val (.call 13 (.cons (.var 5) (.cons (.var 1) (.nil))))) (.cons (.expr (.bm .append (.var 4) (.cons (.tup (.cons (.var 5) (.cons (.var 6) (.cons (.cst (.bl true)) (.nil))))) (.nil)))) (.cons (.expr (.bm .append (.var 4) (.cons (.tup (.cons (.idx (.var 5) (.cst (.int 3))) (.cons (.bin .add (.var 6) (.cst (.int 1))) (.cons (.cst (.bl false)) (.nil))))) (.nil)))) (.cons (.expr (.bm .append (.var 4) (.cons (.tup (.cons (.idx (.var 5) (.cst (.int 2))) (.cons (.bin .add (.var 6) (.cst (.int 1))) (.cons (.cst (.bl false)) (.nil))))) (.nil)))) (.nil)))) (.cons (.rse 5) (.nil))) (.nil))) (.nil))))
def b11 : ISs := .cons (.asg (.nm 2) (.lst (.nil))) (.cons (.asg (.nm 3) (.lst (.nil))) (.cons (.asg (.nm 4) (.lst (.cons (.tup (.cons (.var 0) (.cons (.cst (.int 1)) (.cons (.cst (.bl false)) (.nil))))) (.nil)))) (.cons (.whl b11_0 b11_1) (.cons (.ret (.var 2)) (.nil)))))
def D11 : DefI := ⟨"listed", "listed", (top 32), ["tree", "values", "rows", "places", "tasks", "node", "depth", "opened", "right", "left"], 2, b11⟩
/-- is_leaf -/
def b12 : ISs := .cons (.iff (.or (.not (.val (.isi (.var 0) .tup))) (.or (.val (.cmp .ne (.bf .len (.cons (.var 0) (.nil))) (.cst (.int 2)))) (.val (.cmp .ne (.idx (.var 0) (.cst (.int 0))) (.cst (.str "leaf")))))) (.cons (.ret (.cst (.bl false))) (.nil)) (.nil)) (.cons (.ret (.call 1 (.cons (.idx (.var 0) (.cst (.int 1))) (.cons (.var 1) (.nil))))) (.nil))
def D12 : DefI := ⟨"is_leaf", "is_leaf", (top 33), ["node", "values"], 2, b12⟩
/-- is_inner -/
def b13 : ISs := .cons (.iff (.or (.not (.val (.isi (.var 0) .tup))) (.or (.val (.cmp .ne (.bf .len (.cons (.var 0) (.nil))) (.cst (.int 4)))) (.val (.cmp .ne (.idx (.var 0) (.cst (.int 0))) (.cst (.str "node")))))) (.cons (.ret (.cst (.bl false))) (.nil)) (.nil)) (.cons (.ret (.and (.call 5 (.cons (.idx (.var 0) (.cst (.int 1))) (.cons (.var 1) (.nil)))) (.cmp .eq (.bf .len (.cons (.idx (.var 0) (.cst (.int 1))) (.nil))) (.var 1)))) (.nil))
def D13 : DefI := ⟨"is_inner", "is_inner", (top 34), ["node", "values"], 2, b13⟩
/-- rows_of -/
def b14 : ISs := .cons (.iff (.or (.not (.val (.call 0 (.cons (.var 1) (.nil))))) (.not (.val (.chn .le .le (.cst (.int 1)) (.var 1) (.glo 7))))) (.cons (.rse 5) (.nil)) (.nil)) (.cons (.asg (.nm 2) (.call 11 (.cons (.var 0) (.cons (.var 1) (.nil))))) (.cons (.iff (.val (.cmp .gt (.bf .len (.cons (.var 2) (.nil))) (.glo 6))) (.cons (.rse 5) (.nil)) (.nil)) (.cons (.ret (.var 2)) (.nil))))
def D14 : DefI := ⟨"rows_of", "rows_of", (top 35), ["tree", "values", "rows"], 2, b14⟩
/-- check_tree -/
def b15 : ISs := .cons (.expr (.call 14 (.cons (.var 0) (.cons (.var 1) (.nil))))) (.nil)
def D15 : DefI := ⟨"check_tree", "check_tree", (top 36), ["tree", "values"], 2, b15⟩
/-- tree_value -/
def b16_0 : ISs := .cons (.iff (.val (.cmp .lt (.var 4) (.cst (.int 0)))) (.cons (.expr (.bm .append (.var 2) (.cons (.idx (.var 3) (.cst (.int 1))) (.nil)))) (.nil)) (.cons (.expr (.bm .append (.var 2) (.cons (.idx (.idx (.idx (.var 3) (.cst (.int 1))) (.idx (.var 2) (.var 4))) (.idx (.var 2) (.var 5))) (.nil)))) (.nil))) (.nil)
def b16 : ISs := .cons (.asg (.nm 2) (.lst (.nil))) (.cons (.for_ (.tp [3, 4, 5]) (.seq (.call 14 (.cons (.var 0) (.cons (.var 1) (.nil))))) b16_0) (.cons (.ret (.idx (.var 2) (.neg (.cst (.int 1))))) (.nil)))
def D16 : DefI := ⟨"tree_value", "tree_value", (top 37), ["tree", "values", "found", "node", "left", "right"], 2, b16⟩
/-- prime_of -/
def b17_0 : IB := .not (.val (.call 2 (.cons (.var 1) (.nil))))
def b17_1 : ISs := .cons (.aug 1 .add (.cst (.int 1))) (.nil)
def b17 : ISs := .cons (.iff (.or (.not (.val (.call 0 (.cons (.var 0) (.nil))))) (.not (.val (.chn .le .le (.cst (.int 1)) (.var 0) (.glo 7))))) (.cons (.rse 5) (.nil)) (.nil)) (.cons (.asg (.nm 1) (.bf .max2 (.cons (.cst (.int 3)) (.cons (.bin .mul (.cst (.int 2)) (.var 0)) (.nil))))) (.cons (.whl b17_0 b17_1) (.cons (.ret (.var 1)) (.nil))))
def D17 : DefI := ⟨"prime_of", "prime_of", (top 38), ["values", "prime"], 1, b17⟩
/-- tree_cost -/
def b18_0 : ISs := .cons (.iff (.val (.cmp .lt (.var 6) (.cst (.int 0)))) (.cons (.expr (.bm .append (.var 4) (.cons (.cst (.int 1)) (.nil)))) (.nil)) (.cons (.expr (.bm .append (.var 4) (.cons (.bin .mul (.bin .sub (.var 3) (.cst (.int 1))) (.bin .add (.bin .mul (.cst (.int 2)) (.bin .add (.idx (.var 4) (.var 6)) (.idx (.var 4) (.var 7)))) (.cst (.int 5)))) (.nil)))) (.nil))) (.nil)
def b18 : ISs := .cons (.asg (.nm 2) (.call 14 (.cons (.var 0) (.cons (.var 1) (.nil))))) (.cons (.asg (.nm 3) (.call 17 (.cons (.var 1) (.nil)))) (.cons (.asg (.nm 4) (.lst (.nil))) (.cons (.for_ (.tp [5, 6, 7]) (.seq (.var 2)) b18_0) (.cons (.ret (.idx (.var 4) (.neg (.cst (.int 1))))) (.nil)))))
def D18 : DefI := ⟨"tree_cost", "tree_cost", (top 39), ["tree", "values", "rows", "prime", "costs", "_", "left", "right"], 2, b18⟩
/-- round_tasks -/
def b19_0 : IB := .val (.cmp .ne (.var 14) (.var 8))
def b19_1 : IX := .var 14
def b19 : ISs := .cons (.asg (.tp [4, 5, 6]) (.var 0)) (.cons (.asg (.tp [7, 8, 9]) (.var 1)) (.cons (.asg (.tp [10, 11]) (.lcc (.nm 14) (.rng1 (.cst (.int 3))) b19_0 b19_1 [14])) (.cons (.asg (.nm 12) (.call 3 (.cons (.var 2) (.cons (.var 3) (.nil))))) (.cons (.asg (.nm 13) (.tup (.cons (.cst (.str "table")) (.cons (.var 8) (.cons (.ite (.val (.cmp .lt (.var 9) (.cst (.int 0)))) (.cst (.int 1)) (.bin .sub (.var 3) (.cst (.int 1)))) (.cons (.idx (.var 4) (.cst (.int 1))) (.cons (.var 10) (.cons (.var 11) (.nil))))))))) (.cons (.ret (.lst (.cons (.tup (.cons (.cst (.str "scale")) (.cons (.var 10) (.cons (.var 2) (.nil))))) (.cons (.tup (.cons (.cst (.str "scale")) (.cons (.var 11) (.cons (.var 2) (.nil))))) (.cons (.tup (.cons (.var 5) (.cons (.var 10) (.cons (.cst (.int 1)) (.nil))))) (.cons (.tup (.cons (.var 6) (.cons (.var 11) (.cons (.cst (.int 1)) (.nil))))) (.cons (.var 13) (.cons (.tup (.cons (.var 5) (.cons (.var 10) (.cons (.neg (.cst (.int 1))) (.nil))))) (.cons (.tup (.cons (.var 6) (.cons (.var 11) (.cons (.neg (.cst (.int 1))) (.nil))))) (.cons (.tup (.cons (.cst (.str "scale")) (.cons (.var 10) (.cons (.var 12) (.nil))))) (.cons (.tup (.cons (.cst (.str "scale")) (.cons (.var 11) (.cons (.var 12) (.nil))))) (.nil)))))))))))) (.nil))))))
def D19 : DefI := ⟨"round_tasks", "round_tasks", (top 40), ["row", "task", "unit", "prime", "node", "left", "right", "_", "target", "sign", "a", "b", "back", "look", "cell"], 4, b19⟩
/-- compile_tree -/
def b20_0 : IB := .val (.var 5)
def b20_1 : ISs := .cons (.expr (.bm .extend (.var 5) (.cons (.rev (.call 19 (.cons (.var 7) (.cons (.var 6) (.cons (.var 8) (.cons (.var 3) (.nil))))))) (.nil)))) (.nil)
def b20_2 : ISs := .cons (.asg (.nm 6) (.bm .pop (.var 5) (.nil))) (.cons (.iff (.not (.val (.call 0 (.cons (.idx (.var 6) (.cst (.int 0))) (.nil))))) (.cons (.expr (.bm .append (.var 4) (.cons (.var 6) (.nil)))) (.cons (.cont) (.nil))) (.nil)) (.cons (.asg (.nm 7) (.idx (.var 2) (.idx (.var 6) (.cst (.int 0))))) (.cons (.iff (.val (.cmp .lt (.idx (.var 7) (.cst (.int 1))) (.cst (.int 0)))) (.cons (.expr (.bm .append (.var 4) (.cons (.tup (.cons (.cst (.str "add")) (.cons (.idx (.var 6) (.cst (.int 1))) (.cons (.bin .mod (.bin .mul (.idx (.var 6) (.cst (.int 2))) (.idx (.idx (.var 7) (.cst (.int 0))) (.cst (.int 1)))) (.var 3)) (.cons (.tup (.nil)) (.nil)))))) (.nil)))) (.cons (.cont) (.nil))) (.nil)) (.cons (.for_ (.nm 8) (.rng3 (.bin .sub (.var 3) (.cst (.int 1))) (.cst (.int 0)) (.neg (.cst (.int 1)))) b20_1) (.nil)))))
def b20 : ISs := .cons (.asg (.nm 2) (.call 14 (.cons (.var 0) (.cons (.var 1) (.nil))))) (.cons (.iff (.val (.cmp .gt (.call 18 (.cons (.var 0) (.cons (.var 1) (.nil)))) (.glo 4))) (.cons (.rse 4) (.nil)) (.nil)) (.cons (.asg (.nm 3) (.call 17 (.cons (.var 1) (.nil)))) (.cons (.asg (.nm 4) (.lst (.nil))) (.cons (.asg (.nm 5) (.lst (.cons (.tup (.cons (.bin .sub (.bf .len (.cons (.var 2) (.nil))) (.cst (.int 1))) (.cons (.cst (.int 0)) (.cons (.cst (.int 1)) (.nil))))) (.nil)))) (.cons (.whl b20_0 b20_2) (.cons (.ret (.make 34 (.cons (.var 3) (.cons (.cst (.int 3)) (.cons (.cst (.int 0)) (.cons (.var 4) (.nil))))))) (.nil)))))))
def D20 : DefI := ⟨"compile_tree", "compile_tree", (top 41), ["tree", "values", "rows", "prime", "steps", "tasks", "task", "row", "unit"], 2, b20⟩
/-- _law_mixed -/
def b21 : ISs := .cons (.asg (.nm 2) (.bin .mod (.bin .add (.bin .add (.bin .mul (.var 0) (.cst (.int 48271))) (.bin .mul (.var 1) (.cst (.int 69621)))) (.cst (.int 12345))) (.cst (.int 2147483647)))) (.cons (.ret (.bin .mod (.bin .add (.bin .mul (.var 2) (.bin .add (.bin .fdiv (.var 2) (.cst (.int 65536))) (.cst (.int 3)))) (.var 1)) (.cst (.int 2147483647)))) (.nil))
def D21 : DefI := ⟨"_law_mixed", "_law_mixed", (top 43), ["_law_number", "_law_k", "_law_step"], 2, b21⟩
/-- _law_numbers -/
def b22_0 : ISs := .cons (.iff (.val (.cmp .gt (.var 3) (.cst (.int 0)))) (.cons (.expr (.bm .append (.var 1) (.cons (.bin .mod (.var 3) (.cst (.int 1000000))) (.nil)))) (.cons (.asg (.nm 3) (.bin .fdiv (.var 3) (.cst (.int 1000000)))) (.nil))) (.nil)) (.nil)
def b22_1 : ISs := .cons (.expr (.bm .append (.var 1) (.cons (.bin .mod (.call 21 (.cons (.call 21 (.cons (.bin .mod (.var 2) (.cst (.int 2147483647))) (.cons (.var 4) (.nil)))) (.cons (.bin .add (.var 4) (.cst (.int 7))) (.nil)))) (.cst (.int 1000000))) (.nil)))) (.nil)
def b22_2 : ISs := .cons (.iff (.val (.cmp .ge (.var 2) (.bin .pow (.cst (.int 10)) (.cst (.int 18))))) (.cons (.asg (.nm 3) (.var 2)) (.cons (.for_ (.nm 4) (.rng1 (.cst (.int 60))) b22_0) (.nil))) (.cons (.expr (.bm .append (.var 1) (.cons (.bin .mod (.var 2) (.cst (.int 1000000))) (.nil)))) (.cons (.for_ (.nm 4) (.rng1 (.cst (.int 5))) b22_1) (.nil)))) (.nil)
def b22 : ISs := .cons (.asg (.nm 1) (.lst (.nil))) (.cons (.for_ (.nm 2) (.seq (.var 0)) b22_2) (.cons (.ret (.var 1)) (.nil)))
def D22 : DefI := ⟨"_law_numbers", "_law_numbers", (top 44), ["_law_script", "_law_numbers_here", "_law_cell", "_law_rest", "_law_k"], 1, b22⟩
/-- _law_draw -/
def b23 : ISs := .cons (.asg (.nm 1) (.idx (.var 0) (.cst (.int 1)))) (.cons (.setI (.var 0) (.cst (.int 1)) (.bin .add (.var 1) (.cst (.int 1)))) (.cons (.iff (.val (.cmp .lt (.var 1) (.bf .len (.cons (.idx (.var 0) (.cst (.int 0))) (.nil))))) (.cons (.ret (.idx (.idx (.var 0) (.cst (.int 0))) (.var 1))) (.nil)) (.nil)) (.cons (.asg (.nm 2) (.bin .add (.cst (.int 1)) (.var 1))) (.cons (.iff (.val (.cmp .gt (.bf .len (.cons (.idx (.var 0) (.cst (.int 0))) (.nil))) (.cst (.int 0)))) (.cons (.asg (.nm 2) (.bin .add (.var 2) (.bin .mul (.cst (.int 1009)) (.idx (.idx (.var 0) (.cst (.int 0))) (.cst (.int 0)))))) (.nil)) (.nil)) (.cons (.ret (.bin .mod (.call 21 (.cons (.call 21 (.cons (.var 2) (.cons (.var 1) (.nil)))) (.cons (.cst (.int 5)) (.nil)))) (.cst (.int 1000000)))) (.nil))))))
def D23 : DefI := ⟨"_law_draw", "_law_draw", (top 45), ["_law_draws", "_law_at", "_law_first"], 1, b23⟩
/-- _law_table -/
def b24_0 : ISs := .cons (.iff (.val (.cmp .eq (.var 2) (.cst (.int 0)))) (.cons (.expr (.bm .append (.var 5) (.cons (.bin .mod (.bin .add (.var 4) (.var 6)) (.var 1)) (.nil)))) (.nil)) (.cons (.iff (.val (.cmp .eq (.var 2) (.cst (.int 1)))) (.cons (.expr (.bm .append (.var 5) (.cons (.bin .mod (.bin .mul (.var 4) (.var 6)) (.var 1)) (.nil)))) (.nil)) (.cons (.expr (.bm .append (.var 5) (.cons (.bin .mod (.call 23 (.cons (.var 0) (.nil))) (.var 1)) (.nil)))) (.nil))) (.nil))) (.nil)
def b24_1 : ISs := .cons (.asg (.nm 5) (.lst (.nil))) (.cons (.for_ (.nm 6) (.rng1 (.var 1)) b24_0) (.cons (.expr (.bm .append (.var 3) (.cons (.bf .tuple (.cons (.var 5) (.nil))) (.nil)))) (.nil)))
def b24 : ISs := .cons (.asg (.nm 2) (.bin .mod (.call 23 (.cons (.var 0) (.nil))) (.cst (.int 4)))) (.cons (.asg (.nm 3) (.lst (.nil))) (.cons (.for_ (.nm 4) (.rng1 (.var 1)) b24_1) (.cons (.ret (.bf .tuple (.cons (.var 3) (.nil)))) (.nil))))
def D24 : DefI := ⟨"_law_table", "_law_table", (top 46), ["_law_draws", "_law_values", "_law_kind", "_law_rows", "_law_i", "_law_row", "_law_j"], 2, b24⟩
/-- _law_tree -/
def b25 : ISs := .cons (.iff (.or (.val (.cmp .le (.var 2) (.cst (.int 1)))) (.or (.val (.cmp .lt (.idx (.var 3) (.cst (.int 0))) (.cst (.int 2)))) (.val (.cmp .eq (.bin .mod (.call 23 (.cons (.var 0) (.nil))) (.cst (.int 5))) (.cst (.int 0)))))) (.cons (.ret (.tup (.cons (.cst (.str "leaf")) (.cons (.bin .mod (.call 23 (.cons (.var 0) (.nil))) (.var 1)) (.nil))))) (.nil)) (.nil)) (.cons (.setI (.var 3) (.cst (.int 0)) (.bin .sub (.idx (.var 3) (.cst (.int 0))) (.cst (.int 2)))) (.cons (.asg (.nm 4) (.call 25 (.cons (.var 0) (.cons (.var 1) (.cons (.bin .sub (.var 2) (.cst (.int 1))) (.cons (.var 3) (.nil))))))) (.cons (.ret (.tup (.cons (.cst (.str "node")) (.cons (.call 24 (.cons (.var 0) (.cons (.var 1) (.nil)))) (.cons (.var 4) (.cons (.call 25 (.cons (.var 0) (.cons (.var 1) (.cons (.bin .sub (.var 2) (.cst (.int 1))) (.cons (.var 3) (.nil)))))) (.nil))))))) (.nil))))
def D25 : DefI := ⟨"_law_tree", "_law_tree", (top 47), ["_law_draws", "_law_values", "_law_deep", "_law_left", "_law_first"], 4, b25⟩
/-- _law_bad_number -/
def b26 : ISs := .cons (.ret (.idx (.lst (.cons (.neg (.cst (.int 1))) (.cons (.var 1) (.cons (.cst (.bl true)) (.cons (.cst (.str "0")) (.cons (.cst (.non)) (.cons (.bin .shl (.cst (.int 1)) (.cst (.int 40))) (.nil)))))))) (.bin .mod (.call 23 (.cons (.var 0) (.nil))) (.cst (.int 6))))) (.nil)
def D26 : DefI := ⟨"_law_bad_number", "_law_bad_number", (top 48), ["_law_draws", "_law_values"], 2, b26⟩
/-- _law_bad_table -/
def b27_0 : IX := .bf .list (.cons (.var 6) (.nil))
def b27_1 : IX := .bf .min2 (.cons (.var 7) (.cons (.bf .max2 (.cons (.cst (.int 0)) (.cons (.bin .sub (.var 2) (.cst (.int 2))) (.nil)))) (.nil)))
def b27_2 : IX := .bf .tuple (.cons (.lc (.nm 7) (.seq (.slH (.var 6) (.bin .sub (.var 2) (.cst (.int 1))))) b27_1 [7]) (.nil))
def b27_3 : IX := .bf .tuple (.cons (.var 6) (.nil))
def b27_4 : IX := .bf .tuple (.cons (.var 6) (.nil))
def b27 : ISs := .cons (.asg (.nm 3) (.lc (.nm 6) (.seq (.var 1)) b27_0 [6])) (.cons (.asg (.nm 4) (.bin .mod (.call 23 (.cons (.var 0) (.nil))) (.cst (.int 7)))) (.cons (.asg (.nm 5) (.bin .mod (.call 23 (.cons (.var 0) (.nil))) (.var 2))) (.cons (.iff (.val (.cmp .eq (.var 4) (.cst (.int 0)))) (.cons (.ret (.bin .add (.var 1) (.tup (.cons (.idx (.var 1) (.cst (.int 0))) (.nil))))) (.nil)) (.nil)) (.cons (.iff (.val (.cmp .eq (.var 4) (.cst (.int 1)))) (.cons (.ret (.slH (.var 1) (.bin .sub (.var 2) (.cst (.int 1))))) (.nil)) (.nil)) (.cons (.iff (.val (.cmp .eq (.var 4) (.cst (.int 2)))) (.cons (.setI (.var 3) (.var 5) (.bin .add (.idx (.var 3) (.var 5)) (.lst (.cons (.cst (.int 0)) (.nil))))) (.nil)) (.cons (.iff (.val (.cmp .eq (.var 4) (.cst (.int 3)))) (.cons (.setI (.idx (.var 3) (.var 5)) (.bin .mod (.call 23 (.cons (.var 0) (.nil))) (.var 2)) (.call 26 (.cons (.var 0) (.cons (.var 2) (.nil))))) (.nil)) (.cons (.iff (.val (.cmp .eq (.var 4) (.cst (.int 4)))) (.cons (.ret (.bf .tuple (.cons (.var 3) (.nil)))) (.nil)) (.cons (.iff (.val (.cmp .eq (.var 4) (.cst (.int 5)))) (.cons (.ret (.bf .tuple (.cons (.lc (.nm 6) (.seq (.slH (.var 3) (.bin .sub (.var 2) (.cst (.int 1))))) b27_2 [6]) (.nil)))) (.nil)) (.cons (.ret (.lc (.nm 6) (.seq (.var 3)) b27_3 [6])) (.nil))) (.nil))) (.nil))) (.nil))) (.cons (.ret (.bf .tuple (.cons (.lc (.nm 6) (.seq (.var 3)) b27_4 [6]) (.nil)))) (.nil)))))))
def D27 : DefI := ⟨"_law_bad_table", "_law_bad_table", (top 49), ["_law_draws", "_law_table_here", "_law_values", "_law_rows", "_law_pick", "_law_at", "_law_row", "_law_x"], 3, b27⟩
/-- _law_spoilt -/
def b28 : ISs := .cons (.iff (.val (.cmp .eq (.idx (.var 1) (.cst (.int 0))) (.cst (.str "leaf")))) (.cons (.ret (.idx (.lst (.cons (.tup (.cons (.cst (.str "leaf")) (.cons (.call 26 (.cons (.var 0) (.cons (.var 2) (.nil)))) (.nil)))) (.cons (.tup (.cons (.cst (.str "leaf")) (.nil))) (.cons (.tup (.cons (.cst (.str "leaf")) (.cons (.cst (.int 0)) (.cons (.cst (.int 0)) (.nil))))) (.cons (.lst (.cons (.cst (.str "leaf")) (.cons (.cst (.int 0)) (.nil)))) (.cons (.tup (.cons (.cst (.str "leave")) (.cons (.cst (.int 0)) (.nil)))) (.cons (.cst (.non)) (.cons (.tup (.nil)) (.cons (.cst (.int 5)) (.nil)))))))))) (.bin .mod (.call 23 (.cons (.var 0) (.nil))) (.cst (.int 8))))) (.nil)) (.nil)) (.cons (.asg (.nm 3) (.bin .mod (.call 23 (.cons (.var 0) (.nil))) (.cst (.int 8)))) (.cons (.iff (.val (.cmp .lt (.var 3) (.cst (.int 3)))) (.cons (.asg (.nm 4) (.bin .add (.cst (.int 2)) (.bin .mod (.call 23 (.cons (.var 0) (.nil))) (.cst (.int 2))))) (.cons (.asg (.nm 5) (.call 28 (.cons (.var 0) (.cons (.idx (.var 1) (.var 4)) (.cons (.var 2) (.nil)))))) (.cons (.iff (.val (.cmp .eq (.var 4) (.cst (.int 2)))) (.cons (.ret (.tup (.cons (.idx (.var 1) (.cst (.int 0))) (.cons (.idx (.var 1) (.cst (.int 1))) (.cons (.var 5) (.cons (.idx (.var 1) (.cst (.int 3))) (.nil))))))) (.nil)) (.nil)) (.cons (.ret (.tup (.cons (.idx (.var 1) (.cst (.int 0))) (.cons (.idx (.var 1) (.cst (.int 1))) (.cons (.idx (.var 1) (.cst (.int 2))) (.cons (.var 5) (.nil))))))) (.nil))))) (.nil)) (.cons (.iff (.val (.cmp .eq (.var 3) (.cst (.int 3)))) (.cons (.ret (.slH (.var 1) (.cst (.int 3)))) (.nil)) (.nil)) (.cons (.iff (.val (.cmp .eq (.var 3) (.cst (.int 4)))) (.cons (.ret (.bin .add (.var 1) (.tup (.cons (.idx (.var 1) (.cst (.int 2))) (.nil))))) (.nil)) (.nil)) (.cons (.iff (.val (.cmp .eq (.var 3) (.cst (.int 5)))) (.cons (.ret (.bin .add (.tup (.cons (.cst (.str "Node")) (.nil))) (.slL (.var 1) (.cst (.int 1))))) (.nil)) (.nil)) (.cons (.iff (.val (.cmp .eq (.var 3) (.cst (.int 6)))) (.cons (.ret (.bf .list (.cons (.var 1) (.nil)))) (.nil)) (.nil)) (.cons (.ret (.bin .add (.tup (.cons (.idx (.var 1) (.cst (.int 0))) (.cons (.call 27 (.cons (.var 0) (.cons (.idx (.var 1) (.cst (.int 1))) (.cons (.var 2) (.nil))))) (.nil)))) (.slL (.var 1) (.cst (.int 2))))) (.nil))))))))
def D28 : DefI := ⟨"_law_spoilt", "_law_spoilt", (top 50), ["_law_draws", "_law_tree_here", "_law_values", "_law_pick", "_law_part", "_law_spoilt_here"], 3, b28⟩
/-- _law_comb -/
def b29_0 : ISs := .cons (.iff (.val (.cmp .eq (.bin .mod (.var 2) (.cst (.int 2))) (.cst (.int 0)))) (.cons (.asg (.nm 1) (.tup (.cons (.cst (.str "node")) (.cons (.tup (.cons (.tup (.cons (.cst (.int 0)) (.cons (.cst (.int 1)) (.nil)))) (.cons (.tup (.cons (.cst (.int 1)) (.cons (.cst (.int 0)) (.nil)))) (.nil)))) (.cons (.var 1) (.cons (.tup (.cons (.cst (.str "leaf")) (.cons (.cst (.int 1)) (.nil)))) (.nil))))))) (.nil)) (.cons (.asg (.nm 1) (.tup (.cons (.cst (.str "node")) (.cons (.tup (.cons (.tup (.cons (.cst (.int 0)) (.cons (.cst (.int 1)) (.nil)))) (.cons (.tup (.cons (.cst (.int 1)) (.cons (.cst (.int 0)) (.nil)))) (.nil)))) (.cons (.tup (.cons (.cst (.str "leaf")) (.cons (.cst (.int 1)) (.nil)))) (.cons (.var 1) (.nil))))))) (.nil))) (.nil)
def b29 : ISs := .cons (.asg (.nm 1) (.tup (.cons (.cst (.str "leaf")) (.cons (.cst (.int 0)) (.nil))))) (.cons (.for_ (.nm 2) (.rng1 (.bin .sub (.var 0) (.cst (.int 1)))) b29_0) (.cons (.ret (.var 1)) (.nil)))
def D29 : DefI := ⟨"_law_comb", "_law_comb", (top 51), ["_law_levels", "_law_tree_here", "_law_k"], 1, b29⟩
/-- _law_broad -/
def b30_0 : IX := .tup (.cons (.cst (.str "leaf")) (.cons (.bin .mod (.var 4) (.cst (.int 2))) (.nil)))
def b30_1 : ISs := .cons (.iff (.val (.cmp .lt (.bin .add (.bin .mul (.cst (.int 2)) (.var 4)) (.cst (.int 1))) (.bf .len (.cons (.var 1) (.nil))))) (.cons (.expr (.bm .append (.var 3) (.cons (.tup (.cons (.cst (.str "node")) (.cons (.tup (.cons (.tup (.cons (.cst (.int 1)) (.cons (.cst (.int 0)) (.nil)))) (.cons (.tup (.cons (.cst (.int 0)) (.cons (.cst (.int 1)) (.nil)))) (.nil)))) (.cons (.idx (.var 1) (.bin .mul (.cst (.int 2)) (.var 4))) (.cons (.idx (.var 1) (.bin .add (.bin .mul (.cst (.int 2)) (.var 4)) (.cst (.int 1)))) (.nil)))))) (.nil)))) (.nil)) (.cons (.expr (.bm .append (.var 3) (.cons (.idx (.var 1) (.bin .mul (.cst (.int 2)) (.var 4))) (.nil)))) (.nil))) (.nil)
def b30_2 : ISs := .cons (.asg (.nm 3) (.lst (.nil))) (.cons (.for_ (.nm 4) (.rng1 (.bin .fdiv (.bin .add (.bf .len (.cons (.var 1) (.nil))) (.cst (.int 1))) (.cst (.int 2)))) b30_1) (.cons (.asg (.nm 1) (.var 3)) (.nil)))
def b30 : ISs := .cons (.asg (.nm 1) (.lc (.nm 4) (.rng1 (.var 0)) b30_0 [4])) (.cons (.for_ (.nm 2) (.rng1 (.cst (.int 8))) b30_2) (.cons (.ret (.idx (.var 1) (.cst (.int 0)))) (.nil)))
def D30 : DefI := ⟨"_law_broad", "_law_broad", (top 52), ["_law_leaves", "_law_row", "_law_turn", "_law_pairs", "_law_k"], 1, b30⟩
/-- _law_refused -/
def b31_0 : ISs := .cons (.iff (.val (.cmp .eq (.var 2) (.cst (.int 0)))) (.cons (.ret (.cmp .isnt (.call 15 (.cons (.var 0) (.cons (.var 1) (.nil)))) (.cst (.non)))) (.nil)) (.nil)) (.cons (.iff (.val (.cmp .eq (.var 2) (.cst (.int 1)))) (.cons (.expr (.call 16 (.cons (.var 0) (.cons (.var 1) (.nil))))) (.nil)) (.cons (.iff (.val (.cmp .eq (.var 2) (.cst (.int 2)))) (.cons (.expr (.call 18 (.cons (.var 0) (.cons (.var 1) (.nil))))) (.nil)) (.cons (.iff (.val (.cmp .eq (.var 2) (.cst (.int 3)))) (.cons (.expr (.call 20 (.cons (.var 0) (.cons (.var 1) (.nil))))) (.nil)) (.cons (.expr (.call 17 (.cons (.var 1) (.nil)))) (.nil))) (.nil))) (.nil))) (.nil))
def b31_1 : ISs := .cons (.ret (.and (.isx 3 [0]) (.not (.isx 3 [2, 3, 1, 4])))) (.nil)
def b31 : ISs := .cons (.try_ b31_0 (.cons [5] (some 3) b31_1 (.nil))) (.cons (.ret (.cst (.bl false))) (.nil))
def D31 : DefI := ⟨"_law_refused", "_law_refused", (top 53), ["_law_tree_here", "_law_values", "_law_which", "e"], 3, b31⟩
/-- _law_given -/
def b32_0 : ISs := .cons (.ret (.lst (.cons (.var 2) (.cons (.var 1) (.cons (.cst (.bl true)) (.nil)))))) (.nil)
def b32_1 : ISs := .cons (.iff (.and (.val (.cmp .eq (.var 3) (.cst (.int 7)))) (.val (.cmp .eq (.idx (.var 2) (.cst (.int 0))) (.cst (.str "node"))))) (.cons (.ret (.lst (.cons (.var 2) (.cons (.bin .sub (.bf .min2 (.cons (.cst (.int 40)) (.cons (.bin .add (.var 1) (.cst (.int 1))) (.nil)))) (.bf .int (.cons (.cmp .eq (.var 1) (.cst (.int 40))) (.nil)))) (.cons (.cst (.bl false)) (.nil)))))) (.nil)) (.nil)) b32_0
def b32_2 : ISs := .cons (.iff (.val (.cmp .eq (.var 3) (.cst (.int 6)))) (.cons (.asg (.nm 5) (.bin .add (.cst (.int 99)) (.bin .mod (.call 23 (.cons (.var 0) (.nil))) (.cst (.int 3))))) (.cons (.ret (.lst (.cons (.call 30 (.cons (.var 5) (.nil))) (.cons (.cst (.int 2)) (.cons (.cmp .le (.var 5) (.cst (.int 100))) (.nil)))))) (.nil))) (.nil)) b32_1
def b32_3 : ISs := .cons (.iff (.val (.cmp .eq (.var 3) (.cst (.int 5)))) (.cons (.asg (.nm 4) (.bin .add (.cst (.int 38)) (.bin .mod (.call 23 (.cons (.var 0) (.nil))) (.cst (.int 5))))) (.cons (.ret (.lst (.cons (.call 29 (.cons (.var 4) (.nil))) (.cons (.cst (.int 2)) (.cons (.cmp .le (.var 4) (.cst (.int 40))) (.nil)))))) (.nil))) (.nil)) b32_2
def b32_4 : ISs := .cons (.iff (.val (.cmp .eq (.var 3) (.cst (.int 4)))) (.cons (.ret (.lst (.cons (.var 2) (.cons (.idx (.lst (.cons (.cst (.int 0)) (.cons (.cst (.int 41)) (.cons (.cst (.bl true)) (.cons (.cst (.non)) (.nil)))))) (.bin .mod (.call 23 (.cons (.var 0) (.nil))) (.cst (.int 4)))) (.cons (.cst (.bl false)) (.nil)))))) (.nil)) (.nil)) b32_3
def b32 : ISs := .cons (.asg (.nm 1) (.bin .add (.cst (.int 1)) (.bin .mod (.call 23 (.cons (.var 0) (.nil))) (.idx (.lst (.cons (.cst (.int 7)) (.cons (.cst (.int 7)) (.cons (.cst (.int 40)) (.nil))))) (.bin .mod (.call 23 (.cons (.var 0) (.nil))) (.cst (.int 3))))))) (.cons (.asg (.nm 2) (.call 25 (.cons (.var 0) (.cons (.var 1) (.cons (.cst (.int 5)) (.cons (.lst (.cons (.bin .sub (.cst (.int 14)) (.bin .mul (.cst (.int 10)) (.bf .int (.cons (.cmp .gt (.var 1) (.cst (.int 7))) (.nil))))) (.nil))) (.nil))))))) (.cons (.asg (.nm 3) (.bin .mod (.call 23 (.cons (.var 0) (.nil))) (.cst (.int 10)))) (.cons (.iff (.val (.cmp .lt (.var 3) (.cst (.int 4)))) (.cons (.ret (.lst (.cons (.call 28 (.cons (.var 0) (.cons (.var 2) (.cons (.var 1) (.nil))))) (.cons (.var 1) (.cons (.cst (.bl false)) (.nil)))))) (.nil)) (.nil)) b32_4)))
def D32 : DefI := ⟨"_law_given", "_law_given", (top 54), ["_law_draws", "_law_values", "_law_tree_here", "_law_pick", "_law_levels", "_law_leaves"], 1, b32⟩
/-- law -/
def b33_0 : ISs := .cons (.iff (.not (.val (.call 31 (.cons (.idx (.var 2) (.cst (.int 0))) (.cons (.idx (.var 2) (.cst (.int 1))) (.cons (.var 3) (.nil))))))) (.cons (.ret (.cst (.bl false))) (.nil)) (.nil)) (.nil)
def b33 : ISs := .cons (.asg (.nm 1) (.lst (.cons (.call 22 (.cons (.var 0) (.nil))) (.cons (.cst (.int 0)) (.nil))))) (.cons (.asg (.nm 2) (.call 32 (.cons (.var 1) (.nil)))) (.cons (.iff (.val (.idx (.var 2) (.cst (.int 2)))) (.cons (.ret (.and (.not (.call 31 (.cons (.idx (.var 2) (.cst (.int 0))) (.cons (.idx (.var 2) (.cst (.int 1))) (.cons (.cst (.int 0)) (.nil)))))) (.not (.call 31 (.cons (.idx (.var 2) (.cst (.int 0))) (.cons (.idx (.var 2) (.cst (.int 1))) (.cons (.cst (.int 4)) (.nil)))))))) (.nil)) (.nil)) (.cons (.for_ (.nm 3) (.rng1 (.cst (.int 4))) b33_0) (.cons (.iff (.or (.val (.isi (.idx (.var 2) (.cst (.int 1))) .bool)) (.or (.val (.cmp .is (.idx (.var 2) (.cst (.int 1))) (.cst (.non)))) (.or (.val (.cmp .lt (.idx (.var 2) (.cst (.int 1))) (.cst (.int 1)))) (.val (.cmp .gt (.idx (.var 2) (.cst (.int 1))) (.cst (.int 40))))))) (.cons (.ret (.call 31 (.cons (.idx (.var 2) (.cst (.int 0))) (.cons (.idx (.var 2) (.cst (.int 1))) (.cons (.cst (.int 4)) (.nil)))))) (.nil)) (.nil)) (.cons (.ret (.cst (.bl true))) (.nil))))))
def D33 : DefI := ⟨"law", "law", (top 55), ["_law_script", "_law_draws", "_law_given_here", "_law_which"], 1, b33⟩
def CProgram : ClsI := ⟨"Program", 10, ["modulus", "cells", "inputs", "steps"], []⟩
def PP : Prog := ⟨[D0, D1, D2, D3, D4, D5, D6, D7, D8, D9, D10, D11, D12, D13, D14, D15, D16, D17, D18, D19, D20, D21, D22, D23, D24, D25, D26, D27, D28, D29, D30, D31, D32, D33], [("FACTORS", .int 3), ("MODULUS", .int 1000000000), ("CELLS", .int 60), ("INPUTS", .int 60), ("STEPS", .int 20000), ("NESTED", .int 40), ("NODES", .int 200), ("VALUES", .int 40)], ["BrimfulError", "BadStep", "BadMemory", "BadSource", "TooLong", "BadTree"], fun c d => match c, d with | 0, 0 => true | 1, 0 => true | 1, 1 => true | 2, 0 => true | 2, 2 => true | 3, 0 => true | 3, 3 => true | 4, 0 => true | 4, 4 => true | 5, 0 => true | 5, 5 => true | _, _ => false, [CProgram]⟩
theorem t0 : TOk PP D0 := ⟨⟨rfl, rfl, rfl, by decide +kernel, rfl, by decide +kernel, by decide +kernel⟩, by decide, by decide +kernel⟩
theorem t1 : TOk PP D1 := ⟨⟨rfl, rfl, rfl, by decide +kernel, rfl, by decide +kernel, by decide +kernel⟩, by decide, by decide +kernel⟩
theorem t2 : TOk PP D2 := ⟨⟨rfl, rfl, rfl, by decide +kernel, rfl, by decide +kernel, by decide +kernel⟩, by decide, by decide +kernel⟩
theorem t3 : TOk PP D3 := ⟨⟨rfl, rfl, rfl, by decide +kernel, rfl, by decide +kernel, by decide +kernel⟩, by decide, by decide +kernel⟩
theorem t4 : TOk PP D4 := ⟨⟨rfl, rfl, rfl, by decide +kernel, rfl, by decide +kernel, by decide +kernel⟩, by decide, by decide +kernel⟩
theorem t5 : TOk PP D5 := ⟨⟨rfl, rfl, rfl, by decide +kernel, rfl, by decide +kernel, by decide +kernel⟩, by decide, by decide +kernel⟩
theorem t6 : TOk PP D6 := ⟨⟨rfl, rfl, rfl, by decide +kernel, rfl, by decide +kernel, by decide +kernel⟩, by decide, by decide +kernel⟩
theorem t7 : TOk PP D7 := ⟨⟨rfl, rfl, rfl, by decide +kernel, rfl, by decide +kernel, by decide +kernel⟩, by decide, by decide +kernel⟩
theorem t8 : TOk PP D8 := ⟨⟨rfl, rfl, rfl, by decide +kernel, rfl, by decide +kernel, by decide +kernel⟩, by decide, by decide +kernel⟩
theorem t9 : TOk PP D9 := ⟨⟨rfl, rfl, rfl, by decide +kernel, rfl, by decide +kernel, by decide +kernel⟩, by decide, by decide +kernel⟩
theorem t10 : TOk PP D10 := ⟨⟨rfl, rfl, rfl, by decide +kernel, rfl, by decide +kernel, by decide +kernel⟩, by decide, by decide +kernel⟩
theorem t11 : TOk PP D11 := ⟨⟨rfl, rfl, rfl, by decide +kernel, rfl, by decide +kernel, by decide +kernel⟩, by decide, by decide +kernel⟩
theorem t12 : TOk PP D12 := ⟨⟨rfl, rfl, rfl, by decide +kernel, rfl, by decide +kernel, by decide +kernel⟩, by decide, by decide +kernel⟩
theorem t13 : TOk PP D13 := ⟨⟨rfl, rfl, rfl, by decide +kernel, rfl, by decide +kernel, by decide +kernel⟩, by decide, by decide +kernel⟩
theorem t14 : TOk PP D14 := ⟨⟨rfl, rfl, rfl, by decide +kernel, rfl, by decide +kernel, by decide +kernel⟩, by decide, by decide +kernel⟩
theorem t15 : TOk PP D15 := ⟨⟨rfl, rfl, rfl, by decide +kernel, rfl, by decide +kernel, by decide +kernel⟩, by decide, by decide +kernel⟩
theorem t16 : TOk PP D16 := ⟨⟨rfl, rfl, rfl, by decide +kernel, rfl, by decide +kernel, by decide +kernel⟩, by decide, by decide +kernel⟩
theorem t17 : TOk PP D17 := ⟨⟨rfl, rfl, rfl, by decide +kernel, rfl, by decide +kernel, by decide +kernel⟩, by decide, by decide +kernel⟩
theorem t18 : TOk PP D18 := ⟨⟨rfl, rfl, rfl, by decide +kernel, rfl, by decide +kernel, by decide +kernel⟩, by decide, by decide +kernel⟩
theorem t19 : TOk PP D19 := ⟨⟨rfl, rfl, rfl, by decide +kernel, rfl, by decide +kernel, by decide +kernel⟩, by decide, by decide +kernel⟩
theorem t20 : TOk PP D20 := ⟨⟨rfl, rfl, rfl, by decide +kernel, rfl, by decide +kernel, by decide +kernel⟩, by decide, by decide +kernel⟩
theorem t21 : TOk PP D21 := ⟨⟨rfl, rfl, rfl, by decide +kernel, rfl, by decide +kernel, by decide +kernel⟩, by decide, by decide +kernel⟩
theorem t22 : TOk PP D22 := ⟨⟨rfl, rfl, rfl, by decide +kernel, rfl, by decide +kernel, by decide +kernel⟩, by decide, by decide +kernel⟩
theorem t23 : TOk PP D23 := ⟨⟨rfl, rfl, rfl, by decide +kernel, rfl, by decide +kernel, by decide +kernel⟩, by decide, by decide +kernel⟩
theorem t24 : TOk PP D24 := ⟨⟨rfl, rfl, rfl, by decide +kernel, rfl, by decide +kernel, by decide +kernel⟩, by decide, by decide +kernel⟩
theorem t25 : TOk PP D25 := ⟨⟨rfl, rfl, rfl, by decide +kernel, rfl, by decide +kernel, by decide +kernel⟩, by decide, by decide +kernel⟩
theorem t26 : TOk PP D26 := ⟨⟨rfl, rfl, rfl, by decide +kernel, rfl, by decide +kernel, by decide +kernel⟩, by decide, by decide +kernel⟩
theorem t27 : TOk PP D27 := ⟨⟨rfl, rfl, rfl, by decide +kernel, rfl, by decide +kernel, by decide +kernel⟩, by decide, by decide +kernel⟩
theorem t28 : TOk PP D28 := ⟨⟨rfl, rfl, rfl, by decide +kernel, rfl, by decide +kernel, by decide +kernel⟩, by decide, by decide +kernel⟩
theorem t29 : TOk PP D29 := ⟨⟨rfl, rfl, rfl, by decide +kernel, rfl, by decide +kernel, by decide +kernel⟩, by decide, by decide +kernel⟩
theorem t30 : TOk PP D30 := ⟨⟨rfl, rfl, rfl, by decide +kernel, rfl, by decide +kernel, by decide +kernel⟩, by decide, by decide +kernel⟩
theorem t31 : TOk PP D31 := ⟨⟨rfl, rfl, rfl, by decide +kernel, rfl, by decide +kernel, by decide +kernel⟩, by decide, by decide +kernel⟩
theorem t32 : TOk PP D32 := ⟨⟨rfl, rfl, rfl, by decide +kernel, rfl, by decide +kernel, by decide +kernel⟩, by decide, by decide +kernel⟩
theorem t33 : TOk PP D33 := ⟨⟨rfl, rfl, rfl, by decide +kernel, rfl, by decide +kernel, by decide +kernel⟩, by decide, by decide +kernel⟩
theorem all_mk {l : PySem.W.OpenLaw} {w : World} {K : PySem.W.Frag} {h : Heap} {mg : Str → Option Value} {fa : Addr} {n k : Nat} (spec : ∀ ns : List Int, ns.length ≤ n → ∃ S, callD PP k 33 [.kl (ns.map SV.int)] [] = .ok (.bl true) S)
    (X : K.In h) (G : h.Ns mainGlobals mg) (hfa : mg "law" = some (.ref fa))
    {K0 : Addr} (ka0 : PySem.W.nsIn K mainGlobals "Program" = some (some (.ref K0))) (kp0 : PySem.W.plainGet K K0 Str.empty = true) (kh0 : PySem.W.hasDictIn K K0 = true) (ko0 : PySem.W.plainOver K K0 = true) (ks0 : PySem.W.findIn K (.ref K0) "__setattr__" = some (some (.builtin "object.__setattr__"))) (km0 : PySem.W.makesIn K K0 = true) (kk0 : PySem.W.keepIn K (.ref K0) = true)
    (kn0_0 : PySem.W.findIn K (.ref K0) "modulus" = some none)
    (kn0_1 : PySem.W.findIn K (.ref K0) "cells" = some none)
    (kn0_2 : PySem.W.findIn K (.ref K0) "inputs" = some none)
    (kn0_3 : PySem.W.findIn K (.ref K0) "steps" = some none)
    {f0 : Addr} {od0 an0 : Option Addr} {sl0 : Array (Option Value)} {oc0 kV0 dc0 pm0 cd0 ct0 : Value}
    (a0 : PySem.W.nsIn K mainGlobals "is_integer" = some (some (.ref f0))) (l0 : K.lookup f0 = some ⟨oc0, od0, .func (PySem.W.fnOf "is_integer" "is_integer" (defArgs (top 9)) (defBody (top 9)) (defScope (top 9)) .none kV0 dc0 pm0 an0 cd0 ct0), sl0⟩) (c0 : PySem.W.codeIn K cd0 "is_integer" = true) (k0 : PySem.W.keepIn K (.ref f0) = true)
    {f1 : Addr} {od1 an1 : Option Addr} {sl1 : Array (Option Value)} {oc1 kV1 dc1 pm1 cd1 ct1 : Value}
    (a1 : PySem.W.nsIn K mainGlobals "is_number" = some (some (.ref f1))) (l1 : K.lookup f1 = some ⟨oc1, od1, .func (PySem.W.fnOf "is_number" "is_number" (defArgs (top 10)) (defBody (top 10)) (defScope (top 10)) .none kV1 dc1 pm1 an1 cd1 ct1), sl1⟩) (c1 : PySem.W.codeIn K cd1 "is_number" = true) (k1 : PySem.W.keepIn K (.ref f1) = true)
    {f2 : Addr} {od2 an2 : Option Addr} {sl2 : Array (Option Value)} {oc2 kV2 dc2 pm2 cd2 ct2 : Value}
    (a2 : PySem.W.nsIn K mainGlobals "is_prime" = some (some (.ref f2))) (l2 : K.lookup f2 = some ⟨oc2, od2, .func (PySem.W.fnOf "is_prime" "is_prime" (defArgs (top 11)) (defBody (top 11)) (defScope (top 11)) .none kV2 dc2 pm2 an2 cd2 ct2), sl2⟩) (c2 : PySem.W.codeIn K cd2 "is_prime" = true) (k2 : PySem.W.keepIn K (.ref f2) = true)
    {f3 : Addr} {od3 an3 : Option Addr} {sl3 : Array (Option Value)} {oc3 kV3 dc3 pm3 cd3 ct3 : Value}
    (a3 : PySem.W.nsIn K mainGlobals "inverse_of" = some (some (.ref f3))) (l3 : K.lookup f3 = some ⟨oc3, od3, .func (PySem.W.fnOf "inverse_of" "inverse_of" (defArgs (top 12)) (defBody (top 12)) (defScope (top 12)) .none kV3 dc3 pm3 an3 cd3 ct3), sl3⟩) (c3 : PySem.W.codeIn K cd3 "inverse_of" = true) (k3 : PySem.W.keepIn K (.ref f3) = true)
    {f4 : Addr} {od4 an4 : Option Addr} {sl4 : Array (Option Value)} {oc4 kV4 dc4 pm4 cd4 ct4 : Value}
    (a4 : PySem.W.nsIn K mainGlobals "is_factor" = some (some (.ref f4))) (l4 : K.lookup f4 = some ⟨oc4, od4, .func (PySem.W.fnOf "is_factor" "is_factor" (defArgs (top 15)) (defBody (top 15)) (defScope (top 15)) .none kV4 dc4 pm4 an4 cd4 ct4), sl4⟩) (c4 : PySem.W.codeIn K cd4 "is_factor" = true) (k4 : PySem.W.keepIn K (.ref f4) = true)
    {f5 : Addr} {od5 an5 : Option Addr} {sl5 : Array (Option Value)} {oc5 kV5 dc5 pm5 cd5 ct5 : Value}
    (a5 : PySem.W.nsIn K mainGlobals "is_table" = some (some (.ref f5))) (l5 : K.lookup f5 = some ⟨oc5, od5, .func (PySem.W.fnOf "is_table" "is_table" (defArgs (top 16)) (defBody (top 16)) (defScope (top 16)) .none kV5 dc5 pm5 an5 cd5 ct5), sl5⟩) (c5 : PySem.W.codeIn K cd5 "is_table" = true) (k5 : PySem.W.keepIn K (.ref f5) = true)
    {f6 : Addr} {od6 an6 : Option Addr} {sl6 : Array (Option Value)} {oc6 kV6 dc6 pm6 cd6 ct6 : Value}
    (a6 : PySem.W.nsIn K mainGlobals "is_add" = some (some (.ref f6))) (l6 : K.lookup f6 = some ⟨oc6, od6, .func (PySem.W.fnOf "is_add" "is_add" (defArgs (top 17)) (defBody (top 17)) (defScope (top 17)) .none kV6 dc6 pm6 an6 cd6 ct6), sl6⟩) (c6 : PySem.W.codeIn K cd6 "is_add" = true) (k6 : PySem.W.keepIn K (.ref f6) = true)
    {f7 : Addr} {od7 an7 : Option Addr} {sl7 : Array (Option Value)} {oc7 kV7 dc7 pm7 cd7 ct7 : Value}
    (a7 : PySem.W.nsIn K mainGlobals "is_look" = some (some (.ref f7))) (l7 : K.lookup f7 = some ⟨oc7, od7, .func (PySem.W.fnOf "is_look" "is_look" (defArgs (top 18)) (defBody (top 18)) (defScope (top 18)) .none kV7 dc7 pm7 an7 cd7 ct7), sl7⟩) (c7 : PySem.W.codeIn K cd7 "is_look" = true) (k7 : PySem.W.keepIn K (.ref f7) = true)
    {f8 : Addr} {od8 an8 : Option Addr} {sl8 : Array (Option Value)} {oc8 kV8 dc8 pm8 cd8 ct8 : Value}
    (a8 : PySem.W.nsIn K mainGlobals "is_step" = some (some (.ref f8))) (l8 : K.lookup f8 = some ⟨oc8, od8, .func (PySem.W.fnOf "is_step" "is_step" (defArgs (top 19)) (defBody (top 19)) (defScope (top 19)) .none kV8 dc8 pm8 an8 cd8 ct8), sl8⟩) (c8 : PySem.W.codeIn K cd8 "is_step" = true) (k8 : PySem.W.keepIn K (.ref f8) = true)
    {f9 : Addr} {od9 an9 : Option Addr} {sl9 : Array (Option Value)} {oc9 kV9 dc9 pm9 cd9 ct9 : Value}
    (a9 : PySem.W.nsIn K mainGlobals "check_steps" = some (some (.ref f9))) (l9 : K.lookup f9 = some ⟨oc9, od9, .func (PySem.W.fnOf "check_steps" "check_steps" (defArgs (top 21)) (defBody (top 21)) (defScope (top 21)) .none kV9 dc9 pm9 an9 cd9 ct9), sl9⟩) (c9 : PySem.W.codeIn K cd9 "check_steps" = true) (k9 : PySem.W.keepIn K (.ref f9) = true)
    {f10 : Addr} {od10 an10 : Option Addr} {sl10 : Array (Option Value)} {oc10 kV10 dc10 pm10 cd10 ct10 : Value}
    (a10 : PySem.W.findIn K (.ref K0) "__init__" = some (some (.ref f10))) (i10 : PySem.W.isFn K (.ref f10) = true) (l10 : K.lookup f10 = some ⟨oc10, od10, .func (PySem.W.fnOf "__init__" "Program.__init__" (defArgs (inClass (top 27) 0)) (defBody (inClass (top 27) 0)) (defScope (inClass (top 27) 0)) .none kV10 dc10 pm10 an10 cd10 ct10), sl10⟩) (c10 : PySem.W.codeIn K cd10 "Program.__init__" = true) (k10 : PySem.W.keepIn K (.ref f10) = true)
    {f11 : Addr} {od11 an11 : Option Addr} {sl11 : Array (Option Value)} {oc11 kV11 dc11 pm11 cd11 ct11 : Value}
    (a11 : PySem.W.nsIn K mainGlobals "listed" = some (some (.ref f11))) (l11 : K.lookup f11 = some ⟨oc11, od11, .func (PySem.W.fnOf "listed" "listed" (defArgs (top 32)) (defBody (top 32)) (defScope (top 32)) .none kV11 dc11 pm11 an11 cd11 ct11), sl11⟩) (c11 : PySem.W.codeIn K cd11 "listed" = true) (k11 : PySem.W.keepIn K (.ref f11) = true)
    {f12 : Addr} {od12 an12 : Option Addr} {sl12 : Array (Option Value)} {oc12 kV12 dc12 pm12 cd12 ct12 : Value}
    (a12 : PySem.W.nsIn K mainGlobals "is_leaf" = some (some (.ref f12))) (l12 : K.lookup f12 = some ⟨oc12, od12, .func (PySem.W.fnOf "is_leaf" "is_leaf" (defArgs (top 33)) (defBody (top 33)) (defScope (top 33)) .none kV12 dc12 pm12 an12 cd12 ct12), sl12⟩) (c12 : PySem.W.codeIn K cd12 "is_leaf" = true) (k12 : PySem.W.keepIn K (.ref f12) = true)
    {f13 : Addr} {od13 an13 : Option Addr} {sl13 : Array (Option Value)} {oc13 kV13 dc13 pm13 cd13 ct13 : Value}
    (a13 : PySem.W.nsIn K mainGlobals "is_inner" = some (some (.ref f13))) (l13 : K.lookup f13 = some ⟨oc13, od13, .func (PySem.W.fnOf "is_inner" "is_inner" (defArgs (top 34)) (defBody (top 34)) (defScope (top 34)) .none kV13 dc13 pm13 an13 cd13 ct13), sl13⟩) (c13 : PySem.W.codeIn K cd13 "is_inner" = true) (k13 : PySem.W.keepIn K (.ref f13) = true)
    {f14 : Addr} {od14 an14 : Option Addr} {sl14 : Array (Option Value)} {oc14 kV14 dc14 pm14 cd14 ct14 : Value}
    (a14 : PySem.W.nsIn K mainGlobals "rows_of" = some (some (.ref f14))) (l14 : K.lookup f14 = some ⟨oc14, od14, .func (PySem.W.fnOf "rows_of" "rows_of" (defArgs (top 35)) (defBody (top 35)) (defScope (top 35)) .none kV14 dc14 pm14 an14 cd14 ct14), sl14⟩) (c14 : PySem.W.codeIn K cd14 "rows_of" = true) (k14 : PySem.W.keepIn K (.ref f14) = true)
    {f15 : Addr} {od15 an15 : Option Addr} {sl15 : Array (Option Value)} {oc15 kV15 dc15 pm15 cd15 ct15 : Value}
    (a15 : PySem.W.nsIn K mainGlobals "check_tree" = some (some (.ref f15))) (l15 : K.lookup f15 = some ⟨oc15, od15, .func (PySem.W.fnOf "check_tree" "check_tree" (defArgs (top 36)) (defBody (top 36)) (defScope (top 36)) .none kV15 dc15 pm15 an15 cd15 ct15), sl15⟩) (c15 : PySem.W.codeIn K cd15 "check_tree" = true) (k15 : PySem.W.keepIn K (.ref f15) = true)
    {f16 : Addr} {od16 an16 : Option Addr} {sl16 : Array (Option Value)} {oc16 kV16 dc16 pm16 cd16 ct16 : Value}
    (a16 : PySem.W.nsIn K mainGlobals "tree_value" = some (some (.ref f16))) (l16 : K.lookup f16 = some ⟨oc16, od16, .func (PySem.W.fnOf "tree_value" "tree_value" (defArgs (top 37)) (defBody (top 37)) (defScope (top 37)) .none kV16 dc16 pm16 an16 cd16 ct16), sl16⟩) (c16 : PySem.W.codeIn K cd16 "tree_value" = true) (k16 : PySem.W.keepIn K (.ref f16) = true)
    {f17 : Addr} {od17 an17 : Option Addr} {sl17 : Array (Option Value)} {oc17 kV17 dc17 pm17 cd17 ct17 : Value}
    (a17 : PySem.W.nsIn K mainGlobals "prime_of" = some (some (.ref f17))) (l17 : K.lookup f17 = some ⟨oc17, od17, .func (PySem.W.fnOf "prime_of" "prime_of" (defArgs (top 38)) (defBody (top 38)) (defScope (top 38)) .none kV17 dc17 pm17 an17 cd17 ct17), sl17⟩) (c17 : PySem.W.codeIn K cd17 "prime_of" = true) (k17 : PySem.W.keepIn K (.ref f17) = true)
    {f18 : Addr} {od18 an18 : Option Addr} {sl18 : Array (Option Value)} {oc18 kV18 dc18 pm18 cd18 ct18 : Value}
    (a18 : PySem.W.nsIn K mainGlobals "tree_cost" = some (some (.ref f18))) (l18 : K.lookup f18 = some ⟨oc18, od18, .func (PySem.W.fnOf "tree_cost" "tree_cost" (defArgs (top 39)) (defBody (top 39)) (defScope (top 39)) .none kV18 dc18 pm18 an18 cd18 ct18), sl18⟩) (c18 : PySem.W.codeIn K cd18 "tree_cost" = true) (k18 : PySem.W.keepIn K (.ref f18) = true)
    {f19 : Addr} {od19 an19 : Option Addr} {sl19 : Array (Option Value)} {oc19 kV19 dc19 pm19 cd19 ct19 : Value}
    (a19 : PySem.W.nsIn K mainGlobals "round_tasks" = some (some (.ref f19))) (l19 : K.lookup f19 = some ⟨oc19, od19, .func (PySem.W.fnOf "round_tasks" "round_tasks" (defArgs (top 40)) (defBody (top 40)) (defScope (top 40)) .none kV19 dc19 pm19 an19 cd19 ct19), sl19⟩) (c19 : PySem.W.codeIn K cd19 "round_tasks" = true) (k19 : PySem.W.keepIn K (.ref f19) = true)
    {f20 : Addr} {od20 an20 : Option Addr} {sl20 : Array (Option Value)} {oc20 kV20 dc20 pm20 cd20 ct20 : Value}
    (a20 : PySem.W.nsIn K mainGlobals "compile_tree" = some (some (.ref f20))) (l20 : K.lookup f20 = some ⟨oc20, od20, .func (PySem.W.fnOf "compile_tree" "compile_tree" (defArgs (top 41)) (defBody (top 41)) (defScope (top 41)) .none kV20 dc20 pm20 an20 cd20 ct20), sl20⟩) (c20 : PySem.W.codeIn K cd20 "compile_tree" = true) (k20 : PySem.W.keepIn K (.ref f20) = true)
    {f21 : Addr} {od21 an21 : Option Addr} {sl21 : Array (Option Value)} {oc21 kV21 dc21 pm21 cd21 ct21 : Value}
    (a21 : PySem.W.nsIn K mainGlobals "_law_mixed" = some (some (.ref f21))) (l21 : K.lookup f21 = some ⟨oc21, od21, .func (PySem.W.fnOf "_law_mixed" "_law_mixed" (defArgs (top 43)) (defBody (top 43)) (defScope (top 43)) .none kV21 dc21 pm21 an21 cd21 ct21), sl21⟩) (c21 : PySem.W.codeIn K cd21 "_law_mixed" = true) (k21 : PySem.W.keepIn K (.ref f21) = true)
    {f22 : Addr} {od22 an22 : Option Addr} {sl22 : Array (Option Value)} {oc22 kV22 dc22 pm22 cd22 ct22 : Value}
    (a22 : PySem.W.nsIn K mainGlobals "_law_numbers" = some (some (.ref f22))) (l22 : K.lookup f22 = some ⟨oc22, od22, .func (PySem.W.fnOf "_law_numbers" "_law_numbers" (defArgs (top 44)) (defBody (top 44)) (defScope (top 44)) .none kV22 dc22 pm22 an22 cd22 ct22), sl22⟩) (c22 : PySem.W.codeIn K cd22 "_law_numbers" = true) (k22 : PySem.W.keepIn K (.ref f22) = true)
    {f23 : Addr} {od23 an23 : Option Addr} {sl23 : Array (Option Value)} {oc23 kV23 dc23 pm23 cd23 ct23 : Value}
    (a23 : PySem.W.nsIn K mainGlobals "_law_draw" = some (some (.ref f23))) (l23 : K.lookup f23 = some ⟨oc23, od23, .func (PySem.W.fnOf "_law_draw" "_law_draw" (defArgs (top 45)) (defBody (top 45)) (defScope (top 45)) .none kV23 dc23 pm23 an23 cd23 ct23), sl23⟩) (c23 : PySem.W.codeIn K cd23 "_law_draw" = true) (k23 : PySem.W.keepIn K (.ref f23) = true)
    {f24 : Addr} {od24 an24 : Option Addr} {sl24 : Array (Option Value)} {oc24 kV24 dc24 pm24 cd24 ct24 : Value}
    (a24 : PySem.W.nsIn K mainGlobals "_law_table" = some (some (.ref f24))) (l24 : K.lookup f24 = some ⟨oc24, od24, .func (PySem.W.fnOf "_law_table" "_law_table" (defArgs (top 46)) (defBody (top 46)) (defScope (top 46)) .none kV24 dc24 pm24 an24 cd24 ct24), sl24⟩) (c24 : PySem.W.codeIn K cd24 "_law_table" = true) (k24 : PySem.W.keepIn K (.ref f24) = true)
    {f25 : Addr} {od25 an25 : Option Addr} {sl25 : Array (Option Value)} {oc25 kV25 dc25 pm25 cd25 ct25 : Value}
    (a25 : PySem.W.nsIn K mainGlobals "_law_tree" = some (some (.ref f25))) (l25 : K.lookup f25 = some ⟨oc25, od25, .func (PySem.W.fnOf "_law_tree" "_law_tree" (defArgs (top 47)) (defBody (top 47)) (defScope (top 47)) .none kV25 dc25 pm25 an25 cd25 ct25), sl25⟩) (c25 : PySem.W.codeIn K cd25 "_law_tree" = true) (k25 : PySem.W.keepIn K (.ref f25) = true)
    {f26 : Addr} {od26 an26 : Option Addr} {sl26 : Array (Option Value)} {oc26 kV26 dc26 pm26 cd26 ct26 : Value}
    (a26 : PySem.W.nsIn K mainGlobals "_law_bad_number" = some (some (.ref f26))) (l26 : K.lookup f26 = some ⟨oc26, od26, .func (PySem.W.fnOf "_law_bad_number" "_law_bad_number" (defArgs (top 48)) (defBody (top 48)) (defScope (top 48)) .none kV26 dc26 pm26 an26 cd26 ct26), sl26⟩) (c26 : PySem.W.codeIn K cd26 "_law_bad_number" = true) (k26 : PySem.W.keepIn K (.ref f26) = true)
    {f27 : Addr} {od27 an27 : Option Addr} {sl27 : Array (Option Value)} {oc27 kV27 dc27 pm27 cd27 ct27 : Value}
    (a27 : PySem.W.nsIn K mainGlobals "_law_bad_table" = some (some (.ref f27))) (l27 : K.lookup f27 = some ⟨oc27, od27, .func (PySem.W.fnOf "_law_bad_table" "_law_bad_table" (defArgs (top 49)) (defBody (top 49)) (defScope (top 49)) .none kV27 dc27 pm27 an27 cd27 ct27), sl27⟩) (c27 : PySem.W.codeIn K cd27 "_law_bad_table" = true) (k27 : PySem.W.keepIn K (.ref f27) = true)
    {f28 : Addr} {od28 an28 : Option Addr} {sl28 : Array (Option Value)} {oc28 kV28 dc28 pm28 cd28 ct28 : Value}
    (a28 : PySem.W.nsIn K mainGlobals "_law_spoilt" = some (some (.ref f28))) (l28 : K.lookup f28 = some ⟨oc28, od28, .func (PySem.W.fnOf "_law_spoilt" "_law_spoilt" (defArgs (top 50)) (defBody (top 50)) (defScope (top 50)) .none kV28 dc28 pm28 an28 cd28 ct28), sl28⟩) (c28 : PySem.W.codeIn K cd28 "_law_spoilt" = true) (k28 : PySem.W.keepIn K (.ref f28) = true)
    {f29 : Addr} {od29 an29 : Option Addr} {sl29 : Array (Option Value)} {oc29 kV29 dc29 pm29 cd29 ct29 : Value}
    (a29 : PySem.W.nsIn K mainGlobals "_law_comb" = some (some (.ref f29))) (l29 : K.lookup f29 = some ⟨oc29, od29, .func (PySem.W.fnOf "_law_comb" "_law_comb" (defArgs (top 51)) (defBody (top 51)) (defScope (top 51)) .none kV29 dc29 pm29 an29 cd29 ct29), sl29⟩) (c29 : PySem.W.codeIn K cd29 "_law_comb" = true) (k29 : PySem.W.keepIn K (.ref f29) = true)
    {f30 : Addr} {od30 an30 : Option Addr} {sl30 : Array (Option Value)} {oc30 kV30 dc30 pm30 cd30 ct30 : Value}
    (a30 : PySem.W.nsIn K mainGlobals "_law_broad" = some (some (.ref f30))) (l30 : K.lookup f30 = some ⟨oc30, od30, .func (PySem.W.fnOf "_law_broad" "_law_broad" (defArgs (top 52)) (defBody (top 52)) (defScope (top 52)) .none kV30 dc30 pm30 an30 cd30 ct30), sl30⟩) (c30 : PySem.W.codeIn K cd30 "_law_broad" = true) (k30 : PySem.W.keepIn K (.ref f30) = true)
    {f31 : Addr} {od31 an31 : Option Addr} {sl31 : Array (Option Value)} {oc31 kV31 dc31 pm31 cd31 ct31 : Value}
    (a31 : PySem.W.nsIn K mainGlobals "_law_refused" = some (some (.ref f31))) (l31 : K.lookup f31 = some ⟨oc31, od31, .func (PySem.W.fnOf "_law_refused" "_law_refused" (defArgs (top 53)) (defBody (top 53)) (defScope (top 53)) .none kV31 dc31 pm31 an31 cd31 ct31), sl31⟩) (c31 : PySem.W.codeIn K cd31 "_law_refused" = true) (k31 : PySem.W.keepIn K (.ref f31) = true)
    {f32 : Addr} {od32 an32 : Option Addr} {sl32 : Array (Option Value)} {oc32 kV32 dc32 pm32 cd32 ct32 : Value}
    (a32 : PySem.W.nsIn K mainGlobals "_law_given" = some (some (.ref f32))) (l32 : K.lookup f32 = some ⟨oc32, od32, .func (PySem.W.fnOf "_law_given" "_law_given" (defArgs (top 54)) (defBody (top 54)) (defScope (top 54)) .none kV32 dc32 pm32 an32 cd32 ct32), sl32⟩) (c32 : PySem.W.codeIn K cd32 "_law_given" = true) (k32 : PySem.W.keepIn K (.ref f32) = true)
    {f33 : Addr} {od33 an33 : Option Addr} {sl33 : Array (Option Value)} {oc33 kV33 dc33 pm33 cd33 ct33 : Value}
    (a33 : PySem.W.nsIn K mainGlobals "law" = some (some (.ref f33))) (l33 : K.lookup f33 = some ⟨oc33, od33, .func (PySem.W.fnOf "law" "law" (defArgs (top 55)) (defBody (top 55)) (defScope (top 55)) .none kV33 dc33 pm33 an33 cd33 ct33), sl33⟩) (c33 : PySem.W.codeIn K cd33 "law" = true) (k33 : PySem.W.keepIn K (.ref f33) = true)
    {C0 : Addr} (xa0 : PySem.W.nsIn K mainGlobals "BrimfulError" = some (some (.ref C0))) (xk0 : PySem.W.keepIn K (.ref C0) = true) (xs0 : PySem.W.subIn K (.ref C0) (.type "BaseException") = some true) (xt0 : PySem.W.typeIn K (.ref C0) = some (.type "type"))
    (xe0 : PySem.W.excIn K C0 [.type "ValueError", .type "Exception", .type "BaseException", .type "object"] "ValueError.__new__" = true)
    (xg0 : PySem.W.findIn K (.ref C0) "__getattribute__" = some (some (.builtin "BaseException.__getattribute__"))) (xh0 : PySem.W.findIn K (.ref C0) "__getattr__" = some none) (xd0 : PySem.W.hasDictIn K C0 = true) (xc0 : PySem.W.findIn K (.ref C0) "__class__" = some (some (.builtin "object.__class__"))) (xm0 : PySem.W.mroIn K C0 (.type "object") = some true)
    {C1 : Addr} (xa1 : PySem.W.nsIn K mainGlobals "BadStep" = some (some (.ref C1))) (xk1 : PySem.W.keepIn K (.ref C1) = true) (xs1 : PySem.W.subIn K (.ref C1) (.type "BaseException") = some true) (xt1 : PySem.W.typeIn K (.ref C1) = some (.type "type"))
    (xe1 : PySem.W.excIn K C1 [.type "ValueError", .type "Exception", .type "BaseException", .type "object"] "ValueError.__new__" = true)
    (xg1 : PySem.W.findIn K (.ref C1) "__getattribute__" = some (some (.builtin "BaseException.__getattribute__"))) (xh1 : PySem.W.findIn K (.ref C1) "__getattr__" = some none) (xd1 : PySem.W.hasDictIn K C1 = true) (xc1 : PySem.W.findIn K (.ref C1) "__class__" = some (some (.builtin "object.__class__"))) (xm1 : PySem.W.mroIn K C1 (.type "object") = some true)
    {C2 : Addr} (xa2 : PySem.W.nsIn K mainGlobals "BadMemory" = some (some (.ref C2))) (xk2 : PySem.W.keepIn K (.ref C2) = true) (xs2 : PySem.W.subIn K (.ref C2) (.type "BaseException") = some true) (xt2 : PySem.W.typeIn K (.ref C2) = some (.type "type"))
    (xe2 : PySem.W.excIn K C2 [.type "ValueError", .type "Exception", .type "BaseException", .type "object"] "ValueError.__new__" = true)
    (xg2 : PySem.W.findIn K (.ref C2) "__getattribute__" = some (some (.builtin "BaseException.__getattribute__"))) (xh2 : PySem.W.findIn K (.ref C2) "__getattr__" = some none) (xd2 : PySem.W.hasDictIn K C2 = true) (xc2 : PySem.W.findIn K (.ref C2) "__class__" = some (some (.builtin "object.__class__"))) (xm2 : PySem.W.mroIn K C2 (.type "object") = some true)
    {C3 : Addr} (xa3 : PySem.W.nsIn K mainGlobals "BadSource" = some (some (.ref C3))) (xk3 : PySem.W.keepIn K (.ref C3) = true) (xs3 : PySem.W.subIn K (.ref C3) (.type "BaseException") = some true) (xt3 : PySem.W.typeIn K (.ref C3) = some (.type "type"))
    (xe3 : PySem.W.excIn K C3 [.type "ValueError", .type "Exception", .type "BaseException", .type "object"] "ValueError.__new__" = true)
    (xg3 : PySem.W.findIn K (.ref C3) "__getattribute__" = some (some (.builtin "BaseException.__getattribute__"))) (xh3 : PySem.W.findIn K (.ref C3) "__getattr__" = some none) (xd3 : PySem.W.hasDictIn K C3 = true) (xc3 : PySem.W.findIn K (.ref C3) "__class__" = some (some (.builtin "object.__class__"))) (xm3 : PySem.W.mroIn K C3 (.type "object") = some true)
    {C4 : Addr} (xa4 : PySem.W.nsIn K mainGlobals "TooLong" = some (some (.ref C4))) (xk4 : PySem.W.keepIn K (.ref C4) = true) (xs4 : PySem.W.subIn K (.ref C4) (.type "BaseException") = some true) (xt4 : PySem.W.typeIn K (.ref C4) = some (.type "type"))
    (xe4 : PySem.W.excIn K C4 [.type "ValueError", .type "Exception", .type "BaseException", .type "object"] "ValueError.__new__" = true)
    (xg4 : PySem.W.findIn K (.ref C4) "__getattribute__" = some (some (.builtin "BaseException.__getattribute__"))) (xh4 : PySem.W.findIn K (.ref C4) "__getattr__" = some none) (xd4 : PySem.W.hasDictIn K C4 = true) (xc4 : PySem.W.findIn K (.ref C4) "__class__" = some (some (.builtin "object.__class__"))) (xm4 : PySem.W.mroIn K C4 (.type "object") = some true)
    {C5 : Addr} (xa5 : PySem.W.nsIn K mainGlobals "BadTree" = some (some (.ref C5))) (xk5 : PySem.W.keepIn K (.ref C5) = true) (xs5 : PySem.W.subIn K (.ref C5) (.type "BaseException") = some true) (xt5 : PySem.W.typeIn K (.ref C5) = some (.type "type"))
    (xe5 : PySem.W.excIn K C5 [.type "ValueError", .type "Exception", .type "BaseException", .type "object"] "ValueError.__new__" = true)
    (xg5 : PySem.W.findIn K (.ref C5) "__getattribute__" = some (some (.builtin "BaseException.__getattribute__"))) (xh5 : PySem.W.findIn K (.ref C5) "__getattr__" = some none) (xd5 : PySem.W.hasDictIn K C5 = true) (xc5 : PySem.W.findIn K (.ref C5) "__class__" = some (some (.builtin "object.__class__"))) (xm5 : PySem.W.mroIn K C5 (.type "object") = some true)
    (xn : PySem.W.specialIn K (.builtin "object.__class__") "__get__" = some (some (.builtin "getset_descriptor.__get__"))) (xz : PySem.W.takesIn K (.builtin "object.__class__") = some true)
    (xr0_0 : PySem.W.subIn K (.ref C0) (.ref C0) = some true)
    (xr0_1 : PySem.W.subIn K (.ref C0) (.ref C1) = some false)
    (xr0_2 : PySem.W.subIn K (.ref C0) (.ref C2) = some false)
    (xr0_3 : PySem.W.subIn K (.ref C0) (.ref C3) = some false)
    (xr0_4 : PySem.W.subIn K (.ref C0) (.ref C4) = some false)
    (xr0_5 : PySem.W.subIn K (.ref C0) (.ref C5) = some false)
    (xr1_0 : PySem.W.subIn K (.ref C1) (.ref C0) = some true)
    (xr1_1 : PySem.W.subIn K (.ref C1) (.ref C1) = some true)
    (xr1_2 : PySem.W.subIn K (.ref C1) (.ref C2) = some false)
    (xr1_3 : PySem.W.subIn K (.ref C1) (.ref C3) = some false)
    (xr1_4 : PySem.W.subIn K (.ref C1) (.ref C4) = some false)
    (xr1_5 : PySem.W.subIn K (.ref C1) (.ref C5) = some false)
    (xr2_0 : PySem.W.subIn K (.ref C2) (.ref C0) = some true)
    (xr2_1 : PySem.W.subIn K (.ref C2) (.ref C1) = some false)
    (xr2_2 : PySem.W.subIn K (.ref C2) (.ref C2) = some true)
    (xr2_3 : PySem.W.subIn K (.ref C2) (.ref C3) = some false)
    (xr2_4 : PySem.W.subIn K (.ref C2) (.ref C4) = some false)
    (xr2_5 : PySem.W.subIn K (.ref C2) (.ref C5) = some false)
    (xr3_0 : PySem.W.subIn K (.ref C3) (.ref C0) = some true)
    (xr3_1 : PySem.W.subIn K (.ref C3) (.ref C1) = some false)
    (xr3_2 : PySem.W.subIn K (.ref C3) (.ref C2) = some false)
    (xr3_3 : PySem.W.subIn K (.ref C3) (.ref C3) = some true)
    (xr3_4 : PySem.W.subIn K (.ref C3) (.ref C4) = some false)
    (xr3_5 : PySem.W.subIn K (.ref C3) (.ref C5) = some false)
    (xr4_0 : PySem.W.subIn K (.ref C4) (.ref C0) = some true)
    (xr4_1 : PySem.W.subIn K (.ref C4) (.ref C1) = some false)
    (xr4_2 : PySem.W.subIn K (.ref C4) (.ref C2) = some false)
    (xr4_3 : PySem.W.subIn K (.ref C4) (.ref C3) = some false)
    (xr4_4 : PySem.W.subIn K (.ref C4) (.ref C4) = some true)
    (xr4_5 : PySem.W.subIn K (.ref C4) (.ref C5) = some false)
    (xr5_0 : PySem.W.subIn K (.ref C5) (.ref C0) = some true)
    (xr5_1 : PySem.W.subIn K (.ref C5) (.ref C1) = some false)
    (xr5_2 : PySem.W.subIn K (.ref C5) (.ref C2) = some false)
    (xr5_3 : PySem.W.subIn K (.ref C5) (.ref C3) = some false)
    (xr5_4 : PySem.W.subIn K (.ref C5) (.ref C4) = some false)
    (xr5_5 : PySem.W.subIn K (.ref C5) (.ref C5) = some true)
    (z0 : PySem.W.nsIn K mainGlobals "len" = some none)
    (z1 : PySem.W.nsIn K mainGlobals "max" = some none)
    (z2 : PySem.W.nsIn K mainGlobals "min" = some none)
    (z3 : PySem.W.nsIn K mainGlobals "sorted" = some none)
    (z4 : PySem.W.nsIn K mainGlobals "sum" = some none)
    (z5 : PySem.W.nsIn K mainGlobals "any" = some none)
    (z6 : PySem.W.nsIn K mainGlobals "all" = some none)
    (z7 : PySem.W.nsIn K mainGlobals "list" = some none)
    (z8 : PySem.W.nsIn K mainGlobals "tuple" = some none)
    (z9 : PySem.W.nsIn K mainGlobals "int" = some none)
    (z10 : PySem.W.nsIn K mainGlobals "str" = some none)
    (z11 : PySem.W.nsIn K mainGlobals "bool" = some none)
    (z12 : PySem.W.nsIn K mainGlobals "isinstance" = some none)
    (z13 : PySem.W.nsIn K mainGlobals "range" = some none)
    (z14 : PySem.W.nsIn K mainGlobals "enumerate" = some none)
    (z15 : PySem.W.nsIn K mainGlobals "zip" = some none)
    {tg0 : Nat} (y0 : PySem.W.nsIn K mainGlobals "FACTORS" = some (some (.int 3 tg0)))
    {tg1 : Nat} (y1 : PySem.W.nsIn K mainGlobals "MODULUS" = some (some (.int 1000000000 tg1)))
    {tg2 : Nat} (y2 : PySem.W.nsIn K mainGlobals "CELLS" = some (some (.int 60 tg2)))
    {tg3 : Nat} (y3 : PySem.W.nsIn K mainGlobals "INPUTS" = some (some (.int 60 tg3)))
    {tg4 : Nat} (y4 : PySem.W.nsIn K mainGlobals "STEPS" = some (some (.int 20000 tg4)))
    {tg5 : Nat} (y5 : PySem.W.nsIn K mainGlobals "NESTED" = some (some (.int 40 tg5)))
    {tg6 : Nat} (y6 : PySem.W.nsIn K mainGlobals "NODES" = some (some (.int 200 tg6)))
    {tg7 : Nat} (y7 : PySem.W.nsIn K mainGlobals "VALUES" = some (some (.int 40 tg7)))
    : ∃ fd : FuncData, (∀ (s : Shared) (v : Value), BindsTo s fd ⟨[v], []⟩ [("_law_script", v)]) ∧ ∀ base : Heap, K.In base → base.Ns mainGlobals mg → FnOk l.prog w K mg base (L2.CX l.prog w) (2 * k) fa fd ["_law_script"] (spLaw K n) := by
  have e := hfa.symm.trans (PySem.W.mg_of X G a33)
  cases e
  have d0 : DOk K mg D0 _ := dok_mk (D := D0) X G a0 l0 c0 k0 fun _ _ _ _ _ _ us hl => match us, hl with | [_], _ => rfl
  have d1 : DOk K mg D1 _ := dok_mk (D := D1) X G a1 l1 c1 k1 fun _ _ _ _ _ _ us hl => match us, hl with | [_, _], _ => rfl
  have d2 : DOk K mg D2 _ := dok_mk (D := D2) X G a2 l2 c2 k2 fun _ _ _ _ _ _ us hl => match us, hl with | [_], _ => rfl
  have d3 : DOk K mg D3 _ := dok_mk (D := D3) X G a3 l3 c3 k3 fun _ _ _ _ _ _ us hl => match us, hl with | [_, _], _ => rfl
  have d4 : DOk K mg D4 _ := dok_mk (D := D4) X G a4 l4 c4 k4 fun _ _ _ _ _ _ us hl => match us, hl with | [_, _, _, _], _ => rfl
  have d5 : DOk K mg D5 _ := dok_mk (D := D5) X G a5 l5 c5 k5 fun _ _ _ _ _ _ us hl => match us, hl with | [_, _], _ => rfl
  have d6 : DOk K mg D6 _ := dok_mk (D := D6) X G a6 l6 c6 k6 fun _ _ _ _ _ _ us hl => match us, hl with | [_, _, _, _], _ => rfl
  have d7 : DOk K mg D7 _ := dok_mk (D := D7) X G a7 l7 c7 k7 fun _ _ _ _ _ _ us hl => match us, hl with | [_, _, _], _ => rfl
  have d8 : DOk K mg D8 _ := dok_mk (D := D8) X G a8 l8 c8 k8 fun _ _ _ _ _ _ us hl => match us, hl with | [_, _, _, _], _ => rfl
  have d9 : DOk K mg D9 _ := dok_mk (D := D9) X G a9 l9 c9 k9 fun _ _ _ _ _ _ us hl => match us, hl with | [_, _, _, _, _], _ => rfl
  have d10 : DOk K mg D10 _ := dokm_mk (D := D10) (by decide +kernel) l10 c10 k10 fun _ _ _ _ _ _ us hl => match us, hl with | [_, _, _, _, _], _ => rfl
  have d11 : DOk K mg D11 _ := dok_mk (D := D11) X G a11 l11 c11 k11 fun _ _ _ _ _ _ us hl => match us, hl with | [_, _], _ => rfl
  have d12 : DOk K mg D12 _ := dok_mk (D := D12) X G a12 l12 c12 k12 fun _ _ _ _ _ _ us hl => match us, hl with | [_, _], _ => rfl
  have d13 : DOk K mg D13 _ := dok_mk (D := D13) X G a13 l13 c13 k13 fun _ _ _ _ _ _ us hl => match us, hl with | [_, _], _ => rfl
  have d14 : DOk K mg D14 _ := dok_mk (D := D14) X G a14 l14 c14 k14 fun _ _ _ _ _ _ us hl => match us, hl with | [_, _], _ => rfl
  have d15 : DOk K mg D15 _ := dok_mk (D := D15) X G a15 l15 c15 k15 fun _ _ _ _ _ _ us hl => match us, hl with | [_, _], _ => rfl
  have d16 : DOk K mg D16 _ := dok_mk (D := D16) X G a16 l16 c16 k16 fun _ _ _ _ _ _ us hl => match us, hl with | [_, _], _ => rfl
  have d17 : DOk K mg D17 _ := dok_mk (D := D17) X G a17 l17 c17 k17 fun _ _ _ _ _ _ us hl => match us, hl with | [_], _ => rfl
  have d18 : DOk K mg D18 _ := dok_mk (D := D18) X G a18 l18 c18 k18 fun _ _ _ _ _ _ us hl => match us, hl with | [_, _], _ => rfl
  have d19 : DOk K mg D19 _ := dok_mk (D := D19) X G a19 l19 c19 k19 fun _ _ _ _ _ _ us hl => match us, hl with | [_, _, _, _], _ => rfl
  have d20 : DOk K mg D20 _ := dok_mk (D := D20) X G a20 l20 c20 k20 fun _ _ _ _ _ _ us hl => match us, hl with | [_, _], _ => rfl
  have d21 : DOk K mg D21 _ := dok_mk (D := D21) X G a21 l21 c21 k21 fun _ _ _ _ _ _ us hl => match us, hl with | [_, _], _ => rfl
  have d22 : DOk K mg D22 _ := dok_mk (D := D22) X G a22 l22 c22 k22 fun _ _ _ _ _ _ us hl => match us, hl with | [_], _ => rfl
  have d23 : DOk K mg D23 _ := dok_mk (D := D23) X G a23 l23 c23 k23 fun _ _ _ _ _ _ us hl => match us, hl with | [_], _ => rfl
  have d24 : DOk K mg D24 _ := dok_mk (D := D24) X G a24 l24 c24 k24 fun _ _ _ _ _ _ us hl => match us, hl with | [_, _], _ => rfl
  have d25 : DOk K mg D25 _ := dok_mk (D := D25) X G a25 l25 c25 k25 fun _ _ _ _ _ _ us hl => match us, hl with | [_, _, _, _], _ => rfl
  have d26 : DOk K mg D26 _ := dok_mk (D := D26) X G a26 l26 c26 k26 fun _ _ _ _ _ _ us hl => match us, hl with | [_, _], _ => rfl
  have d27 : DOk K mg D27 _ := dok_mk (D := D27) X G a27 l27 c27 k27 fun _ _ _ _ _ _ us hl => match us, hl with | [_, _, _], _ => rfl
  have d28 : DOk K mg D28 _ := dok_mk (D := D28) X G a28 l28 c28 k28 fun _ _ _ _ _ _ us hl => match us, hl with | [_, _, _], _ => rfl
  have d29 : DOk K mg D29 _ := dok_mk (D := D29) X G a29 l29 c29 k29 fun _ _ _ _ _ _ us hl => match us, hl with | [_], _ => rfl
  have d30 : DOk K mg D30 _ := dok_mk (D := D30) X G a30 l30 c30 k30 fun _ _ _ _ _ _ us hl => match us, hl with | [_], _ => rfl
  have d31 : DOk K mg D31 _ := dok_mk (D := D31) X G a31 l31 c31 k31 fun _ _ _ _ _ _ us hl => match us, hl with | [_, _, _], _ => rfl
  have d32 : DOk K mg D32 _ := dok_mk (D := D32) X G a32 l32 c32 k32 fun _ _ _ _ _ _ us hl => match us, hl with | [_], _ => rfl
  have d33 : DOk K mg D33 _ := dok_mk (D := D33) X G a33 l33 c33 k33 fun _ _ _ _ _ _ us hl => match us, hl with | [_], _ => rfl
  have e0 := eok_mk X G xa0 xk0 xs0 xt0 xe0 xg0 xh0 xd0 xc0 xm0 xn xz
  have e1 := eok_mk X G xa1 xk1 xs1 xt1 xe1 xg1 xh1 xd1 xc1 xm1 xn xz
  have e2 := eok_mk X G xa2 xk2 xs2 xt2 xe2 xg2 xh2 xd2 xc2 xm2 xn xz
  have e3 := eok_mk X G xa3 xk3 xs3 xt3 xe3 xg3 xh3 xd3 xc3 xm3 xn xz
  have e4 := eok_mk X G xa4 xk4 xs4 xt4 xe4 xg4 xh4 xd4 xc4 xm4 xn xz
  have e5 := eok_mk X G xa5 xk5 xs5 xt5 xe5 xg5 xh5 xd5 xc5 xm5 xn xz
  have T : Tx PP ⟨K, fun i => match i with | 0 => K0 | _ => 0, fun i => match i with | 0 => .ref C0 | 1 => .ref C1 | 2 => .ref C2 | 3 => .ref C3 | 4 => .ref C4 | 5 => .ref C5 | _ => .none, fun c f => match c, f with | 0, 0 => "modulus" | 0, 1 => "cells" | 0, 2 => "inputs" | 0, 3 => "steps" | _, _ => "", none⟩ mg _ := ⟨rfl, .cons d0 (.cons d1 (.cons d2 (.cons d3 (.cons d4 (.cons d5 (.cons d6 (.cons d7 (.cons d8 (.cons d9 (.cons d10 (.cons d11 (.cons d12 (.cons d13 (.cons d14 (.cons d15 (.cons d16 (.cons d17 (.cons d18 (.cons d19 (.cons d20 (.cons d21 (.cons d22 (.cons d23 (.cons d24 (.cons d25 (.cons d26 (.cons d27 (.cons d28 (.cons d29 (.cons d30 (.cons d31 (.cons d32 (.cons d33 (.nil)))))))))))))))))))))))))))))))))), fun D hD => ?txt, fun x hx => ?blt, fun g p hg => ?glo, fun c x hc => ?exs, fun c d x y hc hd => ?sub, fun c C hc => ?cls, fun c C j x d hc hj => ?mts⟩
  case txt =>
    simp only [PP, List.mem_cons, List.not_mem_nil, or_false] at hD
    rcases hD with rfl | rfl | rfl | rfl | rfl | rfl | rfl | rfl | rfl | rfl | rfl | rfl | rfl | rfl | rfl | rfl | rfl | rfl | rfl | rfl | rfl | rfl | rfl | rfl | rfl | rfl | rfl | rfl | rfl | rfl | rfl | rfl | rfl | rfl
    · exact t0
    · exact t1
    · exact t2
    · exact t3
    · exact t4
    · exact t5
    · exact t6
    · exact t7
    · exact t8
    · exact t9
    · exact t10
    · exact t11
    · exact t12
    · exact t13
    · exact t14
    · exact t15
    · exact t16
    · exact t17
    · exact t18
    · exact t19
    · exact t20
    · exact t21
    · exact t22
    · exact t23
    · exact t24
    · exact t25
    · exact t26
    · exact t27
    · exact t28
    · exact t29
    · exact t30
    · exact t31
    · exact t32
    · exact t33
  case blt =>
    simp only [bltNames, List.mem_cons, List.not_mem_nil, or_false] at hx
    rcases hx with rfl | rfl | rfl | rfl | rfl | rfl | rfl | rfl | rfl | rfl | rfl | rfl | rfl | rfl | rfl | rfl
    · exact PySem.W.mg_none_of X G z0
    · exact PySem.W.mg_none_of X G z1
    · exact PySem.W.mg_none_of X G z2
    · exact PySem.W.mg_none_of X G z3
    · exact PySem.W.mg_none_of X G z4
    · exact PySem.W.mg_none_of X G z5
    · exact PySem.W.mg_none_of X G z6
    · exact PySem.W.mg_none_of X G z7
    · exact PySem.W.mg_none_of X G z8
    · exact PySem.W.mg_none_of X G z9
    · exact PySem.W.mg_none_of X G z10
    · exact PySem.W.mg_none_of X G z11
    · exact PySem.W.mg_none_of X G z12
    · exact PySem.W.mg_none_of X G z13
    · exact PySem.W.mg_none_of X G z14
    · exact PySem.W.mg_none_of X G z15
  case glo =>
    match g, hg with
    | 0, hg => cases hg; exact ⟨_, V.int 3, PySem.W.mg_of X G y0, ⟨_, rfl⟩, fun _ _ => rfl⟩
    | 1, hg => cases hg; exact ⟨_, V.int 1000000000, PySem.W.mg_of X G y1, ⟨_, rfl⟩, fun _ _ => rfl⟩
    | 2, hg => cases hg; exact ⟨_, V.int 60, PySem.W.mg_of X G y2, ⟨_, rfl⟩, fun _ _ => rfl⟩
    | 3, hg => cases hg; exact ⟨_, V.int 60, PySem.W.mg_of X G y3, ⟨_, rfl⟩, fun _ _ => rfl⟩
    | 4, hg => cases hg; exact ⟨_, V.int 20000, PySem.W.mg_of X G y4, ⟨_, rfl⟩, fun _ _ => rfl⟩
    | 5, hg => cases hg; exact ⟨_, V.int 40, PySem.W.mg_of X G y5, ⟨_, rfl⟩, fun _ _ => rfl⟩
    | 6, hg => cases hg; exact ⟨_, V.int 200, PySem.W.mg_of X G y6, ⟨_, rfl⟩, fun _ _ => rfl⟩
    | 7, hg => cases hg; exact ⟨_, V.int 40, PySem.W.mg_of X G y7, ⟨_, rfl⟩, fun _ _ => rfl⟩
    | n + 8, hg => simp [PP] at hg
  case exs =>
    match c, hc with
    | 0, hc => cases hc; exact ⟨_, rfl, e0⟩
    | 1, hc => cases hc; exact ⟨_, rfl, e1⟩
    | 2, hc => cases hc; exact ⟨_, rfl, e2⟩
    | 3, hc => cases hc; exact ⟨_, rfl, e3⟩
    | 4, hc => cases hc; exact ⟨_, rfl, e4⟩
    | 5, hc => cases hc; exact ⟨_, rfl, e5⟩
    | n + 6, hc => simp [PP] at hc
  case sub =>
    match c, d, hc, hd with
    | 0, 0, _, _ => exact sub_mk e0 xr0_0 xr0_0
    | 0, 1, _, _ => exact sub_mk e1 xr1_1 xr0_1
    | 0, 2, _, _ => exact sub_mk e2 xr2_2 xr0_2
    | 0, 3, _, _ => exact sub_mk e3 xr3_3 xr0_3
    | 0, 4, _, _ => exact sub_mk e4 xr4_4 xr0_4
    | 0, 5, _, _ => exact sub_mk e5 xr5_5 xr0_5
    | 1, 0, _, _ => exact sub_mk e0 xr0_0 xr1_0
    | 1, 1, _, _ => exact sub_mk e1 xr1_1 xr1_1
    | 1, 2, _, _ => exact sub_mk e2 xr2_2 xr1_2
    | 1, 3, _, _ => exact sub_mk e3 xr3_3 xr1_3
    | 1, 4, _, _ => exact sub_mk e4 xr4_4 xr1_4
    | 1, 5, _, _ => exact sub_mk e5 xr5_5 xr1_5
    | 2, 0, _, _ => exact sub_mk e0 xr0_0 xr2_0
    | 2, 1, _, _ => exact sub_mk e1 xr1_1 xr2_1
    | 2, 2, _, _ => exact sub_mk e2 xr2_2 xr2_2
    | 2, 3, _, _ => exact sub_mk e3 xr3_3 xr2_3
    | 2, 4, _, _ => exact sub_mk e4 xr4_4 xr2_4
    | 2, 5, _, _ => exact sub_mk e5 xr5_5 xr2_5
    | 3, 0, _, _ => exact sub_mk e0 xr0_0 xr3_0
    | 3, 1, _, _ => exact sub_mk e1 xr1_1 xr3_1
    | 3, 2, _, _ => exact sub_mk e2 xr2_2 xr3_2
    | 3, 3, _, _ => exact sub_mk e3 xr3_3 xr3_3
    | 3, 4, _, _ => exact sub_mk e4 xr4_4 xr3_4
    | 3, 5, _, _ => exact sub_mk e5 xr5_5 xr3_5
    | 4, 0, _, _ => exact sub_mk e0 xr0_0 xr4_0
    | 4, 1, _, _ => exact sub_mk e1 xr1_1 xr4_1
    | 4, 2, _, _ => exact sub_mk e2 xr2_2 xr4_2
    | 4, 3, _, _ => exact sub_mk e3 xr3_3 xr4_3
    | 4, 4, _, _ => exact sub_mk e4 xr4_4 xr4_4
    | 4, 5, _, _ => exact sub_mk e5 xr5_5 xr4_5
    | 5, 0, _, _ => exact sub_mk e0 xr0_0 xr5_0
    | 5, 1, _, _ => exact sub_mk e1 xr1_1 xr5_1
    | 5, 2, _, _ => exact sub_mk e2 xr2_2 xr5_2
    | 5, 3, _, _ => exact sub_mk e3 xr3_3 xr5_3
    | 5, 4, _, _ => exact sub_mk e4 xr4_4 xr5_4
    | 5, 5, _, _ => exact sub_mk e5 xr5_5 xr5_5
    | n + 6, _, hc, _ => simp [PP] at hc
    | _, n + 6, _, hd => simp [PP] at hd
  case cls =>
    match c, hc with
    | 0, hc => cases hc; exact ⟨cok_mk X G ka0 kp0 kh0 ko0 ks0 (by decide +kernel) (by decide +kernel) fun f x hf => (match f, hf with | 0, hf => by cases hf; exact ⟨rfl, kn0_0⟩ | 1, hf => by cases hf; exact ⟨rfl, kn0_1⟩ | 2, hf => by cases hf; exact ⟨rfl, kn0_2⟩ | 3, hf => by cases hf; exact ⟨rfl, kn0_3⟩ | n + 4, hf => by simp [CProgram] at hf), _, rfl, km0, a10, i10, kk0⟩
    | n + 1, hc => simp [PP] at hc
  case mts =>
    match c, hc with
    | 0, hc =>
      cases hc
      match j, hj with
      | n + 0, hj => simp [CProgram] at hj
    | n + 1, hc => simp [PP] at hc
  exact ⟨_, fun s v => .of_eq rfl, fun base _ _ => (all_ok T k 33 D33 _ rfl rfl).imp fun vs H Q E h => law_imp spec h⟩
end K37

/-! K37b: what is spoilt. -/
namespace K37
open Bi
theorem i0 : IsD PP 0 isiB 1 1 := ⟨_, rfl, rfl, rfl, rfl⟩
theorem i1 : IsD PP 1 (isnB 0) 2 2 := ⟨_, rfl, rfl, rfl, rfl⟩
theorem i2 : IsD PP 2 prB 2 1 := ⟨_, rfl, rfl, rfl, rfl⟩
theorem i5 : IsD PP 5 (tabB 1) 4 2 := ⟨_, rfl, rfl, rfl, rfl⟩
theorem i11 : IsD PP 11 (lsB 12 13 5 6 5) 10 2 := ⟨_, rfl, rfl, rfl, rfl⟩
theorem i12 : IsD PP 12 (lfB 1) 2 2 := ⟨_, rfl, rfl, rfl, rfl⟩
theorem i13 : IsD PP 13 (inB 5) 2 2 := ⟨_, rfl, rfl, rfl, rfl⟩
theorem i14 : IsD PP 14 (roB 0 7 11 6 5) 3 2 := ⟨_, rfl, rfl, rfl, rfl⟩
theorem i15 : IsD PP 15 b15 2 2 := ⟨_, rfl, rfl, rfl, rfl⟩
theorem i16 : IsD PP 16 (tvB 14) 6 2 := ⟨_, rfl, rfl, rfl, rfl⟩
theorem i17 : IsD PP 17 (poB 0 2 7 5) 2 1 := ⟨_, rfl, rfl, rfl, rfl⟩
theorem i18 : IsD PP 18 b18 8 2 := ⟨_, rfl, rfl, rfl, rfl⟩
theorem i20 : IsD PP 20 b20 9 2 := ⟨_, rfl, rfl, rfl, rfl⟩
theorem i21 : IsD PP 21 mixB 3 2 := ⟨_, rfl, rfl, rfl, rfl⟩
theorem i22 : IsD PP 22 (numB 21) 5 1 := ⟨_, rfl, rfl, rfl, rfl⟩
theorem i23 : IsD PP 23 (drwB 21) 3 1 := ⟨_, rfl, rfl, rfl, rfl⟩
theorem i24 : IsD PP 24 (ltB 23) 7 2 := ⟨_, rfl, rfl, rfl, rfl⟩
theorem i25 : IsD PP 25 (trB 23 24 25) 5 4 := ⟨_, rfl, rfl, rfl, rfl⟩
theorem i26 : IsD PP 26 b26 2 2 := ⟨_, rfl, rfl, rfl, rfl⟩
theorem i27 : IsD PP 27 b27 8 3 := ⟨_, rfl, rfl, rfl, rfl⟩
theorem i28 : IsD PP 28 b28 6 3 := ⟨_, rfl, rfl, rfl, rfl⟩
theorem i29 : IsD PP 29 b29 3 1 := ⟨_, rfl, rfl, rfl, rfl⟩
theorem i30 : IsD PP 30 b30 5 1 := ⟨_, rfl, rfl, rfl, rfl⟩
theorem i31 : IsD PP 31 b31 4 3 := ⟨_, rfl, rfl, rfl, rfl⟩
theorem i32 : IsD PP 32 b32 6 1 := ⟨_, rfl, rfl, rfl, rfl⟩
theorem i33 : IsD PP 33 b33 4 1 := ⟨_, rfl, rfl, rfl, rfl⟩
theorem td : TD PP 0 1 5 12 13 11 14 5 6 7 5 := ⟨i0, i1, i5, i12, i13, i11, i14, rfl, rfl, rfl⟩
theorem bnum_sp {k a b n v : Nat} {S : Sto} (h : Dr S a b n) (hn : n < 900000000) (hv : v ≤ 40) :
    ∃ (x : SV) (S' : Sto), callD PP (k + 3) 26 [.ref a, .int v] S = .ok x S' ∧ flatS x = true ∧ isN v x = false ∧ Dr S' a b (n + 1) ∧ Ex a S S' := by
  obtain ⟨ha, hb, _⟩ := h.lt
  obtain ⟨r1, S1, hr1, e1, d1, x1, l1⟩ := drw_sp (k := k) i23 i21 (S := S ++ [.lst [.int (-1), .int v, .bl true, .str "0", .non, .int 1099511627776]]) h.app (by omega)
  have g1 : S1[S.length]? = some (.lst [.int (-1), .int v, .bl true, .str "0", .non, .int 1099511627776]) := x1.get (by omega) (by simp)
  have hst : ∃ x : SV, (flatS x = true ∧ isN v x = false) ∧ L2.atI [SV.int (-1), .int v, .bl true, .str "0", .non, .int 1099511627776] ((r1 : Int) % 6) = some x := by
    have n1 : isN v (.int (v : Int)) = false := by
      show (decide (0 ≤ (v : Int)) && decide ((v : Int) < (v : Int))) = false
      rw [decide_eq_false (p := (v : Int) < (v : Int)) (by omega), Bool.and_false]
    have n2 : isN v (.int 1099511627776) = false := by
      show (decide (0 ≤ (1099511627776 : Int)) && decide ((1099511627776 : Int) < (v : Int))) = false
      rw [decide_eq_false (p := (1099511627776 : Int) < (v : Int)) (by omega), Bool.and_false]
    have n3 : isN v (.int (-1)) = false := rfl
    have : ∀ j : Nat, j < 6 → ∃ x : SV, (flatS x = true ∧ isN v x = false) ∧ L2.atI [SV.int (-1), .int v, .bl true, .str "0", .non, .int 1099511627776] (j : Int) = some x := fun j hj => by
      match j, hj with
      | 0, _ => exact ⟨.int (-1), ⟨rfl, n3⟩, by simp⟩
      | 1, _ => exact ⟨.int v, ⟨rfl, n1⟩, by simp⟩
      | 2, _ => exact ⟨.bl true, ⟨rfl, rfl⟩, by simp⟩
      | 3, _ => exact ⟨.str "0", ⟨rfl, rfl⟩, by simp⟩
      | 4, _ => exact ⟨.non, ⟨rfl, rfl⟩, by simp⟩
      | 5, _ => exact ⟨.int 1099511627776, ⟨rfl, n2⟩, by simp⟩
      | n + 6, h => omega
    have e : ((r1 : Int) % 6) = ((r1 % 6 : Nat) : Int) := by omega
    rw [e]
    exact this _ (by omega)
  obtain ⟨x, ⟨fx, nx⟩, ev⟩ := hst
  have p1 : powOk 1 40 = true := by decide
  refine ⟨x, S1, ?_, fx, nx, d1, Ex.app.trans x1⟩
  rw [i26.call rfl]
  simp [b26, e1, g1, ev, p1, List.getElem?_cons_zero, List.getElem?_cons_succ, -getElem?_pos]
/-! ### tables that are none -/
def BadT (S : Sto) (x : SV) (v : Nat) : Prop := ∀ (k : Nat) (G : Sto), ∃ b, callD PP (k + 3) 5 [x, .int v] (S ++ G) = .ok (.bl b) (S ++ G) ∧ (b = false ∨ ∃ xs, x = .tup xs ∧ xs.length ≠ v)
theorem badT_tup {S : Sto} {v : Nat} {rs : List (List SV)} (f : ∀ r ∈ rs, r.all flatS = true) (h : tabOk v rs = false ∨ rs.length ≠ v) : BadT S (.tup (rs.map .tup)) v := fun k G => by
  refine ⟨_, tab_any i0 i1 i5 f, ?_⟩
  rcases h with h | h
  · exact .inl h
  · exact .inr ⟨_, rfl, by rw [List.length_map]; exact h⟩
theorem badT_ref {S : Sto} {v r : Nat} {xs : List SV} (h : S[r]? = some (.lst xs)) : BadT S (.ref r) v := fun k G => by
  refine ⟨false, ?_, .inl rfl⟩
  have hr : (S ++ G)[r]? = some (.lst xs) := by rw [List.getElem?_append_left (List.getElem?_eq_some_iff.mp h).1]; exact h
  rw [i5.call rfl]
  simp [tabB, hr]
theorem badT_refs {S : Sto} {v r : Nat} {xs : List SV} {rest : List SV} (h : S[r]? = some (.lst xs)) (hv : rest.length + 1 = v) : BadT S (.tup (.ref r :: rest)) v := fun k G => by
  refine ⟨false, ?_, .inl rfl⟩
  have hr : (S ++ G)[r]? = some (.lst xs) := by rw [List.getElem?_append_left (List.getElem?_eq_some_iff.mp h).1]; exact h
  rw [i5.call rfl]
  have h2 : ((rest.length : Int) + 1) ≤ (v : Int) := by omega
  have h1 : (1 : Int) ≤ (rest.length : Int) + 1 := by omega
  have e : runF (.vs (.ref r :: rest)) (.nm 2) (evalSs PP (callD PP (k + 2)) (tabJ 1) none) [some (.tup (.ref r :: rest)), some (.int v), none, none] (S ++ G) = .rt (.bl false) (S ++ G) := by
    refine run_vs (fun j L S' => j = 0 ∧ S' = S ++ G ∧ L = [some (.tup (.ref r :: rest)), some (.int v), none, none]) (Post := fun o => o = .rt (.bl false) (S ++ G)) ⟨rfl, rfl, rfl⟩ ?_ ?_
    · rintro j y L S' hj ⟨rfl, rfl, rfl⟩
      have hy : SV.ref r = y := by simpa using hj
      subst hy
      refine ⟨_, rfl, ?_⟩
      show Step (evalSs PP (callD PP (k + 2)) (tabJ 1) none [some (.tup (.ref r :: rest)), some (.int v), some (.ref r), none] (S ++ G)) _ _
      have e : evalSs PP (callD PP (k + 2)) (tabJ 1) none [some (.tup (.ref r :: rest)), some (.int v), some (.ref r), none] (S ++ G) = .rt (.bl false) (S ++ G) := by simp [tabJ, hr]
      rw [e]
      rfl
    · rintro L S' ⟨h, _⟩
      simp at h
  simp [tabB, h1, h2, e]
theorem badN_tab {S : Sto} {x a b : SV} {v : Nat} (h : BadT S x v) : BadN PP 12 13 S (.tup [.str "node", x, a, b]) v := fun k G => by
  refine ⟨td.lf_4, ?_⟩
  obtain ⟨c, e, hc⟩ := h k G
  rw [i13.call rfl]
  rcases hc with rfl | ⟨xs, rfl, hl⟩
  · simp [inB, e]
  · have hl' : ¬ (xs.length : Int) = (v : Int) := by omega
    cases c with
    | false => simp [inB, e]
    | true => simp [inB, e, hl']
theorem tabOk_len {v : Nat} {rs : List (List SV)} {i : Nat} (hi : i < rs.length) (h : rs[i].length ≠ rs.length) : tabOk v rs = false := by
  rw [Bool.eq_false_iff]
  intro z
  unfold tabOk at z
  rw [Bool.and_eq_true] at z
  have := (List.all_eq_true.mp z.2) _ (List.getElem_mem hi)
  rw [Bool.and_eq_true, decide_eq_true_eq] at this
  exact h this.1
theorem tabOk_ent {v : Nat} {rs : List (List SV)} {r : List SV} {x : SV} (hr : r ∈ rs) (hx : x ∈ r) (h : isN v x = false) : tabOk v rs = false := by
  rw [Bool.eq_false_iff]
  intro z
  unfold tabOk at z
  rw [Bool.and_eq_true] at z
  have := (List.all_eq_true.mp z.2) _ hr
  rw [Bool.and_eq_true] at this
  have := (List.all_eq_true.mp this.2) x hx
  rw [h] at this
  cases this
/-- the rows, each a new list -/
theorem rows_run {cf : Nat → List SV → Sto → R SV} {tb : List (List Nat)} {S : Sto} {v0 v2 : Option SV} (hl : tb.length ≤ 1000) :
    runL (.vs (tb.map fun r => SV.tup (nI r))) (.nm 6) (fun _ S => R.ok true S) (evalE PP cf none b27_0) [v0, some (tabS tb), v2, none, none, none, none, none] S = .ok ((List.range tb.length).map fun i => SV.ref (S.length + i)) (S ++ tb.map fun r => SO.lst (nI r)) := by
  refine runL_inv (n := tb.length) (fun i acc S' => i ≤ tb.length ∧ acc = ((List.range i).map fun i => SV.ref (S.length + i)) ∧ S' = S ++ (tb.take i).map fun r => SO.lst (nI r)) (Post := fun o => o = .ok ((List.range tb.length).map fun i => SV.ref (S.length + i)) (S ++ tb.map fun r => SO.lst (nI r))) ⟨Nat.zero_le _, rfl, by simp⟩ (by simp [Src.cnt]) ?_ ?_
  · rintro i acc S' hi ⟨_, rfl, rfl⟩
    refine ⟨.tup (nI tb[i]), _, ?_, rfl, .inr ?_⟩
    · show some (tb.map fun r => SV.tup (nI r))[i]? = _
      rw [List.getElem?_map, List.getElem?_eq_getElem hi]; rfl
    · have hll : (S ++ (tb.take i).map fun r => SO.lst (nI r)).length = S.length + i := by simp; omega
      refine ⟨_, .ref (S.length + i), S ++ (tb.take i).map (fun r => SO.lst (nI r)) ++ [.lst (nI tb[i])], rfl, ?_, ?_, hi, by rw [List.range_succ]; simp, by rw [← List.take_append_getElem hi, List.map_append, List.append_assoc]; rfl⟩
      · show evalE PP cf none b27_0 [v0, some (tabS tb), v2, none, none, none, some (.tup (nI tb[i])), none] (S ++ (tb.take i).map fun r => SO.lst (nI r)) = _
        rw [← hll]
        generalize S ++ (tb.take i).map (fun r => SO.lst (nI r)) = Y at *
        generalize nI tb[i] = R at *
        simp [b27_0]
      · rw [PySem.sizeLine_eq, List.length_map, List.length_range]; omega
  · rintro acc S' ⟨_, rfl, rfl⟩
    rw [List.take_length]
    refine ⟨?_, rfl⟩
    show some (tb.map fun r => SV.tup (nI r))[tb.length]? = _
    rw [List.getElem?_eq_none (by simp)]
/-- the rows made tuples again -/
theorem tups_run {cf : Nat → List SV → Sto → R SV} {e : IX} {rr : Nat} {refs : List Nat} {rs : List (List SV)} {S : Sto} {v0 v1 v2 v4 v5 : Option SV} (he : e = b27_3) (hl : refs.length = rs.length) (hl2 : rs.length ≤ 1000) (h : S[rr]? = some (.lst (refs.map SV.ref)))
    (hr : ∀ i (hi : i < refs.length) (hj : i < rs.length), S[refs[i]]? = some (.lst rs[i])) :
    runL (.ls rr) (.nm 6) (fun _ S => R.ok true S) (evalE PP cf none e) [v0, v1, v2, some (.ref rr), v4, v5, none, none] S = .ok (rs.map SV.tup) S := by
  subst he
  refine runL_inv (n := refs.length) (fun i acc S' => i ≤ refs.length ∧ acc = (rs.take i).map SV.tup ∧ S' = S) (Post := fun o => o = .ok (rs.map SV.tup) S) ⟨Nat.zero_le _, rfl, rfl⟩ (by simp [Src.cnt, h]) ?_ ?_
  · rintro i acc S' hi ⟨_, rfl, rfl⟩
    have hj : i < rs.length := by omega
    have hri := hr i hi hj
    refine ⟨.ref refs[i], _, ?_, rfl, .inr ⟨S', .tup rs[i], S', rfl, ?_, ?_, hi, by rw [← List.take_append_getElem hj, List.map_append]; rfl, rfl⟩⟩
    · simp [Src.get, h, List.getElem?_eq_getElem hi]
    · show evalE PP cf none b27_3 [v0, v1, v2, some (.ref rr), v4, v5, some (.ref refs[i]), none] S' = _
      generalize refs[i] = q at *
      simp [b27_3, hri]
    · rw [PySem.sizeLine_eq, List.length_map, List.length_take]; omega
  · rintro acc S' ⟨_, rfl, rfl⟩
    refine ⟨by simp [Src.get, h], ?_⟩
    rw [hl, List.take_length]
theorem btab_end {cf : Nat → List SV → Sto → R SV} {rr : Nat} {refs : List Nat} {rs : List (List SV)} {Z : Sto} {v0 v1 v2 v4 v5 : Option SV} (hl : refs.length = rs.length) (hl2 : rs.length ≤ 1000) (h : Z[rr]? = some (.lst (refs.map SV.ref)))
    (hr : ∀ i (hi : i < refs.length) (hj : i < rs.length), Z[refs[i]]? = some (.lst rs[i])) :
    fin (evalSs PP cf (((b27.dr 1).dr 2).dr 3) none [v0, v1, v2, some (.ref rr), v4, v5, none, none] Z) = .ok (.tup (rs.map SV.tup)) (Z ++ [.lst (rs.map SV.tup)]) := by
  have e := tups_run (cf := cf) (e := b27_4) (v0 := v0) (v1 := v1) (v2 := v2) (v4 := v4) (v5 := v5) rfl hl hl2 h hr
  obtain ⟨T, hT⟩ : ∃ T, rs.map SV.tup = T := ⟨_, rfl⟩
  obtain ⟨F, hF⟩ : ∃ F, refs.map SV.ref = F := ⟨_, rfl⟩
  rw [hT] at e ⊢
  rw [hF] at h
  simp [b27, h, e]
theorem min_run {cf : Nat → List SV → Sto → R SV} {r v : Nat} {xs : List Nat} {S : Sto} {v0 v1 v3 v4 v5 v6 : Option SV} (h : S[r]? = some (.lst (nI xs))) (hl : xs.length ≤ 1000) :
    runL (.ls r) (.nm 7) (fun _ S => R.ok true S) (evalE PP cf none b27_1) [v0, v1, some (.int v), v3, v4, v5, v6, none] S = .ok (nI (xs.map fun c => min c (v - 2))) S := by
  have ef : nI (xs.map fun c => min c (v - 2)) = (nI xs).filterMap fun y => match y with
    | .int c => some (.int (min c.toNat (v - 2) : Nat))
    | _ => none := by
    clear hl h
    induction xs with
    | nil => rfl
    | cons x xs ih =>
      show SV.int ((min x (v - 2) : Nat) : Int) :: nI (xs.map fun c => min c (v - 2)) = List.filterMap _ (SV.int (x : Int) :: nI xs)
      rw [List.filterMap_cons, ih]
      rfl
  rw [ef]
  refine runL_go (nI xs) _ (by simp [Src.cnt, h]) (fun i => by simp [Src.get, h]) (fun y hy => ?_) (by rw [PySem.sizeLine_eq, List.length_map]; omega)
  obtain ⟨c, hc, rfl⟩ := List.mem_map.mp hy
  refine ⟨_, rfl, rfl, ?_⟩
  show evalE PP cf none b27_1 [v0, v1, some (.int v), v3, v4, v5, v6, some (.int (c : Int))] S = .ok (.int ((min c (v - 2) : Nat) : Int)) S
  by_cases h2 : 2 < v
  · have h2' : (2 : Int) < (v : Int) := by omega
    have e2 : ((min c (v - 2) : Nat) : Int) = if (v : Int) - 2 < (c : Int) then (v : Int) - 2 else (c : Int) := by split <;> omega
    rw [e2]
    simp [b27_1, h2, h2']
  · have h2' : ¬ (2 : Int) < (v : Int) := by omega
    have e2 : ((min c (v - 2) : Nat) : Int) = if (0 : Int) < (c : Int) then 0 else (c : Int) := by split <;> omega
    rw [e2]
    simp [b27_1, h2, h2']
theorem btab_sp {k n v : Nat} {tb : List (List Nat)} {S : Sto} (h : Dr S 1 0 n) (hn : n < 800000000) (ht : TabM v tb) (hl : tb.length = v) (hv0 : 1 ≤ v) (hv : v ≤ 40) :
    ∃ (x : SV) (S' : Sto) (n' : Nat), callD PP (k + 4) 27 [.ref 1, tabS tb, .int v] S = .ok x S' ∧ BadT S' x v ∧ Dr S' 1 0 n' ∧ n' ≤ n + 5 ∧ Ex 1 S S' := by
  have hsl : 1 < S.length := h.lt.1
  have eR := rows_run (cf := callD PP (k + 3)) (tb := tb) (S := S) (v0 := some (.ref 1)) (v2 := some (.int v)) (by omega)
  -- the store behind the rows
  have hlr : (S ++ tb.map fun r => SO.lst (nI r)).length = S.length + v := by simp [hl]
  have rows0 : ∀ i (hi : i < tb.length), (S ++ (tb.map fun r => SO.lst (nI r)) ++ [.lst ((List.range tb.length).map fun i => SV.ref (S.length + i))])[S.length + i]? = some (.lst (nI tb[i])) := fun i hi => by
    rw [List.append_assoc, getA1, List.getElem?_append_left (by simp; exact hi), List.getElem?_map, List.getElem?_eq_getElem hi]; rfl
  have top0 : (S ++ (tb.map fun r => SO.lst (nI r)) ++ [.lst ((List.range tb.length).map fun i => SV.ref (S.length + i))])[S.length + v]? = some (.lst ((List.range tb.length).map fun i => SV.ref (S.length + i))) := by
    rw [← hlr]; exact getA0
  have d0 : Dr (S ++ (tb.map fun r => SO.lst (nI r)) ++ [.lst ((List.range tb.length).map fun i => SV.ref (S.length + i))]) 1 0 n := h.app.app
  have x0 : Ex 1 S (S ++ (tb.map fun r => SO.lst (nI r)) ++ [.lst ((List.range tb.length).map fun i => SV.ref (S.length + i))]) := Ex.app.trans Ex.app
  have eR1 : evalSs PP (callD PP (k + 3)) (b27.tk 1) none [some (.ref 1), some (tabS tb), some (.int v), none, none, none, none, none] S = .nx [some (.ref 1), some (tabS tb), some (.int v), some (.ref (S.length + v)), none, none, none, none] (S ++ (tb.map fun r => SO.lst (nI r)) ++ [.lst ((List.range tb.length).map fun i => SV.ref (S.length + i))]) := by
    rw [← hlr]
    unfold tabS at eR ⊢
    obtain ⟨T, hT⟩ : ∃ T, (tb.map fun r => SV.tup (nI r)) = T := ⟨_, rfl⟩
    rw [hT] at eR ⊢
    simp only [b27, ISs.tk, evalSs, evalS, evalE, evalI, List.getElem?_cons_zero, List.getElem?_cons_succ, R.bind, srcOf, wipeL, List.set_cons_zero, List.set_cons_succ, eR, newL, R.st, tgS]
  generalize hY : S ++ (tb.map fun r => SO.lst (nI r)) ++ [SO.lst ((List.range tb.length).map fun i => SV.ref (S.length + i))] = Y at *
  obtain ⟨r1, S1, hr1, e1, d1, x1, l1⟩ := drw_sp (k := k + 1) i23 i21 d0 (by omega)
  obtain ⟨r2, S2, hr2, e2, d2, x2, l2⟩ := drw_sp (k := k + 1) i23 i21 d1 (by omega)
  have e7 : (r1 : Int) % 7 = ((r1 % 7 : Nat) : Int) := by omega
  have h7 : r1 % 7 < 7 := by omega
  generalize r1 % 7 = pk at *
  have hv0' : (0 : Int) < (v : Int) := by omega
  have eat : (r2 : Int) % (v : Int) = ((r2 % v : Nat) : Int) := (Int.natCast_emod _ _).symm
  have hat := Nat.mod_lt r2 (show 0 < v by omega)
  generalize r2 % v = at_ at *
  have x12 := (x0.trans x1).trans x2
  have rows2 : ∀ i (hi : i < tb.length), S2[S.length + i]? = some (.lst (nI tb[i])) := fun i hi => x2.get (by omega) (x1.get (by omega) (rows0 i hi))
  have top2 : S2[S.length + v]? = some (.lst ((List.range tb.length).map fun i => SV.ref (S.length + i))) := x2.get (by omega) (x1.get (by omega) top0)
  have st3 : evalSs PP (callD PP (k + 3)) ((b27.dr 1).tk 2) none [some (.ref 1), some (tabS tb), some (.int v), some (.ref (S.length + v)), none, none, none, none] Y = .nx [some (.ref 1), some (tabS tb), some (.int v), some (.ref (S.length + v)), some (.int pk), some (.int at_), none, none] S2 := by
    simp [b27, e1, e7, e2, eat, hv0', show 0 < v by omega]
  rw [i27.call rfl]
  show ∃ (x : SV) (S' : Sto) (n' : Nat), fin (evalSs PP (callD PP (k + 3)) b27 none [some (.ref 1), some (tabS tb), some (.int v), none, none, none, none, none] S) = .ok x S' ∧ BadT S' x v ∧ Dr S' 1 0 n' ∧ n' ≤ n + 5 ∧ Ex 1 S S'
  rw [ev_nx 1 eR1, ev_nx 2 st3]
  have fl : ∀ r ∈ tb.map nI, r.all flatS = true := fun r hr => by obtain ⟨c, _, rfl⟩ := List.mem_map.mp hr; exact flat_nI c
  have mapT : (tb.map fun r => SV.tup (nI r)) = (tb.map nI).map SV.tup := by rw [List.map_map]; rfl
  have lT : (tb.map fun r => SV.tup (nI r)).length = v := by rw [List.length_map, hl]
  have rowl : ∀ i (hi : i < tb.length), (nI tb[i]).length = v := fun i hi => by rw [List.length_map, (ht.rw_ _ (List.getElem_mem hi)).1, hl]
  have refsE : (List.range tb.length).map (fun i => SV.ref (S.length + i)) = ((List.range tb.length).map fun i => S.length + i).map SV.ref := by rw [List.map_map]; rfl
  have hcase : pk = 0 ∨ pk = 1 ∨ pk = 2 ∨ pk = 3 ∨ pk = 4 ∨ pk = 5 ∨ pk = 6 := by omega
  rcases hcase with rfl | rfl | rfl | rfl | rfl | rfl | rfl
  · -- a row too many
    have t0 : (tb.map fun r => SV.tup (nI r))[0]? = some (.tup (nI (tb.getD 0 []))) := by
      rw [List.getElem?_map, List.getElem?_eq_getElem (by omega), List.getD_eq_getElem?_getD, List.getElem?_eq_getElem (by omega)]; rfl
    refine ⟨.tup (((tb.map nI) ++ [nI (tb.getD 0 [])]).map SV.tup), S2, _, ?_, badT_tup (fun r hr => ?_) (.inr (by simp; omega)), d2, by omega, x12⟩
    · have z1 : szOk ((tb.map fun r => SV.tup (nI r)).length + 1) = true := szOk_le (by omega)
      rw [List.map_append, ← mapT]
      show _ = R.ok (SV.tup ((tb.map fun r => SV.tup (nI r)) ++ [SV.tup (nI (tb.getD 0 []))])) S2
      unfold tabS
      generalize nI (tb.getD 0 []) = R0 at *
      obtain ⟨T, hT⟩ : ∃ T, (tb.map fun r => SV.tup (nI r)) = T := ⟨_, rfl⟩
      rw [hT] at z1 t0 ⊢
      simp [b27, z1, t0, List.getElem?_cons_zero, List.getElem?_cons_succ, -getElem?_pos]
    · rcases List.mem_append.mp hr with w | w
      · exact fl r w
      · rw [List.mem_singleton.mp w]; exact flat_nI _
  · -- a row too few
    have ct : ∀ q : List SV, cut q none (some ((v : Int) - 1)) = q.take (v - 1) := fun q => by rw [show ((v : Int) - 1) = ((v - 1 : Nat) : Int) by omega]; exact cut_to q _
    refine ⟨.tup (((tb.map nI).take (v - 1)).map SV.tup), S2, _, ?_, badT_tup (fun r hr => fl r (List.mem_of_mem_take hr)) (.inr (by simp; omega)), d2, by omega, x12⟩
    rw [List.map_take, ← mapT]
    unfold tabS
    obtain ⟨T, hT⟩ : ∃ T, (tb.map fun r => SV.tup (nI r)) = T := ⟨_, rfl⟩
    rw [hT]
    simp [b27, slcS, ct]
  · -- a row too long
    have q1 := rows2 at_ (by omega)
    have hra : ((List.range tb.length).map fun i => SV.ref (S.length + i))[at_]? = some (.ref (S.length + at_)) := by
      rw [List.getElem?_map, List.getElem?_range (by omega)]; rfl
    have lR : ((List.range tb.length).map fun i => SV.ref (S.length + i)).length = v := by simp [hl]
    have s2l : S.length + v < S2.length := (List.getElem?_eq_some_iff.mp top2).1
    have hZl : ∀ o : SO, ((S2 ++ [SO.lst [.int 0], .lst (nI tb[at_] ++ [.int 0])]).set (S.length + v) o).length = S2.length + 2 := fun o => by simp
    have eF := btab_end (cf := callD PP (k + 3)) (rr := S.length + v) (refs := ((List.range tb.length).map fun i => S.length + i).set at_ (S2.length + 1)) (rs := (tb.map nI).set at_ (nI tb[at_] ++ [.int 0]))
      (Z := (S2 ++ [SO.lst [.int 0], .lst (nI tb[at_] ++ [.int 0])]).set (S.length + v) (.lst (((List.range tb.length).map fun i => SV.ref (S.length + i)).set at_ (.ref (S2.length + 1))))) (v0 := some (.ref 1)) (v1 := some (tabS tb)) (v2 := some (.int v)) (v4 := some (.int 2)) (v5 := some (.int at_)) (by simp) (by simp; omega) (by rw [List.getElem?_set_self (by simp; omega), List.map_set, ← refsE]) (fun i hi hj => by
        rw [List.getElem_set, List.getElem_set]
        by_cases w : at_ = i
        · rw [if_pos w, if_pos w, List.getElem?_set_ne (by omega), getA1]; rfl
        · rw [if_neg w, if_neg w, List.getElem_map, List.getElem_range, List.getElem_map]
          simp at hi
          rw [List.getElem?_set_ne (by omega), List.getElem?_append_left (by have := (List.getElem?_eq_some_iff.mp (rows2 i (by omega))).1; omega)]
          exact rows2 i (by omega))
    have e3 : evalSs PP (callD PP (k + 3)) (((b27.dr 1).dr 2).tk 3) none [some (.ref 1), some (tabS tb), some (.int v), some (.ref (S.length + v)), some (.int ((2 : Nat) : Int)), some (.int at_), none, none] S2 = .nx [some (.ref 1), some (tabS tb), some (.int v), some (.ref (S.length + v)), some (.int 2), some (.int at_), none, none] ((S2 ++ [SO.lst [.int 0], .lst (nI tb[at_] ++ [.int 0])]).set (S.length + v) (.lst (((List.range tb.length).map fun i => SV.ref (S.length + i)).set at_ (.ref (S2.length + 1))))) := by
      clear eF
      have z1 : szOk ((nI tb[at_]).length + 1) = true := szOk_le (by rw [rowl at_ (by omega)]; omega)
      generalize nI tb[at_] = RA at *
      generalize (List.range tb.length).map (fun i => SV.ref (S.length + i)) = REFS at *
      have top2' : ∀ G : Sto, (S2 ++ G)[S.length + v]? = some (.lst REFS) := fun G => by rw [List.getElem?_append_left s2l]; exact top2
      have q1' : ∀ G : Sto, (S2 ++ G)[S.length + at_]? = some (.lst RA) := fun G => by rw [List.getElem?_append_left (by omega)]; exact q1
      generalize tabS tb = TT at *
      simp [b27, top2, top2', hra, q1, q1', lR, hat, z1, List.getElem?_cons_zero, List.getElem?_cons_succ, -getElem?_pos]
    rw [ev_nx 3 e3]
    refine ⟨_, _, _, eF, badT_tup (fun r hr => ?_) (.inl (tabOk_len (i := at_) (by simp; omega) (by rw [List.getElem_set_self]; simp [rowl at_ (by omega)]; have := rowl at_ (by omega); simp at this; omega))), ((d2.app (G := [SO.lst [.int 0], .lst (nI tb[at_] ++ [.int 0])])).set (i := S.length + v) (o := .lst (((List.range tb.length).map fun i => SV.ref (S.length + i)).set at_ (.ref (S2.length + 1)))) (by omega) (by omega)).app, by omega, ((x12.trans Ex.app).setN (by omega)).trans Ex.app⟩
    rcases List.mem_or_eq_of_mem_set hr with w | w
    · exact fl r w
    · rw [w, List.all_append, flat_nI]; rfl
  · -- an entry that is no value
    obtain ⟨bx, S3, e3, fx, nx, d3, x3⟩ := bnum_sp (k := k) (v := v) d2 (by omega) hv
    obtain ⟨r4, S4, hr4, e4, d4, x4, l4⟩ := drw_sp (k := k + 1) i23 i21 d3 (by omega)
    have ej : (r4 : Int) % (v : Int) = ((r4 % v : Nat) : Int) := (Int.natCast_emod _ _).symm
    have hj := Nat.mod_lt r4 (show 0 < v by omega)
    generalize r4 % v = j at *
    have rows4 : ∀ i (hi : i < tb.length), S4[S.length + i]? = some (.lst (nI tb[i])) := fun i hi => x4.get (by omega) (x3.get (by omega) (rows2 i hi))
    have top4 : S4[S.length + v]? = some (.lst ((List.range tb.length).map fun i => SV.ref (S.length + i))) := x4.get (by omega) (x3.get (by omega) top2)
    have top3 : S3[S.length + v]? = some (.lst ((List.range tb.length).map fun i => SV.ref (S.length + i))) := x3.get (by omega) top2
    have q4 := rows4 at_ (by omega)
    have hra : ((List.range tb.length).map fun i => SV.ref (S.length + i))[at_]? = some (.ref (S.length + at_)) := by
      rw [List.getElem?_map, List.getElem?_range (by omega)]; rfl
    have lR : ((List.range tb.length).map fun i => SV.ref (S.length + i)).length = v := by simp [hl]
    have s4l : S.length + v < S4.length := (List.getElem?_eq_some_iff.mp top4).1
    have eF := btab_end (cf := callD PP (k + 3)) (rr := S.length + v) (refs := (List.range tb.length).map fun i => S.length + i) (rs := (tb.map nI).set at_ ((nI tb[at_]).set j bx))
      (Z := S4.set (S.length + at_) (.lst ((nI tb[at_]).set j bx))) (v0 := some (.ref 1)) (v1 := some (tabS tb)) (v2 := some (.int v)) (v4 := some (.int 3)) (v5 := some (.int at_)) (by simp) (by simp; omega) (by rw [List.getElem?_set_ne (by omega), ← refsE]; exact top4) (fun i hi hj => by
        rw [List.getElem_map, List.getElem_range, List.getElem_set]
        by_cases w : at_ = i
        · subst w
          rw [if_pos rfl, List.getElem?_set_self (by omega)]
        · rw [if_neg w, List.getElem_map]
          simp at hi
          rw [List.getElem?_set_ne (by omega)]
          exact rows4 i (by omega))
    have e5 : evalSs PP (callD PP (k + 3)) (((b27.dr 1).dr 2).tk 3) none [some (.ref 1), some (tabS tb), some (.int v), some (.ref (S.length + v)), some (.int ((3 : Nat) : Int)), some (.int at_), none, none] S2 = .nx [some (.ref 1), some (tabS tb), some (.int v), some (.ref (S.length + v)), some (.int 3), some (.int at_), none, none] (S4.set (S.length + at_) (.lst ((nI tb[at_]).set j bx))) := by
      clear eF
      have lRA : (nI tb[at_]).length = v := rowl at_ (by omega)
      generalize nI tb[at_] = RA at *
      generalize (List.range tb.length).map (fun i => SV.ref (S.length + i)) = REFS at *
      generalize tabS tb = TT at *
      simp [b27, e3, e4, top3, hra, q4, lRA, ej, hj, hv0', show 0 < v by omega, List.getElem?_cons_zero, List.getElem?_cons_succ, -getElem?_pos]
    rw [ev_nx 3 e5]
    have lset : at_ < (tb.map nI).length := by simp; omega
    refine ⟨_, _, _, eF, badT_tup (fun r hr => ?_) (.inl (tabOk_ent (r := (nI tb[at_]).set j bx) (x := bx) (List.mem_iff_getElem.mpr ⟨at_, by simp; omega, List.getElem_set_self _⟩) (List.mem_iff_getElem.mpr ⟨j, by rw [List.length_set, rowl at_ (by omega)]; exact hj, List.getElem_set_self _⟩) nx)), (d4.set (i := S.length + at_) (o := .lst ((nI tb[at_]).set j bx)) (by omega) (by omega)).app, by omega, (((x12.trans x3).trans x4).setN (by omega)).trans Ex.app⟩
    rcases List.mem_or_eq_of_mem_set hr with w | w
    · exact fl r w
    · rw [w]; exact flat_set (flat_nI _) fx
  · -- the rows are lists
    have hsp : (List.range tb.length).map (fun i => SV.ref (S.length + i)) = .ref S.length :: (List.range (v - 1)).map fun i => SV.ref (S.length + (i + 1)) := by
      rw [hl, show v = (v - 1) + 1 by omega, List.range_succ_eq_map]
      simp
    refine ⟨.tup ((List.range tb.length).map fun i => SV.ref (S.length + i)), S2, _, ?_, ?_, d2, by omega, x12⟩
    · generalize (List.range tb.length).map (fun i => SV.ref (S.length + i)) = REFS at *
      generalize tabS tb = TT at *
      simp [b27, top2]
    · rw [hsp]
      exact badT_refs (by have := rows2 0 (by omega); rw [Nat.add_zero] at this; exact this) (by simp; omega)
  · -- a row and a column too few
    have ct : ∀ q : List SV, cut q none (some ((v : Int) - 1)) = q.take (v - 1) := fun q => by rw [show ((v : Int) - 1) = ((v - 1 : Nat) : Int) by omega]; exact cut_to q _
    have s2l : S.length + v < S2.length := (List.getElem?_eq_some_iff.mp top2).1
    have eO : ∃ G, runL (.ls S2.length) (.nm 6) (fun _ S => R.ok true S) (evalE PP (callD PP (k + 3)) none b27_2) [some (.ref 1), some (tabS tb), some (.int v), some (.ref (S.length + v)), some (.int 5), some (.int at_), none, none] (S2 ++ [.lst (((List.range tb.length).map fun i => SV.ref (S.length + i)).take (v - 1))]) =
        .ok (((tb.take (v - 1)).map fun r => nI ((r.take (v - 1)).map fun c => min c (v - 2))).map SV.tup) (S2 ++ (.lst (((List.range tb.length).map fun i => SV.ref (S.length + i)).take (v - 1)) :: G)) := by
      have lt : (((List.range tb.length).map fun i => SV.ref (S.length + i)).take (v - 1)).length = v - 1 := by simp; omega
      refine runL_inv (n := v - 1) (fun i acc S' => i ≤ v - 1 ∧ acc = (((tb.take (v - 1)).take i).map fun r => nI ((r.take (v - 1)).map fun c => min c (v - 2))).map SV.tup ∧ ∃ G, S' = S2 ++ (.lst (((List.range tb.length).map fun i => SV.ref (S.length + i)).take (v - 1)) :: G))
        (Post := fun o => ∃ G, o = .ok (((tb.take (v - 1)).map fun r => nI ((r.take (v - 1)).map fun c => min c (v - 2))).map SV.tup) (S2 ++ (.lst (((List.range tb.length).map fun i => SV.ref (S.length + i)).take (v - 1)) :: G))) ⟨Nat.zero_le _, rfl, [], rfl⟩ ?_ ?_ ?_
      · unfold Src.cnt; rw [getA0]; exact lt
      · rintro i acc S' hi ⟨_, rfl, G, rfl⟩
        have hii : i < tb.length := by omega
        have hit : i < (tb.take (v - 1)).length := by simp; omega
        have hgi : (((List.range tb.length).map fun i => SV.ref (S.length + i)).take (v - 1))[i]? = some (.ref (S.length + i)) := by
          rw [List.getElem?_take, if_pos hi, List.getElem?_map, List.getElem?_range hii]; rfl
        have hrow : ∀ G : Sto, (S2 ++ G)[S.length + i]? = some (.lst (nI tb[i])) := fun G => by rw [List.getElem?_append_left (by omega)]; exact rows2 i hii
        have em := min_run (cf := callD PP (k + 3)) (r := (S2 ++ (SO.lst (((List.range tb.length).map fun i => SV.ref (S.length + i)).take (v - 1)) :: G)).length) (v := v) (xs := tb[i].take (v - 1)) (S := S2 ++ (.lst (((List.range tb.length).map fun i => SV.ref (S.length + i)).take (v - 1)) :: G) ++ [.lst (nI (tb[i].take (v - 1)))]) (v0 := some (.ref 1)) (v1 := some (tabS tb)) (v3 := some (.ref (S.length + v))) (v4 := some (.int 5)) (v5 := some (.int at_)) (v6 := some (.ref (S.length + i))) getA0 (by rw [List.length_take]; omega)
        refine ⟨.ref (S.length + i), _, ?_, rfl, .inr ?_⟩
        · simp only [Src.get]; rw [getA0]; exact congrArg some hgi
        · refine ⟨_, .tup (nI ((tb[i].take (v - 1)).map fun c => min c (v - 2))), S2 ++ (.lst (((List.range tb.length).map fun i => SV.ref (S.length + i)).take (v - 1)) :: G) ++ [.lst (nI (tb[i].take (v - 1))), .lst (nI ((tb[i].take (v - 1)).map fun c => min c (v - 2)))], rfl, ?_, ?_, hi, by rw [← List.take_append_getElem hit, List.map_append, List.map_append, List.getElem_take]; rfl, _, by rw [List.append_assoc]; rfl⟩
          · show evalE PP (callD PP (k + 3)) none b27_2 [some (.ref 1), some (tabS tb), some (.int v), some (.ref (S.length + v)), some (.int 5), some (.int at_), some (.ref (S.length + i)), none] (S2 ++ (.lst (((List.range tb.length).map fun i => SV.ref (S.length + i)).take (v - 1)) :: G)) = _
            have hrow := hrow (.lst (((List.range tb.length).map fun i => SV.ref (S.length + i)).take (v - 1)) :: G)
            have enI : (nI tb[i]).take (v - 1) = nI (tb[i].take (v - 1)) := (nI_take _ _).symm
            generalize S2 ++ (SO.lst (((List.range tb.length).map fun i => SV.ref (S.length + i)).take (v - 1)) :: G) = Y2 at *
            generalize nI ((tb[i].take (v - 1)).map fun c => min c (v - 2)) = Q at *
            rw [← enI] at em ⊢
            generalize nI tb[i] = RI at *
            generalize tabS tb = TT at *
            simp [b27_2, slcS, hrow, ct, em]
          · rw [PySem.sizeLine_eq, List.length_map, List.length_map, List.length_take]; omega
      · rintro acc S' ⟨_, rfl, G, rfl⟩
        have hlt : (tb.take (v - 1)).take (v - 1) = tb.take (v - 1) := by rw [List.take_take, Nat.min_self]
        rw [hlt]
        refine ⟨?_, G, rfl⟩
        simp only [Src.get]
        rw [getA0]
        exact congrArg some (List.getElem?_eq_none (by omega))
    obtain ⟨G, eO⟩ := eO
    refine ⟨.tup (((tb.take (v - 1)).map fun r => nI ((r.take (v - 1)).map fun c => min c (v - 2))).map SV.tup), S2 ++ (.lst (((List.range tb.length).map fun i => SV.ref (S.length + i)).take (v - 1)) :: G) ++ [.lst (((tb.take (v - 1)).map fun r => nI ((r.take (v - 1)).map fun c => min c (v - 2))).map SV.tup)], _, ?_, badT_tup (fun r hr => by obtain ⟨c, _, rfl⟩ := List.mem_map.mp hr; exact flat_nI _) (.inr (by rw [List.length_map, List.length_take]; omega)), d2.app.app, by omega, (x12.trans Ex.app).trans Ex.app⟩
    obtain ⟨RES, hRES⟩ : ∃ R, ((tb.take (v - 1)).map fun r => nI ((r.take (v - 1)).map fun c => min c (v - 2))).map SV.tup = R := ⟨_, rfl⟩
    rw [hRES] at eO ⊢
    generalize (List.range tb.length).map (fun i => SV.ref (S.length + i)) = REFS at *
    generalize tabS tb = TT at *
    simp [b27, slcS, top2, ct, eO]
  · -- a list of rows
    have eF := tups_run (cf := callD PP (k + 3)) (e := b27_3) (rr := S.length + v) (refs := (List.range tb.length).map fun i => S.length + i) (rs := tb.map nI) (S := S2) (v0 := some (.ref 1)) (v1 := some (tabS tb)) (v2 := some (.int v)) (v4 := some (.int 6)) (v5 := some (.int at_)) rfl (by simp) (by simp; omega) (by rw [← refsE]; exact top2) (fun i hi hj => by
      rw [List.getElem_map, List.getElem_range, List.getElem_map]
      exact rows2 i (by simp at hi; omega))
    refine ⟨.ref S2.length, S2 ++ [.lst ((tb.map nI).map SV.tup)], _, ?_, badT_ref getA0, d2.app, by omega, x12.trans Ex.app⟩
    obtain ⟨RES, hRES⟩ : ∃ R, (tb.map nI).map SV.tup = R := ⟨_, rfl⟩
    rw [hRES] at eF ⊢
    generalize (List.range tb.length).map (fun i => SV.ref (S.length + i)) = REFS at *
    generalize tabS tb = TT at *
    simp [b27, top2, eF]
end K37

/-! K37c: spoilt trees, combs, broad trees. -/
namespace K37
open Bi
theorem ld_ne : ¬ (PySem.Str.ofString "leave" = PySem.Str.ofString "leaf") := by decide
theorem Nn_ne : ¬ (PySem.Str.ofString "Node" = PySem.Str.ofString "node") := by decide
theorem ln_ne : ¬ (PySem.Str.ofString "leaf" = PySem.Str.ofString "node") := by decide
theorem bn_leaf {S : Sto} {x : SV} {v : Nat} (f : flatS x = true) (h : isN v x = false) : BadN PP 12 13 S (.tup [.str "leaf", x]) v := fun k G => by
  have e := isN_any (k := k) (m := v) i1 i0 (S := S ++ G) f
  rw [h] at e
  constructor
  · rw [i12.call rfl]; simp [lfB, e]
  · rw [i13.call rfl]; simp [inB]
theorem bn_len {S : Sto} {xs : List SV} {v : Nat} (h2 : xs.length ≠ 2) (h4 : xs.length ≠ 4) : BadN PP 12 13 S (.tup xs) v := fun k G => by
  have h2' : ¬ (xs.length : Int) = 2 := by omega
  have h4' : ¬ (xs.length : Int) = 4 := by omega
  constructor
  · rw [i12.call rfl]; simp [lfB, h2']
  · rw [i13.call rfl]; simp [inB, h4']
theorem bn_word2 {S : Sto} {x : SV} {v : Nat} : BadN PP 12 13 S (.tup [.str "leave", x]) v := fun k G => by
  constructor
  · rw [i12.call rfl]; simp [lfB, ld_ne]
  · rw [i13.call rfl]; simp [inB]
theorem bn_word4 {S : Sto} {x y z : SV} {v : Nat} : BadN PP 12 13 S (.tup [.str "Node", x, y, z]) v := fun k G => by
  constructor
  · rw [i12.call rfl]; simp [lfB]
  · rw [i13.call rfl]; simp [inB, Nn_ne]
theorem bn_flat {S : Sto} {x : SV} {v : Nat} (f : flatS x = true) : BadN PP 12 13 S x v := fun k G => by
  cases x with
  | int i => constructor; (rw [i12.call rfl]; simp [lfB]); (rw [i13.call rfl]; simp [inB])
  | bl b => constructor; (rw [i12.call rfl]; simp [lfB]); (rw [i13.call rfl]; simp [inB])
  | str z => constructor; (rw [i12.call rfl]; simp [lfB]); (rw [i13.call rfl]; simp [inB])
  | non => constructor; (rw [i12.call rfl]; simp [lfB]); (rw [i13.call rfl]; simp [inB])
  | tup xs => cases f
  | ref n => cases f
  | kl xs => cases f
theorem bn_ref {S : Sto} {r v : Nat} {xs : List SV} (h : S[r]? = some (.lst xs)) : BadN PP 12 13 S (.ref r) v := fun k G => by
  have hr : (S ++ G)[r]? = some (.lst xs) := by rw [List.getElem?_append_left (List.getElem?_eq_some_iff.mp h).1]; exact h
  constructor
  · rw [i12.call rfl]; simp [lfB, hr]
  · rw [i13.call rfl]; simp [inB, hr]
theorem BadN.more {S G : Sto} {x : SV} {v : Nat} (h : BadN PP 12 13 S x v) : BadN PP 12 13 (S ++ G) x v := fun k G2 => by
  have := h k (G ++ G2)
  rw [← List.append_assoc] at this
  exact this
/-- the leaf's eight -/
theorem eight {a b c d e f g h : SV} {q : Nat} {Q : SV → Prop} (hq : q < 8) (ha : Q a) (hb : Q b) (hc : Q c) (hd : Q d) (he : Q e) (hf : Q f) (hg : Q g) (hh : Q h) : ∃ x, [a, b, c, d, e, f, g, h][q]? = some x ∧ Q x := by
  match q, hq with
  | 0, _ => exact ⟨a, by simp, ha⟩
  | 1, _ => exact ⟨b, by simp, hb⟩
  | 2, _ => exact ⟨c, by simp, hc⟩
  | 3, _ => exact ⟨d, by simp, hd⟩
  | 4, _ => exact ⟨e, by simp, he⟩
  | 5, _ => exact ⟨f, by simp, hf⟩
  | 6, _ => exact ⟨g, by simp, hg⟩
  | 7, _ => exact ⟨h, by simp, hh⟩
  | n + 8, w => omega
theorem spoilt_sp {v : Nat} (hv0 : 1 ≤ v) (hv : v ≤ 40) : ∀ (t : Tr) (k n : Nat) (S : Sto), WT v t → Dr S 1 0 n → n + 20 * dpt t < 700000000 →
    ∃ (s : SpT) (S' : Sto) (n' : Nat), callD PP (k + 5 + dpt t) 28 [.ref 1, trS t, .int v] S = .ok (spT s) S' ∧ SOk PP 12 13 S' v s ∧ Dr S' 1 0 n' ∧ n' ≤ n + 20 * dpt t ∧ Ex 1 S S' ∧ stpS s ≤ stp t := by
  intro t
  induction t with
  | leaf w =>
    intro k n S hw d hn
    have hdp : dpt (.leaf w) = 1 := rfl
    rw [hdp] at hn ⊢
    obtain ⟨x, S1, e1, fx, nx, d1, x1⟩ := bnum_sp (k := k + 2) (v := v) d (by omega) hv
    obtain ⟨r, S2, hr, e2, d2, x2, l2⟩ := drw_sp (k := k + 3) i23 i21 (S := S1 ++ [.lst [.str "leaf", .int 0], .lst [.tup [.str "leaf", x], .tup [.str "leaf"], .tup [.str "leaf", .int 0, .int 0], .ref S1.length, .tup [.str "leave", .int 0], .non, .tup [], .int 5]]) d1.app (by omega)
    have s1 : 1 < S1.length := d1.lt.1
    have g1 : S2[S1.length]? = some (.lst [.str "leaf", .int 0]) := x2.get (by omega) getA0
    have g2 : S2[S1.length + 1]? = some (.lst [.tup [.str "leaf", x], .tup [.str "leaf"], .tup [.str "leaf", .int 0, .int 0], .ref S1.length, .tup [.str "leave", .int 0], .non, .tup [], .int 5]) := x2.get (by omega) (by rw [getA1]; rfl)
    have er : (r : Int) % 8 = ((r % 8 : Nat) : Int) := by omega
    obtain ⟨y, ey, by_⟩ := eight (Q := fun y => BadN PP 12 13 S2 y v) (show r % 8 < 8 by omega) (bn_leaf fx nx) (bn_len (xs := [.str "leaf"]) (by simp) (by simp)) (bn_len (xs := [.str "leaf", .int 0, .int 0]) (by simp) (by simp)) (bn_ref g1) (bn_word2 (x := .int 0)) (bn_flat (x := .non) rfl) (bn_len (xs := []) (by simp) (by simp)) (bn_flat (x := .int 5) rfl)
    generalize r % 8 = q at *
    refine ⟨.bad y, S2, n + 1 + 1, ?_, by_, d2, by omega, (x1.trans Ex.app).trans x2, Nat.le_refl _⟩
    rw [show k + 5 + 1 = (k + 5) + 1 by omega, i28.call rfl]
    show _ = R.ok y S2
    simp [b28, trS, e1, e2, er, g2, ey, List.getElem?_cons_zero, List.getElem?_cons_succ, -getElem?_pos]
  | node tb a b iha ihb =>
    intro k n S hw d hn
    have hw' := hw
    unfold WT at hw'
    obtain ⟨⟨h1, h2⟩, wa, wb⟩ := hw'
    have hdp : dpt (.node tb a b) = max (dpt a) (dpt b) + 1 := rfl
    rw [hdp] at hn ⊢
    obtain ⟨r, S1, hr, e1, d1, x1, l1⟩ := drw_sp (k := k + 3 + max (dpt a) (dpt b)) i23 i21 d (by omega)
    have er : (r : Int) % 8 = ((r % 8 : Nat) : Int) := by omega
    have hr8 : r % 8 < 8 := by omega
    generalize r % 8 = pk at *
    have e1 : callD PP (k + 5 + max (dpt a) (dpt b)) 23 [.ref 1] S = .ok (.int r) S1 := by rw [show k + 5 + max (dpt a) (dpt b) = k + 3 + max (dpt a) (dpt b) + 2 by omega]; exact e1
    rw [show k + 5 + (max (dpt a) (dpt b) + 1) = (k + 5 + max (dpt a) (dpt b)) + 1 by omega, i28.call rfl]
    have t0 : ∀ Z, idxS (trS (.node tb a b)) (.int 0) Z = .ok (.str "node") Z := fun Z => by simp [trS]
    have t1 : ∀ Z, idxS (trS (.node tb a b)) (.int 1) Z = .ok (tabS tb) Z := fun Z => by simp [trS]
    have t2 : ∀ Z, idxS (trS (.node tb a b)) (.int 2) Z = .ok (trS a) Z := fun Z => by simp [trS]
    have t3 : ∀ Z, idxS (trS (.node tb a b)) (.int 3) Z = .ok (trS b) Z := fun Z => by simp [trS]
    have c3 : cut [.str "node", tabS tb, trS a, trS b] none (some 3) = [.str "node", tabS tb, trS a] := cut_to _ 3
    have c1 : cut [.str "node", tabS tb, trS a, trS b] (some 1) none = [tabS tb, trS a, trS b] := cut_from _ 1
    have c2 : cut [.str "node", tabS tb, trS a, trS b] (some 2) none = [trS a, trS b] := cut_from _ 2
    have et : trS (.node tb a b) = .tup [.str "node", tabS tb, trS a, trS b] := rfl
    show ∃ (s : SpT) (S' : Sto) (n' : Nat), fin (evalSs PP (callD PP (k + 5 + max (dpt a) (dpt b))) b28 none [some (.ref 1), some (trS (.node tb a b)), some (.int v), none, none, none] S) = .ok (spT s) S' ∧ SOk PP 12 13 S' v s ∧ Dr S' 1 0 n' ∧ n' ≤ n + 20 * (max (dpt a) (dpt b) + 1) ∧ Ex 1 S S' ∧ stpS s ≤ stp (.node tb a b)
    by_cases p3 : pk < 3
    · have p3' : (pk : Int) < 3 := by omega
      obtain ⟨r2, S2, hr2, e2, d2, x2, l2⟩ := drw_sp (k := k + 3 + max (dpt a) (dpt b)) i23 i21 d1 (by omega)
      have e2 : callD PP (k + 5 + max (dpt a) (dpt b)) 23 [.ref 1] S1 = .ok (.int r2) S2 := by rw [show k + 5 + max (dpt a) (dpt b) = k + 3 + max (dpt a) (dpt b) + 2 by omega]; exact e2
      rcases (show r2 % 2 = 0 ∨ r2 % 2 = 1 by omega) with z | z
      · have z' : (r2 : Int) % 2 = 0 := by omega
        obtain ⟨s, S3, n3, e3, so, d3, hn3, x3, hst⟩ := iha (k + (max (dpt a) (dpt b) - dpt a)) (n + 1 + 1) S2 wa d2 (by omega)
        have e3 : callD PP (k + 5 + max (dpt a) (dpt b)) 28 [.ref 1, trS a, .int v] S2 = .ok (spT s) S3 := by rw [show k + 5 + max (dpt a) (dpt b) = k + (max (dpt a) (dpt b) - dpt a) + 5 + dpt a by omega]; exact e3
        refine ⟨.l tb s b, S3, n3, ?_, ⟨⟨h1, h2⟩, so⟩, d3, by omega, (x1.trans x2).trans x3, by show stpS s + 1 ≤ stp a + stp b + 2; omega⟩
        show _ = R.ok (SV.tup [.str "node", tabS tb, spT s, trS b]) S3
        generalize trS (.node tb a b) = V at *
        generalize tabS tb = TB at *
        generalize spT s = SS at *
        generalize trS a = A at *
        generalize trS b = B at *
        simp [b28, t0, t1, t2, t3, nl_ne, e1, er, p3', e2, z', e3]
      · have z' : (r2 : Int) % 2 = 1 := by omega
        obtain ⟨s, S3, n3, e3, so, d3, hn3, x3, hst⟩ := ihb (k + (max (dpt a) (dpt b) - dpt b)) (n + 1 + 1) S2 wb d2 (by omega)
        have e3 : callD PP (k + 5 + max (dpt a) (dpt b)) 28 [.ref 1, trS b, .int v] S2 = .ok (spT s) S3 := by rw [show k + 5 + max (dpt a) (dpt b) = k + (max (dpt a) (dpt b) - dpt b) + 5 + dpt b by omega]; exact e3
        refine ⟨.r tb a s, S3, n3, ?_, ⟨⟨h1, h2⟩, wa, so⟩, d3, by omega, (x1.trans x2).trans x3, by show stpS s + stp a + 1 ≤ stp a + stp b + 2; omega⟩
        show _ = R.ok (SV.tup [.str "node", tabS tb, trS a, spT s]) S3
        generalize trS (.node tb a b) = V at *
        generalize tabS tb = TB at *
        generalize spT s = SS at *
        generalize trS a = A at *
        generalize trS b = B at *
        simp [b28, t0, t1, t2, t3, nl_ne, e1, er, p3', e2, z', e3]
    · have p3' : ¬ (pk : Int) < 3 := by omega
      have hcase : pk = 3 ∨ pk = 4 ∨ pk = 5 ∨ pk = 6 ∨ pk = 7 := by omega
      rw [et] at t0 t1 t2 t3 ⊢
      rcases hcase with rfl | rfl | rfl | rfl | rfl
      · refine ⟨.bad (.tup [.str "node", tabS tb, trS a]), S1, n + 1, ?_, bn_len (by simp) (by simp), d1, by omega, x1, by show 1 ≤ stp a + stp b + 2; omega⟩
        show _ = R.ok (SV.tup [.str "node", tabS tb, trS a]) S1
        generalize tabS tb = TB at *
        generalize trS a = A at *
        generalize trS b = B at *
        simp [b28, nl_ne, e1, er, slcS, c3]
      · refine ⟨.bad (.tup [.str "node", tabS tb, trS a, trS b, trS a]), S1, n + 1, ?_, bn_len (by simp) (by simp), d1, by omega, x1, by show 1 ≤ stp a + stp b + 2; omega⟩
        show _ = R.ok (SV.tup [.str "node", tabS tb, trS a, trS b, trS a]) S1
        generalize tabS tb = TB at *
        generalize trS a = A at *
        generalize trS b = B at *
        simp [b28, nl_ne, e1, er]
      · refine ⟨.bad (.tup [.str "Node", tabS tb, trS a, trS b]), S1, n + 1, ?_, bn_word4, d1, by omega, x1, by show 1 ≤ stp a + stp b + 2; omega⟩
        show _ = R.ok (SV.tup [.str "Node", tabS tb, trS a, trS b]) S1
        generalize tabS tb = TB at *
        generalize trS a = A at *
        generalize trS b = B at *
        simp [b28, nl_ne, e1, er, slcS, c1]
      · refine ⟨.bad (.ref S1.length), S1 ++ [.lst [.str "node", tabS tb, trS a, trS b]], n + 1, ?_, bn_ref getA0, d1.app, by omega, x1.trans Ex.app, by show 1 ≤ stp a + stp b + 2; omega⟩
        show _ = R.ok (SV.ref S1.length) (S1 ++ [SO.lst [.str "node", tabS tb, trS a, trS b]])
        generalize tabS tb = TB at *
        generalize trS a = A at *
        generalize trS b = B at *
        simp [b28, nl_ne, e1, er]
      · obtain ⟨x, S2, n2, e2, bt, d2, hn2, x2⟩ := btab_sp (k := k + 1 + max (dpt a) (dpt b)) d1 (by omega) h1 h2 hv0 hv
        have e2 : callD PP (k + 5 + max (dpt a) (dpt b)) 27 [.ref 1, tabS tb, .int v] S1 = .ok x S2 := by rw [show k + 5 + max (dpt a) (dpt b) = k + 1 + max (dpt a) (dpt b) + 4 by omega]; exact e2
        refine ⟨.bad (.tup [.str "node", x, trS a, trS b]), S2, n2, ?_, badN_tab bt, d2, by omega, x1.trans x2, by show 1 ≤ stp a + stp b + 2; omega⟩
        show _ = R.ok (SV.tup [.str "node", x, trS a, trS b]) S2
        generalize tabS tb = TB at *
        generalize trS a = A at *
        generalize trS b = B at *
        simp [b28, nl_ne, e1, er, slcS, c2, e2]
/-! ### combs -/
def cmb : Nat → Tr
  | 0 => .leaf 0
  | j + 1 => if j % 2 = 0 then .node [[0, 1], [1, 0]] (cmb j) (.leaf 1) else .node [[0, 1], [1, 0]] (.leaf 1) (cmb j)
theorem tab2 : TabM 2 [[0, 1], [1, 0]] := ⟨by decide, by decide, fun r hr => by
  simp at hr
  rcases hr with rfl | rfl <;> exact ⟨rfl, fun c hc => by simp at hc; omega⟩⟩
theorem tab2' : TabM 2 [[1, 0], [0, 1]] := ⟨by decide, by decide, fun r hr => by
  simp at hr
  rcases hr with rfl | rfl <;> exact ⟨rfl, fun c hc => by simp at hc; omega⟩⟩
theorem cmb_ok : ∀ j, WT 2 (cmb j) ∧ dpt (cmb j) = j + 1 ∧ nds (cmb j) = 2 * j + 1
  | 0 => ⟨by show 0 < 2; decide, rfl, rfl⟩
  | j + 1 => by
    obtain ⟨h1, h2, h3⟩ := cmb_ok j
    unfold cmb
    split
    · refine ⟨⟨⟨tab2, rfl⟩, h1, by show 1 < 2; decide⟩, ?_, ?_⟩
      · show max (dpt (cmb j)) 1 + 1 = _; omega
      · show nds (cmb j) + 1 + 1 = _; omega
    · refine ⟨⟨⟨tab2, rfl⟩, by show 1 < 2; decide, h1⟩, ?_, ?_⟩
      · show max 1 (dpt (cmb j)) + 1 = _; omega
      · show 1 + nds (cmb j) + 1 = _; omega
theorem cmb_e0 {j : Nat} (q : j % 2 = 0) : trS (cmb (j + 1)) = .tup [.str "node", .tup [.tup [.int 0, .int 1], .tup [.int 1, .int 0]], trS (cmb j), .tup [.str "leaf", .int 1]] := by
  show trS (if j % 2 = 0 then Tr.node [[0, 1], [1, 0]] (cmb j) (.leaf 1) else .node [[0, 1], [1, 0]] (.leaf 1) (cmb j)) = _
  rw [if_pos q]; rfl
theorem cmb_e1 {j : Nat} (q : ¬ j % 2 = 0) : trS (cmb (j + 1)) = .tup [.str "node", .tup [.tup [.int 0, .int 1], .tup [.int 1, .int 0]], .tup [.str "leaf", .int 1], trS (cmb j)] := by
  show trS (if j % 2 = 0 then Tr.node [[0, 1], [1, 0]] (cmb j) (.leaf 1) else .node [[0, 1], [1, 0]] (.leaf 1) (cmb j)) = _
  rw [if_neg q]; rfl
theorem comb_sp {k n : Nat} {S : Sto} (h1 : 1 ≤ n) (h2 : n ≤ 1000) : callD PP (k + 1) 29 [.int n] S = .ok (trS (cmb (n - 1))) S := by
  have hr : ∃ w2, runF (.vs (rgI 0 (n - 1) 1)) (.nm 2) (evalSs PP (callD PP k) b29_0 none) [some (.int n), some (trS (cmb 0)), none] S = .nx [some (.int n), some (trS (cmb (n - 1))), w2] S := by
    refine run_r0 (fun j L S' => S' = S ∧ ∃ w2, L = [some (.int n), some (trS (cmb j)), w2]) (Post := fun o => ∃ w2, o = .nx [some (.int n), some (trS (cmb (n - 1))), w2] S) ⟨rfl, none, rfl⟩ ?_ ?_
    · rintro j L S' hj ⟨rfl, w2, rfl⟩
      refine ⟨_, rfl, ?_⟩
      have em : (j : Int) % 2 = ((j % 2 : Nat) : Int) := by omega
      show Step (evalSs PP (callD PP k) b29_0 none [some (.int n), some (trS (cmb j)), some (.int (j : Int))] S') _ _
      have e : evalSs PP (callD PP k) b29_0 none [some (.int n), some (trS (cmb j)), some (.int (j : Int))] S' = .nx [some (.int n), some (trS (cmb (j + 1))), some (.int (j : Int))] S' := by
        by_cases q : j % 2 = 0
        · have q' : (j : Int) % 2 = 0 := by omega
          rw [cmb_e0 q]
          generalize trS (cmb j) = V at *
          simp [b29_0, q']
        · have q' : ¬ (j : Int) % 2 = 0 := by omega
          have q2 : (j : Int) % 2 = 1 := by omega
          rw [cmb_e1 q]
          generalize trS (cmb j) = V at *
          simp [b29_0, q', q2]
      rw [e]
      exact ⟨rfl, _, rfl⟩
    · rintro L S' ⟨rfl, w2, rfl⟩; exact ⟨w2, rfl⟩
  obtain ⟨w2, e⟩ := hr
  rw [i29.call rfl]
  have sm : smallI ((n : Int) - 1) = true := by rw [show ((n : Int) - 1) = ((n - 1 : Nat) : Int) by omega]; exact smallI_len (by omega)
  have tn : ((n : Int) - 1).toNat = n - 1 := by omega
  have e : runF (.vs (rgI 0 (n - 1) 1)) (.nm 2) (evalSs PP (callD PP k) b29_0 none) [some (.int n), some (.tup [.str "leaf", .int 0]), none] S = _ := e
  generalize trS (cmb (n - 1)) = V at *
  simp [b29, sm, tn, e]
end K37

/-! K37d: broad trees; what is refused. -/
namespace K37
open Bi
/-! ### broad trees -/
def tot (ts : List Tr) : Nat := (ts.map fun t => nds t + 1).sum
theorem tot_app (as bs : List Tr) : tot (as ++ bs) = tot as + tot bs := by simp [tot]
def Row (m D w : Nat) (ts : List Tr) : Prop := ts.length = m ∧ tot ts = w ∧ ∀ t ∈ ts, WT 2 t ∧ dpt t ≤ D
theorem trS_node (tb : List (List Nat)) (a b : Tr) : trS (.node tb a b) = .tup [.str "node", tabS tb, trS a, trS b] := rfl
/-- one turn's inner loop -/
theorem pair_run {cf : Nat → List SV → Sto → R SV} {m D w r : Nat} {ts : List Tr} {S : Sto} {v0 v2 v4 : Option SV} (h : Row m D w ts) (hr : S[r]? = some (.lst (ts.map trS))) (hm : m ≤ 1000) (hD : 1 ≤ D) :
    ∃ (ps : List Tr) (w4 : Option SV), runF (.vs (rgI 0 ((m + 1) / 2) 1)) (.nm 4) (evalSs PP cf b30_1 none) [v0, some (.ref r), v2, some (.ref S.length), v4] (S ++ [.lst []]) = .nx [v0, some (.ref r), v2, some (.ref S.length), w4] (S ++ [.lst (ps.map trS)]) ∧ Row ((m + 1) / 2) (D + 1) w ps := by
  obtain ⟨hl, ht, ha⟩ := h
  have rl : r < S.length := (List.getElem?_eq_some_iff.mp hr).1
  refine run_r0 (fun j L S' => j ≤ (m + 1) / 2 ∧ ∃ (ps : List Tr) (w4 : Option SV), L = [v0, some (.ref r), v2, some (.ref S.length), w4] ∧ S' = S ++ [.lst (ps.map trS)] ∧ Row j (D + 1) (tot (ts.take (2 * j))) ps)
    (Post := fun o => ∃ (ps : List Tr) (w4 : Option SV), o = .nx [v0, some (.ref r), v2, some (.ref S.length), w4] (S ++ [.lst (ps.map trS)]) ∧ Row ((m + 1) / 2) (D + 1) w ps)
    ⟨Nat.zero_le _, [], v4, rfl, rfl, rfl, by simp [tot], fun t h => by simp at h⟩ ?_ ?_
  · rintro j L S' hj ⟨_, ps, w4, rfl, rfl, h1, h2, h3⟩
    refine ⟨_, rfl, ?_⟩
    show Step (evalSs PP cf b30_1 none [v0, some (.ref r), v2, some (.ref S.length), some (.int (j : Int))] _) _ _
    have hr' : (S ++ [SO.lst (ps.map trS)])[r]? = some (.lst (ts.map trS)) := by rw [List.getElem?_append_left rl]; exact hr
    have hL : (S ++ [SO.lst (ps.map trS)])[S.length]? = some (.lst (ps.map trS)) := getA0
    have hset : ∀ X, (S ++ [SO.lst (ps.map trS)]).set S.length X = S ++ [X] := fun X => by simp
    have hj2 : 2 * j < ts.length := by omega
    have i2 : (2 * (j : Int)) = ((2 * j : Nat) : Int) := by omega
    have g0 : (ts.map trS)[2 * j]? = some (trS ts[2 * j]) := by rw [List.getElem?_map, List.getElem?_eq_getElem hj2]; rfl
    have hlen : ((ts.map trS).length : Int) = (m : Nat) := by rw [List.length_map, hl]
    have hz : (ps.map trS).length ≤ 1000 := by rw [List.length_map]; omega
    by_cases q : 2 * j + 1 < m
    · have hj3 : 2 * j + 1 < ts.length := by omega
      have g1 : (ts.map trS)[2 * j + 1]? = some (trS ts[2 * j + 1]) := by rw [List.getElem?_map, List.getElem?_eq_getElem hj3]; rfl
      have q' : (2 * (j : Int) + 1) < (m : Int) := by omega
      have i3 : (2 * (j : Int) + 1) = ((2 * j + 1 : Nat) : Int) := by omega
      have e : evalSs PP cf b30_1 none [v0, some (.ref r), v2, some (.ref S.length), some (.int (j : Int))] (S ++ [.lst (ps.map trS)]) = .nx [v0, some (.ref r), v2, some (.ref S.length), some (.int (j : Int))] (S ++ [.lst ((ps ++ [Tr.node [[1, 0], [0, 1]] ts[2 * j] ts[2 * j + 1]]).map trS)]) := by
        rw [List.map_append, List.map_cons, List.map_nil, trS_node]
        show _ = O.nx _ (S ++ [SO.lst (ps.map trS ++ [SV.tup [.str "node", .tup [.tup [.int 1, .int 0], .tup [.int 0, .int 1]], trS ts[2 * j], trS ts[2 * j + 1]]])])
        generalize trS ts[2 * j] = A at *
        generalize trS ts[2 * j + 1] = B at *
        generalize ts.map trS = TS at *
        generalize ps.map trS = PS at *
        have sz : szOk (PS.length + 1) = true := decide_eq_true (by rw [PySem.sizeLine_eq]; omega)
        obtain ⟨q2, hq2⟩ : ∃ x, x = 2 * j := ⟨_, rfl⟩
        obtain ⟨q3, hq3⟩ : ∃ x, x = 2 * j + 1 := ⟨_, rfl⟩
        have i2 : 2 * (j : Int) = (q2 : Int) := by omega
        have mo : mulOk 2 (j : Int) = true := mulOk_of (by decide) (by omega)
        have i3 : (q2 : Int) + 1 = (q3 : Int) := by omega
        have q' : (q3 : Int) < (m : Int) := by omega
        rw [← hq2] at g0
        rw [← hq3] at g1
        simp only [b30_1]
        simp [mo, hr', hL, hlen, i2, i3, q', g0, g1, hset, sz]
      rw [e]
      refine ⟨by omega, _, _, rfl, rfl, by simp; omega, ?_, ?_⟩
      · rw [tot_app, h2, show 2 * (j + 1) = 2 * j + 1 + 1 by omega, ← List.take_append_getElem hj3, ← List.take_append_getElem hj2, tot_app, tot_app]
        simp [tot, nds]
        omega
      · intro t ht'
        rcases List.mem_append.mp ht' with x | x
        · exact h3 t x
        · rw [List.mem_singleton.mp x]
          obtain ⟨a1, a2⟩ := ha _ (List.getElem_mem hj2)
          obtain ⟨b1, b2⟩ := ha _ (List.getElem_mem hj3)
          exact ⟨⟨⟨tab2', rfl⟩, a1, b1⟩, by show max _ _ + 1 ≤ _; omega⟩
    · have q' : ¬ (2 * (j : Int) + 1) < (m : Int) := by omega
      have e : evalSs PP cf b30_1 none [v0, some (.ref r), v2, some (.ref S.length), some (.int (j : Int))] (S ++ [.lst (ps.map trS)]) = .nx [v0, some (.ref r), v2, some (.ref S.length), some (.int (j : Int))] (S ++ [.lst ((ps ++ [ts[2 * j]]).map trS)]) := by
        rw [List.map_append, List.map_cons, List.map_nil]
        generalize trS ts[2 * j] = A at *
        generalize ts.map trS = TS at *
        generalize ps.map trS = PS at *
        have sz : szOk (PS.length + 1) = true := decide_eq_true (by rw [PySem.sizeLine_eq]; omega)
        simp only [b30_1]
        obtain ⟨q2, hq2⟩ : ∃ x, x = 2 * j := ⟨_, rfl⟩
        have i2 : 2 * (j : Int) = (q2 : Int) := by omega
        have mo : mulOk 2 (j : Int) = true := mulOk_of (by decide) (by omega)
        have q' : ¬ (q2 : Int) + 1 < (m : Int) := by omega
        rw [← hq2] at g0
        simp [mo, i2, hr', hL, hlen, q', g0, hset, sz]
      rw [e]
      refine ⟨by omega, _, _, rfl, rfl, by simp; omega, ?_, ?_⟩
      · rw [tot_app, h2, show 2 * (j + 1) = ts.length + 1 by omega, List.take_of_length_le (l := ts) (i := ts.length + 1) (Nat.le_succ _)]
        have : ts = ts.take (2 * j) ++ [ts[2 * j]] := by rw [List.take_append_getElem hj2]; exact (List.take_of_length_le (by omega)).symm
        have t2 := congrArg tot this
        rw [tot_app] at t2
        exact t2.symm
      · intro t ht'
        rcases List.mem_append.mp ht' with x | x
        · exact h3 t x
        · rw [List.mem_singleton.mp x]
          obtain ⟨a1, a2⟩ := ha _ (List.getElem_mem hj2)
          exact ⟨a1, by omega⟩
  · rintro L S' ⟨_, ps, w4, rfl, rfl, h1, h2, h3⟩
    exact ⟨ps, w4, rfl, h1, by rw [h2, List.take_of_length_le (by omega), ht], h3⟩
def hvN (n : Nat) : Nat → Nat
  | 0 => n
  | t + 1 => (hvN n t + 1) / 2
theorem hvN_le (n : Nat) : ∀ t, n ≤ 1000 → hvN n t ≤ 1000
  | 0, h => h
  | t + 1, h => by have := hvN_le n t h; show (hvN n t + 1) / 2 ≤ 1000; omega
theorem hvN8 {n : Nat} (h1 : 99 ≤ n) (h2 : n ≤ 101) : hvN n 8 = 1 := by
  have : n = 99 ∨ n = 100 ∨ n = 101 := by omega
  rcases this with rfl | rfl | rfl <;> rfl
theorem lv_run {cf : Nat → List SV → Sto → R SV} {n : Nat} {S : Sto} {v0 v1 v2 v3 v4 : Option SV} (hn : n ≤ 1000) :
    runL (.vs (rgI 0 n 1)) (.nm 4) (fun _ S => R.ok true S) (evalE PP cf none b30_0) [v0, v1, v2, v3, v4] S = .ok (((List.range n).map fun k => Tr.leaf (k % 2)).map trS) S := by
  refine runL_inv (n := n) (fun i acc S' => i ≤ n ∧ acc = ((List.range i).map fun k => Tr.leaf (k % 2)).map trS ∧ S' = S) (Post := fun o => o = .ok (((List.range n).map fun k => Tr.leaf (k % 2)).map trS) S)
    ⟨Nat.zero_le _, rfl, rfl⟩ (by simp [Src.cnt, rgI]) ?_ ?_
  · rintro i acc S' hi ⟨_, rfl, rfl⟩
    refine ⟨.int (i : Int), _, ?_, rfl, .inr ⟨S', trS (.leaf (i % 2)), S', rfl, ?_, ?_, hi, by rw [List.range_succ, List.map_append, List.map_append]; rfl, rfl⟩⟩
    · show some (rgI 0 n 1)[i]? = _
      rw [rgI_get, if_pos hi]; simp
    · show evalE PP cf none b30_0 [v0, v1, v2, v3, some (.int (i : Int))] S' = _
      have em : (i : Int) % 2 = ((i % 2 : Nat) : Int) := by omega
      show _ = R.ok (SV.tup [.str "leaf", .int ((i % 2 : Nat) : Int)]) S'
      rw [← em]
      simp [b30_0]
    · rw [PySem.sizeLine_eq, List.length_map, List.length_map, List.length_range]; omega
  · rintro acc S' ⟨_, rfl, rfl⟩
    refine ⟨?_, rfl⟩
    show some (rgI 0 n 1)[n]? = _
    rw [rgI_get, if_neg (Nat.lt_irrefl _)]
theorem tot_lv : ∀ (xs : List Nat), tot (xs.map fun k => Tr.leaf (k % 2)) = 2 * xs.length
  | [] => rfl
  | x :: xs => by
    have := tot_lv xs
    show (1 + 1) + tot (xs.map fun k => Tr.leaf (k % 2)) = 2 * (xs.length + 1)
    omega
theorem broad_sp {k n : Nat} {S : Sto} (h1 : 99 ≤ n) (h2 : n ≤ 101) : ∃ (t : Tr) (G : Sto), callD PP (k + 1) 30 [.int n] S = .ok (trS t) (S ++ G) ∧ WT 2 t ∧ dpt t ≤ 9 ∧ nds t = 2 * n - 1 := by
  have e0 := lv_run (cf := callD PP k) (v0 := some (.int (n : Int))) (v1 := none) (v2 := none) (v3 := none) (v4 := none) (n := n) (S := S) (by omega)
  obtain ⟨T0, hT0⟩ : ∃ T, T = (List.range n).map fun k => Tr.leaf (k % 2) := ⟨_, rfl⟩
  have r0 : Row n 1 (2 * n) T0 := ⟨by rw [hT0]; simp, by rw [hT0, tot_lv, List.length_range], fun t ht => by
    rw [hT0] at ht
    obtain ⟨x, _, rfl⟩ := List.mem_map.mp ht
    exact ⟨Nat.mod_lt _ (by decide), Nat.le_refl _⟩⟩
  rw [← hT0] at e0
  have hr : ∃ (r : Nat) (ts : List Tr) (w2 w3 w4 : Option SV) (G : Sto), runF (.vs (rgI 0 8 1)) (.nm 2) (evalSs PP (callD PP k) b30_2 none) [some (.int n), some (.ref S.length), none, none, none] (S ++ [.lst (T0.map trS)]) = .nx [some (.int n), some (.ref r), w2, w3, w4] (S ++ G) ∧ (S ++ G)[r]? = some (.lst (ts.map trS)) ∧ Row (hvN n 8) 9 (2 * n) ts := by
    refine run_r0 (fun j L S' => j ≤ 8 ∧ ∃ (r : Nat) (ts : List Tr) (w2 w3 w4 : Option SV) (G : Sto), L = [some (.int n), some (.ref r), w2, w3, w4] ∧ S' = S ++ G ∧ S'[r]? = some (.lst (ts.map trS)) ∧ Row (hvN n j) (j + 1) (2 * n) ts)
      (Post := fun o => ∃ (r : Nat) (ts : List Tr) (w2 w3 w4 : Option SV) (G : Sto), o = .nx [some (.int n), some (.ref r), w2, w3, w4] (S ++ G) ∧ (S ++ G)[r]? = some (.lst (ts.map trS)) ∧ Row (hvN n 8) 9 (2 * n) ts)
      ⟨Nat.zero_le _, S.length, T0, none, none, none, _, rfl, rfl, getA0, r0⟩ ?_ ?_
    · rintro j L S' hj ⟨_, r, ts, w2, w3, w4, G, rfl, rfl, hg, hrow⟩
      refine ⟨_, rfl, ?_⟩
      show Step (evalSs PP (callD PP k) b30_2 none [some (.int n), some (.ref r), some (.int (j : Int)), w3, w4] (S ++ G)) _ _
      have hm := hvN_le n j (by omega)
      obtain ⟨ps, w4', ep, hrow'⟩ := pair_run (cf := callD PP k) (v0 := some (.int (n : Int))) (v2 := some (.int (j : Int))) (v4 := w4) hrow hg hm (by omega)
      have hl : ((ts.map trS).length : Int) = (hvN n j : Nat) := by rw [List.length_map, hrow.1]
      have hlt : (ts.map trS).length ≤ 1000 := by rw [List.length_map, hrow.1]; exact hm
      have rl : r < (S ++ G).length := (List.getElem?_eq_some_iff.mp hg).1
      have hg' : (S ++ G ++ [SO.lst []])[r]? = some (.lst (ts.map trS)) := by rw [List.getElem?_append_left rl]; exact hg
      have e : evalSs PP (callD PP k) b30_2 none [some (.int n), some (.ref r), some (.int (j : Int)), w3, w4] (S ++ G) = .nx [some (.int n), some (.ref (S ++ G).length), some (.int (j : Int)), some (.ref (S ++ G).length), w4'] (S ++ G ++ [.lst (ps.map trS)]) := by
        generalize S ++ G = Z at *
        generalize ts.map trS = TS at *
        generalize ps.map trS = PS at *
        obtain ⟨m2, hm2⟩ : ∃ m2, m2 = (hvN n j + 1) / 2 := ⟨_, rfl⟩
        have hm2' : ((hvN n j : Nat) + 1 : Int) / 2 = (m2 : Int) := by omega
        have sm : smallI (m2 : Int) = true := smallI_len (by omega)
        rw [← hm2] at ep
        have dv : divOk 2 = true := by decide
        simp [b30_2, hg', hl, hlt, hm2', sm, dv, ep]
      rw [e]
      refine ⟨by omega, (S ++ G).length, ps, _, _, _, G ++ [.lst (ps.map trS)], rfl, by rw [List.append_assoc], getA0, ?_⟩
      exact hrow'
    · rintro L S' ⟨_, r, ts, w2, w3, w4, G, rfl, rfl, hg, hrow⟩
      exact ⟨r, ts, w2, w3, w4, G, rfl, hg, hrow⟩
  obtain ⟨r, ts, w2, w3, w4, G, er, hg, h3, h4, h5⟩ := hr
  rw [hvN8 h1 h2] at h3
  obtain ⟨t, rfl⟩ : ∃ t, ts = [t] := by
    match ts, h3 with
    | [t], _ => exact ⟨t, rfl⟩
  obtain ⟨h6, h7⟩ := h5 t (List.mem_singleton.mpr rfl)
  have h8 : nds t + 1 + 0 = 2 * n := h4
  refine ⟨t, G, ?_, h6, h7, by omega⟩
  rw [i30.call rfl]
  have sm : smallI (n : Int) = true := smallI_len (by omega)
  have sm8 : smallI 8 = true := by decide
  have hg : (S ++ G)[r]? = some (.lst [trS t]) := hg
  have hl0 : (T0.map trS).length ≤ 1000 := by rw [List.length_map, r0.1]; omega
  generalize T0.map trS = TS at *
  generalize trS t = V at *
  simp [b30, sm, sm8, e0, er, hg, hl0]
end K37

/-! K37e: what is refused; what is given; the law. -/
namespace K37
open Bi
def Bad (S : Sto) (x w : SV) : Prop := ∀ (k : Nat) (G : Sto), ∃ G', callD PP (k + 6) 14 [x, w] (S ++ G) = .exc 5 (S ++ G ++ G')
theorem Bad.app {S G : Sto} {x w : SV} (h : Bad S x w) : Bad (S ++ G) x w := fun k G2 => by
  obtain ⟨G', e⟩ := h k (G ++ G2)
  rw [← List.append_assoc] at e
  exact ⟨G', e⟩
theorem bad_spoilt {S : Sto} {s : SpT} {v : Nat} (h : SOk PP 12 13 S v s) (h1 : 1 ≤ v) (h2 : v ≤ 40) (hn : stpS s ≤ 100000) : Bad S (spT s) (.int v) := fun k G => by
  obtain ⟨G', e⟩ := td.ls_exc (k := k) (m := v) (tv := spT s) (S := S ++ G) hn (fun x => td.ls_spoilt (tv := spT s) s 1 [] [] [] x none none none none none h (Nat.le_refl _))
  exact ⟨G', td.ro_exc h1 h2 e⟩
theorem bad_over {S : Sto} {t : Tr} {v : Nat} (h : WT v t) (h1 : 1 ≤ v) (h2 : v ≤ 40) (hn : nds t ≤ 1000) (ho : ¬ (dpt t ≤ 40 ∧ nds t ≤ 200)) : Bad S (trS t) (.int v) := fun k G => by
  have := stp_le t
  obtain ⟨G', e⟩ := td.ls_exc (k := k) (m := v) (n' := stp t) (tv := trS t) (S := S ++ G) (by omega) (fun x => td.ls_over (tv := trS t) t 1 [] [] [] x none none none none none h (by simp; omega) (Nat.le_refl _))
  exact ⟨G', td.ro_exc h1 h2 e⟩
theorem bad_more {S : Sto} {tb : List (List Nat)} {a b : Tr} {v w : Nat} (h : TabM v tb) (hl : tb.length = v) (hw : w ≠ v) (h1 : 1 ≤ w) (h2 : w ≤ 40) : Bad S (trS (.node tb a b)) (.int w) := by
  have hb : BadT S (tabS tb) w := by
    have e : tabS tb = .tup ((tb.map nI).map .tup) := by rw [List.map_map]; rfl
    rw [e]
    refine badT_tup (fun r hr => ?_) (.inr (by rw [List.length_map]; omega))
    obtain ⟨x, _, rfl⟩ := List.mem_map.mp hr
    exact flat_nI x
  exact bad_spoilt (s := .bad (.tup [.str "node", tabS tb, trS a, trS b])) (badN_tab hb) h1 h2 (by show 1 ≤ 100000; decide)
theorem g7 : PP.glos[7]? = some (PySem.Str.ofString "VALUES", .int 40) := rfl
theorem isi_bl {k : Nat} {S : Sto} : callD PP (k + 1) 0 [.bl true] S = .ok (.bl false) S := by rw [i0.call rfl]; simp [isiB]
theorem isi_non {k : Nat} {S : Sto} : callD PP (k + 1) 0 [.non] S = .ok (.bl false) S := by rw [i0.call rfl]; simp [isiB]
def OddV (w : SV) : Prop := w = .int 0 ∨ w = .int 41 ∨ w = .bl true ∨ w = .non
theorem bad_odd {S : Sto} {x w : SV} (h : OddV w) : Bad S x w := fun k G => by
  refine ⟨[], ?_⟩
  rw [i14.call rfl, List.append_nil]
  rcases h with rfl | rfl | rfl | rfl <;> simp [roB, isi_sp i0, g7, isi_bl, isi_non]
theorem po_odd {k : Nat} {S : Sto} {w : SV} (h : OddV w) : callD PP (k + 2) 17 [w] S = .exc 5 S := by
  rw [i17.call rfl]
  rcases h with rfl | rfl | rfl | rfl <;> simp [poB, isi_sp i0, g7, isi_bl, isi_non]
theorem x5 : PP.excs[5]? = some (PySem.Str.ofString "BadTree") := rfl
theorem ref_bad {k : Nat} {S G : Sto} {x w : SV} (h : Bad S x w) (i : Nat) (hi : i < 4) : ∃ G', callD PP (k + 8) 31 [x, w, .int (i : Int)] (S ++ G) = .ok (.bl true) (S ++ G ++ G') := by
  have s55 : PP.sub 5 5 = true := rfl
  have s50 : PP.sub 5 0 = true := rfl
  have s51 : PP.sub 5 1 = false := rfl
  have s52 : PP.sub 5 2 = false := rfl
  have s53 : PP.sub 5 3 = false := rfl
  have s54 : PP.sub 5 4 = false := rfl
  rw [show k + 8 = (k + 7) + 1 by omega, i31.call rfl]
  match i, hi with
  | 0, _ =>
    obtain ⟨G', e⟩ := h k G
    have e2 : callD PP (k + 7) 15 [x, w] (S ++ G) = .exc 5 (S ++ G ++ G') := by rw [i15.call rfl]; simp [b15, e]
    refine ⟨G', ?_⟩
    generalize S ++ G = Z at *
    generalize Z ++ G' = Z' at *
    simp [b31, b31_0, b31_1, e2, x5, s55, s50, s51, s52, s53, s54]
  | 1, _ =>
    obtain ⟨G', e⟩ := h k (G ++ [.lst []])
    rw [← List.append_assoc] at e
    have e2 : callD PP (k + 7) 16 [x, w] (S ++ G) = .exc 5 (S ++ G ++ ([.lst []] ++ G')) := by
      rw [i16.call rfl, ← List.append_assoc (S ++ G)]
      generalize S ++ G = Z at *
      simp [tvB, e]
    refine ⟨[.lst []] ++ G', ?_⟩
    generalize S ++ G = Z at *
    generalize Z ++ ([.lst []] ++ G') = Z' at *
    simp [b31, b31_0, b31_1, e2, x5, s55, s50, s51, s52, s53, s54]
  | 2, _ =>
    obtain ⟨G', e⟩ := h k G
    have e2 : callD PP (k + 7) 18 [x, w] (S ++ G) = .exc 5 (S ++ G ++ G') := by rw [i18.call rfl]; simp [b18, e]
    refine ⟨G', ?_⟩
    generalize S ++ G = Z at *
    generalize Z ++ G' = Z' at *
    simp [b31, b31_0, b31_1, e2, x5, s55, s50, s51, s52, s53, s54]
  | 3, _ =>
    obtain ⟨G', e⟩ := h k G
    have e2 : callD PP (k + 7) 20 [x, w] (S ++ G) = .exc 5 (S ++ G ++ G') := by rw [i20.call rfl]; simp [b20, e]
    refine ⟨G', ?_⟩
    generalize S ++ G = Z at *
    generalize Z ++ G' = Z' at *
    simp [b31, b31_0, b31_1, e2, x5, s55, s50, s51, s52, s53, s54]
theorem ref_odd {k : Nat} {S : Sto} {x w : SV} (h : OddV w) : callD PP (k + 8) 31 [x, w, .int 4] S = .ok (.bl true) S := by
  have s55 : PP.sub 5 5 = true := rfl
  have s50 : PP.sub 5 0 = true := rfl
  have s51 : PP.sub 5 1 = false := rfl
  have s52 : PP.sub 5 2 = false := rfl
  have s53 : PP.sub 5 3 = false := rfl
  have s54 : PP.sub 5 4 = false := rfl
  rw [show k + 8 = (k + 7) + 1 by omega, i31.call rfl]
  have e2 := po_odd (k := k + 5) (S := S) h
  simp [b31, b31_0, b31_1, e2, x5, s55, s50, s51, s52, s53, s54]
theorem ref_good {k v : Nat} {S : Sto} {t : Tr} (h : WT v t) (hd : dpt t ≤ 40) (hn : nds t ≤ 200) (h1 : 1 ≤ v) (h2 : v ≤ 40) : ∃ G, callD PP (k + 8) 31 [trS t, .int v, .int 0] S = .ok (.bl false) (S ++ G) := by
  obtain ⟨G, e⟩ := td.ro_sp (k := k) (S := S) h hd hn h1 h2
  refine ⟨.lst ((post t 0).map rowS) :: G, ?_⟩
  rw [show k + 8 = (k + 7) + 1 by omega, i31.call rfl]
  generalize trS t = V at *
  generalize (post t 0).map rowS = R at *
  have e2 : callD PP (k + 7) 15 [V, .int v] S = .ok .non (S ++ (.lst R :: G)) := by rw [i15.call rfl]; simp [b15, e]
  simp [b31, b31_0, b31_1, e2]
theorem ref_goodp {k v : Nat} {S : Sto} {x : SV} (h1 : 1 ≤ v) (h2 : v ≤ 40) : callD PP (k + 8) 31 [x, .int v, .int 4] S = .ok (.bl false) S := by
  have e := po_sp (k := k + 5) (S := S) i17 i0 i2 ⟨_, rfl⟩ h1 h2
  rw [show k + 8 = (k + 7) + 1 by omega, i31.call rfl]
  simp [b31, b31_0, b31_1, e]
/-! ### what is given -/
def GivOk (S : Sto) (r : Nat) : Prop := ∃ (x w : SV) (b : Bool), S[r]? = some (.lst [x, w, .bl b]) ∧
  ((b = true ∧ ∃ (t : Tr) (v : Nat), x = trS t ∧ w = .int (v : Int) ∧ WT v t ∧ dpt t ≤ 40 ∧ nds t ≤ 200 ∧ 1 ≤ v ∧ v ≤ 40) ∨
   (b = false ∧ Bad S x w ∧ ((∃ v : Nat, w = .int (v : Int) ∧ 1 ≤ v ∧ v ≤ 40) ∨ OddV w)))
abbrev GL (v pk : Nat) (x : SV) : Loc := [some (.ref 1), some (.int (v : Int)), some x, some (.int (pk : Int)), none, none]
def GTail (b : ISs) (v pk : Nat) (t : Tr) (S : Sto) : Prop := ∃ r S', fin (evalSs PP (callD PP 18) b none (GL v pk (trS t)) S) = .ok (.ref r) S' ∧ GivOk S' r
theorem four {a b c d : SV} {q : Nat} {Q : SV → Prop} (hq : q < 4) (ha : Q a) (hb : Q b) (hc : Q c) (hd : Q d) : ∃ x, [a, b, c, d][q]? = some x ∧ Q x := by
  match q, hq with
  | 0, _ => exact ⟨a, by simp, ha⟩
  | 1, _ => exact ⟨b, by simp, hb⟩
  | 2, _ => exact ⟨c, by simp, hc⟩
  | 3, _ => exact ⟨d, by simp, hd⟩
  | n + 4, w => omega
theorem gt0 {v pk : Nat} {t : Tr} {S : Sto} (hw : WT v t) (h1 : 1 ≤ v) (h2 : v ≤ 40) (hd : dpt t ≤ 5) (hn : nds t ≤ 15) : GTail b32_0 v pk t S := by
  refine ⟨S.length, S ++ [.lst [trS t, .int v, .bl true]], ?_, trS t, _, true, getA0, .inl ⟨rfl, t, v, rfl, rfl, hw, by omega, by omega, h1, h2⟩⟩
  generalize trS t = V
  simp [b32_0]
theorem gt1 {v pk : Nat} {t : Tr} {S : Sto} (hw : WT v t) (h1 : 1 ≤ v) (h2 : v ≤ 40) (hd : dpt t ≤ 5) (hn : nds t ≤ 15) : GTail b32_1 v pk t S := by
  have e0 := gt0 (pk := pk) (S := S) hw h1 h2 hd hn
  by_cases p : pk = 7
  · subst p
    cases t with
    | leaf u =>
      obtain ⟨r, S', e, g⟩ := e0
      refine ⟨r, S', ?_, g⟩
      rw [← e]
      show fin (evalSs PP (callD PP 18) b32_1 none (GL v 7 (.tup [.str "leaf", .int u])) S) = fin (evalSs PP (callD PP 18) b32_0 none (GL v 7 (.tup [.str "leaf", .int u])) S)
      rw [show b32_1 = .cons (.iff (.and (.val (.cmp .eq (.var 3) (.cst (.int 7)))) (.val (.cmp .eq (.idx (.var 2) (.cst (.int 0))) (.cst (.str "node"))))) (.cons (.ret (.lst (.cons (.var 2) (.cons (.bin .sub (.bf .min2 (.cons (.cst (.int 40)) (.cons (.bin .add (.var 1) (.cst (.int 1))) (.nil)))) (.bf .int (.cons (.cmp .eq (.var 1) (.cst (.int 40))) (.nil)))) (.cons (.cst (.bl false)) (.nil)))))) (.nil)) (.nil)) b32_0 from rfl]
      generalize b32_0 = B
      simp [ln_ne]
    | node tb a b =>
      have hw' := hw
      unfold WT at hw'
      obtain ⟨⟨ht, hl⟩, _, _⟩ := hw'
      obtain ⟨u, hu⟩ : ∃ u : Nat, u = if v = 40 then 39 else v + 1 := ⟨_, rfl⟩
      have hu' : u ≠ v ∧ 1 ≤ u ∧ u ≤ 40 := by split at hu <;> omega
      refine ⟨S.length, S ++ [.lst [trS (.node tb a b), .int u, .bl false]], ?_, _, _, false, getA0, .inr ⟨rfl, (bad_more (S := S) ht hl hu'.1 hu'.2.1 hu'.2.2).app, .inl ⟨u, rfl, hu'.2.1, hu'.2.2⟩⟩⟩
      have eN : ∀ Z, idxS (trS (.node tb a b)) (.int 0) Z = .ok (.str "node") Z := fun Z => by simp [trS]
      generalize trS (.node tb a b) = V at *
      by_cases q : v = 40
      · subst q
        rw [if_pos rfl] at hu
        subst hu
        simp [b32_1, eN]
      · rw [if_neg q] at hu
        subst hu
        have q1 : ¬ ((v : Int) = 40) := by omega
        have q2 : ¬ ((v : Int) + 1 < 40) ∨ ((v : Int) + 1 < 40) := by omega
        rcases q2 with q2 | q2
        · have q3 : v = 39 := by omega
          subst q3
          simp [b32_1, eN]
        · simp [b32_1, eN, q1, q2]
  · obtain ⟨r, S', e, g⟩ := e0
    refine ⟨r, S', ?_, g⟩
    rw [← e]
    have p' : ¬ ((pk : Int) = 7) := by omega
    rw [show b32_1 = .cons (.iff (.and (.val (.cmp .eq (.var 3) (.cst (.int 7)))) (.val (.cmp .eq (.idx (.var 2) (.cst (.int 0))) (.cst (.str "node"))))) (.cons (.ret (.lst (.cons (.var 2) (.cons (.bin .sub (.bf .min2 (.cons (.cst (.int 40)) (.cons (.bin .add (.var 1) (.cst (.int 1))) (.nil)))) (.bf .int (.cons (.cmp .eq (.var 1) (.cst (.int 40))) (.nil)))) (.cons (.cst (.bl false)) (.nil)))))) (.nil)) (.nil)) b32_0 from rfl]
    generalize b32_0 = B
    generalize trS t = V
    simp [p']
theorem gt2 {v pk n : Nat} {t : Tr} {S : Sto} (d : Dr S 1 0 n) (hn' : n ≤ 1000000) (hw : WT v t) (h1 : 1 ≤ v) (h2 : v ≤ 40) (hd : dpt t ≤ 5) (hn : nds t ≤ 15) : GTail b32_2 v pk t S := by
  by_cases p : pk = 6
  · subst p
    obtain ⟨r, S1, hr, e1, d1, x1, l1⟩ := drw_sp (k := 16) i23 i21 d (by omega)
    have er : 99 + (r : Int) % 3 = ((99 + r % 3 : Nat) : Int) := by omega
    have hq : 99 + r % 3 ≤ 101 := by omega
    have hq2 : 99 ≤ 99 + r % 3 := by omega
    generalize 99 + r % 3 = q at *
    obtain ⟨u, G, e2, w2, dp, nn⟩ := broad_sp (k := 17) (S := S1) hq2 hq
    have e2 : callD PP 18 30 [.int q] S1 = .ok (trS u) (S1 ++ G) := e2
    refine ⟨(S1 ++ G).length, S1 ++ G ++ [.lst [trS u, .int 2, .bl (decide (q ≤ 100))]], ?_, trS u, _, decide (q ≤ 100), getA0, ?_⟩
    · have hc : ((q : Int) ≤ 100) = (q ≤ 100) := by apply propext; omega
      generalize trS t = V
      generalize trS u = U at *
      simp [b32_2, e1, er, e2, hc]
    · by_cases z : q ≤ 100
      · rw [decide_eq_true z]
        exact .inl ⟨rfl, u, 2, rfl, rfl, w2, by omega, by omega, by decide, by decide⟩
      · rw [decide_eq_false z]
        exact .inr ⟨rfl, (bad_over (S := S1 ++ G) w2 (by decide) (by decide) (by omega) (by omega)).app, .inl ⟨2, rfl, by decide, by decide⟩⟩
  · obtain ⟨r, S', e, g⟩ := gt1 (pk := pk) (S := S) hw h1 h2 hd hn
    refine ⟨r, S', ?_, g⟩
    rw [← e]
    have p' : ¬ ((pk : Int) = 6) := by omega
    rw [show b32_2 = .cons (.iff (.val (.cmp .eq (.var 3) (.cst (.int 6)))) (.cons (.asg (.nm 5) (.bin .add (.cst (.int 99)) (.bin .mod (.call 23 (.cons (.var 0) (.nil))) (.cst (.int 3))))) (.cons (.ret (.lst (.cons (.call 30 (.cons (.var 5) (.nil))) (.cons (.cst (.int 2)) (.cons (.cmp .le (.var 5) (.cst (.int 100))) (.nil)))))) (.nil))) (.nil)) b32_1 from rfl]
    generalize b32_1 = B
    generalize trS t = V
    simp [p']
theorem gt3 {v pk n : Nat} {t : Tr} {S : Sto} (d : Dr S 1 0 n) (hn' : n ≤ 1000000) (hw : WT v t) (h1 : 1 ≤ v) (h2 : v ≤ 40) (hd : dpt t ≤ 5) (hn : nds t ≤ 15) : GTail b32_3 v pk t S := by
  by_cases p : pk = 5
  · subst p
    obtain ⟨r, S1, hr, e1, d1, x1, l1⟩ := drw_sp (k := 16) i23 i21 d (by omega)
    have er : 38 + (r : Int) % 5 = ((38 + r % 5 : Nat) : Int) := by omega
    have hq : 38 + r % 5 ≤ 42 := by omega
    have hq2 : 38 ≤ 38 + r % 5 := by omega
    generalize 38 + r % 5 = q at *
    have e2 := comb_sp (k := 17) (n := q) (S := S1) (by omega) (by omega)
    obtain ⟨w2, dp, nn⟩ := cmb_ok (q - 1)
    generalize cmb (q - 1) = u at *
    have e2 : callD PP 18 29 [.int q] S1 = .ok (trS u) S1 := e2
    refine ⟨S1.length, S1 ++ [.lst [trS u, .int 2, .bl (decide (q ≤ 40))]], ?_, trS u, _, decide (q ≤ 40), getA0, ?_⟩
    · have hc : ((q : Int) ≤ 40) = (q ≤ 40) := by apply propext; omega
      generalize trS t = V
      generalize trS u = U at *
      simp [b32_3, e1, er, e2, hc]
    · by_cases z : q ≤ 40
      · rw [decide_eq_true z]
        exact .inl ⟨rfl, u, 2, rfl, rfl, w2, by omega, by omega, by decide, by decide⟩
      · rw [decide_eq_false z]
        exact .inr ⟨rfl, (bad_over (S := S1) w2 (by decide) (by decide) (by omega) (by omega)).app, .inl ⟨2, rfl, by decide, by decide⟩⟩
  · obtain ⟨r, S', e, g⟩ := gt2 (pk := pk) d hn' hw h1 h2 hd hn
    refine ⟨r, S', ?_, g⟩
    rw [← e]
    have p' : ¬ ((pk : Int) = 5) := by omega
    rw [show b32_3 = .cons (.iff (.val (.cmp .eq (.var 3) (.cst (.int 5)))) (.cons (.asg (.nm 4) (.bin .add (.cst (.int 38)) (.bin .mod (.call 23 (.cons (.var 0) (.nil))) (.cst (.int 5))))) (.cons (.ret (.lst (.cons (.call 29 (.cons (.var 4) (.nil))) (.cons (.cst (.int 2)) (.cons (.cmp .le (.var 4) (.cst (.int 40))) (.nil)))))) (.nil))) (.nil)) b32_2 from rfl]
    generalize b32_2 = B
    generalize trS t = V
    simp [p']
theorem gt4 {v pk n : Nat} {t : Tr} {S : Sto} (d : Dr S 1 0 n) (hn' : n ≤ 1000000) (hw : WT v t) (h1 : 1 ≤ v) (h2 : v ≤ 40) (hd : dpt t ≤ 5) (hn : nds t ≤ 15) : GTail b32_4 v pk t S := by
  by_cases p : pk = 4
  · subst p
    obtain ⟨r, S1, hr, e1, d1, x1, l1⟩ := drw_sp (k := 16) i23 i21 (S := S ++ [.lst [.int 0, .int 41, .bl true, .non]]) d.app (by omega)
    have er : (r : Int) % 4 = ((r % 4 : Nat) : Int) := by omega
    have s1 : 1 < S.length := d.lt.1
    have g1 : S1[S.length]? = some (.lst [.int 0, .int 41, .bl true, .non]) := x1.get (by omega) getA0
    obtain ⟨y, ey, oy⟩ := four (Q := OddV) (show r % 4 < 4 by omega) (.inl rfl) (.inr (.inl rfl)) (.inr (.inr (.inl rfl))) (.inr (.inr (.inr rfl)))
    generalize r % 4 = q at *
    refine ⟨S1.length, S1 ++ [.lst [trS t, y, .bl false]], ?_, trS t, y, false, getA0, .inr ⟨rfl, bad_odd oy, .inr oy⟩⟩
    generalize trS t = V
    simp [b32_4, e1, er, g1, ey, List.getElem?_cons_zero, List.getElem?_cons_succ, -getElem?_pos]
  · obtain ⟨r, S', e, g⟩ := gt3 (pk := pk) d hn' hw h1 h2 hd hn
    refine ⟨r, S', ?_, g⟩
    rw [← e]
    have p' : ¬ ((pk : Int) = 4) := by omega
    rw [show b32_4 = .cons (.iff (.val (.cmp .eq (.var 3) (.cst (.int 4)))) (.cons (.ret (.lst (.cons (.var 2) (.cons (.idx (.lst (.cons (.cst (.int 0)) (.cons (.cst (.int 41)) (.cons (.cst (.bl true)) (.cons (.cst (.non)) (.nil)))))) (.bin .mod (.call 23 (.cons (.var 0) (.nil))) (.cst (.int 4)))) (.cons (.cst (.bl false)) (.nil)))))) (.nil)) (.nil)) b32_3 from rfl]
    generalize b32_3 = B
    generalize trS t = V
    simp [p']
/-- the number of values -/
theorem three {q : Nat} (hq : q < 3) : ∃ m : Nat, [SV.int 7, .int 7, .int 40][q]? = some (.int (m : Int)) ∧ (m = 7 ∨ m = 40) := by
  match q, hq with
  | 0, _ => exact ⟨7, by simp, .inl rfl⟩
  | 1, _ => exact ⟨7, by simp, .inl rfl⟩
  | 2, _ => exact ⟨40, by simp, .inr rfl⟩
  | n + 3, w => omega
theorem given_sp {n : Nat} {S : Sto} (d : Dr S 1 0 n) (hn : n ≤ 1000) : ∃ r S', callD PP 19 32 [.ref 1] S = .ok (.ref r) S' ∧ GivOk S' r := by
  obtain ⟨r1, S1, hr1, e1, d1, x1, l1⟩ := drw_sp (k := 16) i23 i21 d (by omega)
  obtain ⟨r2, S2, hr2, e2, d2, x2, l2⟩ := drw_sp (k := 16) i23 i21 (S := S1 ++ [.lst [.int 7, .int 7, .int 40]]) d1.app (by omega)
  have e2r : (r2 : Int) % 3 = ((r2 % 3 : Nat) : Int) := by omega
  have s1 : 1 < S1.length := d1.lt.1
  have g2 : S2[S1.length]? = some (.lst [.int 7, .int 7, .int 40]) := x2.get (by omega) getA0
  obtain ⟨m, hm, hm2⟩ := three (show r2 % 3 < 3 by omega)
  generalize r2 % 3 = q at *
  have ev : 1 + (r1 : Int) % (m : Int) = ((1 + r1 % m : Nat) : Int) := by omega
  have hv2 : 1 + r1 % m ≤ 40 := by rcases hm2 with rfl | rfl <;> omega
  have hv1 : 1 ≤ 1 + r1 % m := by omega
  have hmz : 0 < m := by omega
  have dm : divOk (m : Int) = true := by rcases hm2 with rfl | rfl <;> decide
  obtain ⟨v, hv⟩ : ∃ v, v = 1 + r1 % m := ⟨_, rfl⟩
  rw [← hv] at ev hv2 hv1
  obtain ⟨Lf, hLf⟩ : ∃ Lf : Nat, Lf = if 7 < v then 4 else 14 := ⟨_, rfl⟩
  have hLf2 : Lf ≤ 14 := by split at hLf <;> omega
  have hvv : v * v ≤ 40 * 40 := Nat.mul_le_mul hv2 hv2
  have hLv : (Lf + 1) * (v * v + 3) ≤ 15 * 1603 := Nat.mul_le_mul (by omega) (by omega)
  have lt2 : 1 < S2.length := d2.lt.1
  obtain ⟨t, S3, n3, L3, e3, w3, p3, c3, g3, d3, hn3, x3⟩ := ltree_sp (S0 := S2) i25 i24 i23 i21 hv1 (by omega) 5 9 (S2 ++ [.lst [.int (Lf : Nat)]]) (n + 1 + 1) S2.length Lf d2.app (by omega) getA0 (by omega) (by omega) Ex.app (Nat.le_refl _)
  have hnt : nds t ≤ 15 := by omega
  have hnv : nds t * (v * v + 3) ≤ 15 * 1603 := Nat.mul_le_mul hnt (by omega)
  obtain ⟨r4, S4, hr4, e4, d4, x4, l4⟩ := drw_sp (k := 16) i23 i21 d3 (by omega)
  have e4r : (r4 : Int) % 10 = ((r4 % 10 : Nat) : Int) := by omega
  generalize r4 % 10 = pk at *
  have gt := gt4 (pk := pk) d4 (by omega) w3 hv1 hv2 (by omega) hnt
  have e3 : callD PP 18 25 [.ref 1, .int v, .int 5, .ref S2.length] (S2 ++ [.lst [.int (Lf : Nat)]]) = .ok (trS t) S3 := e3
  rw [i32.call rfl]
  have eL : ∀ Z : Sto, evalE PP (callD PP 18) none (.lst (.cons (.bin .sub (.cst (.int 14)) (.bin .mul (.cst (.int 10)) (.bf .int (.cons (.cmp .gt (.var 1) (.cst (.int 7))) (.nil))))) (.nil))) [some (.ref 1), some (.int v), none, none, none, none] Z = .ok (.ref Z.length) (Z ++ [.lst [.int (Lf : Nat)]]) := fun Z => by
    by_cases z : 7 < v
    · have z' : (7 : Int) < (v : Int) := by omega
      rw [if_pos z] at hLf
      subst hLf
      have m1 : mulOk 10 1 = true := by decide
      have m0 : mulOk 10 0 = true := by decide
      simp [z', m1, m0]
    · have z' : ¬ (7 : Int) < (v : Int) := by omega
      rw [if_neg z] at hLf
      subst hLf
      have m1 : mulOk 10 1 = true := by decide
      have m0 : mulOk 10 0 = true := by decide
      simp [z', m1, m0]
  rw [show b32 = .cons (.asg (.nm 1) (.bin .add (.cst (.int 1)) (.bin .mod (.call 23 (.cons (.var 0) (.nil))) (.idx (.lst (.cons (.cst (.int 7)) (.cons (.cst (.int 7)) (.cons (.cst (.int 40)) (.nil))))) (.bin .mod (.call 23 (.cons (.var 0) (.nil))) (.cst (.int 3))))))) (.cons (.asg (.nm 2) (.call 25 (.cons (.var 0) (.cons (.var 1) (.cons (.cst (.int 5)) (.cons (.lst (.cons (.bin .sub (.cst (.int 14)) (.bin .mul (.cst (.int 10)) (.bf .int (.cons (.cmp .gt (.var 1) (.cst (.int 7))) (.nil))))) (.nil))) (.nil))))))) (.cons (.asg (.nm 3) (.bin .mod (.call 23 (.cons (.var 0) (.nil))) (.cst (.int 10)))) (.cons (.iff (.val (.cmp .lt (.var 3) (.cst (.int 4)))) (.cons (.ret (.lst (.cons (.call 28 (.cons (.var 0) (.cons (.var 2) (.cons (.var 1) (.nil))))) (.cons (.var 1) (.cons (.cst (.bl false)) (.nil)))))) (.nil)) (.nil)) b32_4))) from rfl]
  obtain ⟨EL, hEL⟩ : ∃ EL, EL = (IX.lst (.cons (.bin .sub (.cst (.int 14)) (.bin .mul (.cst (.int 10)) (.bf .int (.cons (.cmp .gt (.var 1) (.cst (.int 7))) (.nil))))) (.nil))) := ⟨_, rfl⟩
  rw [← hEL] at eL ⊢
  unfold GTail at gt
  generalize b32_4 = B at *
  by_cases z : pk < 4
  · have z' : (pk : Int) < 4 := by omega
    obtain ⟨s, S5, n5, e5, so, d5, hn5, x5, hst⟩ := spoilt_sp hv1 hv2 t (13 - dpt t) (n3 + 1) S4 w3 d4 (by omega)
    have e5 : callD PP 18 28 [.ref 1, trS t, .int v] S4 = .ok (spT s) S5 := by rw [show 18 = 13 - dpt t + 5 + dpt t by omega]; exact e5
    have hs2 := stp_le t
    refine ⟨S5.length, S5 ++ [.lst [spT s, .int v, .bl false]], ?_, spT s, _, false, getA0, .inr ⟨rfl, (bad_spoilt so hv1 hv2 (by omega)).app, .inl ⟨v, rfl, hv1, hv2⟩⟩⟩
    generalize trS t = V at *
    generalize spT s = X at *
    simp [e1, e2, e2r, g2, hm, hmz, dm, ev, eL, e3, e4, e4r, z', e5, List.getElem?_cons_zero, List.getElem?_cons_succ, -getElem?_pos]
  · have z' : ¬ (pk : Int) < 4 := by omega
    obtain ⟨r, S', e, g⟩ := gt
    refine ⟨r, S', ?_, g⟩
    rw [← e]
    generalize trS t = V at *
    simp [e1, e2, e2r, g2, hm, hmz, dm, ev, eL, e3, e4, e4r, z', List.getElem?_cons_zero, List.getElem?_cons_succ, -getElem?_pos]
end K37

/-! K37f: the law. -/
namespace K37
open Bi
theorem four_run {S : Sto} {r : Nat} {x w : SV} {v0 : Option SV} (hr : S[r]? = some (.lst [x, w, .bl false])) (hb : Bad S x w) :
    ∃ (w3 : Option SV) (G : Sto), runF (.vs (rgI 0 4 1)) (.nm 3) (evalSs PP (callD PP 19) b33_0 none) [v0, some (.ref 1), some (.ref r), none] S = .nx [v0, some (.ref 1), some (.ref r), w3] (S ++ G) := by
  refine run_r0 (fun j L S' => j ≤ 4 ∧ ∃ (w3 : Option SV) (G : Sto), L = [v0, some (.ref 1), some (.ref r), w3] ∧ S' = S ++ G)
    (Post := fun o => ∃ (w3 : Option SV) (G : Sto), o = .nx [v0, some (.ref 1), some (.ref r), w3] (S ++ G)) ⟨by decide, none, [], rfl, by rw [List.append_nil]⟩ ?_ ?_
  · rintro j L S' hj ⟨_, w3, G, rfl, rfl⟩
    refine ⟨_, rfl, ?_⟩
    show Step (evalSs PP (callD PP 19) b33_0 none [v0, some (.ref 1), some (.ref r), some (.int (j : Int))] (S ++ G)) _ _
    have hg : (S ++ G)[r]? = some (.lst [x, w, .bl false]) := by rw [List.getElem?_append_left (List.getElem?_eq_some_iff.mp hr).1]; exact hr
    obtain ⟨G', e⟩ := ref_bad (k := 11) (G := G) hb j hj
    have e : callD PP 19 31 [x, w, .int (j : Int)] (S ++ G) = .ok (.bl true) (S ++ G ++ G') := e
    have e2 : evalSs PP (callD PP 19) b33_0 none [v0, some (.ref 1), some (.ref r), some (.int (j : Int))] (S ++ G) = .nx [v0, some (.ref 1), some (.ref r), some (.int (j : Int))] (S ++ G ++ G') := by
      generalize S ++ G = Z at *
      simp [b33_0, hg, e]
    rw [e2]
    exact ⟨by omega, _, G ++ G', rfl, by rw [List.append_assoc]⟩
  · rintro L S' ⟨_, w3, G, rfl, rfl⟩
    exact ⟨w3, G, rfl⟩
theorem spec : ∀ ns : List Int, ns.length ≤ 63 → ∃ S, callD PP 20 33 [.kl (ns.map SV.int)] [] = .ok (.bl true) S := fun xs hx => by
  obtain ⟨ns, hs, hl, e1⟩ := num_sp (k := 17) i22 i21 (S := []) hx
  have e1 : callD PP 19 22 [.kl (xs.map SV.int)] [] = .ok (.ref 0) [.lst (ns.map SV.int)] := e1
  have d0 : Dr [SO.lst (ns.map SV.int), .lst [.ref 0, .int 0]] 1 0 0 := ⟨ns, by decide, rfl, rfl, hs⟩
  obtain ⟨r, S, e2, x, w, b, hg, hc⟩ := given_sp d0 (by omega)
  rw [i33.call rfl]
  generalize xs.map SV.int = X at *
  generalize ns.map SV.int = Nn at *
  rcases hc with ⟨rfl, t, v, rfl, rfl, hw, hd, hn, h1, h2⟩ | ⟨rfl, hb, hv⟩
  · obtain ⟨G, e3⟩ := ref_good (k := 11) (S := S) hw hd hn h1 h2
    have e3 : callD PP 19 31 [trS t, .int v, .int 0] S = .ok (.bl false) (S ++ G) := e3
    have e4 : callD PP 19 31 [trS t, .int v, .int 4] (S ++ G) = .ok (.bl false) (S ++ G) := ref_goodp (k := 11) h1 h2
    have hg2 : (S ++ G)[r]? = some (.lst [trS t, .int v, .bl true]) := by rw [List.getElem?_append_left (List.getElem?_eq_some_iff.mp hg).1]; exact hg
    refine ⟨S ++ G, ?_⟩
    generalize trS t = V at *
    generalize S ++ G = Z at *
    simp [b33, e1, e2, hg, hg2, e3, e4]
  · obtain ⟨w3, G, e3⟩ := four_run (v0 := some (.kl X)) hg hb
    have hg2 : (S ++ G)[r]? = some (.lst [x, w, .bl false]) := by rw [List.getElem?_append_left (List.getElem?_eq_some_iff.mp hg).1]; exact hg
    have sm : smallI 4 = true := by decide
    rcases hv with ⟨v, rfl, h1, h2⟩ | hv
    · refine ⟨S ++ G, ?_⟩
      have q1 : ¬ (v : Int) < 1 := by omega
      have q2 : ¬ (40 : Int) < (v : Int) := by omega
      generalize S ++ G = Z at *
      simp [b33, e1, e2, hg, hg2, sm, e3, q1, q2]
    · have e4 : callD PP 19 31 [x, w, .int 4] (S ++ G) = .ok (.bl true) (S ++ G) := ref_odd (k := 11) hv
      refine ⟨S ++ G, ?_⟩
      generalize S ++ G = Z at *
      rcases hv with rfl | rfl | rfl | rfl <;> simp [b33, e1, e2, hg, hg2, sm, e3, e4]
end K37

open PySem PySem.W PyProof.Rows
set_option maxRecDepth 100000 in
set_option maxHeartbeats 0 in
theorem PySem.Challenge.cw_brimful_k37_trees_are_checked_holds : PySem.Challenge.rw_brimful_k37_trees_are_checked.Holds := by
  w_on; o_law; k_head; (case hw => w_witness2)
  k_fill
  refine Bi.walk_end (n := 63) (k := 40) (x := "_law_script") rfl (by decide) rfl ⟨rfl, by decide, by decide⟩ (fun w h Y => PySem.W.kIn_of Y) ?F
  case F =>
    intro w mg fa h KX G hmg
    refine' K37.all_mk K37.spec KX G hmg ?ka0 ?kp0 ?kh0 ?ko0 ?ks0 ?km0 ?kk0 ?kn0_0 ?kn0_1 ?kn0_2 ?kn0_3 ?a0 ?l0 ?c0 ?k0 ?a1 ?l1 ?c1 ?k1 ?a2 ?l2 ?c2 ?k2 ?a3 ?l3 ?c3 ?k3 ?a4 ?l4 ?c4 ?k4 ?a5 ?l5 ?c5 ?k5 ?a6 ?l6 ?c6 ?k6 ?a7 ?l7 ?c7 ?k7 ?a8 ?l8 ?c8 ?k8 ?a9 ?l9 ?c9 ?k9 ?a10 ?i10 ?l10 ?c10 ?k10 ?a11 ?l11 ?c11 ?k11 ?a12 ?l12 ?c12 ?k12 ?a13 ?l13 ?c13 ?k13 ?a14 ?l14 ?c14 ?k14 ?a15 ?l15 ?c15 ?k15 ?a16 ?l16 ?c16 ?k16 ?a17 ?l17 ?c17 ?k17 ?a18 ?l18 ?c18 ?k18 ?a19 ?l19 ?c19 ?k19 ?a20 ?l20 ?c20 ?k20 ?a21 ?l21 ?c21 ?k21 ?a22 ?l22 ?c22 ?k22 ?a23 ?l23 ?c23 ?k23 ?a24 ?l24 ?c24 ?k24 ?a25 ?l25 ?c25 ?k25 ?a26 ?l26 ?c26 ?k26 ?a27 ?l27 ?c27 ?k27 ?a28 ?l28 ?c28 ?k28 ?a29 ?l29 ?c29 ?k29 ?a30 ?l30 ?c30 ?k30 ?a31 ?l31 ?c31 ?k31 ?a32 ?l32 ?c32 ?k32 ?a33 ?l33 ?c33 ?k33 ?xa0 ?xk0 ?xs0 ?xt0 ?xe0 ?xg0 ?xh0 ?xd0 ?xc0 ?xm0 ?xa1 ?xk1 ?xs1 ?xt1 ?xe1 ?xg1 ?xh1 ?xd1 ?xc1 ?xm1 ?xa2 ?xk2 ?xs2 ?xt2 ?xe2 ?xg2 ?xh2 ?xd2 ?xc2 ?xm2 ?xa3 ?xk3 ?xs3 ?xt3 ?xe3 ?xg3 ?xh3 ?xd3 ?xc3 ?xm3 ?xa4 ?xk4 ?xs4 ?xt4 ?xe4 ?xg4 ?xh4 ?xd4 ?xc4 ?xm4 ?xa5 ?xk5 ?xs5 ?xt5 ?xe5 ?xg5 ?xh5 ?xd5 ?xc5 ?xm5 ?xn ?xz ?xr0_0 ?xr0_1 ?xr0_2 ?xr0_3 ?xr0_4 ?xr0_5 ?xr1_0 ?xr1_1 ?xr1_2 ?xr1_3 ?xr1_4 ?xr1_5 ?xr2_0 ?xr2_1 ?xr2_2 ?xr2_3 ?xr2_4 ?xr2_5 ?xr3_0 ?xr3_1 ?xr3_2 ?xr3_3 ?xr3_4 ?xr3_5 ?xr4_0 ?xr4_1 ?xr4_2 ?xr4_3 ?xr4_4 ?xr4_5 ?xr5_0 ?xr5_1 ?xr5_2 ?xr5_3 ?xr5_4 ?xr5_5 ?z0 ?z1 ?z2 ?z3 ?z4 ?z5 ?z6 ?z7 ?z8 ?z9 ?z10 ?z11 ?z12 ?z13 ?z14 ?z15 ?y0 ?y1 ?y2 ?y3 ?y4 ?y5 ?y6 ?y7
    (case ka0 => k_is); (case kp0 => k_is); (case kh0 => k_is); (case ko0 => k_is); (case ks0 => k_is); (case km0 => k_is)
    (case kk0 => k_is); (case kn0_0 => k_is); (case kn0_1 => k_is); (case kn0_2 => k_is); (case kn0_3 => k_is); (case a0 => k_is)
    (case l0 => k_is); (case c0 => k_is); (case k0 => k_is); (case a1 => k_is); (case l1 => k_is); (case c1 => k_is)
    (case k1 => k_is); (case a2 => k_is); (case l2 => k_is); (case c2 => k_is); (case k2 => k_is); (case a3 => k_is)
    (case l3 => k_is); (case c3 => k_is); (case k3 => k_is); (case a4 => k_is); (case l4 => k_is); (case c4 => k_is)
    (case k4 => k_is); (case a5 => k_is); (case l5 => k_is); (case c5 => k_is); (case k5 => k_is); (case a6 => k_is)
    (case l6 => k_is); (case c6 => k_is); (case k6 => k_is); (case a7 => k_is); (case l7 => k_is); (case c7 => k_is)
    (case k7 => k_is); (case a8 => k_is); (case l8 => k_is); (case c8 => k_is); (case k8 => k_is); (case a9 => k_is)
    (case l9 => k_is); (case c9 => k_is); (case k9 => k_is); (case a10 => k_is); (case i10 => k_is); (case l10 => k_is)
    (case c10 => k_is); (case k10 => k_is); (case a11 => k_is); (case l11 => k_is); (case c11 => k_is); (case k11 => k_is)
    (case a12 => k_is); (case l12 => k_is); (case c12 => k_is); (case k12 => k_is); (case a13 => k_is); (case l13 => k_is)
    (case c13 => k_is); (case k13 => k_is); (case a14 => k_is); (case l14 => k_is); (case c14 => k_is); (case k14 => k_is)
    (case a15 => k_is); (case l15 => k_is); (case c15 => k_is); (case k15 => k_is); (case a16 => k_is); (case l16 => k_is)
    (case c16 => k_is); (case k16 => k_is); (case a17 => k_is); (case l17 => k_is); (case c17 => k_is); (case k17 => k_is)
    (case a18 => k_is); (case l18 => k_is); (case c18 => k_is); (case k18 => k_is); (case a19 => k_is); (case l19 => k_is)
    (case c19 => k_is); (case k19 => k_is); (case a20 => k_is); (case l20 => k_is); (case c20 => k_is); (case k20 => k_is)
    (case a21 => k_is); (case l21 => k_is); (case c21 => k_is); (case k21 => k_is); (case a22 => k_is); (case l22 => k_is)
    (case c22 => k_is); (case k22 => k_is); (case a23 => k_is); (case l23 => k_is); (case c23 => k_is); (case k23 => k_is)
    (case a24 => k_is); (case l24 => k_is); (case c24 => k_is); (case k24 => k_is); (case a25 => k_is); (case l25 => k_is)
    (case c25 => k_is); (case k25 => k_is); (case a26 => k_is); (case l26 => k_is); (case c26 => k_is); (case k26 => k_is)
    (case a27 => k_is); (case l27 => k_is); (case c27 => k_is); (case k27 => k_is); (case a28 => k_is); (case l28 => k_is)
    (case c28 => k_is); (case k28 => k_is); (case a29 => k_is); (case l29 => k_is); (case c29 => k_is); (case k29 => k_is)
    (case a30 => k_is); (case l30 => k_is); (case c30 => k_is); (case k30 => k_is); (case a31 => k_is); (case l31 => k_is)
    (case c31 => k_is); (case k31 => k_is); (case a32 => k_is); (case l32 => k_is); (case c32 => k_is); (case k32 => k_is)
    (case a33 => k_is); (case l33 => k_is); (case c33 => k_is); (case k33 => k_is); (case xa0 => k_is); (case xk0 => k_is)
    (case xs0 => k_is); (case xt0 => k_is); (case xe0 => k_exc); (case xg0 => k_is); (case xh0 => k_is); (case xd0 => k_is)
    (case xc0 => k_is); (case xm0 => k_is); (case xa1 => k_is); (case xk1 => k_is); (case xs1 => k_is); (case xt1 => k_is)
    (case xe1 => k_exc); (case xg1 => k_is); (case xh1 => k_is); (case xd1 => k_is); (case xc1 => k_is); (case xm1 => k_is)
    (case xa2 => k_is); (case xk2 => k_is); (case xs2 => k_is); (case xt2 => k_is); (case xe2 => k_exc); (case xg2 => k_is)
    (case xh2 => k_is); (case xd2 => k_is); (case xc2 => k_is); (case xm2 => k_is); (case xa3 => k_is); (case xk3 => k_is)
    (case xs3 => k_is); (case xt3 => k_is); (case xe3 => k_exc); (case xg3 => k_is); (case xh3 => k_is); (case xd3 => k_is)
    (case xc3 => k_is); (case xm3 => k_is); (case xa4 => k_is); (case xk4 => k_is); (case xs4 => k_is); (case xt4 => k_is)
    (case xe4 => k_exc); (case xg4 => k_is); (case xh4 => k_is); (case xd4 => k_is); (case xc4 => k_is); (case xm4 => k_is)
    (case xa5 => k_is); (case xk5 => k_is); (case xs5 => k_is); (case xt5 => k_is); (case xe5 => k_exc); (case xg5 => k_is)
    (case xh5 => k_is); (case xd5 => k_is); (case xc5 => k_is); (case xm5 => k_is); (case xn => k_is); (case xz => k_is)
    (case xr0_0 => k_is); (case xr0_1 => k_is); (case xr0_2 => k_is); (case xr0_3 => k_is); (case xr0_4 => k_is); (case xr0_5 => k_is)
    (case xr1_0 => k_is); (case xr1_1 => k_is); (case xr1_2 => k_is); (case xr1_3 => k_is); (case xr1_4 => k_is); (case xr1_5 => k_is)
    (case xr2_0 => k_is); (case xr2_1 => k_is); (case xr2_2 => k_is); (case xr2_3 => k_is); (case xr2_4 => k_is); (case xr2_5 => k_is)
    (case xr3_0 => k_is); (case xr3_1 => k_is); (case xr3_2 => k_is); (case xr3_3 => k_is); (case xr3_4 => k_is); (case xr3_5 => k_is)
    (case xr4_0 => k_is); (case xr4_1 => k_is); (case xr4_2 => k_is); (case xr4_3 => k_is); (case xr4_4 => k_is); (case xr4_5 => k_is)
    (case xr5_0 => k_is); (case xr5_1 => k_is); (case xr5_2 => k_is); (case xr5_3 => k_is); (case xr5_4 => k_is); (case xr5_5 => k_is)
    (case z0 => k_is); (case z1 => k_is); (case z2 => k_is); (case z3 => k_is); (case z4 => k_is); (case z5 => k_is)
    (case z6 => k_is); (case z7 => k_is); (case z8 => k_is); (case z9 => k_is); (case z10 => k_is); (case z11 => k_is)
    (case z12 => k_is); (case z13 => k_is); (case z14 => k_is); (case z15 => k_is); (case y0 => k_is); (case y1 => k_is)
    (case y2 => k_is); (case y3 => k_is); (case y4 => k_is); (case y5 => k_is); (case y6 => k_is); (case y7 => k_is)

