import PyProof.Rows.All
import Wide.All
import OpenK.AllK
import Wide.FinOn
import PyProof.P3Statements
import PyProof.Dict
import HandS.ForMost
import HandS.ForExc
import HandS.CallSlots
import HandS.Defaults
import HandS.Deep
import HandS.TupAny
import HandS.TupMul
import HandS.TupLe
import HandS.IsInst
import HandS.Strs
import HandS.SetFor
import HandS.ExcField
import HandS.ExcOwn
import HandS.NoneIn
import HandS.Lambda
import HandS.SortInts
import HandS.SortRule
import HandS.Style
import HandS.More
import HandS.Conv
import HandS.TupSets
import HandS.Zip
import KE.GoesMore
import HandS.Iter
import HandS.TryMany
import KE.KDflt
import HandS.DictComp
import HandS.ExcInit
import KE.KExcSuper
import HandS.HeadHook4
import HandS.HeadWalk
import KE.KNestM
import HandS.Words
import HandS.WordsExc
import HandS.Head0
import HandS.Head1
import HandS.Head2
import HandS.HeadEnd
import PySem.Challenge.RW_allsettled_k08_asking_by_hand
set_option linter.all false
/-! RfCore: an evaluator of plain terms: values without a heap, a store of lists, dicts, instances; expressions, statements; calls by number. -/
namespace Rf
open PySem

abbrev DKey := Sum Int Str

/-- a value: data, a place in the store, a class, a def -/
inductive W where
  | non | bl (b : Bool) | int (i : Int) | str (s : Str) | tup (xs : List W) | tpl (xs : List W) | loc (n : Nat) | ty (s : String) | obj (g : Nat) | err (c : Nat) (fs : List (Nat × W))
  deriving Inhabited
inductive Cell where
  | lst (xs : List W) | frz (xs : List W) | dic (kvs : List (DKey × W)) | lck (kvs : List (DKey × W)) | dct (kvs : List (List DKey × W)) | ins (c : Nat) (fs : List (Nat × W)) | set (xs : List Int)
  deriving Inhabited
inductive Tr where
  | leaf | node (c : Option Cell) (l r : Tr)
def Tr.get : Tr → Nat → Option Cell
  | .leaf, _ => none
  | .node c _ _, 0 => c
  | .node _ l r, n + 1 => bif Nat.beq (n % 2) 0 then l.get (n / 2) else r.get (n / 2)
def Tr.put : Nat → Tr → Nat → Cell → Tr
  | 0, t, _, _ => t
  | _ + 1, .leaf, 0, c => .node (some c) .leaf .leaf
  | f + 1, .leaf, n + 1, c => bif Nat.beq (n % 2) 0 then .node none (Tr.put f .leaf (n / 2) c) .leaf else .node none .leaf (Tr.put f .leaf (n / 2) c)
  | _ + 1, .node _ l r, 0, c => .node (some c) l r
  | f + 1, .node d l r, n + 1, c => bif Nat.beq (n % 2) 0 then .node d (Tr.put f l (n / 2) c) r else .node d l (Tr.put f r (n / 2) c)
structure Store where
  t : Tr
  n : Nat
namespace Store
def get (S : Store) (a : Nat) : Option Cell := S.t.get a
def upd (S : Store) (a : Nat) (c : Cell) : Store := ⟨S.t.put (a + 1) a c, S.n⟩
def push (S : Store) (c : Cell) : Store := ⟨S.t.put (S.n + 1) S.n c, S.n + 1⟩
def empty : Store := ⟨.leaf, 0⟩
end Store

inductive Res (α : Type) where
  | ok (a : α) (S : Store) | exc (c : Nat) (fs : List (Nat × W)) (S : Store) | stuck
def Res.bind {α β : Type} (r : Res α) (k : α → Store → Res β) : Res β := match r with
  | .ok a S => k a S
  | .exc c fs S => .exc c fs S
  | .stuck => .stuck
def Res.noX {α : Type} : Res α → Res α
  | .exc _ _ _ => .stuck
  | r => r
def Res.of {α : Type} (o : Option α) (S : Store) : Res α := match o with
  | some a => .ok a S
  | none => .stuck
abbrev Tau := List (Option W)
inductive Out where
  | nx (τ : Tau) (S : Store) | rt (w : W) (S : Store) | bk (τ : Tau) (S : Store) | ct (τ : Tau) (S : Store) | exc (c : Nat) (fs : List (Nat × W)) (τ : Tau) (S : Store) | stuck

/-- the longest list -/
def lim : Nat := 1000000

/-! ### the terms -/
inductive B where
  | len | int | abs | min2 | max2 | minL | maxL | sum | any | all | sorted | tuple | list | set | dict | isi | str | set0
  deriving DecidableEq, Inhabited
inductive M where
  | append | extend | pop | popAt | index | count | remove | get1 | get2 | sort | reverse | dpop2 | join | add
  deriving DecidableEq, Inhabited
mutual
inductive E where
  | var (i : Nat) | int (i : Int) | bl (b : Bool) | non | str (s : Str) | glb (k : Nat) | ty (s : String)
  | bin (o : Operator) (a b : E) | un (o : UnaryOp) (a : E) | tst (t : T)
  | and (a b : E) | or (a b : E)
  | cmp (o : CmpOp) (a b : E) | chn (o o' : CmpOp) (a b c : E)
  | ite (t : T) (a b : E)
  | tup (es : Es) | lst (es : Es) | dct (ps : Ps)
  | tpp (es : Es)
  | lc (e : E) (g : Tg) (i : It) (f : Ts) (own : List Nat)
  | dc (k v : E) (g : Tg) (i : It) (f : Ts) (own : List Nat)
  | ix (a i : E) | sl (a : E) (lo hi : Es) | rev (a : E)
  | call (f : Nat) (es : Es) (pm : List Nat)
  | mk (c : Nat) (es : Es)
  | bi (b : B) (es : Es)
  | bm (m : M) (o : E) (es : Es)
  | om (m : Nat) (o : E) (es : Es)
  | fld (o : E) (f : Nat)
  | rg (tup : Bool) (es : Es)
  | lset (e : E)
inductive T where
  | val (e : E) | and (a b : T) | or (a b : T) | not (a : T)
inductive Es where
  | nil | cons (e : E) (r : Es)
inductive Ts where
  | nil | cons (t : T) (r : Ts)
inductive Ps where
  | nil | cons (k v : E) (r : Ps)
inductive It where
  | seq (e : E) | rng (es : Es) | enum (e : E) | zip (es : Es) | items (e : E)
inductive Tg where
  | nm (i : Nat) | tp (ts : Tgs) | sub (o i : E) | fd (o : E) (f : Nat)
inductive Tgs where
  | nil | cons (t : Tg) (r : Tgs)
end
/-! an except suite: one small statement over constants, names, fields of what is caught -/
mutual
inductive U where
  | non | bl (b : Bool) | int (i : Int) | str (s : Str) | var (i : Nat) | fld (f : Nat) | tup (us : Us) | lst (us : Us)
inductive Us where
  | nil | cons (u : U) (r : Us)
end
inductive Su where
  | asg (i : Nat) (u : U) | app (i : Nat) (u : U) | ret (u : U) | pas
mutual
inductive Sm where
  | asg (t : Tg) (e : E) | par (is : List Nat) (es : Es)
  | aug (i : Nat) (o : Operator) (e : E) | augS (a i : E) (o : Operator) (e : E) | augF (a : E) (f : Nat) (o : Operator) (e : E)
  | ex (e : E) | ret (e : E) | retN | ifs (t : T) (a b : Sms) | fr (g : Tg) (i : It) (b : Sms) | whl (t : T) (b : Sms)
  | rse (c : Nat) (fs : List Nat) (es : Es) | pas | brk | cnt | del (o i : E) | tr (b : Sms) (hs : Hs) | trN (b : Sms) | stk
  | lfr (c l : Nat) (es : Es) (hs : Hs)
inductive Sms where
  | nil | cons (s : Sm) (r : Sms)
inductive Hs where
  | nil | cons (c : Nat) (nm : Option Nat) (u : Su) (r : Hs)
end

/-! ### len(set(xs)), xs a list of tuples of whole numbers and None: the set's own table is worked -/
abbrev NK := List (Option Int)
def nhash1 : Option Int → Int
  | none => reduceHash 0xFCA86420
  | some i => hashInt i
def nhash (k : NK) : Int := reduceHash (Builtin.Tuple.tupleHashOf (k.map nhash1))
def hAt (es : Array (Int × NK)) (i : Nat) : Int := (es[i]?.map (·.1)).getD 0
/-- a search that adds: none where it is there, else its place -/
def seekP (es : Array (Int × NK)) (t : SetTable) (k : NK) (h : Int) : Nat → Option SetTable.Probe → Option (Option Nat)
  | 0, _ => none
  | n + 1, st => if t.gaveWay then none else match t.probe (hAt es) h (st.getD (t.probeStart h)) with
    | some (.empty j none) => some (some j)
    | some (.candidate j i next) => match es[i]? with
      | some p => if p.2 = k then some none else if t.slot j = .live i then seekP es t k h n (some next) else none
      | none => none
    | _ => none
abbrev TabP := Array (Int × NK) × SetTable
def layP (q : TabP) : Option TabP :=
  if q.2.fits q.1.size && decide (SetTable.sizeAbove (SetTable.grown q.1.size) ≤ 4096) then match q.2.relaid (q.1.map (·.1)) (SetTable.grown q.1.size) with
    | some (t2, order) => if (order.filterMap (q.1[·]?)).size = q.1.size then some (order.filterMap (q.1[·]?), t2) else none
    | none => none
  else none
def putP (q : TabP) (k : NK) (j : Nat) : TabP := (SetTable.insertAt q.1 (q.2.put j).2 (nhash k, k), (q.2.put j).1)
def addP (q : TabP) (k : NK) : Option TabP :=
  if q.2.fits q.1.size && q.2.plain && decide (q.1.size < 1000) then match seekP q.1 q.2 k (nhash k) 100000 none with
    | some none => some q
    | some (some j) => if (putP q k j).1.size = q.1.size + 1 then (if (putP q k j).2.tooFull then layP (putP q k j) else some (putP q k j)) else none
    | none => none
  else none
def setP : List NK → TabP → Option TabP
  | [], q => some q
  | k :: r, q => (addP q k).bind (setP r)
def countP (b : Bool) (ks : List NK) : Option Nat := (setP ks (#[], .fresh 0 0 b)).bind fun q => if q.2.fits q.1.size && decide (q.1.size < 2000) then some q.1.size else none
def lsetK (ks : List NK) : Option Nat := match countP true ks, countP false ks with
  | some a, some b => if a = b then some a else none
  | _, _ => none
/-! ### values -/
/-- a tuple's things: tup: one that may be a key; tpl: one whose methods may be called -/
def tupOf : W → Option (List W)
  | .tup xs => some xs
  | .tpl xs => some xs
  | _ => none
def mapO {α β : Type} (f : α → Option β) : List α → Option (List β)
  | [] => some []
  | x :: xs => match f x with
    | some y => (mapO f xs).map (y :: ·)
    | none => none
def nkOf (w : W) : Option NK := (tupOf w).bind (mapO fun
  | .non => some none
  | .int i => some (some i)
  | _ => none)
def lsetW (S : Store) : W → Option W
  | .loc n => match S.get n with
    | some (.lst xs) => ((mapO nkOf xs).bind lsetK).map fun n => .int (n : Nat)
    | _ => none
  | _ => none
/-- the plain data that a value is -/
def toD (S : Store) : Nat → W → Option PyData
  | _, .non => some .none
  | _, .bl b => some (.bool b)
  | _, .int i => some (.int i)
  | _, .str s => if PyData.canLay0 (.str s) = true then some (.str s) else none
  | n + 1, .tup xs => (mapO (toD S n) xs).map .tuple
  | n + 1, .tpl xs => (mapO (toD S n) xs).map .tuple
  | n + 1, .loc l => match S.get l with
    | some (.lst xs) => (mapO (toD S n) xs).map .list
    | some (.frz xs) => (mapO (toD S n) xs).map .list
    | _ => none
  | _, _ => none
def eqW (S : Store) (x y : W) : Option Bool := match toD S 60 x, toD S 60 y with
  | some d, some e => some (PyData.eqv d e)
  | _, _ => none
def truW (S : Store) : W → Option Bool
  | .non => some false
  | .bl b => some b
  | .int i => some (i != 0)
  | .str s => if s.length ≤ lim then some ((s.length : Int) != 0) else none
  | .tup xs => some (!xs.isEmpty)
  | .tpl xs => some (!xs.isEmpty)
  | .loc l => match S.get l with
    | some (.lst xs) => some (!xs.isEmpty)
    | some (.frz xs) => some (!xs.isEmpty)
    | some (.dic kvs) => some (!kvs.isEmpty)
    | _ => none
  | _ => none
def seqOf (S : Store) : W → Option (List W)
  | .tup xs => some xs
  | .tpl xs => some xs
  | .loc l => match S.get l with
    | some (.lst xs) => some xs
    | some (.frz xs) => some xs
    | _ => none
  | _ => none
def lstOf (S : Store) : W → Option (List W)
  | .loc l => match S.get l with
    | some (.lst xs) => some xs
    | some (.frz xs) => some xs
    | _ => none
  | _ => none
def ixOf (n : Nat) (i : Int) : Option Nat := if 0 ≤ i then (if i < n then some i.toNat else none) else if -(n : Int) ≤ i then some (i + n).toNat else none
def keyOf : W → Option DKey
  | .int i => some (.inl i)
  | .str s => some (.inr s)
  | _ => none
/-- a tuple of ints and texts, as a key -/
def tkeyOf : W → Option (List DKey)
  | .tup xs => mapO keyOf xs
  | _ => none
def dget {κ : Type} [DecidableEq κ] (kvs : List (κ × W)) (k : κ) : Option W := (kvs.find? fun q => decide (q.1 = k)).map (·.2)
def dput {κ : Type} [DecidableEq κ] (kvs : List (κ × W)) (k : κ) (w : W) : List (κ × W) :=
  if (kvs.any fun q => decide (q.1 = k)) = true then kvs.map (fun q => if q.1 = k then (q.1, w) else q) else kvs ++ [(k, w)]
def ddel {κ : Type} [DecidableEq κ] (kvs : List (κ × W)) (k : κ) : List (κ × W) := kvs.filter fun q => decide (q.1 ≠ k)
def fget : List (Nat × W) → Nat → Option W
  | [], _ => none
  | (k, v) :: r, x => if k = x then some v else fget r x
def fput : List (Nat × W) → Nat → W → List (Nat × W)
  | [], x, w => [(x, w)]
  | (k, v) :: r, x, w => if k = x then (k, w) :: r else (k, v) :: fput r x w
def intsOf : List W → Option (List Int) := mapO fun | .int i => some i | _ => none
def blsOf : List W → Option (List Bool) := mapO fun | .bl b => some b | _ => none

/-! ### operators -/
structure Ora where
  call : Nat → List W → Store → Res W
  init : Nat → List W → Store → Res W
  meth : Nat → Nat → Option Nat
  glb : Nat → W
  fok : Nat → Nat → Bool
  lf : Nat
  sub : Nat → Nat → Option Bool
def small (i : Int) : Bool := decide (-(2 ^ 64) < i) && decide (i < 2 ^ 64)
def repW (xs : List W) (k : Nat) : List W := (List.replicate k xs).flatten
def binW (S : Store) : Operator → W → W → Res W
  | .Add, .int i, .int j => .ok (.int (i + j)) S
  | .Add, .str x, .str y => if x.length + y.length ≤ lim then .ok (.str (x ++ y)) S else .stuck
  | .Add, .loc a, .loc b => match S.get a, S.get b with
    | some (.lst xs), some (.lst ys) => if xs.length + ys.length ≤ lim then .ok (.loc S.n) (S.push (.lst (xs ++ ys))) else .stuck
    | _, _ => .stuck
  | .Sub, .int i, .int j => .ok (.int (i - j)) S
  | .Mult, .int i, .int j => if (small i || small j) = true then .ok (.int (i * j)) S else .stuck
  | .Mult, .loc a, .int k => match S.get a with
    | some (.lst xs) => if k ≤ 100000 ∧ -100000 ≤ k ∧ xs.length * k.toNat ≤ lim then .ok (.loc S.n) (S.push (.lst (repW xs k.toNat))) else .stuck
    | _ => .stuck
  | .FloorDiv, .int i, .int j => if j ≠ 0 ∧ j.natAbs < 1073741824 then .ok (.int (i.fdiv j)) S else .stuck
  | .Mod, .int i, .int j => if j ≠ 0 then .ok (.int (i.fmod j)) S else .stuck
  | .Pow, .int i, .int j => if 0 ≤ j ∧ j ≤ 1000 ∧ i.natAbs < 2 ^ 64 then .ok (.int (i ^ j.toNat)) S else .stuck
  | .LShift, .int i, .int j => if 0 ≤ j ∧ j ≤ 100000 ∧ i.natAbs < 2 ^ 64 then .ok (.int (i * 2 ^ j.toNat)) S else .stuck
  | .RShift, .int i, .int j => if 0 ≤ j then .ok (.int (i / 2 ^ j.toNat)) S else .stuck
  | .BitAnd, .int i, .int j => .ok (.int (Builtin.bitAnd i j)) S
  | .BitOr, .int i, .int j => .ok (.int (Builtin.bitOr i j)) S
  | .BitXor, .int i, .int j => .ok (.int (Builtin.bitXor i j)) S
  | .Add, x, y => match tupOf x, tupOf y with
    | some xs, some ys => if xs.length + ys.length ≤ lim then .ok (if xs.isEmpty then y else if ys.isEmpty then x else .tpl (xs ++ ys)) S else .stuck
    | _, _ => .stuck
  | .Mult, x, .int k => match tupOf x with
    | some xs => if 2 ≤ k ∧ k ≤ 1000 ∧ xs.length ≤ 1000 ∧ xs ≠ [] then .ok (.tpl (repW xs k.toNat)) S else .stuck
    | none => .stuck
  | _, _, _ => .stuck
/-- in place -/
def augW (S : Store) : Operator → W → W → Res W
  | .Add, .int i, .int j => .ok (.int (i + j)) S
  | .Sub, .int i, .int j => .ok (.int (i - j)) S
  | .Add, .str x, .str y => if x.length + y.length ≤ lim then .ok (.str (x ++ y)) S else .stuck
  | _, _, _ => .stuck
def unW : UnaryOp → W → Option W
  | .USub, .int i => some (.int (-i))
  | .Invert, .int i => some (.int (Builtin.bitNot i))
  | _, _ => none
/-- the order of rows of ints -/
def lexI : List Int → List Int → Bool
  | [], [] => false
  | [], _ :: _ => true
  | _ :: _, [] => false
  | x :: xs, y :: ys => if x = y then lexI xs ys else decide (x < y)
def flatW : W → Bool
  | .non => true | .bl _ => true | .int _ => true | .str _ => true
  | _ => false
def eqF : W → W → Bool
  | .non, .non => true
  | .bl a, .bl b => a == b
  | .bl a, .int b => (if a then 1 else 0) == b
  | .int a, .bl b => a == (if b then 1 else 0)
  | .int a, .int b => a == b
  | .str a, .str b => a == b
  | _, _ => false
/-- in a list or a tuple of data -/
def inD (S : Store) (x y : W) : Option Bool := match toD S 60 y, toD S 60 x with
  | some (.list ds), some d => some (ds.any fun z => PyData.eqv z d)
  | some (.tuple ds), some d => some (ds.any fun z => PyData.eqv z d)
  | _, _ => none
def inW (S : Store) (x y : W) : Option Bool := match y with
  | .loc l => match S.get l with
    | some (.dic kvs) => match keyOf x with
      | some k => some (dget kvs k).isSome
      | none => match x with
        | .non => some false
        | _ => if kvs.isEmpty then (tkeyOf x).map fun _ => false else none
    | some (.dct kvs) => (tkeyOf x).map fun k => (dget kvs k).isSome
    | _ => inD S x y
  | _ => inD S x y
def cmpW (S : Store) : CmpOp → W → W → Option Bool
  | .Eq, x, y => eqW S x y
  | .NotEq, x, y => (eqW S x y).map (!·)
  | .Lt, .int i, .int j => some (decide (i < j))
  | .LtE, .int i, .int j => some (decide (i ≤ j))
  | .Gt, .int i, .int j => some (decide (j < i))
  | .GtE, .int i, .int j => some (decide (j ≤ i))
  | .Is, x, .non => some (match x with | .non => true | _ => false)
  | .IsNot, x, .non => some (match x with | .non => false | _ => true)
  | .Is, .bl a, .bl b => some (a == b)
  | .IsNot, .bl a, .bl b => some (!(a == b))
  | .In, x, y => inW S x y
  | .NotIn, x, y => (inW S x y).map (!·)
  | .Lt, x, y => match (tupOf x).bind intsOf, (tupOf y).bind intsOf with
    | some a, some b => some (lexI a b)
    | _, _ => none
  | .GtE, x, y => match (tupOf x).bind intsOf, (tupOf y).bind intsOf with
    | some a, some b => some (!lexI a b)
    | _, _ => none
  | _, _, _ => none
def ixW (S : Store) (x i : W) : Option W := match x, i with
  | .tup xs, .int k => (ixOf xs.length k).bind fun j => xs[j]?
  | .tpl xs, .int k => (ixOf xs.length k).bind fun j => xs[j]?
  | .str z, .int k => if z.length ≤ lim then ((ixOf z.cps.toList.length k).bind fun j => z.cps.toList[j]?).map fun c => .str ⟨#[c]⟩ else none
  | .loc l, w => match S.get l, w with
    | some (.lst xs), .int k => (ixOf xs.length k).bind fun j => xs[j]?
    | some (.frz xs), .int k => (ixOf xs.length k).bind fun j => xs[j]?
    | some (.dic kvs), w => (keyOf w).bind fun k => dget kvs k
    | some (.dct kvs), w => (tkeyOf w).bind fun k => dget kvs k
    | _, _ => none
  | _, _ => none
/-- an item that is read to be changed -/
def getW (S : Store) (x i : W) : Option W := match x with
  | .loc _ => ixW S x i
  | _ => none
def sIx (n d : Nat) : Option Int → Nat
  | none => d
  | some v => if v < 0 then (v + (n : Int)).toNat else min v.toNat n
def cutW {α : Type} (xs : List α) (lo hi : Option Int) : List α := (xs.drop (sIx xs.length 0 lo)).take (sIx xs.length xs.length hi - sIx xs.length 0 lo)
def slW (S : Store) (x : W) (lo hi : Option Int) : Res W := match x with
  | .tup xs => .ok (if sIx xs.length 0 lo = 0 ∧ sIx xs.length xs.length hi = xs.length then x else .tpl (cutW xs lo hi)) S
  | .tpl xs => .ok (if sIx xs.length 0 lo = 0 ∧ sIx xs.length xs.length hi = xs.length then x else .tpl (cutW xs lo hi)) S
  | .loc l => match S.get l with
    | some (.lst xs) => .ok (.loc S.n) (S.push (.lst (cutW xs lo hi)))
    | some (.frz xs) => .ok (.loc S.n) (S.push (.lst (cutW xs lo hi)))
    | _ => .stuck
  | _ => .stuck
def revW (S : Store) (x : W) : Res W := match x with
  | .loc l => match S.get l with
    | some (.lst xs) => .ok (.loc S.n) (S.push (.lst xs.reverse))
    | _ => .stuck
  | .tup xs => .ok (.tpl xs.reverse) S
  | .tpl xs => .ok (.tpl xs.reverse) S
  | _ => .stuck
def setW (S : Store) (o i w : W) : Option Store := match o with
  | .loc l => match S.get l, i with
    | some (.lst xs), .int k => (ixOf xs.length k).map fun j => S.upd l (.lst (xs.set j w))
    | some (.dic kvs), i => match keyOf i with
      | some k => if kvs.length < lim then some (S.upd l (.dic (dput kvs k w))) else none
      | none => if kvs.isEmpty then (tkeyOf i).map fun k => S.upd l (.dct [(k, w)]) else none
    | some (.dct kvs), i => (tkeyOf i).bind fun k => if kvs.length < lim then some (S.upd l (.dct (dput kvs k w))) else none
    | _, _ => none
  | _ => none
def fldW (k : Nat → Nat → Bool) (S : Store) (o : W) (f : Nat) : Option W := match o with
  | .loc l => match S.get l with
    | some (.ins c fs) => if k c f = true then fget fs f else none
    | _ => none
  | _ => none
def clsW (S : Store) (o : W) : Option Nat := match o with
  | .loc l => match S.get l with
    | some (.ins c _) => some c
    | _ => none
  | _ => none
def setF (k : Nat → Nat → Bool) (S : Store) (o : W) (f : Nat) (w : W) : Option Store := match o with
  | .loc l => match S.get l with
    | some (.ins c fs) => if k c f = true ∧ fs.length < 900 then some (S.upd l (.ins c (fput fs f w))) else none
    | _ => none
  | _ => none
/-- where one row of ints is put into a rising one -/
def insI (x : Int) : List Int → List Int
  | [] => [x]
  | y :: ys => if x ≤ y then x :: y :: ys else y :: insI x ys
def srtI : List Int → List Int
  | [] => []
  | x :: xs => insI x (srtI xs)
def pr2 : W → Option (Int × Int)
  | .tup [.int a, .int b] => some (a, b)
  | _ => none
def ltP (p q : Int × Int) : Bool := decide (p.1 < q.1) || (decide (p.1 = q.1) && decide (p.2 < q.2))
def insP (x : Int × Int) : List (Int × Int) → List (Int × Int)
  | [] => [x]
  | y :: ys => if ltP y x = true then y :: insP x ys else x :: y :: ys
def srtP : List (Int × Int) → List (Int × Int)
  | [] => []
  | x :: xs => insP x (srtP xs)
def nubI : List Int → List Int
  | [] => []
  | x :: xs => if xs.contains x then nubI xs else x :: nubI xs
def tyW (S : Store) : W → Option String
  | .non => some "NoneType" | .bl _ => some "bool" | .int _ => some "int" | .str _ => some "str" | .tup _ => some "tuple" | .tpl _ => some "tuple"
  | .loc l => match S.get l with
    | some (.lst _) => some "list" | some (.frz _) => some "list" | some (.dic _) => some "dict" | some (.dct _) => some "dict" | _ => none
  | _ => none
/-- what stands above a built-in class -/
def mroW (a : String) : List String := if a = "bool" then ["bool", "int", "object"] else [a, "object"]
def isiT : List String := ["int", "str", "bool", "tuple", "list", "dict"]
def tyOf1 : W → Option String
  | .ty t => if isiT.contains t = true then some t else none
  | _ => none
def isiW (S : Store) (x : W) : W → Option Bool
  | .tup ts => match tyW S x, mapO tyOf1 ts with
    | some a, some us => some (us.any fun t => (mroW a).contains t)
    | _, _ => none
  | c => match tyW S x, tyOf1 c with
    | some a, some t => some ((mroW a).contains t)
    | _, _ => none
def sumL (xs : List Int) : Int := xs.sum
def maxL : Int → List Int → Int
  | m, [] => m
  | m, x :: xs => maxL (if m < x then x else m) xs
def minL : Int → List Int → Int
  | m, [] => m
  | m, x :: xs => minL (if x < m then x else m) xs
def kW : DKey → W
  | .inl i => .int i
  | .inr s => .str s
/-- a dict's keys in turn -/
def keysOf (S : Store) : W → Option (List W)
  | .loc l => match S.get l with
    | some (.dic kvs) => some (kvs.map fun q => kW q.1)
    | _ => none
  | _ => none
/-- pairs as a dict's entries -/
def pairsOf : List W → Option (List (DKey × W)) := mapO fun
  | .tup [k, v] => (keyOf k).map fun q => (q, v)
  | .tpl [k, v] => (keyOf k).map fun q => (q, v)
  | _ => none
def mergeD {κ : Type} [DecidableEq κ] (kvs more : List (κ × W)) : List (κ × W) := more.foldl (fun acc q => dput acc q.1 q.2) kvs
def biW (S : Store) : B → List W → Res W
  | .len, [.str z] => if z.length ≤ lim then .ok (.int z.length) S else .stuck
  | .len, [.tup xs] => .ok (.int xs.length) S
  | .len, [.tpl xs] => .ok (.int xs.length) S
  | .len, [.loc l] => match S.get l with
    | some (.lst xs) => .ok (.int xs.length) S
    | some (.frz xs) => .ok (.int xs.length) S
    | some (.dic kvs) => .ok (.int kvs.length) S
    | some (.set zs) => .ok (.int zs.length) S
    | _ => .stuck
  | .int, [.int i] => .ok (.int i) S
  | .int, [.bl b] => .ok (.int (if b then 1 else 0)) S
  | .abs, [.int i] => .ok (.int (if i < 0 then -i else i)) S
  | .min2, [.int i, .int j] => .ok (.int (if j < i then j else i)) S
  | .max2, [.int i, .int j] => .ok (.int (if j > i then j else i)) S
  | .minL, [x] => match (lstOf S x).bind intsOf with
    | some (i :: is) => .ok (.int (minL i is)) S
    | _ => .stuck
  | .maxL, [x] => match (lstOf S x).bind intsOf with
    | some (i :: is) => .ok (.int (maxL i is)) S
    | _ => .stuck
  | .sum, [x] => match (lstOf S x).bind intsOf with
    | some is => .ok (.int is.sum) S
    | none => .stuck
  | .any, [x] => match (lstOf S x).bind blsOf with
    | some bs => .ok (.bl (bs.any id)) S
    | none => .stuck
  | .all, [x] => match (lstOf S x).bind blsOf with
    | some bs => .ok (.bl (bs.all id)) S
    | none => .stuck
  | .sorted, [x] => match (seqOf S x).bind intsOf, (keysOf S x).bind intsOf with
    | some is, _ => .ok (.loc S.n) (S.push (.lst ((srtI is).map .int)))
    | none, some is => if is.length < 64 then .ok (.loc S.n) (S.push (.lst ((srtI is).map .int))) else .stuck
    | none, none => match (lstOf S x).bind (mapO pr2) with
      | some ps => .ok (.loc S.n) (S.push (.lst ((srtP ps).map fun p => .tup [.int p.1, .int p.2])))
      | none => .stuck
  | .tuple, [x] => match tupOf x with
    | some _ => .ok x S
    | none => match seqOf S x with
      | some xs => .ok (.tpl xs) S
      | none => .stuck
  | .list, [x] => match seqOf S x with
    | some xs => .ok (.loc S.n) (S.push (.lst xs))
    | none => .stuck
  | .set, [x] => match (tupOf x).bind intsOf with
    | some is => if is.length < 1000 then .ok (.loc S.n) (S.push (.set (nubI is))) else .stuck
    | none => .stuck
  | .dict, [x] => match (lstOf S x).bind pairsOf with
    | some kvs => if kvs.length < 1000 then .ok (.loc S.n) (S.push (.dic (mergeD [] kvs))) else .stuck
    | none => .stuck
  | .isi, [x, c] => match isiW S x c with
    | some b => .ok (.bl b) S
    | none => .stuck
  | _, _ => .stuck
/-- a dict's cell out of its entries: keys of one kind -/
def dicOf (ps : List (W × W)) : Option Cell := match mapO (fun (p : W × W) => (keyOf p.1).map fun k => (k, p.2)) ps with
  | some kvs => some (.dic (mergeD [] kvs))
  | none => (mapO (fun (p : W × W) => (tkeyOf p.1).map fun k => (k, p.2)) ps).map fun kvs => .dct (mergeD [] kvs)
def findF (x : W) : List W → Option Nat
  | [] => none
  | y :: ys => if eqF y x = true then some 0 else (findF x ys).map (· + 1)
/-- the first place of data in a row -/
def findD (d : PyData) : List PyData → Option Nat
  | [] => none
  | y :: ys => if PyData.eqv y d = true then some 0 else (findD d ys).map (· + 1)
/-- the kind of a method's receiver: a list, a tuple, a dict -/
def mK : M → W → Nat
  | .index, .tpl _ => 1
  | .get1, _ => 2
  | .get2, _ => 2
  | _, _ => 0
/-- a receiver that has the method -/
def mOk (S : Store) : M → W → Bool
  | .index, .tpl _ => true
  | .index, .loc l => match S.get l with
    | some (.lst _) => true
    | some (.frz _) => true
    | _ => false
  | .get1, .loc l => match S.get l with
    | some (.dic _) => true
    | some (.dct _) => true
    | _ => false
  | .get2, .loc l => match S.get l with
    | some (.dic _) => true
    | some (.dct _) => true
    | _ => false
  | .append, .loc l => match S.get l with
    | some (.lst _) => true
    | _ => false
  | .extend, .loc l => match S.get l with
    | some (.lst _) => true
    | _ => false
  | .pop, .loc l => match S.get l with
    | some (.lst _) => true
    | _ => false
  | .popAt, .loc l => match S.get l with
    | some (.lst _) => true
    | _ => false
  | _, _ => false
def bmW (S : Store) : M → W → List W → Res W
  | .append, .loc l, [w] => match S.get l with
    | some (.lst xs) => if xs.length < lim then .ok .non (S.upd l (.lst (xs ++ [w]))) else .stuck
    | _ => .stuck
  | .extend, .loc l, [.loc b] => match S.get l, S.get b with
    | some (.lst xs), some (.lst ys) => if xs.length + ys.length ≤ lim then .ok .non (S.upd l (.lst (xs ++ ys))) else .stuck
    | _, _ => .stuck
  | .pop, .loc l, [] => match S.get l with
    | some (.lst xs) => match xs[xs.length - 1]? with
      | some y => .ok y (S.upd l (.lst xs.dropLast))
      | none => .stuck
    | _ => .stuck
  | .popAt, .loc l, [.int i] => match S.get l with
    | some (.lst xs) => match ixOf xs.length i with
      | some k => match xs[k]? with
        | some y => .ok y (S.upd l (.lst (xs.eraseIdx k)))
        | none => .stuck
      | none => .stuck
    | _ => .stuck
  | .index, x, [w] => match toD S 60 w with
    | some d => match x, toD S 60 x with
      | .tpl _, some (.tuple ds) => match findD d ds with
        | some k => .ok (.int k) S
        | none => .stuck
      | .loc _, some (.list ds) => match findD d ds with
        | some k => .ok (.int k) S
        | none => .stuck
      | _, _ => .stuck
    | none => .stuck
  | .get1, .loc l, [w] => match S.get l with
    | some (.dic kvs) => match keyOf w with
      | some k => .ok ((dget kvs k).getD .non) S
      | none => .stuck
    | some (.dct kvs) => match tkeyOf w with
      | some k => .ok ((dget kvs k).getD .non) S
      | none => .stuck
    | _ => .stuck
  | .get2, .loc l, [w, d] => match S.get l with
    | some (.dic kvs) => match keyOf w with
      | some k => .ok ((dget kvs k).getD d) S
      | none => .stuck
    | some (.dct kvs) => match tkeyOf w with
      | some k => .ok ((dget kvs k).getD d) S
      | none => .stuck
    | _ => .stuck
  | _, _, _ => .stuck

/-! ### what is walked -/
inductive Src where
  | st (xs : List W) | lv (l : Nat)
inductive Ju where
  | one (s : Src) | enum (s : Src) | zip (ss : List Src) | rng (lo : Int) (n : Nat) | items (l : Nat) (kvs : List (DKey × W))
def Src.at (S : Store) : Src → Nat → Option (Option W)
  | .st xs, i => some xs[i]?
  | .lv l, i => match S.get l with
    | some (.lst xs) => some xs[i]?
    | some (.frz xs) => some xs[i]?
    | _ => none
def Src.len (S : Store) : Src → Nat
  | .st xs => xs.length
  | .lv l => match S.get l with
    | some (.lst xs) => xs.length
    | some (.frz xs) => xs.length
    | _ => 0
def zipAt (S : Store) (i : Nat) : List Src → Option (Option (List W))
  | [] => some (some [])
  | s :: r => match s.at S i, zipAt S i r with
    | some (some x), some (some xs) => some (some (x :: xs))
    | some _, some _ => some none
    | _, _ => none
def Ju.at (S : Store) (i : Nat) : Ju → Option (Option W)
  | .one s => s.at S i
  | .enum s => (s.at S i).map fun o => o.map fun x => .tup [.int i, x]
  | .zip ss => (zipAt S i ss).map fun o => o.map .tup
  | .rng lo n => some (if i < n then some (.int (lo + i)) else none)
  | .items _ kvs => some ((kvs[i]?).map fun q => .tup [match q.1 with | .inl k => .int k | .inr s => .str s, q.2])
def minN : Nat → List Nat → Nat
  | m, [] => m
  | m, x :: xs => minN (min m x) xs
def Ju.len (S : Store) : Ju → Nat
  | .one s => s.len S
  | .enum s => s.len S
  | .zip (s :: ss) => minN (s.len S) (ss.map fun z => z.len S)
  | .zip [] => 0
  | .rng _ n => n
  | .items _ kvs => kvs.length
def srcOf (S : Store) : W → Option Src
  | .tup xs => some (.st xs)
  | .tpl xs => some (.st xs)
  | .loc l => match S.get l with
    | some (.lst _) => some (.lv l)
    | some (.frz _) => some (.lv l)
    | _ => none
  | _ => none
/-- the turns of a loop -/
def loopJ (J : Ju) (step : W → Tau → Store → Out) : Nat → Nat → Tau → Store → Out
  | 0, i, τ, S => match J.at S i with
    | some none => .nx τ S
    | _ => .stuck
  | n + 1, i, τ, S => match J.at S i with
    | some (some x) => match step x τ S with
      | .nx τ' S' => loopJ J step n (i + 1) τ' S'
      | .ct τ' S' => loopJ J step n (i + 1) τ' S'
      | .bk τ' S' => .nx τ' S'
      | .rt w S' => .rt w S'
      | .exc c fs τ' S' => .exc c fs τ' S'
      | .stuck => .stuck
    | _ => .stuck
/-- the turns of a comprehension -/
def compJ {α : Type} (J : Ju) (step : W → Store → Res (Option α)) : Nat → Nat → Store → Res (List α)
  | 0, i, S => match J.at S i with
    | some none => .ok [] S
    | _ => .stuck
  | n + 1, i, S => match J.at S i with
    | some (some x) => match step x S with
      | .ok none S' => compJ J step n (i + 1) S'
      | .ok (some y) S' => match compJ J step n (i + 1) S' with
        | .ok ys S'' => .ok (y :: ys) S''
        | _ => .stuck
      | _ => .stuck
    | _ => .stuck
def rgOf : List W → Option (Int × Int)
  | [.int j] => if -1000000 ≤ j ∧ j ≤ 1000000 then some (0, j) else none
  | [.int i, .int j] => if -1000000 ≤ i ∧ i ≤ 1000000 ∧ -1000000 ≤ j ∧ j ≤ 1000000 then some (i, j) else none
  | _ => none
def rgW (i j : Int) : List W := (List.range (j - i).toNat).map fun (n : Nat) => W.int (i + (n : Int))
def wipeT : Tau → List Nat → Tau
  | τ, [] => τ
  | τ, v :: vs => (wipeT τ vs).set v none
def permW (ws : List W) (pm : List Nat) : Option (List W) := match pm with
  | [] => some ws
  | _ => mapO (fun i => ws[i]?) pm
mutual
def evE (F : Ora) : E → Tau → Store → Res W
  | .var i, τ, S => match τ[i]? with
    | some (some w) => .ok w S
    | _ => .stuck
  | .int i, _, S => .ok (.int i) S
  | .bl b, _, S => .ok (.bl b) S
  | .non, _, S => .ok .non S
  | .str s, _, S => .ok (.str s) S
  | .glb k, _, S => .ok (F.glb k) S
  | .ty s, _, S => .ok (.ty s) S
  | .bin o a b, τ, S => (evE F a τ S).bind fun x S => (evE F b τ S).bind fun y S => binW S o x y
  | .un o a, τ, S => (evE F a τ S).bind fun x S => Res.of (unW o x) S
  | .tst t, τ, S => (evT F t τ S).bind fun b S => .ok (.bl b) S
  | .and a b, τ, S => (evE F a τ S).bind fun x S => match x with
    | .bl true => evE F b τ S
    | .bl false => .ok (.bl false) S
    | _ => .stuck
  | .or a b, τ, S => (evE F a τ S).bind fun x S => match x with
    | .bl true => .ok (.bl true) S
    | .bl false => evE F b τ S
    | _ => .stuck
  | .cmp o a b, τ, S => (evE F a τ S).bind fun x S => (evE F b τ S).bind fun y S => Res.of ((cmpW S o x y).map .bl) S
  | .chn o o' a b c, τ, S => (evE F a τ S).bind fun x S => (evE F b τ S).bind fun y S => match cmpW S o x y with
    | some true => (evE F c τ S).bind fun z S => Res.of ((cmpW S o' y z).map .bl) S
    | some false => .ok (.bl false) S
    | none => .stuck
  | .ite t a b, τ, S => (evT F t τ S).bind fun k S => match k with
    | true => evE F a τ S
    | false => evE F b τ S
  | .tup es, τ, S => (evEs F es τ S).bind fun ws S => if ws.length ≤ lim then .ok (.tpl ws) S else .stuck
  | .tpp es, τ, S => (evEs F es τ S).bind fun ws S => if ws.length ≤ lim then .ok (.tup ws) S else .stuck
  | .lst es, τ, S => (evEs F es τ S).bind fun ws S => if ws.length ≤ lim then .ok (.loc S.n) (S.push (.lst ws)) else .stuck
  | .dct ps, τ, S => (evD F ps τ S).noX.bind fun kvs S => if kvs.length ≤ 15 then .ok (.loc S.n) (S.push (.dic (mergeD [] kvs))) else .stuck
  | .lc e g i f own, τ, S => (evI F i τ S).bind fun J S => if J.len S ≤ lim then
      (compJ J (fun x S => (evG F g x (wipeT τ own) S).bind fun τ' S => (evTs F f τ' S).bind fun k S => match k with
        | true => (evE F e τ' S).bind fun y S => .ok (some y) S
        | false => .ok none S) (J.len S) 0 S).bind fun ys S => .ok (.loc S.n) (S.push (.lst ys)) else .stuck
  | .dc k v g i f own, τ, S => (evI F i τ S).bind fun J S => if J.len S ≤ lim then
      (compJ J (fun x S => (evG F g x (wipeT τ own) S).bind fun τ' S => (evTs F f τ' S).bind fun b S => match b with
        | true => (evE F k τ' S).bind fun y S => (evE F v τ' S).bind fun z S => .ok (some (y, z)) S
        | false => .ok none S) (J.len S) 0 S).bind fun ps S => match dicOf ps with
          | some c => .ok (.loc S.n) (S.push c)
          | none => .stuck else .stuck
  | .ix a i, τ, S => (evE F a τ S).bind fun x S => (evE F i τ S).bind fun y S => Res.of (ixW S x y) S
  | .sl a lo hi, τ, S => (evE F a τ S).bind fun x S => (evP F lo τ S).bind fun l S => (evP F hi τ S).bind fun h S => slW S x l h
  | .rev a, τ, S => (evE F a τ S).bind fun x S => revW S x
  | .call f es pm, τ, S => (evEs F es τ S).bind fun ws S => match permW ws pm with
    | some us => F.call f us S
    | none => .stuck
  | .mk c es, τ, S => (evEs F es τ S).bind fun ws S => (F.init c (.loc S.n :: ws) (S.push (.ins c []))).noX.bind fun w S' => match w with
    | .non => .ok (.loc S.n) S'
    | _ => .stuck
  | .bi b es, τ, S => (evEs F es τ S).bind fun ws S => biW S b ws
  | .bm m o es, τ, S => (evE F o τ S).bind fun x S => match mOk S m x with
    | true => (evEs F es τ S).bind fun ws S => bmW S m x ws
    | false => .stuck
  | .om m o es, τ, S => (evE F o τ S).bind fun x S => match x with
    | .loc l => match S.get l with
      | some (.ins c fs) => match F.meth c m with
        | some f => if (fs.all fun p => F.fok c p.1) = true then (evEs F es τ S).bind fun ws S => F.call f (.loc l :: ws) S else .stuck
        | none => .stuck
      | _ => .stuck
    | _ => .stuck
  | .fld o f, τ, S => (evE F o τ S).bind fun x S => Res.of (fldW F.fok S x f) S
  | .lset e, τ, S => (evE F e τ S).bind fun x S => Res.of (lsetW S x) S
  | .rg b es, τ, S => (evEs F es τ S).bind fun ws S => match rgOf ws with
    | some (i, j) => match b with
      | true => .ok (.tpl (rgW i j)) S
      | false => .ok (.loc S.n) (S.push (.lst (rgW i j)))
    | none => .stuck
def evT (F : Ora) : T → Tau → Store → Res Bool
  | .val e, τ, S => (evE F e τ S).bind fun x S => Res.of (truW S x) S
  | .and a b, τ, S => (evT F a τ S).bind fun k S => match k with
    | true => evT F b τ S
    | false => .ok false S
  | .or a b, τ, S => (evT F a τ S).bind fun k S => match k with
    | true => .ok true S
    | false => evT F b τ S
  | .not a, τ, S => (evT F a τ S).bind fun k S => .ok (!k) S
def evEs (F : Ora) : Es → Tau → Store → Res (List W)
  | .nil, _, S => .ok [] S
  | .cons e r, τ, S => (evE F e τ S).bind fun x S => (evEs F r τ S).bind fun xs S => .ok (x :: xs) S
def evD (F : Ora) : Ps → Tau → Store → Res (List (DKey × W))
  | .cons k v ps, τ, S => (evE F k τ S).bind fun x S => (evE F v τ S).bind fun y S => match keyOf x with
    | some q => (evD F ps τ S).bind fun r S => .ok ((q, y) :: r) S
    | none => .stuck
  | .nil, _, S => .ok [] S
def evP (F : Ora) : Es → Tau → Store → Res (Option Int)
  | .cons e .nil, τ, S => (evE F e τ S).bind fun x S => match x with
    | .int i => .ok (some i) S
    | _ => .stuck
  | .nil, _, S => .ok none S
  | _, _, _ => .stuck
def evTs (F : Ora) : Ts → Tau → Store → Res Bool
  | .nil, _, S => .ok true S
  | .cons t .nil, τ, S => evT F t τ S
  | _, _, _ => .stuck
def evI (F : Ora) : It → Tau → Store → Res Ju
  | .seq e, τ, S => (evE F e τ S).bind fun x S => match srcOf S x with
    | some s => .ok (.one s) S
    | none => .stuck
  | .rng es, τ, S => (evEs F es τ S).bind fun ws S => match rgOf ws with
    | some (i, j) => .ok (.rng i (j - i).toNat) S
    | none => .stuck
  | .enum e, τ, S => (evE F e τ S).bind fun x S => match srcOf S x with
    | some s => .ok (.enum s) S
    | none => .stuck
  | .zip es, τ, S => (evEs F es τ S).bind fun ws S => match mapO (srcOf S) ws with
    | some [.st xs, .st ys] => .ok (.zip [.st xs, .st ys]) S
    | some [.lv l, .lv m] => .ok (.zip [.lv l, .lv m]) S
    | _ => .stuck
  | .items e, τ, S => (evE F e τ S).bind fun x S => match x with
    | .loc l => match S.get l with
      | some (.dic kvs) => .ok (.items l kvs) S
      | _ => .stuck
    | _ => .stuck
def evG (F : Ora) : Tg → W → Tau → Store → Res Tau
  | .nm i, w, τ, S => .ok (τ.set i (some w)) S
  | .tp ts, .tup ws, τ, S => evGs F ts ws τ S
  | .tp ts, .tpl ws, τ, S => evGs F ts ws τ S
  | .sub o i, w, τ, S => (evE F o τ S).bind fun x S => (evE F i τ S).bind fun y S => match setW S x y w with
    | some S => .ok τ S
    | none => .stuck
  | .fd o f, w, τ, S => (evE F o τ S).bind fun x S => match setF F.fok S x f w with
    | some S => .ok τ S
    | none => .stuck
  | _, _, _, _ => .stuck
def evGs (F : Ora) : Tgs → List W → Tau → Store → Res Tau
  | .nil, [], τ, S => .ok τ S
  | .cons t r, w :: ws, τ, S => (evG F t w τ S).bind fun τ S => evGs F r ws τ S
  | _, _, _, _ => .stuck
end
def Res.out {α : Type} (r : Res α) (τ : Tau) (k : α → Store → Out) : Out := match r with
  | .ok a S => k a S
  | .exc c fs S => .exc c fs τ S
  | .stuck => .stuck
def parT : List Nat → List W → Tau → Option Tau
  | [], [], τ => some τ
  | i :: is, w :: ws, τ => parT is ws (τ.set i (some w))
  | _, _, _ => none
/-- while -/
def whileN (test : Tau → Store → Res Bool) (body : Tau → Store → Out) : Nat → Tau → Store → Out
  | 0, _, _ => .stuck
  | n + 1, τ, S => (test τ S).out τ fun k S => match k with
    | true => match body τ S with
      | .nx τ' S' => whileN test body n τ' S'
      | .ct τ' S' => whileN test body n τ' S'
      | .bk τ' S' => .nx τ' S'
      | .rt w S' => .rt w S'
      | .exc c fs τ' S' => .exc c fs τ' S'
      | .stuck => .stuck
    | false => .nx τ S
/-- a locked dict while it is walked -/
def lockJ (J : Ju) (S : Store) : Store := match J with
  | .items l kvs => S.upd l (.lck kvs)
  | _ => S
def openJ (J : Ju) (S : Store) : Store := match J with
  | .items l kvs => S.upd l (.dic kvs)
  | _ => S
def openO (J : Ju) : Out → Out
  | .nx τ S => .nx τ (openJ J S)
  | .rt w S => .rt w (openJ J S)
  | .bk τ S => .bk τ (openJ J S)
  | .ct τ S => .ct τ (openJ J S)
  | .exc c fs τ S => match J with
    | .items _ _ => .stuck
    | _ => .exc c fs τ S
  | .stuck => .stuck
mutual
def evU (fs : List (Nat × W)) : U → Tau → Store → Res W
  | .non, _, S => .ok .non S
  | .bl b, _, S => .ok (.bl b) S
  | .int i, _, S => .ok (.int i) S
  | .str s, _, S => .ok (.str s) S
  | .var i, τ, S => match τ[i]? with
    | some (some w) => .ok w S
    | _ => .stuck
  | .fld f, _, S => Res.of (fget fs f) S
  | .tup us, τ, S => (evUs fs us τ S).bind fun ws S => if ws.length ≤ lim then .ok (.tpl ws) S else .stuck
  | .lst us, τ, S => (evUs fs us τ S).bind fun ws S => if ws.length ≤ lim then .ok (.loc S.n) (S.push (.lst ws)) else .stuck
def evUs (fs : List (Nat × W)) : Us → Tau → Store → Res (List W)
  | .nil, _, S => .ok [] S
  | .cons u r, τ, S => (evU fs u τ S).bind fun x S => (evUs fs r τ S).bind fun xs S => .ok (x :: xs) S
end
def exU (fs : List (Nat × W)) : Su → Tau → Store → Out
  | .asg i u, τ, S => (evU fs u τ S).out τ fun w S => .nx (τ.set i (some w)) S
  | .app i u, τ, S => match τ[i]? with
    | some (some x) => match mOk S .append x with
      | true => (evU fs u τ S).out τ fun w S => (bmW S .append x [w]).noX.out τ fun _ S => .nx τ S
      | false => .stuck
    | _ => .stuck
  | .ret u, τ, S => (evU fs u τ S).out τ fun w S => .rt w S
  | .pas, τ, S => .nx τ S
def nmT : Option Nat → Tau → Tau
  | some i, τ => τ.set i none
  | none, τ => τ
def wipeO (nm : Option Nat) : Out → Out
  | .nx τ S => .nx (nmT nm τ) S
  | o => o
def exH (sub : Nat → Nat → Option Bool) : Hs → Nat → List (Nat × W) → Tau → Store → Out
  | .nil, c, fs, τ, S => .exc c fs τ S
  | .cons c' nm u r, c, fs, τ, S => match sub c c' with
    | some true => wipeO nm (exU fs u (nmT nm τ) S)
    | some false => exH sub r c fs τ S
    | none => .stuck
/-- for c in (lambda: e, ..): try: l.append(c()) except .. -/
def exL1 (F : Ora) (l : Nat) (hs : Hs) (e : E) (τ : Tau) (S : Store) : Out := match (evE F (.bm .append (.var l) (.cons e .nil)) τ S).out τ (fun _ S => .nx τ S) with
  | .exc c fs τ S => exH F.sub hs c fs τ S
  | o => o
def exL (F : Ora) (c l : Nat) (hs : Hs) : Es → Tau → Store → Out
  | .nil, τ, S => .nx τ S
  | .cons e r, τ, S => match exL1 F l hs e (τ.set c none) S with
    | .nx τ S => exL F c l hs r τ S
    | _ => .stuck
mutual
def exS (F : Ora) : Sm → Tau → Store → Out
  | .asg t e, τ, S => (evE F e τ S).out τ fun w S => (evG F t w τ S).noX.out τ fun τ S => .nx τ S
  | .par is es, τ, S => (evEs F es τ S).out τ fun ws S => match parT is ws τ with
    | some τ => .nx τ S
    | none => .stuck
  | .aug i o e, τ, S => match τ[i]? with
    | some (some x) => (evE F e τ S).out τ fun y S => (augW S o x y).out τ fun z S => .nx (τ.set i (some z)) S
    | _ => .stuck
  | .augS a i o e, τ, S => (evE F a τ S).out τ fun x S => (evE F i τ S).out τ fun k S => match getW S x k with
    | some v => (evE F e τ S).out τ fun y S => (augW S o v y).out τ fun z S => match setW S x k z with
      | some S => .nx τ S
      | none => .stuck
    | none => .stuck
  | .augF a f o e, τ, S => (evE F a τ S).out τ fun x S => match fldW F.fok S x f with
    | some v => (evE F e τ S).out τ fun y S2 => (augW S2 o v y).out τ fun z S3 => if clsW S x = clsW S3 x then (match setF F.fok S3 x f z with
      | some S4 => .nx τ S4
      | none => .stuck) else .stuck
    | none => .stuck
  | .ex e, τ, S => (evE F e τ S).out τ fun _ S => .nx τ S
  | .ret e, τ, S => (evE F e τ S).out τ fun w S => .rt w S
  | .retN, _, S => .rt .non S
  | .ifs t a b, τ, S => (evT F t τ S).out τ fun k S => match k with
    | true => exB F a τ S
    | false => exB F b τ S
  | .fr g i b, τ, S => (evI F i τ S).out τ fun J S => openO J (loopJ J (fun x τ S => (evG F g x τ S).noX.out τ fun τ S => exB F b τ S) (J.len S) 0 τ (lockJ J S))
  | .whl t b, τ, S => whileN (fun τ S => evT F t τ S) (fun τ S => exB F b τ S) F.lf τ S
  | .rse c fs es, τ, S => (evEs F es τ S).out τ fun ws S => .exc c (fs.zip ws) τ S
  | .pas, τ, S => .nx τ S
  | .brk, τ, S => .bk τ S
  | .cnt, τ, S => .ct τ S
  | .del o i, τ, S => (evE F o τ S).out τ fun x S => (evE F i τ S).out τ fun k S => match x with
    | .loc l => match S.get l with
      | some (.dic kvs) => match keyOf k with
        | some q => match dget kvs q with
          | some _ => .nx τ (S.upd l (.dic (ddel kvs q)))
          | none => .stuck
        | none => .stuck
      | _ => .stuck
    | _ => .stuck
  | .tr b hs, τ, S => match exB F b τ S with
    | .exc c fs τ S => exH F.sub hs c fs τ S
    | o => o
  | .stk, _, _ => .stuck
  | .lfr c l es hs, τ, S => exL F c l hs es τ S
  | .trN b, τ, S => match exB F b τ S with
    | .exc _ _ _ _ => .stuck
    | o => o
def exB (F : Ora) : Sms → Tau → Store → Out
  | .nil, τ, S => .nx τ S
  | .cons s r, τ, S => match exS F s τ S with
    | .nx τ S => exB F r τ S
    | o => o
end

/-! ### defs by number -/
structure Fn where
  np : Nat
  nn : Nat
  dfl : List W
  body : Sms
structure Prg where
  fns : Nat → Fn
  inits : Nat → Option Nat
  meth : Nat → Nat → Option Nat
  glb : Nat → W
  fok : Nat → Nat → Bool
  lf : Nat
  sub : Nat → Nat → Option Bool
def argsW (f : Fn) (ws : List W) : Option (List W) := if ws.length ≤ f.np ∧ f.np ≤ ws.length + f.dfl.length then some (ws ++ f.dfl.drop (ws.length + f.dfl.length - f.np)) else none
def runF (P : Prg) (F : Ora) (k : Nat) (ws : List W) (S : Store) : Res W :=
  let f := P.fns k
  match argsW f ws with
  | some us => match exB F f.body (us.map some ++ List.replicate (f.nn - f.np) none) S with
    | .nx _ S => .ok .non S
    | .rt w S => .ok w S
    | .exc c fs _ S => .exc c fs S
    | _ => .stuck
  | none => .stuck
def callN (P : Prg) : Nat → Nat → List W → Store → Res W
  | 0, _, _, _ => .stuck
  | n + 1, k, ws, S => runF P ⟨callN P n, fun c us S => match P.inits c with
    | some f => callN P n f us S
    | none => .stuck, P.meth, P.glb, P.fok, P.lf, P.sub⟩ k ws S
end Rf

set_option Elab.async false
set_option maxRecDepth 100000
/-! RfRep: how a value and a store of RfCore lie in the layer's abstract heap. -/
namespace Rf
open PySem PySem.Spec PyProof.Rows L2

/-- what stands still behind the top: where classes and defs lie, names of attributes -/
structure GC where
  K : PySem.W.Frag
  w : World
  cadr : Nat → Addr
  oadr : Nat → Addr
  fadr : Nat → Addr
  fnm : Nat → Str
  mnm : Nat → Str
  nf : Nat
  fok : Nat → Nat → Bool
  sub : Nat → Nat → Option Bool
  /-- tables of code objects, by the names of what is made -/
  T : List (Addr × Str)
/-- what is true of it -/
structure GOk (G : GC) : Prop where
  inj : ∀ i j, i < G.nf → j < G.nf → G.fnm i = G.fnm j → i = j
  cls : ∀ c f, G.fok c f = true → f < G.nf ∧ Cls G.K (G.cadr c) ∧ NoAttr G.K (G.cadr c) (G.fnm f)
  exm : ∀ c c' b, G.sub c c' = some b → PySem.W.exmOne G.K (.ref (G.cadr c)) (.ref (G.cadr c')) = some b

mutual
inductive R (G : GC) (ρ : List Addr) (H : Hp) : W → V → Prop
  | non : R G ρ H .non .non
  | bl {b : Bool} : R G ρ H (.bl b) (.bl b)
  | int {i : Int} : R G ρ H (.int i) (.int i)
  | str {s : Str} : R G ρ H (.str s) (.str s)
  | ty {s : String} : R G ρ H (.ty s) (.ty s)
  | obj {g : Nat} : R G ρ H (.obj g) (.ref (G.oadr g))
  | loc {n : Nat} {a : Addr} : ρ[n]? = some a → R G ρ H (.loc n) (.ref a)
  | tup {xs : List W} {vs : List V} {a : Addr} : H a = some (.tup vs) → Rs G ρ H xs vs → R G ρ H (.tup xs) (.ref a)
  | tpl {xs : List W} {vs : List V} {a : Addr} {o : Obj} : H a = some (.frz o (.tup vs)) → o.dict = none → Rs G ρ H xs vs → R G ρ H (.tpl xs) (.ref a)
inductive Rs (G : GC) (ρ : List Addr) (H : Hp) : List W → List V → Prop
  | nil : Rs G ρ H [] []
  | cons {x : W} {v : V} {xs : List W} {vs : List V} : R G ρ H x v → Rs G ρ H xs vs → Rs G ρ H (x :: xs) (v :: vs)
end
/-- from one state to a later one: places stay, new ones are new, what is no place of the store stays -/
structure Ext (G : GC) (ρ : List Addr) (H : Hp) (ρ' : List Addr) (H' : Hp) : Prop where
  pre : ∀ (n : Nat) (a : Addr), ρ[n]? = some a → ρ'[n]? = some a
  new : ∀ a ∈ ρ', a ∈ ρ ∨ H a = none
  tup : ∀ a vs, H a = some (.tup vs) → H' a = some (.tup vs)
  tpl : ∀ a o u, H a = some (.frz o u) → H' a = some (.frz o u)
  keep : ∀ a o, H a = some o → a ∉ ρ → (∀ ps, o ≠ .tbl ps) → H' a = some o
  tab : ∀ a ps, H a = some (.tbl ps) → ∃ ps', H' a = some (.tbl ps')
/-- what keeps values -/
structure Up (ρ : List Addr) (H : Hp) (ρ' : List Addr) (H' : Hp) : Prop where
  pre : ∀ (n : Nat) (a : Addr), ρ[n]? = some a → ρ'[n]? = some a
  tup : ∀ a vs, H a = some (.tup vs) → H' a = some (.tup vs)
  tpl : ∀ a o vs, H a = some (.frz o (.tup vs)) → H' a = some (.frz o (.tup vs))
section
variable {G : GC} {ρ ρ' ρ'' : List Addr} {H H' H'' : Hp}
theorem Ext.up (e : Ext G ρ H ρ' H') : Up ρ H ρ' H' := ⟨e.pre, e.tup, fun a o vs h => e.tpl a o _ h⟩
theorem Ext.refl : Ext G ρ H ρ H := ⟨fun _ _ h => h, fun _ h => .inl h, fun _ _ h => h, fun _ _ _ h => h, fun _ _ h _ _ => h, fun _ ps h => ⟨ps, h⟩⟩
theorem hasTbl (o : HO) : (∃ ps, o = .tbl ps) ∨ ∀ ps, o ≠ .tbl ps := by
  cases o with
  | tbl ps => exact .inl ⟨ps, rfl⟩
  | _ => exact .inr fun ps z => by cases z
theorem Ext.left (e : Ext G ρ H ρ' H') {x : Addr} {o : HO} (h : H x = some o) (hx : x ∉ ρ) : ∃ o', H' x = some o' := by
  rcases hasTbl o with ⟨ps, rfl⟩ | n
  · obtain ⟨ps', h'⟩ := e.tab x ps h
    exact ⟨_, h'⟩
  · exact ⟨o, e.keep x o h hx n⟩
theorem Ext.trans (a : Ext G ρ H ρ' H') (b : Ext G ρ' H' ρ'' H'') : Ext G ρ H ρ'' H'' := by
  refine ⟨fun n x h => b.pre n x (a.pre n x h), fun x h => ?_, fun x vs h => b.tup x vs (a.tup x vs h), fun x o vs h => b.tpl x o vs (a.tpl x o vs h), fun x o h hn nb => ?_, fun x ps h => ?_⟩
  · rcases b.new x h with h1 | h1
    · exact a.new x h1
    · by_cases hx : x ∈ ρ
      · exact .inl hx
      · cases e : H x with
        | none => exact .inr rfl
        | some o => obtain ⟨o', q⟩ := a.left e hx; rw [q] at h1; cases h1
  · refine b.keep x o (a.keep x o h hn nb) (fun hm => ?_) nb
    rcases a.new x hm with h1 | h1
    · exact hn h1
    · rw [h] at h1; cases h1
  · obtain ⟨ps', h'⟩ := a.tab x ps h
    exact b.tab x ps' h'
mutual
theorem R.up (e : Up ρ H ρ' H') : ∀ {w : W} {v : V}, R G ρ H w v → R G ρ' H' w v
  | _, _, .non => .non
  | _, _, .bl => .bl
  | _, _, .int => .int
  | _, _, .str => .str
  | _, _, .ty => .ty
  | _, _, .obj => .obj
  | _, _, .loc h => .loc (e.pre _ _ h)
  | _, _, .tup h r => .tup (e.tup _ _ h) (Rs.up e r)
  | _, _, .tpl h d r => .tpl (e.tpl _ _ _ h) d (Rs.up e r)
theorem Rs.up (e : Up ρ H ρ' H') : ∀ {w : List W} {v : List V}, Rs G ρ H w v → Rs G ρ' H' w v
  | _, _, .nil => .nil
  | _, _, .cons h r => .cons (R.up e h) (Rs.up e r)
end
theorem R.mono (e : Ext G ρ H ρ' H') {w : W} {v : V} (r : R G ρ H w v) : R G ρ' H' w v := r.up e.up
theorem Rs.mono (e : Ext G ρ H ρ' H') {w : List W} {v : List V} (r : Rs G ρ H w v) : Rs G ρ' H' w v := r.up e.up
theorem Rs.length : ∀ {xs : List W} {vs : List V}, Rs G ρ H xs vs → xs.length = vs.length
  | _, _, .nil => rfl
  | _, _, .cons _ r => by rw [List.length_cons, List.length_cons, Rs.length r]
theorem Rs.get : ∀ {xs : List W} {vs : List V} {i : Nat} {x : W}, Rs G ρ H xs vs → xs[i]? = some x → ∃ v, vs[i]? = some v ∧ R G ρ H x v
  | _, _, _, _, .nil, h => by simp at h
  | _, _, 0, _, .cons r _, h => by simp at h; subst h; exact ⟨_, rfl, r⟩
  | _, _, i + 1, x, .cons _ t, h => by
    obtain ⟨v, h1, h2⟩ := Rs.get (i := i) (x := x) t (by simpa using h)
    exact ⟨v, by simpa using h1, h2⟩
theorem Rs.app : ∀ {xs ys : List W} {vs us : List V}, Rs G ρ H xs vs → Rs G ρ H ys us → Rs G ρ H (xs ++ ys) (vs ++ us)
  | _, _, _, _, .nil, s => s
  | _, _, _, _, .cons r t, s => .cons r (Rs.app t s)
theorem Rs.set {x : W} {v : V} (r : R G ρ H x v) : ∀ {xs : List W} {vs : List V} (i : Nat), Rs G ρ H xs vs → Rs G ρ H (xs.set i x) (vs.set i v)
  | _, _, _, .nil => .nil
  | _, _, 0, .cons _ t => .cons r t
  | _, _, i + 1, .cons q t => .cons q (Rs.set r i t)
theorem Rs.take : ∀ {xs : List W} {vs : List V} (n : Nat), Rs G ρ H xs vs → Rs G ρ H (xs.take n) (vs.take n)
  | _, _, 0, _ => .nil
  | _, _, _ + 1, .nil => .nil
  | _, _, n + 1, .cons r t => .cons r (Rs.take n t)
theorem Rs.drop : ∀ {xs : List W} {vs : List V} (n : Nat), Rs G ρ H xs vs → Rs G ρ H (xs.drop n) (vs.drop n)
  | _, _, 0, r => r
  | _, _, _ + 1, .nil => .nil
  | _, _, n + 1, .cons _ t => Rs.drop n t
theorem Rs.rev : ∀ {xs : List W} {vs : List V}, Rs G ρ H xs vs → Rs G ρ H xs.reverse vs.reverse
  | _, _, .nil => .nil
  | _, _, .cons r t => by rw [List.reverse_cons, List.reverse_cons]; exact Rs.app (Rs.rev t) (.cons r .nil)
theorem Rs.erase : ∀ {xs : List W} {vs : List V} (i : Nat), Rs G ρ H xs vs → Rs G ρ H (xs.eraseIdx i) (vs.eraseIdx i)
  | _, _, _, .nil => by simp; exact .nil
  | _, _, 0, .cons _ t => t
  | _, _, i + 1, .cons r t => .cons r (Rs.erase i t)
theorem Rs.dropLast {xs : List W} {vs : List V} (h : Rs G ρ H xs vs) : Rs G ρ H xs.dropLast vs.dropLast := by
  rw [List.dropLast_eq_take, List.dropLast_eq_take, h.length]
  exact Rs.take _ h
theorem Rs.rep {xs : List W} {vs : List V} (h : Rs G ρ H xs vs) : ∀ k : Nat, Rs G ρ H (repW xs k) (List.replicate k vs).flatten
  | 0 => .nil
  | k + 1 => by
    unfold repW
    rw [List.replicate_succ, List.replicate_succ, List.flatten_cons, List.flatten_cons]
    exact Rs.app h (Rs.rep h k)
theorem Rs.nil_iff {xs : List W} {vs : List V} (h : Rs G ρ H xs vs) : xs.isEmpty = vs.isEmpty := by
  cases h <;> rfl

/-- a dict's entries -/
inductive RK (G : GC) (ρ : List Addr) (H : Hp) {κ : Type} : List (κ × W) → List (κ × V) → Prop
  | nil : RK G ρ H [] []
  | cons {k : κ} {x : W} {v : V} {xs : List (κ × W)} {vs : List (κ × V)} : R G ρ H x v → RK G ρ H xs vs → RK G ρ H ((k, x) :: xs) ((k, v) :: vs)
/-- an instance's attributes -/
inductive RF (G : GC) (ρ : List Addr) (H : Hp) : List (Nat × W) → List (Str × V) → Prop
  | nil : RF G ρ H [] []
  | cons {k : Nat} {x : W} {v : V} {xs : List (Nat × W)} {vs : List (Str × V)} : k < G.nf → R G ρ H x v → RF G ρ H xs vs → RF G ρ H ((k, x) :: xs) ((G.fnm k, v) :: vs)
theorem RK.up {κ : Type} (e : Up ρ H ρ' H') {xs : List (κ × W)} {vs : List (κ × V)} (h : RK G ρ H xs vs) : RK G ρ' H' xs vs := by
  induction h with
  | nil => exact .nil
  | cons r _ ih => exact .cons (r.up e) ih
theorem RF.up (e : Up ρ H ρ' H') {xs : List (Nat × W)} {vs : List (Str × V)} (h : RF G ρ H xs vs) : RF G ρ' H' xs vs := by
  induction h with
  | nil => exact .nil
  | cons hk r _ ih => exact .cons hk (r.up e) ih
theorem RK.mono {κ : Type} (e : Ext G ρ H ρ' H') {xs : List (κ × W)} {vs : List (κ × V)} (h : RK G ρ H xs vs) : RK G ρ' H' xs vs := h.up e.up
theorem RF.mono (e : Ext G ρ H ρ' H') {xs : List (Nat × W)} {vs : List (Str × V)} (h : RF G ρ H xs vs) : RF G ρ' H' xs vs := h.up e.up
theorem RK.length {κ : Type} {xs : List (κ × W)} {vs : List (κ × V)} (h : RK G ρ H xs vs) : xs.length = vs.length := by
  induction h with
  | nil => rfl
  | cons _ _ ih => rw [List.length_cons, List.length_cons, ih]
theorem RF.length {xs : List (Nat × W)} {vs : List (Str × V)} (h : RF G ρ H xs vs) : xs.length = vs.length := by
  induction h with
  | nil => rfl
  | cons _ _ _ ih => rw [List.length_cons, List.length_cons, ih]
end

/-- a cell at an address -/
def CellR (G : GC) (ρ : List Addr) (H : Hp) (a : Addr) : Cell → Prop
  | .lst xs => ∃ vs, H a = some (.lst vs) ∧ Rs G ρ H xs vs
  | .frz xs => ∃ o vs, H a = some (.frz o (.lst vs)) ∧ Rs G ρ H xs vs
  | .dic kvs => ∃ vs, H a = some (.dK vs) ∧ RK G ρ H kvs vs
  | .lck kvs => ∃ o vs, H a = some (.frz o (.dK vs)) ∧ RK G ρ H kvs vs
  | .dct kvs => ∃ vs, H a = some (.dT vs) ∧ RK G ρ H kvs vs
  | .ins c fs => ∃ dx vs, H a = some (.ins (G.cadr c) dx vs) ∧ RF G ρ H fs vs
  | .set zs => H a = some (SetO G.w a (fun j => decide (j ∈ zs)) zs.length)
/-- the table at P tells code objects of the name q alone -/
def TabN (ρ : List Addr) (H : Hp) (P : Addr) (q : Str) : Prop := P ∉ ρ ∧ ∃ ps : Array Value, H P = some (.tbl ps) ∧ TriplesOk ps.toList ∧ ∀ (pos : Pos) (cv : Value), codeAmong pos ps.toList = some cv → ∃ c, cv = .ref c ∧ c ∉ ρ ∧ H c = some (LamX.CodeO c q)
def TabsN (T : List (Addr × Str)) (ρ : List Addr) (H : Hp) : Prop := ∀ p ∈ T, TabN ρ H p.1 p.2
theorem TabsN.up {T : List (Addr × Str)} {ρ ρ' : List Addr} {H H' : Hp} (t : TabsN T ρ H) (hn : ∀ x ∈ ρ', x ∈ ρ ∨ H x = none) (k : ∀ a o, H a = some o → a ∉ ρ → ((∃ ps, o = .tbl ps) ∨ ∃ φ, o = .ext φ) → H' a = some o) : TabsN T ρ' H' := fun p hp => by
  obtain ⟨h0, ps, h1, h2, h3⟩ := t p hp
  have no : ∀ {x o}, x ∉ ρ → H x = some o → x ∉ ρ' := fun {x o} h e z => by
    rcases hn x z with q | q
    · exact h q
    · rw [e] at q; cases q
  refine ⟨no h0 h1, ps, k _ _ h1 h0 (.inl ⟨ps, rfl⟩), h2, fun pos cv hc => ?_⟩
  obtain ⟨c, e1, e2, e3⟩ := h3 pos cv hc
  exact ⟨c, e1, no e2 e3, k _ _ e3 e2 (.inr ⟨_, rfl⟩)⟩
/-- the store in the heap -/
structure Rp (G : GC) (ρ : List Addr) (H : Hp) (S : Store) : Prop where
  tabs : TabsN G.T ρ H
  len : ρ.length = S.n
  nd : ρ.Nodup
  dom : ∀ n, S.n ≤ n → S.get n = none
  cell : ∀ (n : Nat) (a : Addr), ρ[n]? = some a → ∃ c, S.get n = some c ∧ CellR G ρ H a c

/-! ### the store's own laws -/
theorem Tr.get_put_same : ∀ (f : Nat) (t : Tr) (n : Nat) (c : Cell), n < f → (Tr.put f t n c).get n = some c
  | 0, _, _, _, h => absurd h (Nat.not_lt_zero _)
  | f + 1, .leaf, 0, c, _ => rfl
  | f + 1, .node _ _ _, 0, c, _ => rfl
  | f + 1, .leaf, n + 1, c, h => by
    have hd : n / 2 < f := by omega
    unfold Tr.put
    cases e : Nat.beq (n % 2) 0 with
    | true => simp only [cond_true]; unfold Tr.get; rw [e]; exact Tr.get_put_same f _ _ c hd
    | false => simp only [cond_false]; unfold Tr.get; rw [e]; exact Tr.get_put_same f _ _ c hd
  | f + 1, .node d l r, n + 1, c, h => by
    have hd : n / 2 < f := by omega
    unfold Tr.put
    cases e : Nat.beq (n % 2) 0 with
    | true => simp only [cond_true]; unfold Tr.get; rw [e]; exact Tr.get_put_same f _ _ c hd
    | false => simp only [cond_false]; unfold Tr.get; rw [e]; exact Tr.get_put_same f _ _ c hd
theorem half_ne {n m : Nat} (h : n ≠ m) (e : Nat.beq (n % 2) 0 = Nat.beq (m % 2) 0) : n / 2 ≠ m / 2 := by
  intro q
  have h1 : n % 2 < 2 := Nat.mod_lt _ (by decide)
  have h2 : m % 2 < 2 := Nat.mod_lt _ (by decide)
  have e2 : n % 2 = m % 2 := by
    cases hb : Nat.beq (n % 2) 0 with
    | true =>
      have z1 := Nat.eq_of_beq_eq_true hb
      have z2 := Nat.eq_of_beq_eq_true (e ▸ hb)
      omega
    | false =>
      have z1 := Nat.ne_of_beq_eq_false hb
      have z2 := Nat.ne_of_beq_eq_false (e ▸ hb)
      omega
  omega
theorem Tr.get_leaf (n : Nat) : Tr.leaf.get n = none := by cases n <;> rfl
theorem Tr.get_put_ne : ∀ (f : Nat) (t : Tr) (n m : Nat) (c : Cell), m ≠ n → (Tr.put f t n c).get m = t.get m
  | 0, _, _, _, _, _ => rfl
  | f + 1, .leaf, 0, m, c, h => by
    cases m with
    | zero => exact absurd rfl h
    | succ m =>
      rw [Tr.get_leaf]
      show (bif Nat.beq (m % 2) 0 then Tr.leaf.get (m / 2) else Tr.leaf.get (m / 2)) = none
      rw [Tr.get_leaf]
      cases Nat.beq (m % 2) 0 <;> rfl
  | f + 1, .node d l r, 0, m, c, h => by
    cases m with
    | zero => exact absurd rfl h
    | succ m => rfl
  | f + 1, .leaf, n + 1, m, c, h => by
    cases m with
    | zero =>
      unfold Tr.put
      cases Nat.beq (n % 2) 0 <;> rfl
    | succ m =>
      have hne : m ≠ n := fun q => h (by rw [q])
      rw [Tr.get_leaf]
      unfold Tr.put
      cases e : Nat.beq (n % 2) 0 with
      | true =>
        simp only [cond_true]
        show (bif Nat.beq (m % 2) 0 then (Tr.put f .leaf (n / 2) c).get (m / 2) else Tr.leaf.get (m / 2)) = none
        cases e2 : Nat.beq (m % 2) 0 with
        | true => simp only [cond_true]; rw [Tr.get_put_ne f _ _ _ c (half_ne hne (e2.trans e.symm)), Tr.get_leaf]
        | false => simp only [cond_false]; exact Tr.get_leaf _
      | false =>
        simp only [cond_false]
        show (bif Nat.beq (m % 2) 0 then Tr.leaf.get (m / 2) else (Tr.put f .leaf (n / 2) c).get (m / 2)) = none
        cases e2 : Nat.beq (m % 2) 0 with
        | true => simp only [cond_true]; exact Tr.get_leaf _
        | false => simp only [cond_false]; rw [Tr.get_put_ne f _ _ _ c (half_ne hne (e2.trans e.symm)), Tr.get_leaf]
  | f + 1, .node d l r, n + 1, m, c, h => by
    cases m with
    | zero =>
      unfold Tr.put
      cases Nat.beq (n % 2) 0 <;> rfl
    | succ m =>
      have hne : m ≠ n := fun q => h (by rw [q])
      unfold Tr.put
      cases e : Nat.beq (n % 2) 0 with
      | true =>
        simp only [cond_true]
        show (bif Nat.beq (m % 2) 0 then (Tr.put f l (n / 2) c).get (m / 2) else r.get (m / 2)) = (bif Nat.beq (m % 2) 0 then l.get (m / 2) else r.get (m / 2))
        cases e2 : Nat.beq (m % 2) 0 with
        | true => simp only [cond_true]; rw [Tr.get_put_ne f _ _ _ c (half_ne hne (e2.trans e.symm))]
        | false => rfl
      | false =>
        simp only [cond_false]
        show (bif Nat.beq (m % 2) 0 then l.get (m / 2) else (Tr.put f r (n / 2) c).get (m / 2)) = (bif Nat.beq (m % 2) 0 then l.get (m / 2) else r.get (m / 2))
        cases e2 : Nat.beq (m % 2) 0 with
        | true => rfl
        | false => simp only [cond_false]; rw [Tr.get_put_ne f _ _ _ c (half_ne hne (e2.trans e.symm))]
namespace Store
theorem get_upd_same {S : Store} {a : Nat} {c : Cell} : (S.upd a c).get a = some c := Tr.get_put_same _ _ _ _ (Nat.lt_succ_self _)
theorem get_upd_ne {S : Store} {a b : Nat} {c : Cell} (h : b ≠ a) : (S.upd a c).get b = S.get b := Tr.get_put_ne _ _ _ _ _ h
theorem get_push_same {S : Store} {c : Cell} : (S.push c).get S.n = some c := Tr.get_put_same _ _ _ _ (Nat.lt_succ_self _)
theorem get_push_ne {S : Store} {b : Nat} {c : Cell} (h : b ≠ S.n) : (S.push c).get b = S.get b := Tr.get_put_ne _ _ _ _ _ h
theorem upd_n {S : Store} {a : Nat} {c : Cell} : (S.upd a c).n = S.n := rfl
theorem push_n {S : Store} {c : Cell} : (S.push c).n = S.n + 1 := rfl
end Store

section
variable {G : GC} {ρ : List Addr} {H : Hp} {S : Store} {n : Nat} {a p : Addr} {c c' : Cell} {o : HO}
theorem Rp.at (h : Rp G ρ H S) (e : S.get n = some c) : ∃ a, ρ[n]? = some a ∧ CellR G ρ H a c := by
  have hn : n < S.n := Nat.lt_of_not_le fun q => by rw [h.dom n q] at e; cases e
  rw [← h.len] at hn
  obtain ⟨c2, e2, r⟩ := h.cell n ρ[n] (List.getElem?_eq_getElem hn)
  rw [e] at e2; cases e2
  exact ⟨_, List.getElem?_eq_getElem hn, r⟩
theorem CellR.some (r : CellR G ρ H a c) : ∃ o, H a = some o ∧ (∀ xs, o ≠ .tup xs) ∧ (∀ ps, o ≠ .tbl ps) ∧ (∀ q xs, o ≠ .frz q (.tup xs)) := by
  cases c with
  | lst xs => obtain ⟨_, e, _⟩ := r; exact ⟨_, e, (by intro _ z; cases z), (by intro _ z; cases z), (by intro _ _ z; cases z)⟩
  | frz xs => obtain ⟨_, _, e, _⟩ := r; exact ⟨_, e, (by intro _ z; cases z), (by intro _ z; cases z), (by intro _ _ z; cases z)⟩
  | dic xs => obtain ⟨_, e, _⟩ := r; exact ⟨_, e, (by intro _ z; cases z), (by intro _ z; cases z), (by intro _ _ z; cases z)⟩
  | lck xs => obtain ⟨_, _, e, _⟩ := r; exact ⟨_, e, (by intro _ z; cases z), (by intro _ z; cases z), (by intro _ _ z; cases z)⟩
  | dct xs => obtain ⟨_, e, _⟩ := r; exact ⟨_, e, (by intro _ z; cases z), (by intro _ z; cases z), (by intro _ _ z; cases z)⟩
  | ins c fs => obtain ⟨_, _, e, _⟩ := r; exact ⟨_, e, (by intro _ z; cases z), (by intro _ z; cases z), (by intro _ _ z; cases z)⟩
  | set xs => exact ⟨_, r, (by intro _ z; cases z), (by intro _ z; cases z), (by intro _ _ z; cases z)⟩
theorem CellR.up {ρ' : List Addr} {H' : Hp} (e : Up ρ H ρ' H') (ha : H' a = H a) (r : CellR G ρ H a c) : CellR G ρ' H' a c := by
  cases c with
  | lst xs => obtain ⟨v, h, q⟩ := r; exact ⟨v, ha.trans h, q.up e⟩
  | frz xs => obtain ⟨o, v, h, q⟩ := r; exact ⟨o, v, ha.trans h, q.up e⟩
  | dic xs => obtain ⟨v, h, q⟩ := r; exact ⟨v, ha.trans h, q.up e⟩
  | lck xs => obtain ⟨o, v, h, q⟩ := r; exact ⟨o, v, ha.trans h, q.up e⟩
  | dct xs => obtain ⟨v, h, q⟩ := r; exact ⟨v, ha.trans h, q.up e⟩
  | ins c fs => obtain ⟨d, v, h, q⟩ := r; exact ⟨d, v, ha.trans h, q.up e⟩
  | set xs => exact ha.trans r
theorem CellR.mono {ρ' : List Addr} {H' : Hp} (e : Ext G ρ H ρ' H') (ha : H' a = H a) (r : CellR G ρ H a c) : CellR G ρ' H' a c := by
  cases c with
  | lst xs => obtain ⟨v, h, q⟩ := r; exact ⟨v, ha.trans h, q.mono e⟩
  | frz xs => obtain ⟨o, v, h, q⟩ := r; exact ⟨o, v, ha.trans h, q.mono e⟩
  | dic xs => obtain ⟨v, h, q⟩ := r; exact ⟨v, ha.trans h, q.mono e⟩
  | lck xs => obtain ⟨o, v, h, q⟩ := r; exact ⟨o, v, ha.trans h, q.mono e⟩
  | dct xs => obtain ⟨v, h, q⟩ := r; exact ⟨v, ha.trans h, q.mono e⟩
  | ins c fs => obtain ⟨d, v, h, q⟩ := r; exact ⟨d, v, ha.trans h, q.mono e⟩
  | set xs => exact ha.trans r
theorem Rp.in_some (h : Rp G ρ H S) (ha : a ∈ ρ) : ∃ o, H a = some o ∧ (∀ xs, o ≠ .tup xs) ∧ (∀ ps, o ≠ .tbl ps) ∧ (∀ q xs, o ≠ .frz q (.tup xs)) := by
  obtain ⟨i, hi⟩ := List.mem_iff_getElem?.mp ha
  obtain ⟨c, _, r⟩ := h.cell i a hi
  exact r.some
/-- something new beside the store -/
theorem Ext.aside (h : Rp G ρ H S) (hp : H p = none) : Ext G ρ H ρ (upd H p o) := by
  have ne : ∀ b q, H b = some q → b ≠ p := fun b q e z => by rw [z, hp] at e; cases e
  exact ⟨fun _ _ h => h, fun _ h => .inl h, fun x vs q => by rw [upd_ne (ne x _ q)]; exact q, fun x o vs q => by rw [upd_ne (ne x _ q)]; exact q, fun x q e _ _ => by rw [upd_ne (ne x q e)]; exact e, fun x ps e => ⟨ps, by rw [upd_ne (ne x _ e)]; exact e⟩⟩
theorem Rp.aside (h : Rp G ρ H S) (hp : H p = none) : Rp G ρ (upd H p o) S := by
  refine ⟨h.tabs.up (fun x z => .inl z) fun b q e _ _ => by rw [upd_ne (fun z => by rw [z, hp] at e; cases e)]; exact e, h.len, h.nd, h.dom, fun n a e => ?_⟩
  obtain ⟨c, e1, r⟩ := h.cell n a e
  obtain ⟨q, e2, _⟩ := r.some
  exact ⟨c, e1, r.mono (Ext.aside h hp) (upd_ne fun z => by rw [z, hp] at e2; cases e2)⟩
/-- a new cell -/
theorem Ext.push (h : Rp G ρ H S) (hp : H p = none) : Ext G ρ H (ρ ++ [p]) (upd H p o) := by
  have b := Ext.aside (o := o) h hp
  refine ⟨fun n a e => ?_, fun x hx => ?_, b.tup, b.tpl, fun x q e _ _ => by rw [upd_ne (fun z => by rw [z, hp] at e; cases e)]; exact e, b.tab⟩
  · rw [List.getElem?_append_left (List.getElem?_eq_some_iff.mp e).1]; exact e
  · rcases List.mem_append.mp hx with h1 | h1
    · exact .inl h1
    · rw [List.mem_singleton.mp h1]; exact .inr hp
theorem Rp.push (h : Rp G ρ H S) (hp : H p = none) (r : CellR G (ρ ++ [p]) (upd H p o) p c) : Rp G (ρ ++ [p]) (upd H p o) (S.push c) := by
  have hpn : p ∉ ρ := fun z => by
    obtain ⟨q, e, _⟩ := h.in_some z
    rw [hp] at e; cases e
  refine ⟨h.tabs.up (fun x z => (List.mem_append.mp z).elim .inl fun z => .inr (by rw [List.mem_singleton.mp z]; exact hp)) fun b q e _ _ => by rw [upd_ne (fun z => by rw [z, hp] at e; cases e)]; exact e, by rw [List.length_append, h.len]; rfl, ?_, fun n hn => ?_, fun n a e => ?_⟩
  · rw [List.nodup_append]
    exact ⟨h.nd, by simp, fun x hx y hy z => hpn (by rw [List.mem_singleton.mp hy] at z; rw [← z]; exact hx)⟩
  · have hn' : S.n + 1 ≤ n := hn
    rw [Store.get_push_ne (by omega)]
    exact h.dom n (by omega)
  · by_cases hb : n = S.n
    · subst hb
      rw [← h.len, List.getElem?_concat_length] at e
      cases e
      exact ⟨c, Store.get_push_same, r⟩
    · have hlt : n < ρ.length := by
        have := (List.getElem?_eq_some_iff.mp e).1
        rw [List.length_append, List.length_singleton] at this
        have := h.len
        omega
      rw [List.getElem?_append_left hlt] at e
      obtain ⟨c2, e1, r2⟩ := h.cell n a e
      obtain ⟨q, e2, _⟩ := r2.some
      exact ⟨c2, by rw [Store.get_push_ne hb]; exact e1, r2.mono (Ext.push h hp) (upd_ne fun z => by rw [z, hp] at e2; cases e2)⟩
theorem Rp.push_at (h : Rp G ρ H S) : (ρ ++ [p])[S.n]? = some p := by rw [← h.len]; exact List.getElem?_concat_length
/-- a cell changed -/
theorem Ext.write (h : Rp G ρ H S) (ha : ρ[n]? = some a) (hf : ∀ q u, H a ≠ some (.frz q u)) : Ext G ρ H ρ (upd H a o) := by
  have hm : a ∈ ρ := List.mem_iff_getElem?.mpr ⟨n, ha⟩
  refine ⟨fun _ _ h => h, fun _ h => .inl h, fun x vs q => ?_, fun x o vs q => ?_, fun x q e hx _ => by rw [upd_ne (show x ≠ a from fun z => hx (by rw [z]; exact hm))]; exact e, fun x ps e => ⟨ps, by
    rw [upd_ne fun z => ?_]
    · exact e
    · obtain ⟨u, e2, _, nt, _⟩ := h.in_some hm
      rw [z, e2] at e
      exact nt _ (Option.some.inj e)⟩⟩
  · rw [upd_ne fun z => ?_]
    · exact q
    · obtain ⟨u, e, nt, _⟩ := h.in_some hm
      rw [z, e] at q
      exact nt _ (Option.some.inj q)
  · rw [upd_ne fun z => hf _ _ (by rw [← z]; exact q)]
    exact q
theorem Rp.write (h : Rp G ρ H S) (ha : ρ[n]? = some a) (hf : ∀ q u, H a ≠ some (.frz q u)) (r : CellR G ρ (upd H a o) a c) : Rp G ρ (upd H a o) (S.upd n c) := by
  have hlt : n < S.n := by rw [← h.len]; exact (List.getElem?_eq_some_iff.mp ha).1
  have hm0 : a ∈ ρ := List.mem_iff_getElem?.mpr ⟨n, ha⟩
  refine ⟨h.tabs.up (fun x z => .inl z) fun b q e hb _ => by rw [upd_ne (fun z => hb (by rw [z]; exact hm0))]; exact e, h.len, h.nd, fun m hm => ?_, fun m b e => ?_⟩
  · have hm' : S.n ≤ m := hm
    rw [Store.get_upd_ne (by omega)]
    exact h.dom m hm'
  · by_cases hb : m = n
    · subst hb
      rw [ha] at e; cases e
      exact ⟨c, Store.get_upd_same, r⟩
    · obtain ⟨c2, e1, r2⟩ := h.cell m b e
      refine ⟨c2, by rw [Store.get_upd_ne hb]; exact e1, r2.mono (Ext.write h ha hf) (upd_ne fun z => hb ?_)⟩
      subst z
      exact nd_ix h.nd e ha
/-- a thing beside the store that holds no tuple is written -/
theorem Up.off {o' : HO} (ha : H a = some o) (nt : ∀ xs, o ≠ .tup xs) (nf : ∀ q u, o ≠ .frz q u) : Up ρ H ρ (upd H a o') :=
  ⟨fun _ _ h => h, fun x vs q => by rw [upd_ne fun z => nt vs (Option.some.inj ((z ▸ ha).symm.trans q))]; exact q, fun x o vs q => by rw [upd_ne fun z => nf _ _ (Option.some.inj ((z ▸ ha).symm.trans q))]; exact q⟩
theorem TabsN.off {T : List (Addr × Str)} {o' : HO} (t : TabsN T ρ H) (ha : H a = some o) (nb : (∀ ps, o ≠ .tbl ps) ∧ ∀ φ, o ≠ .ext φ) : TabsN T ρ (upd H a o') :=
  t.up (fun x z => .inl z) fun b q e _ z => by
    rw [upd_ne]
    · exact e
    · intro w
      rw [w, ha] at e
      cases e
      rcases z with ⟨ps, z⟩ | ⟨φ, z⟩
      · exact nb.1 ps z
      · exact nb.2 φ z
theorem Rp.off {o' : HO} (h : Rp G ρ H S) (hn : a ∉ ρ) (ha : H a = some o) (nt : ∀ xs, o ≠ .tup xs) (nf : ∀ q u, o ≠ .frz q u) (nb : (∀ ps, o ≠ .tbl ps) ∧ ∀ φ, o ≠ .ext φ) : Rp G ρ (upd H a o') S :=
  ⟨h.tabs.off ha nb, h.len, h.nd, h.dom, fun n b e => by
    obtain ⟨c, e1, r⟩ := h.cell n b e
    exact ⟨c, e1, r.up (Up.off ha nt nf) (upd_ne fun z => hn (by rw [← z]; exact List.mem_iff_getElem?.mpr ⟨n, e⟩))⟩⟩
/-- a thing beside the store becomes its newest cell -/
theorem Rp.adopt {o' : HO} (h : Rp G ρ H S) (hn : a ∉ ρ) (ha : H a = some o) (nt : ∀ xs, o ≠ .tup xs) (nf : ∀ q u, o ≠ .frz q u) (nb : (∀ ps, o ≠ .tbl ps) ∧ ∀ φ, o ≠ .ext φ) (r : CellR G (ρ ++ [a]) (upd H a o') a c) : Rp G (ρ ++ [a]) (upd H a o') (S.push c) := by
  have up : Up ρ H (ρ ++ [a]) (upd H a o') := by
    have u := Up.off (ρ := ρ) (o' := o') ha nt nf
    exact ⟨fun n x e => by rw [List.getElem?_append_left (List.getElem?_eq_some_iff.mp e).1]; exact e, u.tup, u.tpl⟩
  have tb : TabsN G.T (ρ ++ [a]) (upd H a o') := fun p hp => by
    obtain ⟨h0, ps, h1, h2, h3⟩ := h.tabs.off (o' := o') ha nb p hp
    have na : ∀ {x u}, H x = some u → ((∃ ps, u = .tbl ps) ∨ ∃ φ, u = .ext φ) → x ≠ a := fun {x u} e z w => by
      rw [w, ha] at e
      cases e
      rcases z with ⟨ps, z⟩ | ⟨φ, z⟩
      · exact nb.1 ps z
      · exact nb.2 φ z
    obtain ⟨h0', ps', h1', h2', h3'⟩ := h.tabs p hp
    have nP : p.1 ≠ a := na h1' (.inl ⟨_, rfl⟩)
    rw [upd_ne nP, h1'] at h1
    cases h1
    refine ⟨fun z => (List.mem_append.mp z).elim h0 fun z => nP (List.mem_singleton.mp z), ps, by rw [upd_ne nP]; exact h1', h2, fun pos cv hc => ?_⟩
    obtain ⟨cc, e1, e2, e3⟩ := h3' pos cv hc
    have nC : cc ≠ a := na e3 (.inr ⟨_, rfl⟩)
    exact ⟨cc, e1, fun z => (List.mem_append.mp z).elim e2 fun z => nC (List.mem_singleton.mp z), by rw [upd_ne nC]; exact e3⟩
  refine ⟨tb, by rw [List.length_append, h.len]; rfl, ?_, fun n hn' => ?_, fun n b e => ?_⟩
  · rw [List.nodup_append]
    exact ⟨h.nd, by simp, fun x hx y hy z => hn (by rw [List.mem_singleton.mp hy] at z; rw [← z]; exact hx)⟩
  · have hn2 : S.n + 1 ≤ n := hn'
    rw [Store.get_push_ne (by omega)]
    exact h.dom n (by omega)
  · by_cases hb : n = S.n
    · subst hb
      rw [← h.len, List.getElem?_concat_length] at e
      cases e
      exact ⟨c, Store.get_push_same, r⟩
    · have hlt : n < ρ.length := by
        have := (List.getElem?_eq_some_iff.mp e).1
        rw [List.length_append, List.length_singleton] at this
        have := h.len
        omega
      rw [List.getElem?_append_left hlt] at e
      obtain ⟨c2, e1, r2⟩ := h.cell n b e
      exact ⟨c2, by rw [Store.get_push_ne hb]; exact e1, r2.up up (upd_ne fun z => hn (by rw [← z]; exact List.mem_iff_getElem?.mpr ⟨n, e⟩))⟩
/-- seen from where it was not yet laid -/
theorem Ext.off {ρ' : List Addr} {H' : Hp} (e : Ext G ρ H ρ' H') (h0 : H a = none) : Ext G ρ H ρ' (upd H' a o) :=
  have ne : ∀ b u, H b = some u → b ≠ a := fun b u q z => by rw [z, h0] at q; cases q
  ⟨e.pre, e.new, fun x vs q => by rw [upd_ne (ne x _ q)]; exact e.tup x vs q, fun x o vs q => by rw [upd_ne (ne x _ q)]; exact e.tpl x o vs q, fun x u q hx nb => by rw [upd_ne (ne x u q)]; exact e.keep x u q hx nb, fun x ps q => by
    obtain ⟨ps', q'⟩ := e.tab x ps q
    exact ⟨ps', by rw [upd_ne (ne x _ q)]; exact q'⟩⟩
theorem Ext.adopt {ρ' : List Addr} {H' : Hp} (e : Ext G ρ H ρ' H') (h0 : H a = none) : Ext G ρ H (ρ' ++ [a]) (upd H' a o) :=
  have f := e.off (o := o) h0
  ⟨fun n x q => by rw [List.getElem?_append_left (List.getElem?_eq_some_iff.mp (f.pre n x q)).1]; exact f.pre n x q, fun x hx => by
    rcases List.mem_append.mp hx with h1 | h1
    · exact f.new x h1
    · rw [List.mem_singleton.mp h1]; exact .inr h0, f.tup, f.tpl, f.keep, f.tab⟩
end
end Rf

set_option Elab.async false
set_option maxRecDepth 100000
/-! RfTup: tuples laid as they stand (their object known), so that their methods may be called. -/
namespace Rf
open PySem PySem.Spec PyProof.Rows L2
/-- a new tuple, its object known -/
def NewF (H : Hp) (Q : VK) (ys : List V) : Prop := ∀ (p : Addr) (o : Obj), H p = none → o.dict = none → Q (.ref p) (upd H p (.frz o (.tup ys)))
section
variable {X : Cx} {pins : List (Addr × Obj)} {σ : L2.St} {H : Hp} {s : Shared} {Q : VK}
theorem laidF {us : List Value} {ys : List V} (I : Inv X pins σ H s) (r : Vals ys us) (hz : ys.length ≤ sizeLine) (q : NewF H Q ys) :
    EP X pins σ Q (.ref s.heap.objs.size) { s with heap := s.heap.push { cls := .type "tuple", data := .seq us.toArray } } :=
  have hf : H s.heap.objs.size = none := I.hok.fresh (Nat.le_refl _)
  ⟨.ref s.heap.objs.size, _, I.laid (t' := s.toks) (o := .frz { cls := .type "tuple", data := .seq us.toArray } (.tup ys)) (fun _ _ e => Heap.get?_push_of_some _ e) (Nat.le_refl _)
    ⟨Heap.get?_push_size _ rfl, hz, us, r, IsTup.new _ _⟩, rfl, q _ _ hf rfl⟩
def rCatF (K : PySem.W.Frag) : R2 := fun x y H Q => ∃ (a b : Addr) (xs ys : List V), x = .ref a ∧ y = .ref b ∧ SqT K H a xs ∧ SqT K H b ys ∧ xs.length + ys.length ≤ sizeLine ∧ (xs = [] → Q y H) ∧ (xs ≠ [] → ys = [] → Q x H) ∧ (xs ≠ [] → ys ≠ [] → NewF H Q (xs ++ ys))
theorem op_catF : OpR X (binaryOp .Add) (rCatF X.K) := fun pins s σ H x y v u Q I rx ry ⟨a, b, xs, ys, ex, ey, ta, tb, hz, q0, q1, q2⟩ => by
  subst ex; subst ey
  cases rx; cases ry
  obtain ⟨us, ra, pa, _⟩ := I.tuple ta
  obtain ⟨ws, rb, pb, _⟩ := I.tuple tb
  by_cases e : xs = []
  · subst e; cases ra
    exact cat_tup0 pa pb ⟨.ref b, H, I, rfl, q0 rfl⟩
  · exact HT.cat_tup pa pb (fun z => e (ra.nil_iff.mp z)) (fun z => ⟨.ref a, H, I, rfl, q1 e (rb.nil_iff.mp z)⟩) (fun z => laidF I (ra.append rb) (by rw [List.length_append]; exact hz) (q2 e fun z2 => z (rb.nil_iff.mpr z2))) (by rw [← ra.length, ← rb.length]; exact hz)
def rSlF (K : PySem.W.Frag) : V → Option Int → Option Int → Hp → VK → Prop := fun x lo hi H Q => ∃ (a : Addr) (xs : List V), x = .ref a ∧ SqT K H a xs ∧
  (HT.sIx xs.length 0 lo = 0 ∧ HT.sIx xs.length xs.length hi = xs.length → Q x H) ∧ (¬ (HT.sIx xs.length 0 lo = 0 ∧ HT.sIx xs.length xs.length hi = xs.length) → NewF H Q (cutV xs lo hi))
theorem sl_tupF : SlR X (rSlF X.K) := fun pins s σ H x v vl vu lo hi sl Q I rx hs pl pu ⟨a, xs, ex, hx, q1, q2⟩ => by
  subst ex; cases rx
  obtain ⟨us, ra, ha, hz⟩ := I.tuple hx
  have en : us.toArray.size = xs.length := by rw [List.size_toArray, ra.length]
  refine ⟨"tuple", _, slot_tuple_getitem.lookup, ha.typeIs, ?_⟩
  by_cases hw : HT.sIx xs.length 0 lo = 0 ∧ HT.sIx xs.length xs.length hi = xs.length
  · exact getItem_tuple_whole ha hs pl pu (by rw [en]; exact hw) ⟨.ref a, H, I, rfl, q1 hw⟩
  · refine HT.getItem_tuple_cut ha hs pl pu (by rw [en]; exact hw) ?_ (by rw [en]; exact hz)
    rw [en]
    exact laidF I ((ra.drop _).take _) (Nat.le_trans (cutV_length xs lo hi) hz) (q2 hw)
theorem call_tupF : CallR X (.type "tuple") (fun xs H Q => ∃ (a : Addr) (ys : List V), xs = [.ref a] ∧ SqL X.K H a ys ∧ NewF H Q ys) := fun pins s σ H xs us Q I r ⟨a, ys, ex, hq, q⟩ => by
  subst ex
  obtain ⟨u, rfl, rx⟩ := vals1 r
  cases rx
  obtain ⟨ws, rw', pl, hz⟩ := I.list hq
  refine call_tuple_list pl.isList (fun h' kp => laidF (s := { s with heap := h' }) (I.kept (t' := s.toks) kp) rw' hz q) ?_
  rw [List.size_toArray, ← rw'.length]
  exact hz
theorem pe_tupF {es : List Expr} {t : TA} {pos : Pos} {x1} (h : PA X es t) : PE X (.Tuple es x1 pos) (fun σ H Q => t σ H fun xs H1 => xs.length ≤ sizeLine ∧ NewF H1 Q xs) :=
  ⟨fun pins s σ H Q I hq => wpAny_Tuple_spliced (thn (h.run pos pins s σ H _ I hq) fun us s1 ⟨xs, H1, I1, r, z, q⟩ => ⟨by rw [← r.length]; exact z, laidF I1 r z q⟩)⟩
def rRepF (K : PySem.W.Frag) : R2 := fun x y H Q => ∃ (a : Addr) (k : Int) (xs : List V), x = .ref a ∧ y = .int k ∧ SqT K H a xs ∧ xs ≠ [] ∧ 2 ≤ k ∧ k ≤ 1000 ∧ xs.length ≤ 1000 ∧ NewF H Q (List.replicate k.toNat xs).flatten
end
section
open AutoSeq1 MeetsSeq MeetsSeq2 MeetsSeq3 SeqRoads2
variable {X : Cx}
theorem op_repF : OpR X (binaryOp .Mult) (rRepF X.K) := fun pins s σ H x y v u Q I rx ry ⟨a, k, xs, ex, ey, hT, hne, h1, h2, hz, q⟩ => by
  subst ex; subst ey
  cases rx
  obtain ⟨t, rfl⟩ := ry
  obtain ⟨us, r, ⟨⟨cl, dd, da, sl⟩, ho, k1, n, k2⟩, _⟩ := I.tuple hT
  simp only at k1 k2
  subst k1; subst k2
  have el : us.length = xs.length := r.length.symm
  have es : us.toArray.size = xs.length := by rw [List.size_toArray, el]
  have ne : us ≠ [] := fun e => hne (r.nil_iff.mp e)
  have em : us.toArray.isEmpty = false := by
    cases us with
    | nil => exact absurd rfl ne
    | cons => rfl
  have le : ((us.toArray.size : Nat) : Int) * k ≤ 1000000 := by
    have e1 : ((us.toArray.size : Nat) : Int) * k ≤ 1000 * k := Int.mul_le_mul_of_nonneg_right (by rw [es]; omega) (by omega)
    omega
  have fl : k.toNat * xs.length ≤ sizeLine := by
    rw [sizeLine_eq]
    exact Nat.le_trans (Nat.mul_le_mul (show k.toNat ≤ 1000 by omega) hz) (by decide)
  refine wpAny_binaryOp_repeat_ref (T := "tuple") (U := "int") (by decide) ⟨_, ho, rfl⟩ (fun s' => typeIs_int s' k t) noFill_tuple_mul F.fills_int_mul F.slot_int_rmul repeat_tuple F.slot_int_index.lookup ?_
  refine call_meets F.slot_int_rmul (typeIs_int s k t) F.entry_int_rmul (F.args_int_rmul_2 _ _) (int_rmul_tuple k t a us.toArray n dd sl) ⟨ho, rfl, ⟨_, ho, rfl⟩, ?_⟩
  refine call_meets F.slot_tuple_mul ⟨_, ho, rfl⟩ F.entry_tuple_mul (F.args_tuple_mul_2 _ _) (tuple_mulW a us.toArray n dd sl k t ?_ ?_ ?_ (by omega) ?_ ?_) ⟨ho, ?_⟩
  · rw [decide_eq_false (by omega), decide_eq_false (by omega)]; rfl
  · rw [em, Bool.false_or]; exact beq_eq_false_iff_ne.mpr (by omega)
  · rw [em, Bool.or_false]; exact decide_eq_false (by omega)
  · unfold Builtin.Tuple.tupleTooMany
    exact decide_eq_false (by rw [sizeLine_eq]; omega)
  · rw [size_rep, List.size_toArray, lm_len_rep_flat, el]
    exact fl
  · rw [size_rep]
    exact laidF I (r.rep k.toNat) (by rw [lm_len_rep_flat]; exact fl) q
end
end Rf

set_option Elab.async false
set_option maxRecDepth 100000
/-! RfRev: t[::-1] of a tuple. -/
namespace Rf
open PySem PySem.Spec PyProof.Rows L2
open Builtin.Slice in
theorem adj_back (n : Nat) : sliceAdjust none none (-1) (n : Int) = ((n : Int) - 1, -1) := by
  unfold sliceAdjust
  simp
open Builtin.Slice in
theorem plc_back (n : Nat) : slicePlaces ((n : Int) - 1) (-1) (-1) = n := by
  unfold slicePlaces
  simp
  omega
theorem range_pick {α : Type} : ∀ ys : List α, (List.range ys.length).filterMap (fun m => ys[m]?) = ys
  | [] => rfl
  | a :: t => by
    rw [List.length_cons, List.range_succ_eq_map, List.filterMap_cons, List.filterMap_map]
    show a :: (List.range t.length).filterMap (fun m => t[m]?) = a :: t
    rw [range_pick t]
theorem fm_congr {α β : Type} {f g : α → Option β} : ∀ {l : List α}, (∀ x ∈ l, f x = g x) → l.filterMap f = l.filterMap g
  | [], _ => rfl
  | a :: l, h => by rw [List.filterMap_cons, List.filterMap_cons, h a List.mem_cons_self, fm_congr fun x hx => h x (List.mem_cons_of_mem _ hx)]
theorem pick_back (xs : Array Value) : ((List.range xs.size).filterMap fun (m : Nat) => xs[(((xs.size : Int) - 1) + (m : Int) * (-1)).toNat]?).toArray = xs.toList.reverse.toArray := by
  congr 1
  have e : (List.range xs.size).filterMap (fun (m : Nat) => xs[(((xs.size : Int) - 1) + (m : Int) * (-1)).toNat]?) = (List.range xs.toList.reverse.length).filterMap (fun m => xs.toList.reverse[m]?) := by
    rw [List.length_reverse, Array.length_toList]
    refine fm_congr fun m hm => ?_
    have hm := List.mem_range.mp hm
    rw [List.getElem?_reverse (by rw [Array.length_toList]; exact hm), Array.length_toList, Array.getElem?_toList]
    congr 1
    omega
  rw [e, range_pick]
section
variable {prog : Program} {w : World} {A : Around} {E : Value → Shared → Prop} {s : Shared}
theorem applied_back {sl : Addr} {vs : Value} {n : Nat} {Q : Int × Int × Nat → Shared → Prop} (hs : s.heap.IsSliceOf sl .none .none vs) (ps : IsPart vs (some (-1))) (h : Q ((n : Int) - 1, -1, n) s) : wpAny (model prog w) A (Builtin.Slice.sliceApplied (.ref sl) (pure (n : Int))) Q E s := by
  obtain ⟨os, hos, hcs, hds⟩ := id hs
  unfold Builtin.Slice.sliceApplied Builtin.Slice.sliceFields
  refine wpAny_bind (wpAny_bind (wpAny_field hos hds (x := .none) rfl (wpAny_bind (wpAny_field hos hds (x := .none) rfl (wpAny_bind (wpAny_field hos hds (x := vs) rfl (wpAny_pure ?_)))))))
  refine wpAny_bind (HT.slicePart_ ps ?_)
  show wpAny _ _ (if ((-1 : Int) == 0) = true then _ else _) _ _ s
  rw [if_neg (by decide)]
  refine wpAny_bind (HT.slicePart_ .none (wpAny_bind (HT.slicePart_ .none (wpAny_bind (wpAny_pure ?_)))))
  show wpAny _ _ (match Builtin.Slice.sliceAdjust none none (-1) (n : Int) with | (lo, hi) => pure (lo, (-1 : Int), Builtin.Slice.slicePlaces lo hi (-1))) _ _ s
  rw [adj_back]
  show wpAny _ _ (pure ((n : Int) - 1, (-1 : Int), Builtin.Slice.slicePlaces ((n : Int) - 1) (-1) (-1))) _ _ s
  rw [plc_back]
  exact wpAny_pure h
theorem getItem_back {t sl : Addr} {its : Array Value} {vs : Value} {Q : Value → Shared → Prop} (ht : IsTup s.heap t its) (hs : s.heap.IsSliceOf sl .none .none vs) (ps : IsPart vs (some (-1)))
    (h : Q (.ref s.heap.objs.size) { s with heap := s.heap.push { cls := .type "tuple", data := .seq its.toList.reverse.toArray } }) (hz : its.size ≤ sizeLine) : wpAny (model prog w) A (getItem (.ref t) (.ref sl)) Q E s := by
  have fits : sizeOk (.seq its.toList.reverse.toArray) := by
    show its.toList.reverse.toArray.size ≤ sizeLine
    rw [List.size_toArray, List.length_reverse, Array.length_toList]
    exact hz
  obtain ⟨os, hos, hcs, hds⟩ := id hs
  have kind : s.TypeIs (.ref sl) "slice" := ⟨os, hos, hcs⟩
  unfold getItem
  try with_reducible refine wpAny_holding ?_
  first | refine wpAny_bind (wpAny_pure ?_) | skip
  refine wpAny_bind (wpAny_sequenceKey ht.typeIs (by decide) ?_)
  refine wpAny_bind (wpAny_callSpecial?_slot (name := Str.ofString "__getitem__") ht.typeIs PyProof.Rows.slot_tuple_getitem
    (wpAny_call_entry PyProof.Rows.slot_tuple_getitem ht.typeIs PyProof.Rows.entry_tuple_getitem ?_ (PyProof.Rows.args_tuple_getitem _ _)))
  show wpAny _ _ (Builtin.Tuple.tupleItemsOf (.ref t) >>= _) _ _ s
  refine wpAny_bind (PyProof.Rows.tupleItemsOf_ ht ?_)
  refine wpAny_bind (wpAny_typeOf kind ?_)
  rw [if_pos (by decide)]
  refine wpAny_bind (applied_back hs ps ?_)
  have new : ¬ ((((its.size : Int) - 1) == 0 && (-1 : Int) == 1 && its.size == its.size) = true) := by
    rw [show ((-1 : Int) == 1) = false from rfl, Bool.and_false, Bool.false_and]
    exact Bool.false_ne_true
  show wpAny _ _ (if ((((its.size : Int) - 1) == 0 && (-1 : Int) == 1 && its.size == its.size) = true) then _ else _) _ _ s
  rw [if_neg new, pick_back]
  first
    | exact wpAny_bind (m := Builtin.Tuple.tupleExact _) (wpAny_newObj_type (wpAny_pure ⟨_, rfl, wpAny_pure h⟩) fits)
    | exact wpAny_bind (m := Builtin.Tuple.tupleExact _) (wpAny_newObj_type (wpAny_bind (wpAny_pure (wpAny_pure ⟨_, rfl, wpAny_pure h⟩))) fits)
    | exact wpAny_bind (wpAny_bind (m := Builtin.Tuple.tupleExact _) (wpAny_newObj_type (wpAny_pure (wpAny_pure ⟨_, rfl, wpAny_pure h⟩)) fits))
    | exact wpAny_bind (wpAny_bind (m := Builtin.Tuple.tupleExact _) (wpAny_newObj_type (wpAny_pure ⟨_, rfl, wpAny_pure h⟩) fits))
end
theorem pe_revT {X : Cx} {e : Expr} {te : TE} {k : Nat} {p1 p2 p3 pos : Pos} (he : PE X e te) : PE X (.Subscript e (.Slice none none (some (.UnaryOp .USub (.Constant (.int 1) k p1) p2)) p3) pos) (fun σ H Q => te σ H fun x H1 => ∃ a xs, x = .ref a ∧ SqT X.K H1 a xs ∧ NewF H1 Q xs.reverse) := by
  refine ⟨fun pins s σ H Q I h => ?_⟩
  refine Subscript_ (thn (he.run pins s σ H _ I h) fun v s1 ⟨x, H1, I1, r1, a, xs, ex, hx, q⟩ => ?_)
  subst ex
  cases r1
  have stp : PO X (some (.UnaryOp .USub (.Constant (.int 1) k p1) p2)) (tPart (tUn (rU fun i => .int (-i)) (tC (.int 1)))) := po_some (pe_un un_neg pe_int)
  refine wpAny_Slice (thn (po_none.run pins s1 σ H1 (fun o H2 => o = none ∧ H2 = H1) I1 ⟨rfl, rfl⟩) fun vl s2 ⟨l, H2, I2, pl, el, e2⟩ => ?_)
  subst el; subst e2
  refine thn (po_none.run pins s2 σ _ (fun o H3 => o = none ∧ H3 = H2) I2 ⟨rfl, rfl⟩) fun vu s3 ⟨u, H3, I3, pu, eu, e3⟩ => ?_
  subst eu; subst e3
  refine thn (stp.run pins s3 σ _ (fun o H4 => o = some (-1) ∧ H4 = H3) I3 ⟨1, rfl, -1, rfl, rfl, rfl⟩) fun vs s4 ⟨o, H4, I4, ps, eo, e4⟩ => ?_
  subst eo; subst e4
  have I5 : Inv X pins σ H4 { s4 with heap := s4.heap.push { cls := .type "slice", data := .fields #[vl, vu, vs] } } := I4.kept (t' := s4.toks) fun b ob q => Heap.get?_push_of_some _ q
  obtain ⟨its, r, ht, hz⟩ := I5.tuple hx
  cases pl; cases pu
  show wpAny (model X.prog X.w) X.A (subscriptTail e (.Slice none none (some (.UnaryOp .USub (.Constant (.int 1) k p1) p2)) p3) (.ref a) (.ref s4.heap.objs.size)) (EP X pins σ Q) X.xe { s4 with heap := s4.heap.push { cls := .type "slice", data := .fields #[.none, .none, vs] } }
  refine tail_any (ops := [.ref a, .ref s4.heap.objs.size]) ht.typeIs PyProof.Rows.slot_tuple_getitem.lookup ?_ (by with_unfolding_all rfl)
  refine getItem_back ht (Heap.IsSliceOf.new _ .none .none vs) ps ?_ (by rw [List.size_toArray, ← r.length]; exact hz)
  have fin := laidF (s := { s4 with heap := s4.heap.push { cls := .type "slice", data := .fields #[.none, .none, vs] } }) I5 r.reverse (by rw [List.length_reverse]; exact hz) q
  exact fin
end Rf

set_option Elab.async false
set_option maxRecDepth 100000
/-! RfOps: operators and built-ins of RfCore, by values, over the layer's rules. -/
namespace Rf
open PySem PySem.Spec PyProof.Rows L2

/-- an exception's attributes may be read -/
def XOk (G : GC) (c : Nat) (fs : List (Nat × W)) : Prop := fs = [] ∨ (XfC G.K (G.cadr c) ∧ ∀ q ∈ fs, PySem.W.findIn G.K (.ref (G.cadr c)) (G.fnm q.1) = some none)
/-- they stand in its own dict -/
def XdR (G : GC) (ρ : List Addr) (H : Hp) (fs : List (Nat × W)) (d : Option Addr) : Prop := fs = [] ∨ ∃ dx vs, d = some dx ∧ H dx = some (.xd vs) ∧ dx ∉ ρ ∧ RF G ρ H fs vs
def ExcR (G : GC) (ρ : List Addr) (H : Hp) (c : Nat) (fs : List (Nat × W)) (d : Option Addr) : Prop := XOk G c fs ∧ XdR G ρ H fs d
/-- what a result gives -/
def Post {α β : Type} (G : GC) (rel : List Addr → Hp → α → β → Prop) (E : XK) (ρ : List Addr) (H : Hp) (Q : β → Hp → Prop) : Res α → Prop
  | .ok w S => ∀ ρ' H' v, Ext G ρ H ρ' H' → Rp G ρ' H' S → rel ρ' H' w v → Q v H'
  | .exc c fs S => ∀ ρ' H' d, Ext G ρ H ρ' H' → Rp G ρ' H' S → ExcR G ρ' H' c fs d → E (.ref (G.cadr c)) d H'
  | .stuck => False
section
variable {α β γ δ : Type} {G : GC} {rel : List Addr → Hp → α → β → Prop} {rel2 : List Addr → Hp → γ → δ → Prop} {E : XK} {ρ ρ' : List Addr} {H H' : Hp} {Q Q' : β → Hp → Prop} {r : Res α}
theorem Post.from (e : Ext G ρ H ρ' H') (h : Post G rel E ρ H Q r) : Post G rel E ρ' H' Q r := by
  cases r with
  | ok w S => exact fun ρ2 H2 v e2 => h ρ2 H2 v (e.trans e2)
  | exc c fs S => exact fun ρ2 H2 d e2 => h ρ2 H2 d (e.trans e2)
  | stuck => exact h
theorem Post.imp (h : Post G rel E ρ H Q r) (hq : ∀ v H', Q v H' → Q' v H') : Post G rel E ρ H Q' r := by
  cases r with
  | ok w S => exact fun ρ2 H2 v e2 rp rl => hq _ _ (h ρ2 H2 v e2 rp rl)
  | exc c fs S => exact h
  | stuck => exact h
theorem Post.re {rel' : List Addr → Hp → α → β → Prop} (h : Post G rel E ρ H Q r) (hr : ∀ ρ H a b, rel' ρ H a b → rel ρ H a b) : Post G rel' E ρ H Q r := by
  cases r with
  | ok w S => exact fun ρ2 H2 v e2 rp rl => h ρ2 H2 v e2 rp (hr _ _ _ _ rl)
  | exc c fs S => exact h
  | stuck => exact h
theorem Post.of {o : Option α} {S : Store} (h : Post G rel E ρ H Q (Res.of o S)) : ∃ w, o = some w ∧ Post G rel E ρ H Q (.ok w S) := by
  cases o with
  | none => exact h.elim
  | some w => exact ⟨w, rfl, h⟩
theorem Post.bind {q : Res γ} {k : γ → Store → Res α} (h : Post G rel E ρ H Q (q.bind k)) : Post G rel2 E ρ H (fun y H1 => ∃ ρ1 w S1, Ext G ρ H ρ1 H1 ∧ Rp G ρ1 H1 S1 ∧ rel2 ρ1 H1 w y ∧ Post G rel E ρ1 H1 Q (k w S1)) q := by
  cases q with
  | ok w S => exact fun ρ' H' v e rp rl => ⟨ρ', w, S, e, rp, rl, h.from e⟩
  | exc c fs S => exact h
  | stuck => exact h.elim
theorem Post.noX {E' : XK} (h : Post G rel E ρ H Q r.noX) : Post G rel E' ρ H Q r := by
  cases r with
  | ok w S => exact h
  | exc c fs S => exact h.elim
  | stuck => exact h.elim
theorem Post.noE {E' : XK} (h : Post G rel E ρ H Q r.noX) : Post G rel E' ρ H Q r.noX := by
  cases r with
  | ok w S => exact h
  | exc c fs S => exact h.elim
  | stuck => exact h.elim
theorem Post.bindN {q : Res γ} {k : γ → Store → Res α} (h : Post G rel E ρ H Q (q.bind k).noX) : Post G rel2 E ρ H (fun y H1 => ∃ ρ1 w S1, Ext G ρ H ρ1 H1 ∧ Rp G ρ1 H1 S1 ∧ rel2 ρ1 H1 w y ∧ Post G rel E ρ1 H1 Q (k w S1).noX) q.noX := by
  cases q with
  | ok w S => exact fun ρ' H' v e rp rl => ⟨ρ', w, S, e, rp, rl, Post.from e h⟩
  | exc c fs S => exact h.elim
  | stuck => exact h.elim
theorem Post.exE {E' : XK} (h : Post G rel E ρ H Q r) (he : ∀ c d H', E c d H' → E' c d H') : Post G rel E' ρ H Q r := by
  cases r with
  | ok w S => exact h
  | exc c fs S => exact fun ρ2 H2 d e rp x => he _ _ _ (h ρ2 H2 d e rp x)
  | stuck => exact h.elim
end

section
variable {G : GC} {ρ : List Addr} {H : Hp} {S : Store} {l : Nat} {x : V} {w : W} {xs : List W}
theorem R.loc_inv (r : R G ρ H (.loc l) x) : ∃ a, x = .ref a ∧ ρ[l]? = some a := by cases r; exact ⟨_, rfl, by assumption⟩
theorem R.tup_inv (r : R G ρ H (.tup xs) x) : ∃ a vs, x = .ref a ∧ H a = some (.tup vs) ∧ Rs G ρ H xs vs := by cases r; exact ⟨_, _, rfl, by assumption, by assumption⟩
theorem R.seqT {K : PySem.W.Frag} (r : R G ρ H w x) (e : tupOf w = some xs) : ∃ a vs, x = .ref a ∧ SqT K H a vs ∧ Rs G ρ H xs vs := by
  unfold tupOf at e
  split at e
  · cases e; cases r; exact ⟨_, _, rfl, SqT.of (by assumption), by assumption⟩
  · cases e; cases r; exact ⟨_, _, rfl, .inl (.inr ⟨_, by assumption⟩), by assumption⟩
  · cases e
theorem R.tup_rd (r : R G ρ H w x) (e : tupOf w = some xs) : ∃ a vs, x = .ref a ∧ Rd H a (.tup vs) ∧ Rs G ρ H xs vs := by
  unfold tupOf at e
  split at e
  · cases e; cases r; exact ⟨_, _, rfl, .inl (by assumption), by assumption⟩
  · cases e; cases r; exact ⟨_, _, rfl, .inr ⟨_, by assumption⟩, by assumption⟩
  · cases e
theorem Rp.cellAt (rp : Rp G ρ H S) {c : Cell} (r : R G ρ H (.loc l) x) (e : S.get l = some c) : ∃ a, x = .ref a ∧ ρ[l]? = some a ∧ CellR G ρ H a c := by
  obtain ⟨a, rfl, h1⟩ := r.loc_inv
  obtain ⟨b, h2, h3⟩ := rp.at e
  rw [h1] at h2; cases h2
  exact ⟨a, rfl, h1, h3⟩
theorem Rp.lst (rp : Rp G ρ H S) (r : R G ρ H (.loc l) x) (e : S.get l = some (.lst xs)) : ∃ a vs, x = .ref a ∧ ρ[l]? = some a ∧ H a = some (.lst vs) ∧ Rs G ρ H xs vs := by
  obtain ⟨a, h1, h2, vs, h3, h4⟩ := rp.cellAt r e
  exact ⟨a, vs, h1, h2, h3, h4⟩
/-- a list that may be read -/
theorem Rp.seqL (rp : Rp G ρ H S) (r : R G ρ H (.loc l) x) (e : S.get l = some (.lst xs) ∨ S.get l = some (.frz xs)) : ∃ a vs, x = .ref a ∧ SqL G.K H a vs ∧ Rs G ρ H xs vs := by
  rcases e with e | e
  · obtain ⟨a, vs, h1, _, h3, h4⟩ := rp.lst r e
    exact ⟨a, vs, h1, SqL.of h3, h4⟩
  · obtain ⟨a, h1, _, o, vs, h3, h4⟩ := rp.cellAt r e
    exact ⟨a, vs, h1, .inl (.inr ⟨o, h3⟩), h4⟩
theorem Rp.lstOf (rp : Rp G ρ H S) (r : R G ρ H w x) (e : lstOf S w = some xs) : ∃ a vs, x = .ref a ∧ SqL G.K H a vs ∧ Rs G ρ H xs vs := by
  unfold Rf.lstOf at e
  split at e
  · split at e
    · cases e; exact rp.seqL r (.inl (by assumption))
    · cases e; exact rp.seqL r (.inr (by assumption))
    · cases e
  · cases e
theorem Rp.seqOf (rp : Rp G ρ H S) (r : R G ρ H w x) (e : seqOf S w = some xs) : ∃ a vs, x = .ref a ∧ (SqL G.K H a vs ∨ SqT G.K H a vs) ∧ Rs G ρ H xs vs := by
  unfold Rf.seqOf at e
  split at e
  · obtain ⟨a, vs, h1, h2, h3⟩ := r.seqT (K := G.K) e
    exact ⟨a, vs, h1, .inr h2, h3⟩
  · obtain ⟨a, vs, h1, h2, h3⟩ := r.seqT (K := G.K) e
    exact ⟨a, vs, h1, .inr h2, h3⟩
  · split at e
    · cases e
      obtain ⟨a, vs, h1, h2, h3⟩ := rp.seqL r (.inl (by assumption))
      exact ⟨a, vs, h1, .inl h2, h3⟩
    · cases e
      obtain ⟨a, vs, h1, h2, h3⟩ := rp.seqL r (.inr (by assumption))
      exact ⟨a, vs, h1, .inl h2, h3⟩
    · cases e
  · cases e
variable {E : XK} {Q : VK} {vs : List V} {p : Addr}
/-- a new list as the result -/
theorem Post.newL (rp : Rp G ρ H S) (po : Post G (R G) E ρ H Q (.ok (.loc S.n) (S.push (.lst xs)))) (rs : Rs G ρ H xs vs) (hp : H p = none) : Q (.ref p) (upd H p (.lst vs)) :=
  po _ _ _ (Ext.push rp hp) (Rp.push rp hp ⟨vs, upd_same, rs.mono (Ext.push rp hp)⟩) (.loc rp.push_at)
/-- a new tuple as the result -/
theorem Post.newT (rp : Rp G ρ H S) (po : Post G (R G) E ρ H Q (.ok (.tup xs) S)) (rs : Rs G ρ H xs vs) (hp : H p = none) : Q (.ref p) (upd H p (.tup vs)) :=
  po _ _ _ (Ext.aside rp hp) (rp.aside hp) (.tup upd_same (rs.mono (Ext.aside rp hp)))
theorem Post.newF (rp : Rp G ρ H S) (po : Post G (R G) E ρ H Q (.ok (.tpl xs) S)) (rs : Rs G ρ H xs vs) : NewF H Q vs := fun p o hp ho =>
  po _ _ _ (Ext.aside rp hp) (rp.aside hp) (.tpl upd_same ho (rs.mono (Ext.aside rp hp)))
theorem Post.here (rp : Rp G ρ H S) (po : Post G (R G) E ρ H Q (.ok w S)) (r : R G ρ H w x) : Q x H := po _ _ _ Ext.refl rp r
/-- a list of the store changed -/
theorem Post.writeL {n : Nat} {a : Addr} {us : List V} {w : W} (rp : Rp G ρ H S) (po : Post G (R G) E ρ H Q (.ok w (S.upd n (.lst xs)))) (ha : ρ[n]? = some a) (hl : H a = some (.lst us)) (rs : Rs G ρ H xs vs) (r : ∀ H', Ext G ρ H ρ H' → R G ρ H' w x) :
    Q x (upd H a (.lst vs)) := by
  have hf : ∀ q u, H a ≠ some (.frz q u) := fun q u z => by rw [hl] at z; cases z
  have e := Ext.write (o := .lst vs) rp ha hf
  exact po _ _ _ e (Rp.write rp ha hf ⟨vs, upd_same, rs.mono e⟩) (r _ e)
end
theorem lim_line {n : Nat} (h : n ≤ lim) : n ≤ sizeLine := Nat.le_trans h (by rw [sizeLine_eq]; decide)
theorem lim_line' {n : Nat} (h : n < lim) : n < sizeLine := Nat.lt_of_lt_of_le h (by rw [sizeLine_eq]; decide)

section
variable {G : GC} {X : Cx} {pins : List (Addr × Obj)} {s : Shared} {σ : L2.St} {ρ : List Addr} {H : Hp} {S : Store} {x y : V} {v u : Value} {a b : W} {Q : VK} {E : XK}
theorem small_iff {i : Int} (h : small i = true) : -(2 ^ 64) < i ∧ i < 2 ^ 64 := by
  unfold small at h
  simp only [Bool.and_eq_true, decide_eq_true_eq] at h
  exact h
theorem binW_snd (o : Operator) (hK : X.K = G.K) (I : Inv X pins σ H s) (r1 : RelV x v) (r2 : RelV y u) (rp : Rp G ρ H S) (ra : R G ρ H a x) (rb : R G ρ H b y) (po : Post G (R G) E ρ H Q (binW S o a b)) :
    wpAny (model X.prog X.w) X.A (binaryOp o v u) (EP X pins σ Q) X.xe s := by
  unfold binW at po
  split at po
  · cases ra; cases rb
    exact op_add pins s σ H _ _ v u Q I r1 r2 ⟨_, _, rfl, rfl, po.here rp .int⟩
  · split at po
    · rename_i hl
      cases ra; cases rb
      exact op_add_str pins s σ H _ _ v u Q I r1 r2 ⟨_, _, rfl, rfl, lim_line hl, po.here rp .str⟩
    · exact po.elim
  · split at po
    · rename_i e1 e2
      split at po
      · rename_i hl
        obtain ⟨p, ps, rfl, _, hp, rps⟩ := rp.lst ra e1
        obtain ⟨q, qs, rfl, _, hq, rqs⟩ := rp.lst rb e2
        exact op_cat pins s σ H _ _ v u Q I r1 r2 ⟨p, q, ps, qs, rfl, rfl, hp, hq, by rw [← rps.length, ← rqs.length]; exact lim_line hl, fun r hr => po.newL rp (rps.app rqs) hr⟩
      · exact po.elim
    · exact po.elim
  · cases ra; cases rb
    exact op_sub pins s σ H _ _ v u Q I r1 r2 ⟨_, _, rfl, rfl, po.here rp .int⟩
  · split at po
    · rename_i hl
      cases ra; cases rb
      refine op_mul pins s σ H _ _ v u Q I r1 r2 ⟨_, _, rfl, rfl, ?_, po.here rp .int⟩
      rcases Bool.or_eq_true_iff.mp hl with h | h
      · exact .inl (small_iff h)
      · exact .inr (small_iff h)
    · exact po.elim
  · split at po
    · rename_i e1
      split at po
      · rename_i hl
        cases rb
        obtain ⟨p, ps, rfl, _, hp, rps⟩ := rp.lst ra e1
        refine op_rep pins s σ H _ _ v u Q I r1 r2 ⟨p, _, ps, rfl, rfl, hp, by omega, by omega, by rw [← rps.length]; exact lim_line hl.2.2, fun r hr => po.newL rp (rps.rep _) hr⟩
      · exact po.elim
    · exact po.elim
  · split at po
    · rename_i hl
      cases ra; cases rb
      exact op_fdivN pins s σ H _ _ v u Q I r1 r2 ⟨_, _, rfl, rfl, hl, po.here rp .int⟩
    · exact po.elim
  · split at po
    · rename_i hl
      cases ra; cases rb
      exact op_modN pins s σ H _ _ v u Q I r1 r2 ⟨_, _, rfl, rfl, hl, po.here rp .int⟩
    · exact po.elim
  · split at po
    · rename_i hl
      cases ra; cases rb
      exact op_pow pins s σ H _ _ v u Q I r1 r2 ⟨_, _, rfl, rfl, ⟨hl.1, by omega, hl.2.2⟩, po.here rp .int⟩
    · exact po.elim
  · split at po
    · rename_i hl
      cases ra; cases rb
      exact op_shl pins s σ H _ _ v u Q I r1 r2 ⟨_, _, rfl, rfl, ⟨hl.1, by omega, hl.2.2⟩, po.here rp .int⟩
    · exact po.elim
  · split at po
    · rename_i hl
      cases ra; cases rb
      exact op_shr pins s σ H _ _ v u Q I r1 r2 ⟨_, _, rfl, rfl, hl, po.here rp .int⟩
    · exact po.elim
  · cases ra; cases rb
    exact op_and pins s σ H _ _ v u Q I r1 r2 ⟨_, _, rfl, rfl, po.here rp .int⟩
  · cases ra; cases rb
    exact op_or pins s σ H _ _ v u Q I r1 r2 ⟨_, _, rfl, rfl, po.here rp .int⟩
  · cases ra; cases rb
    exact op_xor pins s σ H _ _ v u Q I r1 r2 ⟨_, _, rfl, rfl, po.here rp .int⟩
  · -- tuples together
    split at po
    · rename_i xs ys e1 e2
      split at po
      · rename_i hl
        obtain ⟨p, ps, rfl, hp, rps⟩ := ra.seqT (K := X.K) e1
        obtain ⟨q, qs, rfl, hq, rqs⟩ := rb.seqT (K := X.K) e2
        refine op_catF pins s σ H _ _ v u Q I r1 r2 ⟨p, q, ps, qs, rfl, rfl, hp, hq, by rw [← rps.length, ← rqs.length]; exact lim_line hl, fun e => ?_, fun e e' => ?_, fun e e' => ?_⟩
        · subst e; cases rps; exact po.here rp rb
        · subst e'; cases rqs
          cases rps with
          | nil => exact absurd rfl e
          | cons _ _ => exact po.here rp ra
        · cases rps with
          | nil => exact absurd rfl e
          | cons r1 t1 => cases rqs with
            | nil => exact absurd rfl e'
            | cons r2 t2 => exact po.newF rp (Rs.app (.cons r1 t1) (.cons r2 t2))
      · exact po.elim
    · exact po.elim
  · split at po
    · rename_i xs e1
      split at po
      · rename_i hl
        cases rb
        obtain ⟨p, ps, rfl, hp, rps⟩ := ra.seqT (K := X.K) e1
        obtain ⟨h1, h2, h3, h4⟩ := hl
        refine op_repF pins s σ H _ _ v u Q I r1 r2 ⟨p, _, ps, rfl, rfl, hp, fun e => ?_, h1, h2, by rw [← rps.length]; exact h3, po.newF rp (rps.rep _)⟩
        subst e; cases rps; exact h4 rfl
      · exact po.elim
    · exact po.elim
  · exact po.elim
end
end Rf

set_option Elab.async false
set_option maxRecDepth 100000
/-! RfOps2: comparisons, truth, items, slices, stores, attributes. -/
namespace Rf
open PySem PySem.Spec PyProof.Rows L2

/-! ### data -/
theorem mapO_some {α β : Type} {f : α → Option β} : ∀ {xs : List α} {ys : List β}, mapO f xs = some ys → xs.length = ys.length ∧ ∀ (i : Nat) (x : α), xs[i]? = some x → ∃ y, f x = some y ∧ ys[i]? = some y
  | [], ys, h => by
    cases h
    exact ⟨rfl, fun i x e => by simp at e⟩
  | x :: xs, ys, h => by
    unfold mapO at h
    split at h
    · rename_i y hy
      obtain ⟨zs, e1, e2⟩ := Option.map_eq_some_iff.mp h
      subst e2
      obtain ⟨h1, h2⟩ := mapO_some e1
      refine ⟨by rw [List.length_cons, List.length_cons, h1], fun i z e => ?_⟩
      cases i with
      | zero => simp at e; subst e; exact ⟨y, hy, rfl⟩
      | succ i => exact h2 i z (by simpa using e)
    · cases h
section
variable {G : GC} {ρ : List Addr} {H : Hp} {S : Store}
theorem Rs.dps {D : W → Option PyData} (hd : ∀ (w : W) (v : V) (d : PyData), R G ρ H w v → D w = some d → Dp G.K H v d ∧ d.canLay0 = true) :
    ∀ {xs : List W} {vs : List V} {ds : List PyData}, Rs G ρ H xs vs → mapO D xs = some ds → DpAll G.K H vs ds ∧ PyData.canLayAll0 ds = true
  | _, _, _, .nil, h => by cases h; exact ⟨.nil, rfl⟩
  | _, _, _, .cons r rs, h => by
    unfold mapO at h
    split at h
    · rename_i y hy
      obtain ⟨zs, e1, e2⟩ := Option.map_eq_some_iff.mp h
      subst e2
      obtain ⟨h1, h2⟩ := Rs.dps hd rs e1
      obtain ⟨h3, h4⟩ := hd _ _ _ r hy
      exact ⟨.cons h3 h1, by unfold PyData.canLayAll0; rw [h4, h2]; rfl⟩
    · cases h
theorem depth_mapO {D : W → Option PyData} {n : Nat} (hd : ∀ (w : W) (d : PyData), D w = some d → d.depth ≤ n) : ∀ {xs : List W} {ds : List PyData}, mapO D xs = some ds → PyData.depthAll ds ≤ n
  | [], _, h => by cases h; exact Nat.zero_le _
  | x :: xs, _, h => by
    unfold mapO at h
    split at h
    · rename_i y hy
      obtain ⟨zs, e1, e2⟩ := Option.map_eq_some_iff.mp h
      subst e2
      unfold PyData.depthAll
      exact Nat.max_le.mpr ⟨hd _ _ hy, depth_mapO hd e1⟩
    · cases h
theorem toD_depth : ∀ (n : Nat) (w : W) (d : PyData), toD S n w = some d → d.depth ≤ n := by
  intro n
  induction n with
  | zero =>
    intro w d h
    cases w <;> simp only [toD, Option.some.injEq, reduceCtorEq] at h <;> try (subst h; simp [PyData.depth])
    split at h
    · cases h; simp [PyData.depth]
    · cases h
  | succ n ih =>
    intro w d h
    cases w with
    | tup xs =>
      simp only [toD] at h
      obtain ⟨ds, e1, e2⟩ := Option.map_eq_some_iff.mp h
      subst e2
      unfold PyData.depth
      exact Nat.succ_le_succ (depth_mapO ih e1)
    | tpl xs =>
      simp only [toD] at h
      obtain ⟨ds, e1, e2⟩ := Option.map_eq_some_iff.mp h
      subst e2
      unfold PyData.depth
      exact Nat.succ_le_succ (depth_mapO ih e1)
    | loc l =>
      simp only [toD] at h
      split at h
      · obtain ⟨ds, e1, e2⟩ := Option.map_eq_some_iff.mp h
        subst e2
        unfold PyData.depth
        exact Nat.succ_le_succ (depth_mapO ih e1)
      · obtain ⟨ds, e1, e2⟩ := Option.map_eq_some_iff.mp h
        subst e2
        unfold PyData.depth
        exact Nat.succ_le_succ (depth_mapO ih e1)
      · cases h
    | str x =>
      simp only [toD] at h
      split at h
      · cases h; simp [PyData.depth]
      · cases h
    | _ => simp only [toD, Option.some.injEq, reduceCtorEq] at h <;> try (subst h; simp [PyData.depth])
theorem toD_dp (rp : Rp G ρ H S) : ∀ (n : Nat) (w : W) (v : V) (d : PyData), R G ρ H w v → toD S n w = some d → Dp G.K H v d ∧ d.canLay0 = true := by
  intro n
  induction n with
  | zero =>
    intro w v d r h
    cases w <;> simp only [toD, Option.some.injEq, reduceCtorEq] at h
    · subst h; cases r; exact ⟨.non, rfl⟩
    · subst h; cases r; exact ⟨.bl _, rfl⟩
    · subst h; cases r; exact ⟨.int _, rfl⟩
    · split at h
      · cases h; cases r; exact ⟨.str _, by assumption⟩
      · cases h
  | succ n ih =>
    intro w v d r h
    cases w with
    | tup xs =>
      simp only [toD] at h
      obtain ⟨ds, e1, e2⟩ := Option.map_eq_some_iff.mp h
      subst e2
      obtain ⟨a, vs, rfl, h1, h2⟩ := r.tup_inv
      obtain ⟨h3, h4⟩ := Rs.dps ih h2 e1
      exact ⟨.tup (SqT.of h1) h3, h4⟩
    | tpl xs =>
      simp only [toD] at h
      obtain ⟨ds, e1, e2⟩ := Option.map_eq_some_iff.mp h
      subst e2
      obtain ⟨a, vs, rfl, h1, h2⟩ := r.seqT (K := G.K) rfl
      obtain ⟨h3, h4⟩ := Rs.dps ih h2 e1
      exact ⟨.tup h1 h3, h4⟩
    | loc l =>
      simp only [toD] at h
      split at h
      · rename_i xs e
        obtain ⟨ds, e1, e2⟩ := Option.map_eq_some_iff.mp h
        subst e2
        obtain ⟨a, vs, rfl, h1, h2⟩ := rp.seqL r (.inl e)
        obtain ⟨h3, h4⟩ := Rs.dps ih h2 e1
        exact ⟨.lst h1 h3, h4⟩
      · rename_i xs e
        obtain ⟨ds, e1, e2⟩ := Option.map_eq_some_iff.mp h
        subst e2
        obtain ⟨a, vs, rfl, h1, h2⟩ := rp.seqL r (.inr e)
        obtain ⟨h3, h4⟩ := Rs.dps ih h2 e1
        exact ⟨.lst h1 h3, h4⟩
      · cases h
    | str x =>
      simp only [toD] at h
      split at h
      · cases h; cases r; exact ⟨.str _, by assumption⟩
      · cases h
    | non => simp only [toD, Option.some.injEq] at h; subst h; cases r; exact ⟨.non, rfl⟩
    | bl b => simp only [toD, Option.some.injEq] at h; subst h; cases r; exact ⟨.bl _, rfl⟩
    | int i => simp only [toD, Option.some.injEq] at h; subst h; cases r; exact ⟨.int _, rfl⟩
    | _ => simp only [toD, reduceCtorEq] at h
theorem toD_shaped {w : W} {d : PyData} (hc : d.canLay0 = true) (h : toD S 60 w = some d) : SeqAt.shaped d = true := by
  unfold SeqAt.shaped
  rw [hc]
  have := toD_depth 60 w d h
  simp only [Bool.true_and, decide_eq_true_eq]
  omega
end
/-! ### ints of a list -/
section
variable {G : GC} {ρ : List Addr} {H : Hp} {S : Store}
theorem Rs.ints : ∀ {xs : List W} {vs : List V} {ns : List Int}, Rs G ρ H xs vs → intsOf xs = some ns → vs = ns.map V.int
  | _, _, _, .nil, h => by cases h; rfl
  | _, _, _, .cons r rs, h => by
    unfold intsOf mapO at h
    split at h
    · rename_i y hy
      obtain ⟨zs, e1, e2⟩ := Option.map_eq_some_iff.mp h
      subst e2
      split at hy
      · cases hy; cases r; rw [Rs.ints rs e1]; rfl
      · cases hy
    · cases h
theorem Rs.bls : ∀ {xs : List W} {vs : List V} {ns : List Bool}, Rs G ρ H xs vs → blsOf xs = some ns → vs = ns.map V.bl
  | _, _, _, .nil, h => by cases h; rfl
  | _, _, _, .cons r rs, h => by
    unfold blsOf mapO at h
    split at h
    · rename_i y hy
      obtain ⟨zs, e1, e2⟩ := Option.map_eq_some_iff.mp h
      subst e2
      split at hy
      · cases hy; cases r; rw [Rs.bls rs e1]; rfl
      · cases hy
    · cases h
theorem Rs.of_ints : ∀ {ns : List Int}, Rs G ρ H (ns.map .int) (ns.map V.int)
  | [] => .nil
  | _ :: _ => .cons .int Rs.of_ints
theorem lexI_eq : ∀ (a b : List Int), lexI a b = HT.lexLt a b
  | [], [] => rfl
  | [], _ :: _ => rfl
  | _ :: _, [] => rfl
  | x :: xs, y :: ys => by
    rw [HT.lexLt_cons]
    unfold lexI
    rw [lexI_eq xs ys]
/-! ### dicts' keys and entries -/
theorem key_snd {w : W} {v : V} {k : DKey} (r : R G ρ H w v) (h : Rf.keyOf w = some k) : v = kV k := by
  unfold Rf.keyOf at h
  split at h
  · cases h; cases r; rfl
  · cases h; cases r; rfl
  · cases h
theorem tkeys_snd : ∀ {ws : List W} {vs : List V} {ks : List DKey}, Rs G ρ H ws vs → mapO Rf.keyOf ws = some ks → vs = ks.map kV
  | _, _, _, .nil, h => by cases h; rfl
  | _, _, _, .cons r rs, h => by
    unfold mapO at h
    split at h
    · rename_i y hy
      obtain ⟨zs, e1, e2⟩ := Option.map_eq_some_iff.mp h
      subst e2
      rw [key_snd r hy, tkeys_snd rs e1]; rfl
    · cases h
theorem tkey_snd {w : W} {v : V} {k : List DKey} (r : R G ρ H w v) (h : tkeyOf w = some k) : ∃ b, v = .ref b ∧ H b = some (.tup (k.map kV)) := by
  unfold tkeyOf at h
  split at h
  · obtain ⟨a, vs, rfl, h1, h2⟩ := r.tup_inv
    rw [tkeys_snd h2 h] at h1
    exact ⟨a, rfl, h1⟩
  · cases h
variable {κ : Type} [DecidableEq κ]
theorem RK.get {kvs : List (κ × W)} {vs : List (κ × V)} (h : RK G ρ H kvs vs) (k : κ) : (dget kvs k = none ∧ valV vs k = none) ∨ ∃ w v, dget kvs k = some w ∧ valV vs k = some v ∧ R G ρ H w v := by
  induction h with
  | nil => exact .inl ⟨rfl, rfl⟩
  | @cons q x v xs vs r _ ih =>
    by_cases e : q = k
    · subst e
      refine .inr ⟨x, v, ?_, valV_pos rfl, r⟩
      simp [dget, List.find?_cons]
    · rw [valV_neg (p := (q, v)) e]
      have e2 : dget ((q, x) :: xs) k = dget xs k := by simp [dget, List.find?_cons, e]
      rw [e2]
      exact ih
theorem RK.any {kvs : List (κ × W)} {vs : List (κ × V)} (h : RK G ρ H kvs vs) (k : κ) : (kvs.any fun q => decide (q.1 = k)) = (vs.any fun q => decide (q.1 = k)) := by
  induction h with
  | nil => rfl
  | cons _ _ ih => rw [List.any_cons, List.any_cons, ih]
theorem RK.app {kvs lvs : List (κ × W)} {vs us : List (κ × V)} (h : RK G ρ H kvs vs) (h' : RK G ρ H lvs us) : RK G ρ H (kvs ++ lvs) (vs ++ us) := by
  induction h with
  | nil => exact h'
  | cons r _ ih => exact .cons r ih
theorem RK.putIn {kvs : List (κ × W)} {vs : List (κ × V)} {w : W} {v : V} (h : RK G ρ H kvs vs) (k : κ) (r : R G ρ H w v) : RK G ρ H (kvs.map fun q => if q.1 = k then (q.1, w) else q) (vs.map fun q => if q.1 = k then (q.1, v) else q) := by
  induction h with
  | nil => exact .nil
  | @cons q x u xs us r2 _ ih =>
    rw [List.map_cons, List.map_cons]
    by_cases e : q = k
    · subst e
      simp only [if_true]
      exact .cons r ih
    · simp only [e, if_false]
      exact .cons r2 ih
theorem RK.put {kvs : List (κ × W)} {vs : List (κ × V)} {w : W} {v : V} (h : RK G ρ H kvs vs) (k : κ) (r : R G ρ H w v) : RK G ρ H (dput kvs k w) (putK vs k v) := by
  unfold dput putK
  rw [h.any k]
  split
  · exact h.putIn k r
  · exact h.app (.cons r .nil)
theorem RK.del {kvs : List (κ × W)} {vs : List (κ × V)} (h : RK G ρ H kvs vs) (k : κ) : RK G ρ H (ddel kvs k) (dropK vs k) := by
  unfold ddel dropK
  induction h with
  | nil => exact .nil
  | @cons q x u xs us r2 _ ih =>
    rw [List.filter_cons, List.filter_cons]
    by_cases e : q = k
    · simp only [e, ne_eq, not_true_eq_false, decide_false, Bool.false_eq_true, if_false]; exact ih
    · simp only [e, ne_eq, not_false_eq_true, decide_true, if_true]; exact .cons r2 ih
theorem dput_len {kvs : List (κ × W)} {k : κ} {w : W} : (dput kvs k w).length ≤ kvs.length + 1 := by
  unfold dput
  split
  · rw [List.length_map]; omega
  · rw [List.length_append]; simp
end
/-- an empty dict is one for keys of both kinds -/
theorem retype {X : Cx} {pins : List (Addr × Obj)} {σ : L2.St} {H : Hp} {s : Shared} {a : Addr} (I : Inv X pins σ H s) (e : H a = some (.dK [])) : Inv X pins σ (upd H a (.dT [])) s := by
  obtain ⟨_, z, vs, kv, o, es, ep, h1, h2, h3, h4, h5, h6⟩ := (show ObjOk X.prog X.w H s.heap a (.dK []) from I.hok a _ e)
  cases kv
  have he : es.toList = [] := by cases q : es.toList with
    | nil => rfl
    | cons => rw [q] at h5; cases h5
  exact Inv.write (x := a) (e := a) (o := .dT []) (h' := s.heap) (t' := s.toks) I (by rw [e]; trivial) (.inl rfl) (fun _ _ _ q => q) ⟨_, h1⟩ ⟨Nat.zero_le _, z, [], .nil, o, es, ep, h1, h2, h3, he, .nil⟩
theorem retypeB {X : Cx} {pins : List (Addr × Obj)} {σ : L2.St} {H : Hp} {s : Shared} {a : Addr} (I : Inv X pins σ (upd H a (.dT [])) s) (e : H a = some (.dK [])) : Inv X pins σ H s := by
  obtain ⟨_, z, xs, kv, o, es, ep, h1, h2, h3, h4, h5⟩ := (show ObjOk X.prog X.w (upd H a (.dT [])) s.heap a (.dT []) from I.hok a _ upd_same)
  cases kv
  have he : es = #[] := by
    have q : es.toList = [] := h4
    exact Array.toList_eq_nil_iff.mp q
  subst he
  have J := Inv.write (x := a) (e := a) (o := .dK []) (h' := s.heap) (t' := s.toks) I (by rw [upd_same]; trivial) (.inl rfl) (fun _ _ _ q => q) ⟨_, h1⟩
    ⟨Nat.zero_le _, z, [], .nil, o, #[], ep, h1, h2, h3, fun x hx => absurd hx (by simp), .nil, List.nodup_nil⟩
  have e2 : upd (upd H a (.dT [])) a (.dK []) = H := by
    rw [upd_upd]
    funext b
    unfold upd
    split
    · rename_i q; rw [q, e]
    · rfl
  rw [e2] at J
  exact J

/-! ### the rules -/
section
variable {G : GC} {X : Cx} {pins : List (Addr × Obj)} {s : Shared} {σ : L2.St} {ρ : List Addr} {H : Hp} {S : Store} {x y z : V} {v u r : Value} {a b c : W} {Q : VK} {E : XK} {k : Bool}
theorem eqW_snd (hu : X.A.units + 64 < cLine) (hK : X.K = G.K) (I : Inv X pins σ H s) (r1 : RelV x v) (r2 : RelV y u) (rp : Rp G ρ H S) (ra : R G ρ H a x) (rb : R G ρ H b y) (h : eqW S a b = some k) (q : Q (.bl k) H) :
    wpAny (model X.prog X.w) X.A (compareOp .Eq v u) (EP X pins σ Q) X.xe s := by
  unfold eqW at h
  split at h
  · rename_i d e hd he
    cases h
    obtain ⟨d1, c1⟩ := toD_dp rp 60 a x d ra hd
    obtain ⟨d2, c2⟩ := toD_dp rp 60 b y e rb he
    exact op_eqD hu pins s σ H x y v u Q I r1 r2 ⟨d, e, by rw [hK]; exact d1, by rw [hK]; exact d2, toD_shaped c1 hd, toD_shaped c2 he, q⟩
  · cases h
theorem neW_snd (hu : X.A.units + 64 < cLine) (hK : X.K = G.K) (I : Inv X pins σ H s) (r1 : RelV x v) (r2 : RelV y u) (rp : Rp G ρ H S) (ra : R G ρ H a x) (rb : R G ρ H b y) (h : eqW S a b = some k) (q : Q (.bl (!k)) H) :
    wpAny (model X.prog X.w) X.A (compareOp .NotEq v u) (EP X pins σ Q) X.xe s := by
  unfold eqW at h
  split at h
  · rename_i d e hd he
    cases h
    obtain ⟨d1, c1⟩ := toD_dp rp 60 a x d ra hd
    obtain ⟨d2, c2⟩ := toD_dp rp 60 b y e rb he
    exact op_neD hu pins s σ H x y v u Q I r1 r2 ⟨d, e, by rw [hK]; exact d1, by rw [hK]; exact d2, toD_shaped c1 hd, toD_shaped c2 he, q⟩
  · cases h
theorem shaped_all {d : PyData} {ds : List PyData} (h : SeqAt.shaped d = true) (e : d = .list ds ∨ d = .tuple ds) : PyData.canLayAll0 ds = true ∧ PyData.depthAll ds ≤ 63 := by
  have h1 := SeqAt.canLay_of_shaped h
  have h2 := SeqAt.depth_of_shaped h
  rcases e with rfl | rfl
  · exact ⟨h1, by simp only [PyData.depth] at h2; omega⟩
  · exact ⟨h1, by simp only [PyData.depth] at h2; omega⟩
theorem inD_snd (hu : X.A.units + 80 < cLine) (hK : X.K = G.K) (I : Inv X pins σ H s) (r1 : RelV x v) (r2 : RelV y u) (rp : Rp G ρ H S) (ra : R G ρ H a x) (rb : R G ρ H b y) (h : inD S a b = some k) :
    (Q (.bl k) H → wpAny (model X.prog X.w) X.A (compareOp .In v u) (EP X pins σ Q) X.xe s) ∧ (Q (.bl (!k)) H → wpAny (model X.prog X.w) X.A (compareOp .NotIn v u) (EP X pins σ Q) X.xe s) := by
  unfold inD at h
  split at h
  · rename_i ds d he hd
    cases h
    obtain ⟨d1, c1⟩ := toD_dp rp 60 a x d ra hd
    obtain ⟨d2, c2⟩ := toD_dp rp 60 b y _ rb he
    refine ⟨fun q => op_inD (by omega) pins s σ H x y v u Q I r1 r2 ⟨d, ds, by rw [hK]; exact d1, by rw [hK]; exact d2, toD_shaped c1 hd, toD_shaped c2 he, q⟩,
      fun q => op_notInD (by omega) pins s σ H x y v u Q I r1 r2 ⟨d, ds, by rw [hK]; exact d1, by rw [hK]; exact d2, toD_shaped c1 hd, toD_shaped c2 he, q⟩⟩
  · rename_i ds d he hd
    cases h
    obtain ⟨d1, c1⟩ := toD_dp rp 60 a x d ra hd
    obtain ⟨d2, c2⟩ := toD_dp rp 60 b y _ rb he
    obtain ⟨as, k1⟩ := Dp.reads I d x v (by rw [hK]; exact d1) r1
    obtain ⟨bs, k2⟩ := Dp.reads I (.tuple ds) y u (by rw [hK]; exact d2) r2
    obtain ⟨h3, h4⟩ := shaped_all (toD_shaped c2 he) (.inr rfl)
    have hr : X.A.units + 1 + min (PyData.depthAll ds) d.depth < cLine := by
      have := Nat.min_le_left (PyData.depthAll ds) d.depth
      omega
    exact ⟨fun q => SeqAt.in_tuple_reads k2 k1 h3 c1 hr ⟨.bl _, H, I, rfl, q⟩, fun q => SeqAt.notIn_tuple_reads k2 k1 h3 c1 hr ⟨.bl _, H, I, rfl, q⟩⟩
  · cases h
theorem inW_snd (hu : X.A.units + 80 < cLine) (hK : X.K = G.K) (I : Inv X pins σ H s) (r1 : RelV x v) (r2 : RelV y u) (rp : Rp G ρ H S) (ra : R G ρ H a x) (rb : R G ρ H b y) (h : inW S a b = some k) :
    (Q (.bl k) H → wpAny (model X.prog X.w) X.A (compareOp .In v u) (EP X pins σ Q) X.xe s) ∧ (Q (.bl (!k)) H → wpAny (model X.prog X.w) X.A (compareOp .NotIn v u) (EP X pins σ Q) X.xe s) := by
  unfold inW at h
  split at h
  · split at h
    · rename_i l kvs e
      obtain ⟨p, rfl, hp, vs, h1, h2⟩ := rp.cellAt rb e
      cases (show u = Value.ref p from r2)
      split at h
      · rename_i k' hk
        cases h
        have ey := key_snd ra hk
        have g : DGet H p x (valV vs k') := by rw [ey]; exact DGet.k h1
        have eo : (valV vs k').isSome = (dget kvs k').isSome := by
          rcases h2.get k' with ⟨e1, e2⟩ | ⟨w, v', e1, e2, _⟩ <;> rw [e1, e2] <;> rfl
        exact ⟨fun q => d_in (by omega) I g r1 fun s' I' => ⟨.bl _, H, I', rfl, by rw [eo]; exact q⟩, fun q => d_notIn (by omega) I g r1 fun s' I' => ⟨.bl _, H, I', rfl, by rw [eo]; exact q⟩⟩
      · split at h
        · cases h
          cases ra
          cases (show v = Value.none from r1)
          exact ⟨fun q => d_inNone I (.of h1) fun s' I' => ⟨.bl _, H, I', rfl, q⟩, fun q => d_notInNone I (.of h1) fun s' I' => ⟨.bl _, H, I', rfl, q⟩⟩
        split at h
        · rename_i he
          obtain ⟨k', hk, e2⟩ := Option.map_eq_some_iff.mp h
          subst e2
          obtain ⟨b', rfl, hb⟩ := tkey_snd ra hk
          have hv : vs = [] := by
            cases kvs with
            | nil => cases h2; rfl
            | cons => cases he
          subst hv
          have J := retype I h1
          have hne : b' ≠ p := ne_of hb h1 (by intro z; cases z)
          have g : DGet (upd H p (.dT [])) p (.ref b') (valV ([] : List (List Key × V)) k') := DGet.t upd_same (by rw [upd_ne hne]; exact hb)
          exact ⟨fun q => d_in (by omega) J g r1 fun s' I' => ⟨.bl _, H, retypeB I' h1, rfl, q⟩, fun q => d_notIn (by omega) J g r1 fun s' I' => ⟨.bl _, H, retypeB I' h1, rfl, q⟩⟩
        · cases h
    · rename_i l kvs e
      obtain ⟨p, rfl, hp, vs, h1, h2⟩ := rp.cellAt rb e
      cases (show u = Value.ref p from r2)
      obtain ⟨k', hk, e2⟩ := Option.map_eq_some_iff.mp h
      subst e2
      obtain ⟨b', rfl, hb⟩ := tkey_snd ra hk
      have eo : (valV vs k').isSome = (dget kvs k').isSome := by
        rcases h2.get k' with ⟨e1, e2⟩ | ⟨w, v', e1, e2, _⟩ <;> rw [e1, e2] <;> rfl
      exact ⟨fun q => d_in (by omega) I (DGet.t h1 hb) r1 fun s' I' => ⟨.bl _, H, I', rfl, by rw [eo]; exact q⟩, fun q => d_notIn (by omega) I (DGet.t h1 hb) r1 fun s' I' => ⟨.bl _, H, I', rfl, by rw [eo]; exact q⟩⟩
    · exact inD_snd hu hK I r1 r2 rp ra rb h
  · exact inD_snd hu hK I r1 r2 rp ra rb h
end
end Rf

set_option Elab.async false
set_option maxRecDepth 100000
/-! RfOps3: all comparisons, truth, items, slices, stores. -/
namespace Rf
open PySem PySem.Spec PyProof.Rows L2

theorem lexAt_ge (ns ms : List Int) : ∀ (k i : Nat), i ≤ ns.length → i ≤ ms.length → k = min (ns.length - i) (ms.length - i) →
    Ob.lexAt (fun j => decide (ns.getD j 0 = ms.getD j 0)) (fun j => decide (ms.getD j 0 ≤ ns.getD j 0)) (decide (ns.length ≥ ms.length)) i k = !lexI (ns.drop i) (ms.drop i)
  | 0, i, h1, h2, hk => by
    rw [Ob.lexAt_zero]
    rcases Nat.lt_or_ge i ns.length with a | a
    · have hm : ms.length = i := by omega
      rw [List.drop_eq_nil_of_le (as := ms) (by omega), List.drop_eq_getElem_cons a]
      unfold lexI
      simp; omega
    · rw [List.drop_eq_nil_of_le (as := ns) a]
      rcases Nat.lt_or_ge i ms.length with b | b
      · rw [List.drop_eq_getElem_cons b]
        unfold lexI
        simp; omega
      · rw [List.drop_eq_nil_of_le (as := ms) b]
        unfold lexI
        simp; omega
  | k + 1, i, h1, h2, hk => by
    have a : i < ns.length := by omega
    have b : i < ms.length := by omega
    rw [Ob.lexAt_succ, List.drop_eq_getElem_cons a, List.drop_eq_getElem_cons b]
    unfold lexI
    have e1 : ns.getD i 0 = ns[i] := by simp [List.getD, a]
    have e2 : ms.getD i 0 = ms[i] := by simp [List.getD, b]
    rw [e1, e2]
    by_cases e : ns[i] = ms[i]
    · rw [if_pos (decide_eq_true e), if_pos e]
      exact lexAt_ge ns ms k (i + 1) (by omega) (by omega) (by omega)
    · rw [if_neg (by simp [e]), if_neg e]
      by_cases q : ns[i] < ms[i]
      · rw [decide_eq_true q, decide_eq_false (by omega)]; rfl
      · rw [decide_eq_false q, decide_eq_true (by omega)]; rfl
/-- t >= u, tuples of ints -/
theorem op_geT {X : Cx} (hu : X.A.units < cLine) {pins : List (Addr × Obj)} {s : Shared} {σ : L2.St} {H : Hp} {v u : Value} {Q : VK} {a b : Addr} {ns ms : List Int} (I : Inv X pins σ H s) (rx : RelV (.ref a) v) (ry : RelV (.ref b) u)
    (ha : SqT X.K H a (ns.map V.int)) (hb : SqT X.K H b (ms.map V.int)) (q : Q (.bl (!lexI ns ms)) H) : wpAny (model X.prog X.w) X.A (compareOp .GtE v u) (EP X pins σ Q) X.xe s := by
  cases rx
  cases ry
  obtain ⟨its, r1, p1, _⟩ := I.tuple ha
  obtain ⟨its2, r2, p2, _⟩ := I.tuple hb
  have i1 := Vals.ints r1
  have i2 := Vals.ints r2
  have e1 : its.toArray.size = ns.length := by rw [List.size_toArray]; exact i1.length
  have e2 : its2.toArray.size = ms.length := by rw [List.size_toArray]; exact i2.length
  have at1 : ∀ j (h : j < its.toArray.size), ∃ t, its.toArray[j] = .int (ns.getD j 0) t := fun j h => IntsAre.int_at i1 _ _ (by simp at h; simp [h])
  have at2 : ∀ j (h : j < its2.toArray.size), ∃ t, its2.toArray[j] = .int (ms.getD j 0) t := fun j h => IntsAre.int_at i2 _ _ (by simp at h; simp [h])
  have RR := Ob.RcOp.tuples_ge (A := X.A) (s := s) (e := fun j => decide (ns.getD j 0 = ms.getD j 0)) (r := fun j => decide (ms.getD j 0 ≤ ns.getD j 0)) p1 p2 hu (fun j h1 h2 => by
    obtain ⟨t, et⟩ := at1 j h1
    obtain ⟨t', et'⟩ := at2 j h2
    have zz : (ns.getD j 0 == ms.getD j 0) = decide (ns.getD j 0 = ms.getD j 0) := by
      by_cases qq : ns.getD j 0 = ms.getD j 0
      · rw [decide_eq_true qq, qq]; exact beq_self_eq_true _
      · rw [decide_eq_false qq]; exact beq_eq_false_iff_ne.mpr qq
    rw [et, et', ← zz]
    exact SeqAt.EqAt.int_int _ _ _ _) (fun j h1 h2 _ => by
    obtain ⟨t, et⟩ := at1 j h1
    obtain ⟨t', et'⟩ := at2 j h2
    rw [et, et']
    exact Ob.RcOp.ge_int _ _ _ _)
  rw [e1, e2, lexAt_ge ns ms _ 0 (Nat.zero_le _) (Nat.zero_le _) (by simp)] at RR
  exact RR X.prog X.w X.xe _ ⟨.bl _, H, I, rfl, q⟩
section
variable {G : GC} {X : Cx} {pins : List (Addr × Obj)} {s : Shared} {σ : L2.St} {ρ : List Addr} {H : Hp} {S : Store} {x y z : V} {v u r : Value} {a b c : W} {Q : VK} {E : XK} {k : Bool}
theorem cmpW_snd (o : CmpOp) (hu : X.A.units + 80 < cLine) (hK : X.K = G.K) (I : Inv X pins σ H s) (r1 : RelV x v) (r2 : RelV y u) (rp : Rp G ρ H S) (ra : R G ρ H a x) (rb : R G ρ H b y) (h : cmpW S o a b = some k) (q : Q (.bl k) H) :
    wpAny (model X.prog X.w) X.A (compareOp o v u) (EP X pins σ Q) X.xe s := by
  unfold cmpW at h
  split at h
  · exact eqW_snd (by omega) hK I r1 r2 rp ra rb h q
  · obtain ⟨k', h1, h2⟩ := Option.map_eq_some_iff.mp h
    subst h2
    exact neW_snd (by omega) hK I r1 r2 rp ra rb h1 q
  · cases h; cases ra; cases rb
    exact op_lt pins s σ H _ _ v u Q I r1 r2 ⟨_, _, rfl, rfl, q⟩
  · cases h; cases ra; cases rb
    exact op_le pins s σ H _ _ v u Q I r1 r2 ⟨_, _, rfl, rfl, q⟩
  · cases h; cases ra; cases rb
    exact op_gt pins s σ H _ _ v u Q I r1 r2 ⟨_, _, rfl, rfl, q⟩
  · cases h; cases ra; cases rb
    exact op_ge pins s σ H _ _ v u Q I r1 r2 ⟨_, _, rfl, rfl, q⟩
  · cases h; cases rb
    refine op_isN pins s σ H x _ v u Q I r1 r2 ⟨rfl, ?_⟩
    cases ra <;> exact q
  · cases h; cases rb
    refine op_notN pins s σ H x _ v u Q I r1 r2 ⟨rfl, ?_⟩
    cases ra <;> exact q
  · cases h; cases ra; cases rb
    exact op_isBl pins s σ H _ _ v u Q I r1 r2 ⟨_, _, rfl, rfl, by rw [← Bool.beq_eq_decide_eq]; exact q⟩
  · cases h; cases ra; cases rb
    exact op_notBl pins s σ H _ _ v u Q I r1 r2 ⟨_, _, rfl, rfl, by rw [← Bool.beq_eq_decide_eq]; exact q⟩
  · exact (inW_snd hu hK I r1 r2 rp ra rb h).1 q
  · obtain ⟨k', h1, h2⟩ := Option.map_eq_some_iff.mp h
    subst h2
    exact (inW_snd hu hK I r1 r2 rp ra rb h1).2 q
  · split at h
    · rename_i e1 e2
      cases h
      obtain ⟨_, f1, f2⟩ := Option.bind_eq_some_iff.mp e1
      obtain ⟨_, f3, f4⟩ := Option.bind_eq_some_iff.mp e2
      obtain ⟨p, ps, rfl, hp, rps⟩ := ra.seqT (K := X.K) f1
      obtain ⟨q', qs, rfl, hq, rqs⟩ := rb.seqT (K := X.K) f3
      rw [rps.ints f2] at hp
      rw [rqs.ints f4] at hq
      exact op_ltT (by omega) pins s σ H _ _ v u Q I r1 r2 ⟨p, q', _, _, rfl, rfl, hp, hq, by rw [← lexI_eq]; exact q⟩
    · cases h
  · split at h
    · rename_i e1 e2
      cases h
      obtain ⟨_, f1, f2⟩ := Option.bind_eq_some_iff.mp e1
      obtain ⟨_, f3, f4⟩ := Option.bind_eq_some_iff.mp e2
      obtain ⟨p, ps, rfl, hp, rps⟩ := ra.seqT (K := X.K) f1
      obtain ⟨q', qs, rfl, hq, rqs⟩ := rb.seqT (K := X.K) f3
      rw [rps.ints f2] at hp
      rw [rqs.ints f4] at hq
      exact op_geT (by omega) I r1 r2 hp hq q
    · cases h
  · cases h
theorem unW_snd (o : UnaryOp) (I : Inv X pins σ H s) (r1 : RelV x v) (ra : R G ρ H a x) (h : unW o a = some b) (q : ∀ y, R G ρ H b y → Q y H) : wpAny (model X.prog X.w) X.A (unaryOp o v) (EP X pins σ Q) X.xe s := by
  unfold unW at h
  split at h
  · cases h; cases ra
    exact un_neg pins s σ H _ v Q I r1 ⟨_, rfl, q _ .int⟩
  · cases h; cases ra
    exact un_inv pins s σ H _ v Q I r1 ⟨_, rfl, q _ .int⟩
  · cases h
theorem truW_snd {Q : Bool → Hp → Prop} (hK : X.K = G.K) (I : Inv X pins σ H s) (r1 : RelV x v) (rp : Rp G ρ H S) (ra : R G ρ H a x) (h : truW S a = some k) (q : Q k H) : wpAny (model X.prog X.w) X.A (truthy v) (TP X pins σ Q) X.xe s := by
  refine tru_ok pins s σ H x v Q I r1 ?_
  unfold truW at h
  split at h
  · cases h; cases ra; exact ⟨_, rfl, q⟩
  · cases h; cases ra; exact ⟨_, rfl, q⟩
  · cases h; cases ra; exact ⟨_, rfl, q⟩
  · split at h
    · cases h; cases ra; exact ⟨_, ⟨lim_line (by assumption), rfl⟩, q⟩
    · cases h
  · cases h
    obtain ⟨p, vs, rfl, h1, h2⟩ := ra.seqT (K := X.K) rfl
    exact ⟨_, .inr (.inl ⟨vs, h1, by rw [h2.nil_iff]⟩), q⟩
  · cases h
    obtain ⟨p, vs, rfl, h1, h2⟩ := ra.seqT (K := X.K) rfl
    exact ⟨_, .inr (.inl ⟨vs, h1, by rw [h2.nil_iff]⟩), q⟩
  · split at h
    · cases h
      obtain ⟨p, vs, rfl, h1, h2⟩ := rp.seqL ra (.inl (by assumption))
      exact ⟨_, .inl ⟨vs, by rw [hK]; exact h1, by rw [h2.nil_iff]⟩, q⟩
    · cases h
      obtain ⟨p, vs, rfl, h1, h2⟩ := rp.seqL ra (.inr (by assumption))
      exact ⟨_, .inl ⟨vs, by rw [hK]; exact h1, by rw [h2.nil_iff]⟩, q⟩
    · cases h
      obtain ⟨p, rfl, hp, vs, h1, h2⟩ := rp.cellAt ra (by assumption)
      exact ⟨_, .inr (.inr ⟨vs, h1, by cases h2 <;> rfl⟩), q⟩
    · cases h
  · cases h
theorem ixOf_eq (n : Nat) (i : Int) : ixOf n i = ixN n i := rfl
theorem Rs.atI {xs : List W} {vs : List V} {i : Int} {w : W} (rs : Rs G ρ H xs vs) (h : ((ixOf xs.length i).bind fun j => xs[j]?) = some w) : ∃ v, L2.atI vs i = some v ∧ R G ρ H w v := by
  obtain ⟨j, h1, h2⟩ := Option.bind_eq_some_iff.mp h
  obtain ⟨v, h3, h4⟩ := rs.get h2
  refine ⟨v, ?_, h4⟩
  unfold L2.atI
  rw [← rs.length, ← ixOf_eq, h1]
  exact h3
/-- an item of a dict, read -/
theorem dict_tail {value slice : Expr} {p : Addr} {Q : Value → Shared → Prop} (hT : s.TypeIs (.ref p) "dict") (hs : subscripted slice false (.ref p) u = operate [.ref p, u] (getItem (.ref p) u))
    (h : wpAny (model X.prog X.w) X.A (getItem (.ref p) u) Q X.xe s) : wpAny (model X.prog X.w) X.A (subscriptTail value slice (.ref p) u) Q X.xe s := by
  have fin : wpAny (model X.prog X.w) X.A (subscripted slice false (.ref p) u) (fun w s₃ => wpAny (model X.prog X.w) X.A (do letTemporaryGo value (.ref p) w; pure w) Q X.xe s₃) X.xe s := by
    rw [hs]
    exact wpAny_operating (thn h fun w s₃ h₃ => wpAny_bind (wpAny_letTemporaryGo (wpAny_pure h₃)))
  unfold subscriptTail
  rw [getitemInPython_of_ne hT.not_modules]
  first
    | exact wpAny_bind (wpAny_bind (wpAny_specialOf hT PySem.F.slot_dict_getitem.lookup (wpAny_pure (wpAny_bind fin))))
    | exact wpAny_bind (wpAny_bind (wpAny_specialOf hT PySem.F.slot_dict_getitem.lookup (wpAny_bind (wpAny_pure (wpAny_bind fin)))))
    | exact wpAny_bind (wpAny_bind (wpAny_specialOf hT PySem.F.slot_dict_getitem.lookup (wpAny_bind fin)))
theorem ixW_snd (hu : X.A.units + 1 < cLine) (hK : X.K = G.K) (I : Inv X pins σ H s) (r1 : RelV x v) (r2 : RelV y u) (rp : Rp G ρ H S) (ra : R G ρ H a x) (rb : R G ρ H b y) (h : ixW S a b = some c) (q : ∀ z, R G ρ H c z → Q z H)
    {value slice : Expr} (hs : subscripted slice false v u = operate [v, u] (getItem v u)) : wpAny (model X.prog X.w) X.A (subscriptTail value slice v u) (EP X pins σ Q) X.xe s := by
  unfold ixW at h
  split at h
  · cases rb
    obtain ⟨p, vs, rfl, h1, h2⟩ := ra.seqT (K := X.K) rfl
    obtain ⟨z, h3, h4⟩ := h2.atI h
    exact ix_tup value slice pins s σ H _ _ v u Q I r1 r2 ⟨p, vs, _, z, rfl, rfl, h1, h3, q z h4⟩ hs
  · cases rb
    obtain ⟨p, vs, rfl, h1, h2⟩ := ra.seqT (K := X.K) rfl
    obtain ⟨z, h3, h4⟩ := h2.atI h
    exact ix_tup value slice pins s σ H _ _ v u Q I r1 r2 ⟨p, vs, _, z, rfl, rfl, h1, h3, q z h4⟩ hs
  · split at h
    · cases ra; cases rb
      obtain ⟨k, e1, e2⟩ := Option.map_eq_some_iff.mp h
      subst e2
      rename_i hl
      refine ix_str value slice pins s σ H _ _ v u Q I r1 r2 ⟨_, _, k, rfl, rfl, lim_line hl, ?_, q _ .str⟩ hs
      exact e1
    · cases h
  · split at h
    · rename_i e
      cases rb
      obtain ⟨p, vs, rfl, h1, h2⟩ := rp.seqL ra (.inl e)
      obtain ⟨z, h3, h4⟩ := h2.atI h
      exact ix_list value slice pins s σ H _ _ v u Q I r1 r2 ⟨p, vs, _, z, rfl, rfl, by rw [hK]; exact h1, h3, q z h4⟩ hs
    · rename_i e
      cases rb
      obtain ⟨p, vs, rfl, h1, h2⟩ := rp.seqL ra (.inr e)
      obtain ⟨z, h3, h4⟩ := h2.atI h
      exact ix_list value slice pins s σ H _ _ v u Q I r1 r2 ⟨p, vs, _, z, rfl, rfl, by rw [hK]; exact h1, h3, q z h4⟩ hs
    · rename_i e
      obtain ⟨p, rfl, hp, vs, h1, h2⟩ := rp.cellAt ra e
      cases (show v = Value.ref p from r1)
      obtain ⟨k, e1, e2⟩ := Option.bind_eq_some_iff.mp h
      rcases h2.get k with ⟨e3, _⟩ | ⟨w, z, e3, e4, e5⟩
      · rw [e3] at e2; cases e2
      · rw [e2] at e3; cases e3
        have g : DGet H p y (some z) := by rw [key_snd rb e1, ← e4]; exact DGet.k h1
        exact dict_tail (dict_typeIs I g) hs (d_getItem hu I g r2 fun w' s' I' rw' => ⟨z, H, I', rw', q z e5⟩)
    · rename_i e
      obtain ⟨p, rfl, hp, vs, h1, h2⟩ := rp.cellAt ra e
      cases (show v = Value.ref p from r1)
      obtain ⟨k, e1, e2⟩ := Option.bind_eq_some_iff.mp h
      obtain ⟨b', rfl, hb⟩ := tkey_snd rb e1
      rcases h2.get k with ⟨e3, _⟩ | ⟨w, z, e3, e4, e5⟩
      · rw [e3] at e2; cases e2
      · rw [e2] at e3; cases e3
        have g : DGet H p (.ref b') (some z) := by rw [← e4]; exact DGet.t h1 hb
        exact dict_tail (dict_typeIs I g) hs (d_getItem hu I g r2 fun w' s' I' rw' => ⟨z, H, I', rw', q z e5⟩)
    · cases h
  · cases h
theorem sIx_eq (n d : Nat) (o : Option Int) : sIx n d o = HT.sIx n d o := rfl
theorem Rs.cut {xs : List W} {vs : List V} (h : Rs G ρ H xs vs) (lo hi : Option Int) : Rs G ρ H (cutW xs lo hi) (cutV vs lo hi) := by
  unfold cutW cutV
  rw [← h.length]
  exact (h.drop _).take _
theorem cut_tup {xs : List W} {vs : List V} {p : Addr} {lo hi : Option Int} (rp : Rp G ρ H S) (r : R G ρ H a (.ref p)) (h1 : SqT X.K H p vs) (h2 : Rs G ρ H xs vs)
    (po : Post G (R G) E ρ H Q (.ok (if sIx xs.length 0 lo = 0 ∧ sIx xs.length xs.length hi = xs.length then a else .tpl (cutW xs lo hi)) S)) : rSlF X.K (.ref p) lo hi H Q := by
  refine ⟨p, vs, rfl, h1, fun e => ?_, fun e => ?_⟩
  · rw [← h2.length] at e
    rw [if_pos (show sIx xs.length 0 lo = 0 ∧ sIx xs.length xs.length hi = xs.length from e)] at po
    exact po.here rp r
  · rw [← h2.length] at e
    rw [if_neg (show ¬ (sIx xs.length 0 lo = 0 ∧ sIx xs.length xs.length hi = xs.length) from e)] at po
    exact po.newF rp (h2.cut _ _)
/-- what a slice of a value gives -/
theorem slW_snd (hK : X.K = G.K) (rp : Rp G ρ H S) (ra : R G ρ H a x) {lo hi : Option Int} (po : Post G (R G) E ρ H Q (slW S a lo hi)) : rSlF X.K x lo hi H Q ∨ rSlL X.K x lo hi H Q := by
  unfold slW at po
  split at po
  · obtain ⟨p, vs, rfl, h1, h2⟩ := ra.seqT (K := X.K) rfl
    exact .inl (cut_tup rp ra h1 h2 po)
  · obtain ⟨p, vs, rfl, h1, h2⟩ := ra.seqT (K := X.K) rfl
    exact .inl (cut_tup rp ra h1 h2 po)
  · split at po
    · obtain ⟨p, vs, rfl, h1, h2⟩ := rp.seqL ra (.inl (by assumption))
      exact .inr ⟨p, vs, rfl, by rw [hK]; exact h1, fun r hr => po.newL rp (h2.cut _ _) hr⟩
    · obtain ⟨p, vs, rfl, h1, h2⟩ := rp.seqL ra (.inr (by assumption))
      exact .inr ⟨p, vs, rfl, by rw [hK]; exact h1, fun r hr => po.newL rp (h2.cut _ _) hr⟩
    · exact po.elim
  · exact po.elim
/-- a store at an item -/
theorem setW_snd {S' : Store} {Q : Hp → Prop} (hu : X.A.units + 1 < cLine) (I : Inv X pins σ H s) (r1 : RelV x v) (r2 : RelV y u) (r3 : RelV z r) (rp : Rp G ρ H S) (ra : R G ρ H a x) (rb : R G ρ H b y) (rc : R G ρ H c z)
    (h : setW S a b c = some S') (q : ∀ H', Ext G ρ H ρ H' → Rp G ρ H' S' → Q H') : wpAny (model X.prog X.w) X.A (setItem v u r) (fun _ s' => ∃ H', Inv X pins σ H' s' ∧ Q H') X.xe s := by
  unfold setW at h
  split at h
  · split at h
    · rename_i e
      obtain ⟨j, e1, e2⟩ := Option.map_eq_some_iff.mp h
      subst e2
      cases rb
      obtain ⟨p, vs, rfl, hp, h1, h2⟩ := rp.lst ra e
      have hf : ∀ q u, H p ≠ some (.frz q u) := fun q u z => by rw [h1] at z; cases z
      have ex := Ext.write (o := .lst (vs.set j z)) rp hp hf
      exact set_list pins s σ H _ _ z v u r Q I r1 r2 r3 ⟨p, vs, _, j, rfl, rfl, h1, by rw [← h2.length]; exact e1, q _ ex (Rp.write rp hp hf ⟨_, upd_same, (h2.set rc j).mono ex⟩)⟩
    · rename_i e
      obtain ⟨p, rfl, hp, vs, h1, h2⟩ := rp.cellAt ra e
      cases (show v = Value.ref p from r1)
      have hf : ∀ q u, H p ≠ some (.frz q u) := fun q u z => by rw [h1] at z; cases z
      split at h
      · rename_i k hk
        split at h
        · rename_i hl
          cases h
          have ex := Ext.write (o := .dK (putK vs k z)) rp hp hf
          have g : DPut H p y z (upd H p (.dK (putK vs k z))) := by rw [key_snd rb hk]; exact DPut.k h1 (by rw [← h2.length]; exact lim_line' hl)
          exact d_setItem hu I g r2 r3 fun s' I' => ⟨_, I', q _ ex (Rp.write rp hp hf ⟨_, upd_same, (h2.put k rc).mono ex⟩)⟩
        · cases h
      · split at h
        · rename_i he
          obtain ⟨k, hk, e2⟩ := Option.map_eq_some_iff.mp h
          subst e2
          obtain ⟨b', rfl, hb⟩ := tkey_snd rb hk
          have hv : vs = [] := by
            cases h2 with
            | nil => rfl
            | cons => cases he
          subst hv
          have J := retype I h1
          have hne : b' ≠ p := ne_of hb h1 (by intro z; cases z)
          have ex := Ext.write (o := .dT [(k, z)]) rp hp hf
          have g : DPut (upd H p (.dT [])) p (.ref b') z (upd H p (.dT [(k, z)])) := by
            have g0 := DPut.t (H := upd H p (.dT [])) (a := p) (b := b') (kvs := []) (k := k) (v := z) upd_same (by rw [upd_ne hne]; exact hb) (by rw [sizeLine_eq]; decide)
            rw [upd_upd] at g0
            exact g0
          exact d_setItem hu J g r2 r3 fun s' I' => ⟨_, I', q _ ex (Rp.write rp hp hf ⟨_, upd_same, .cons (rc.mono ex) .nil⟩)⟩
        · cases h
    · rename_i e
      obtain ⟨p, rfl, hp, vs, h1, h2⟩ := rp.cellAt ra e
      cases (show v = Value.ref p from r1)
      have hf : ∀ q u, H p ≠ some (.frz q u) := fun q u z => by rw [h1] at z; cases z
      obtain ⟨k, hk, e2⟩ := Option.bind_eq_some_iff.mp h
      split at e2
      · rename_i hl
        cases e2
        obtain ⟨b', rfl, hb⟩ := tkey_snd rb hk
        have ex := Ext.write (o := .dT (putK vs k z)) rp hp hf
        have g : DPut H p (.ref b') z (upd H p (.dT (putK vs k z))) := DPut.t h1 hb (by rw [← h2.length]; exact lim_line' hl)
        exact d_setItem hu I g r2 r3 fun s' I' => ⟨_, I', q _ ex (Rp.write rp hp hf ⟨_, upd_same, (h2.put k rc).mono ex⟩)⟩
      · cases e2
    · cases h
  · cases h
end
end Rf

set_option Elab.async false
set_option maxRecDepth 100000
/-! RfOps4: built-in functions of values. -/
namespace Rf
open PySem PySem.Spec PyProof.Rows L2

/-! ### sorted of a tuple -/
section
variable {prog : Program} {w : World} {A : Around} {E : Value → Shared → Prop} {s : Shared}
theorem collect_tup {l : Addr} {vs : List Value} {Q : List Value → Shared → Prop} (tt : s.heap.IsTuple l vs.toArray)
    (fin : Q vs { s with heap := (s.heap.push (seqObj "list" #[] 0)).update s.heap.objs.size (Obj.mapSeq (· ++ vs.toArray)) }) (room : vs.length ≤ sizeLine) : wpAny (model prog w) A (collect (.ref l)) Q E s := by
  obtain ⟨o, ho, hc, n, hd⟩ := id tt
  have ho' : (s.heap.push (seqObj "list" #[] 0)).get? l = some o := Heap.get?_push_of_some _ ho
  unfold collect
  refine wpAny_bind (wpAny_runValue (codeAny_builtin F.entry_proto_collect ?_))
  show wpAny _ _ (newList [] >>= fun q => again (.builtin "list.__iadd__" ⟨[q, .ref l], []⟩)) _ _ s
  refine wpAny_bind (wpAny_newList (wpAny_pure ⟨plainId_quiet F.plain_list_iadd _, codeAny_builtin F.entry_list_iadd ?_⟩))
  show wpAny (model prog w) _ (Builtin.List.listExtendWith (.ref s.heap.objs.size) (.ref l) (.ref s.heap.objs.size)) _ _ _
  unfold Builtin.List.listExtendWith
  refine wpAny_bind (wpAny_typeOf (T := "tuple") ⟨o, ho', hc⟩ ?_)
  rw [if_pos (by rw [show (Value.type "tuple" == Value.type "tuple") = true from rfl, Bool.or_true])]
  refine wpAny_bind (listItems_at ho' hd (wpAny_bind (listItems_at (xs := #[]) (n := 0) (Heap.get?_push_size _ rfl) rfl ?_)))
  rw [if_neg (by simp)]
  refine wpAny_bind (listUpdate_at (xs := #[]) (n := 0) (Heap.get?_push_size _ rfl) rfl (wpAny_pure ?_) (Nat.zero_le _) (by show (#[] ++ vs.toArray).size ≤ sizeLine + 1; simp only [Array.size_append, List.size_toArray, List.length_nil]; omega))
  show wpAny (model prog w) A (load s.heap.objs.size >>= _) Q E _
  refine wpAny_bind (wpAny_load (get?_update_seq (Heap.get?_push_size _ rfl) _) ?_)
  show wpAny (model prog w) A (pure ((#[] : Array Value) ++ vs.toArray).toList) Q E _
  rw [show ((#[] : Array Value) ++ vs.toArray).toList = vs by simp]
  exact wpAny_pure fin
end
section
open SrtO Srt
variable {prog : Program} {w : World} {A : Around} {E : Value → Shared → Prop} {s : Shared}
/-- sorted of what is collected as vs -/
theorem sorted_from {l : Addr} {vs : List Value} {ltv : Value → Value → Bool} {Q : Value → Shared → Prop} (O : Swo ltv) (room : vs.length ≤ sizeLine)
    (col : ∀ (Q' : List Value → Shared → Prop) (A' : Around), Q' vs { s with heap := (s.heap.push (seqObj "list" #[] 0)).update s.heap.objs.size (Obj.mapSeq (· ++ vs.toArray)) } → wpAny (model prog w) A' (collect (.ref l)) Q' E s)
    (srt : 2 ≤ vs.length → ∀ (h₁ : Heap) (a : Addr), h₁.get? a = some (seqObj "list" vs.toArray 0) → (∀ b o, s.heap.get? b = some o → b ≠ a ∧ h₁.get? b = some o) → SortableO prog w A.in1.in1 { s with heap := h₁ } a vs ltv)
    (fin : ∀ out : List Value, Srtd ltv out → Stb ltv out vs → Q (.ref (s.heap.objs.size + 1)) { s with heap := sortedAll s.heap vs out.toArray }) : wpAny (model prog w) A (call (.builtin "sorted") [.ref l]) Q E s := by
  refine Calls.call_function_entry (kind_sorted) (plain_sorted) (entry_sorted) (args_sorted1 _) ?_
  unfold Builtin.«sorted»
  refine wpAny_bind (m := checkCount "sorted" 1 1 _) (wpAny_pure (wpAny_bind (col _ _ (wpAny_bind (wpAny_newList ?_ room)))))
  generalize hg : (s.heap.push (seqObj "list" #[] 0)).update s.heap.objs.size (Obj.mapSeq (· ++ vs.toArray)) = g
  have hn : g.objs.size = s.heap.objs.size + 1 := by rw [← hg, Heap.size_update, size_push']
  have hat : (g.push (seqObj "list" vs.toArray 0)).get? (s.heap.objs.size + 1) = some (seqObj "list" vs.toArray 0) := by rw [← hn]; exact Heap.get?_push_size _ rfl
  have hk : ∀ b o, s.heap.get? b = some o → b ≠ s.heap.objs.size + 1 ∧ (g.push (seqObj "list" vs.toArray 0)).get? b = some o := fun b o q => by
    have hb := Heap.lt_size q
    refine ⟨Nat.ne_of_lt (Nat.lt_succ_of_lt hb), Heap.get?_push_of_some _ ?_⟩
    rw [← hg, Heap.get?_update_ne _ _ _ _ (Nat.ne_of_lt hb)]
    exact Heap.get?_push_of_some _ q
  show wpAny _ _ _ _ _ { s with heap := g.push (seqObj "list" vs.toArray 0) }
  rw [hn]
  refine wpAny_bind (wpAny_holding (wpAny_call_entry slot_list_sort ⟨_, hat, rfl⟩ entry_list_sort (list_sort_ord O hat room (fun h2 => srt h2 _ _ hat hk) fun out a1 a2 => ⟨_, rfl, wpAny_pure ⟨_, rfl, ?_⟩⟩) (args_list_sort _)))
  have := fin out a1 a2
  rw [← hg]
  exact this
end
section
variable {X : Cx} {pins : List (Addr × Obj)} {σ : L2.St} {H : Hp} {s : Shared} {Q : VK} {us : List Value}
/-- sorted of a list or a tuple of ints -/
theorem sortedI_snd {a : Addr} {ns : List Int} (I : Inv X pins σ H s) (r : Vals [V.ref a] us) (hs : SqL X.K H a (ns.map V.int) ∨ SqT X.K H a (ns.map V.int))
    (q : ∀ (ns' : List Int) (p : Addr), ns'.Perm ns → ns'.Pairwise (· ≤ ·) → H p = none → Q (.ref p) (upd H p (.lst (ns'.map V.int)))) : wpAny (model X.prog X.w) X.A (call (.builtin "sorted") us) (EP X pins σ Q) X.xe s := by
  rcases hs with hs | hs
  · exact cr_sortedI pins s σ H _ us Q I r ⟨a, ns, rfl, hs, q⟩
  · obtain ⟨its, rv, tt, hz⟩ := I.tuple hs
    rw [Vals.ref1 r]
    have hi := Vals.ints rv
    have room : its.length ≤ sizeLine := by rw [← rv.length]; exact hz
    refine sorted_from SrtO.swo_int room (fun Q' A' fin => collect_tup tt fin room) (fun h2 h₁ a' _ _ => SrtO.ints_sortable hi h2) fun out h1 h2 => ?_
    obtain ⟨k1, k2, k3⟩ := SrtO.ints_out hi h1 h2
    obtain ⟨ep, he'⟩ := PyProof.Rows.sortedAll_at s.heap its out.toArray
    have fits : ((out.map SrtO.iv).map V.int).length ≤ sizeLine := by
      rw [List.length_map, k2.length_eq]
      rw [List.length_map] at hz
      exact hz
    exact ⟨.ref _, _, I.laid (t' := s.toks) (o := .lst ((out.map SrtO.iv).map V.int)) (fun _ _ => PyProof.Rows.sortedAll_old) (Nat.le_succ _) ⟨fits, out, ep, vals_of_ints k1, he'⟩, rfl, q _ _ k2 k3 (I.hok.fresh (Nat.le_succ _))⟩
end
/-! ### the one rising row -/
theorem insI_perm (x : Int) : ∀ l : List Int, (insI x l).Perm (x :: l)
  | [] => .refl _
  | y :: ys => by
    unfold insI
    split
    · exact .refl _
    · exact ((insI_perm x ys).cons y).trans (List.Perm.swap x y ys)
theorem srtI_perm : ∀ l : List Int, (srtI l).Perm l
  | [] => .refl _
  | x :: xs => (insI_perm x _).trans ((srtI_perm xs).cons x)
theorem insI_rise (x : Int) : ∀ l : List Int, l.Pairwise (· ≤ ·) → (insI x l).Pairwise (· ≤ ·)
  | [], _ => List.pairwise_singleton _ _
  | y :: ys, h => by
    unfold insI
    split
    · rename_i e
      refine List.pairwise_cons.mpr ⟨fun z hz => ?_, h⟩
      rcases List.mem_cons.mp hz with rfl | hz
      · exact e
      · exact Int.le_trans e ((List.pairwise_cons.mp h).1 z hz)
    · rename_i e
      refine List.pairwise_cons.mpr ⟨fun z hz => ?_, insI_rise x ys (List.pairwise_cons.mp h).2⟩
      rcases List.mem_cons.mp ((insI_perm x ys).mem_iff.mp hz) with rfl | hz
      · omega
      · exact (List.pairwise_cons.mp h).1 z hz
theorem srtI_rise : ∀ l : List Int, (srtI l).Pairwise (· ≤ ·)
  | [] => .nil
  | x :: xs => insI_rise x _ (srtI_rise xs)
theorem rise_uniq : ∀ {l m : List Int}, l.Perm m → l.Pairwise (· ≤ ·) → m.Pairwise (· ≤ ·) → l = m
  | [], m, p, _, _ => by rw [List.nil_perm.mp p]
  | x :: xs, [], p, _, _ => by cases List.perm_nil.mp p
  | x :: xs, y :: ys, p, h1, h2 => by
    have a : x ≤ y := by
      rcases List.mem_cons.mp (p.mem_iff.mpr List.mem_cons_self) with e | e
      · omega
      · exact (List.pairwise_cons.mp h1).1 y e
    have b : y ≤ x := by
      rcases List.mem_cons.mp (p.mem_iff.mp (List.mem_cons_self (a := x) (l := xs))) with e | e
      · omega
      · exact (List.pairwise_cons.mp h2).1 x e
    obtain rfl : x = y := Int.le_antisymm a b
    rw [rise_uniq p.cons_inv (List.pairwise_cons.mp h1).2 (List.pairwise_cons.mp h2).2]
theorem srtI_uniq {l m : List Int} (p : m.Perm l) (h : m.Pairwise (· ≤ ·)) : m = srtI l := rise_uniq (p.trans (srtI_perm l).symm) h (srtI_rise l)
/-! ### pairs -/
theorem insP_perm (x : Int × Int) : ∀ l : List (Int × Int), (insP x l).Perm (x :: l)
  | [] => .refl _
  | y :: ys => by
    unfold insP
    split
    · exact ((insP_perm x ys).cons y).trans (List.Perm.swap x y ys)
    · exact .refl _
theorem srtP_perm : ∀ l : List (Int × Int), (srtP l).Perm l
  | [] => .refl _
  | x :: xs => (insP_perm x _).trans ((srtP_perm xs).cons x)
theorem ltP_iff {p q : Int × Int} : ltP p q = true ↔ p.1 < q.1 ∨ p.1 = q.1 ∧ p.2 < q.2 := by
  unfold ltP
  simp
theorem insP_rise (x : Int × Int) : ∀ l : List (Int × Int), l.Pairwise (fun p q => ltP q p = false) → (insP x l).Pairwise (fun p q => ltP q p = false)
  | [], _ => List.pairwise_singleton _ _
  | y :: ys, h => by
    unfold insP
    split
    · rename_i e
      refine List.pairwise_cons.mpr ⟨fun z hz => ?_, insP_rise x ys (List.pairwise_cons.mp h).2⟩
      rcases List.mem_cons.mp ((insP_perm x ys).mem_iff.mp hz) with rfl | hz
      · rw [Bool.eq_false_iff]
        intro q
        rw [ltP_iff] at e q
        omega
      · exact (List.pairwise_cons.mp h).1 z hz
    · rename_i e
      refine List.pairwise_cons.mpr ⟨fun z hz => ?_, h⟩
      rcases List.mem_cons.mp hz with rfl | hz
      · exact Bool.eq_false_iff.mpr e
      · have h1 := (List.pairwise_cons.mp h).1 z hz
        rw [Bool.eq_false_iff, ne_eq, ltP_iff] at h1 ⊢
        rw [ltP_iff] at e
        omega
theorem srtP_rise : ∀ l : List (Int × Int), (srtP l).Pairwise (fun p q => ltP q p = false)
  | [] => .nil
  | x :: xs => insP_rise x _ (srtP_rise xs)
theorem riseP_uniq : ∀ {l m : List (Int × Int)}, l.Perm m → l.Pairwise (fun p q => ltP q p = false) → m.Pairwise (fun p q => ltP q p = false) → l = m
  | [], m, p, _, _ => by rw [List.nil_perm.mp p]
  | x :: xs, [], p, _, _ => by cases List.perm_nil.mp p
  | x :: xs, y :: ys, p, h1, h2 => by
    have irr : ∀ z : Int × Int, ltP z z = false := fun z => by
      rw [Bool.eq_false_iff]
      intro q
      rw [ltP_iff] at q
      omega
    have a : ltP y x = false := by
      rcases List.mem_cons.mp (p.mem_iff.mpr List.mem_cons_self) with e | e
      · rw [e]; exact irr _
      · exact (List.pairwise_cons.mp h1).1 y e
    have b : ltP x y = false := by
      rcases List.mem_cons.mp (p.mem_iff.mp (List.mem_cons_self (a := x) (l := xs))) with e | e
      · rw [e]; exact irr _
      · exact (List.pairwise_cons.mp h2).1 x e
    have e : x = y := by
      rw [Bool.eq_false_iff, ne_eq, ltP_iff] at a b
      exact Prod.ext (by omega) (by omega)
    subst e
    rw [riseP_uniq p.cons_inv (List.pairwise_cons.mp h1).2 (List.pairwise_cons.mp h2).2]
theorem srtP_uniq {l m : List (Int × Int)} (p : m.Perm l) (h : m.Pairwise (fun p q => ltP q p = false)) : m = srtP l := riseP_uniq (p.trans (srtP_perm l).symm) h (srtP_rise l)
/-! ### unlike ones -/
theorem nubI_nodup : ∀ l : List Int, (nubI l).Nodup ∧ ∀ x, x ∈ nubI l ↔ x ∈ l
  | [] => ⟨.nil, fun _ => Iff.rfl⟩
  | x :: xs => by
    obtain ⟨h1, h2⟩ := nubI_nodup xs
    unfold nubI
    split
    · rename_i e
      have hm : x ∈ xs := by simpa using e
      refine ⟨h1, fun y => ?_⟩
      rw [h2 y, List.mem_cons]
      exact ⟨.inr, fun q => q.elim (fun z => by rw [z]; exact hm) id⟩
    · rename_i e
      have hm : x ∉ xs := by simpa using e
      refine ⟨List.nodup_cons.mpr ⟨fun z => hm ((h2 x).mp z), h1⟩, fun y => ?_⟩
      rw [List.mem_cons, List.mem_cons, h2 y]
theorem nodup_len {l m : List Int} (h1 : l.Nodup) (h2 : m.Nodup) (h : ∀ x, x ∈ l ↔ x ∈ m) : l.length = m.length := ((List.perm_ext_iff_of_nodup h1 h2).mpr h).length_eq
theorem setR_n {w : World} {h : Heap} {a : Addr} {T : Int → Bool} {n : Nat} {zs : List Int} (r : SetR w h a T n) (hz : zs.Nodup) (e : ∀ j, T j = decide (j ∈ zs)) : n = zs.length ∧ SetR w h a (fun j => decide (j ∈ zs)) zs.length := by
  have eT : T = fun j => decide (j ∈ zs) := funext e
  have r0 := r
  obtain ⟨o, es, ep, t, h1, h2, h3, h4, h5, h6, h7, h8, h9, _⟩ := r
  have en : n = zs.length := by
    rw [← h9, ← Array.length_toList, ← List.length_map (f := L2.keyOf)]
    refine nodup_len h5 hz fun x => ?_
    rw [← h6 x, e x, decide_eq_true_eq]
  subst en
  rw [← eT]
  exact ⟨rfl, r0⟩
end Rf

set_option Elab.async false
set_option maxRecDepth 100000
/-! RfOps5: calls of built-ins by values. -/
namespace Rf
open PySem PySem.Spec PyProof.Rows L2

def biV : B → Value
  | .len => .builtin "len" | .int => .type "int" | .abs => .builtin "abs" | .min2 => .builtin "min" | .max2 => .builtin "max" | .minL => .builtin "min" | .maxL => .builtin "max"
  | .sum => .builtin "sum" | .any => .builtin "any" | .all => .builtin "all" | .sorted => .builtin "sorted" | .tuple => .type "tuple" | .list => .type "list" | .set => .type "set" | .set0 => .type "set"
  | .dict => .type "dict" | .isi => .builtin "isinstance" | .str => .type "str"
theorem kits : ∀ a ∈ ["NoneType", "bool", "int", "str", "tuple", "list", "dict"], ∀ b ∈ isiT, kitB a b = some ((mroW a).contains b) := by decide +kernel
theorem maxL_spec : ∀ (xs : List Int) (m : Int), maxL m xs ∈ m :: xs ∧ ∀ y ∈ m :: xs, y ≤ maxL m xs
  | [], m => ⟨List.mem_cons_self, fun y hy => by rw [List.mem_singleton.mp hy]; exact Int.le_refl _⟩
  | x :: xs, m => by
    unfold maxL
    obtain ⟨h1, h2⟩ := maxL_spec xs (if m < x then x else m)
    refine ⟨?_, fun y hy => ?_⟩
    · rcases List.mem_cons.mp h1 with e | e
      · rw [e]
        split
        · exact List.mem_cons_of_mem _ List.mem_cons_self
        · exact List.mem_cons_self
      · exact List.mem_cons_of_mem _ (List.mem_cons_of_mem _ e)
    · have h3 := h2 _ List.mem_cons_self
      have h4 : m ≤ (if m < x then x else m) ∧ x ≤ (if m < x then x else m) := by split <;> omega
      rcases List.mem_cons.mp hy with e | hy
      · rw [e]; exact Int.le_trans h4.1 h3
      · rcases List.mem_cons.mp hy with e | hy
        · rw [e]; exact Int.le_trans h4.2 h3
        · exact h2 y (List.mem_cons_of_mem _ hy)
theorem minL_spec : ∀ (xs : List Int) (m : Int), minL m xs ∈ m :: xs ∧ ∀ y ∈ m :: xs, minL m xs ≤ y
  | [], m => ⟨List.mem_cons_self, fun y hy => by rw [List.mem_singleton.mp hy]; exact Int.le_refl _⟩
  | x :: xs, m => by
    unfold minL
    obtain ⟨h1, h2⟩ := minL_spec xs (if x < m then x else m)
    refine ⟨?_, fun y hy => ?_⟩
    · rcases List.mem_cons.mp h1 with e | e
      · rw [e]
        split
        · exact List.mem_cons_of_mem _ List.mem_cons_self
        · exact List.mem_cons_self
      · exact List.mem_cons_of_mem _ (List.mem_cons_of_mem _ e)
    · have h3 := h2 _ List.mem_cons_self
      have h4 : (if x < m then x else m) ≤ m ∧ (if x < m then x else m) ≤ x := by split <;> omega
      rcases List.mem_cons.mp hy with e | hy
      · rw [e]; exact Int.le_trans h3 h4.1
      · rcases List.mem_cons.mp hy with e | hy
        · rw [e]; exact Int.le_trans h3 h4.2
        · exact h2 y (List.mem_cons_of_mem _ hy)
section
variable {G : GC} {ρ : List Addr} {H : Hp} {S : Store}
theorem tyW_snd {K : PySem.W.Frag} (hK : K = G.K) (rp : Rp G ρ H S) {w : W} {x : V} {t : String} (r : R G ρ H w x) (h : tyW S w = some t) : TyX K H x (.type t) ∧ t ∈ ["NoneType", "bool", "int", "str", "tuple", "list", "dict"] := by
  unfold tyW at h
  split at h
  · cases h; cases r; exact ⟨.base .non, by decide⟩
  · cases h; cases r; exact ⟨.base (.bl _), by decide⟩
  · cases h; cases r; exact ⟨.base (.int _), by decide⟩
  · cases h; cases r; exact ⟨.base (.str _), by decide⟩
  · cases h
    obtain ⟨a, vs, rfl, h1, _⟩ := r.tup_inv
    exact ⟨.base (.tup h1), by decide⟩
  · cases h
    cases r
    exact ⟨.fTuple (by assumption), by decide⟩
  · split at h
    · cases h
      obtain ⟨a, rfl, _, vs, h1, _⟩ := rp.cellAt r (by assumption)
      exact ⟨.base (.lst h1), by decide⟩
    · cases h
      obtain ⟨a, rfl, _, o, vs, h1, _⟩ := rp.cellAt r (by assumption)
      exact ⟨.base (.frz h1), by decide⟩
    · cases h
      obtain ⟨a, rfl, _, vs, h1, _⟩ := rp.cellAt r (by assumption)
      exact ⟨.base (.dK h1), by decide⟩
    · cases h
      obtain ⟨a, rfl, _, vs, h1, _⟩ := rp.cellAt r (by assumption)
      exact ⟨.base (.dT h1), by decide⟩
    · cases h
  · cases h
theorem tyOf1_snd {w : W} {x : V} {t : String} (r : R G ρ H w x) (h : tyOf1 w = some t) : x = .ty t ∧ t ∈ isiT := by
  unfold tyOf1 at h
  split at h
  · split at h
    · rename_i hm
      cases h; cases r
      exact ⟨rfl, by simpa using hm⟩
    · cases h
  · cases h
theorem tyOfs_snd : ∀ {ws : List W} {vs : List V} {ts : List String}, Rs G ρ H ws vs → mapO tyOf1 ws = some ts → vs = ts.map V.ty ∧ ∀ t ∈ ts, t ∈ isiT
  | _, _, _, .nil, h => by cases h; exact ⟨rfl, fun _ q => by cases q⟩
  | _, _, _, .cons r rs, h => by
    unfold mapO at h
    split at h
    · rename_i y hy
      obtain ⟨zs, e1, e2⟩ := Option.map_eq_some_iff.mp h
      subst e2
      obtain ⟨h1, h2⟩ := tyOfs_snd rs e1
      obtain ⟨h3, h4⟩ := tyOf1_snd r hy
      refine ⟨by rw [h1, h3]; rfl, fun t ht => ?_⟩
      rcases List.mem_cons.mp ht with rfl | ht
      · exact h4
      · exact h2 t ht
    · cases h
theorem clsV_tys : ∀ ts : List String, Paired ClsV (ts.map V.ty) (ts.map Value.type)
  | [] => .nil
  | t :: ts => .cons (.ty t) (clsV_tys ts)
theorem kitAny_tys {K : PySem.W.Frag} {a : String} (ha : a ∈ ["NoneType", "bool", "int", "str", "tuple", "list", "dict"]) : ∀ ts : List String, (∀ t ∈ ts, t ∈ isiT) → PySem.W.kitAny K (.type a) (ts.map Value.type) = some (ts.any fun t => (mroW a).contains t)
  | [], _ => kitAny_nil
  | t :: ts, h => by
    refine kitAny_cons (kit_ty (kits a ha t (h t List.mem_cons_self))) (fun e => ?_) fun e => ?_
    · rw [kitAny_tys ha ts fun q hq => h q (List.mem_cons_of_mem _ hq), List.any_cons, e, Bool.false_or]
    · rw [List.any_cons, e, Bool.true_or]
theorem RK.merge {κ : Type} [DecidableEq κ] {ms : List (κ × W)} {us : List (κ × V)} (h : RK G ρ H ms us) : ∀ {kvs : List (κ × W)} {vs : List (κ × V)}, RK G ρ H kvs vs → RK G ρ H (mergeD kvs ms) (us.foldl (fun acc kv => putK acc kv.1 kv.2) vs) := by
  induction h with
  | nil => intro kvs vs h; exact h
  | cons r _ ih => intro kvs vs h; exact ih (h.put _ r)
theorem pairs_snd {K : PySem.W.Frag} : ∀ {ws : List W} {vs : List V} {kvs : List (DKey × W)}, Rs G ρ H ws vs → pairsOf ws = some kvs → ∃ (ps : List Addr) (us : List (Key × V)), vs = ps.map V.ref ∧ Paired (fun p kv => SqT K H p [kV kv.1, kv.2]) ps us ∧ RK G ρ H kvs us
  | _, _, _, .nil, h => by cases h; exact ⟨[], [], rfl, .nil, .nil⟩
  | _, _, _, .cons r rs, h => by
    unfold pairsOf mapO at h
    split at h
    · rename_i y hy
      obtain ⟨zs, e1, e2⟩ := Option.map_eq_some_iff.mp h
      subst e2
      obtain ⟨ps, us, h1, h2, h3⟩ := pairs_snd (K := K) rs e1
      split at hy
      · obtain ⟨k, ek, e3⟩ := Option.map_eq_some_iff.mp hy
        subst e3
        obtain ⟨a, ts, rfl, ha, hts⟩ := r.tup_inv
        cases hts with
        | cons rk rr =>
          cases rr with
          | cons rv rn =>
            cases rn
            rw [key_snd rk ek] at ha
            exact ⟨a :: ps, (k, _) :: us, by rw [h1]; rfl, .cons (SqT.of ha) h2, .cons rv h3⟩
      · obtain ⟨k, ek, e3⟩ := Option.map_eq_some_iff.mp hy
        subst e3
        obtain ⟨a, ts, rfl, ha, hts⟩ := r.seqT (K := K) rfl
        cases hts with
        | cons rk rr =>
          cases rr with
          | cons rv rn =>
            cases rn
            rw [key_snd rk ek] at ha
            exact ⟨a :: ps, (k, _) :: us, by rw [h1]; rfl, .cons ha h2, .cons rv h3⟩
      · cases hy
    · cases h
/-- pairs of ints, by what stands there -/
theorem prs_snd : ∀ {ws : List W} {vs : List V} {ps : List (Int × Int)}, Rs G ρ H ws vs → mapO pr2 ws = some ps → ∃ as : List (Addr × Int × Int), vs = as.map (fun q => V.ref q.1) ∧ ps = as.map (·.2) ∧ ∀ q ∈ as, H q.1 = some (.tup [.int q.2.1, .int q.2.2])
  | _, _, _, .nil, h => by cases h; exact ⟨[], rfl, rfl, fun _ q => by cases q⟩
  | _, _, _, .cons r rs, h => by
    unfold mapO at h
    split at h
    · rename_i y hy
      obtain ⟨zs, e1, e2⟩ := Option.map_eq_some_iff.mp h
      subst e2
      obtain ⟨as, h1, h2, h3⟩ := prs_snd rs e1
      unfold pr2 at hy
      split at hy
      · cases hy
        obtain ⟨a, ts, rfl, ha, hts⟩ := r.tup_inv
        cases hts with
        | cons r1 rr =>
          cases rr with
          | cons r2 rn =>
            cases rn; cases r1; cases r2
            refine ⟨(a, _, _) :: as, by rw [h1]; rfl, by rw [h2]; rfl, fun q hq => ?_⟩
            rcases List.mem_cons.mp hq with rfl | hq
            · exact ha
            · exact h3 q hq
      · cases hy
    · cases h
theorem Rs.of_prs : ∀ {as : List (Addr × Int × Int)}, (∀ q ∈ as, H q.1 = some (.tup [.int q.2.1, .int q.2.2])) → Rs G ρ H ((as.map (·.2)).map fun p => W.tup [.int p.1, .int p.2]) (as.map fun q => V.ref q.1)
  | [], _ => .nil
  | q :: as, h => .cons (.tup (h q List.mem_cons_self) (.cons .int (.cons .int .nil))) (Rs.of_prs fun q' hq => h q' (List.mem_cons_of_mem _ hq))
end
/-- built-ins that want a calm place -/
def bcalm : B → Bool
  | .len => false | .int => false | .abs => false | .tuple => false | .list => false | .isi => false | _ => true
theorem keys_ints {G : GC} {ρ : List Addr} {H : Hp} {kvs : List (DKey × W)} {vs : List (DKey × V)} (h : RK G ρ H kvs vs) : ∀ {is : List Int}, intsOf (kvs.map fun q => kW q.1) = some is → vs.map (·.1) = is.map Sum.inl := by
  induction h with
  | nil => intro is e; cases e; rfl
  | @cons k x v l1 l2 rr _ ih =>
    intro is e
    rw [List.map_cons] at e
    unfold intsOf mapO at e
    cases k with
    | inr z => cases e
    | inl i =>
      obtain ⟨zs, e3, e4⟩ := Option.map_eq_some_iff.mp e
      subst e4
      rw [List.map_cons, List.map_cons, ih e3]
theorem perm_map_lift {α β : Type} {f : α → β} : ∀ {m : List β} {as : List α}, m.Perm (as.map f) → ∃ bs : List α, m = bs.map f ∧ bs.Perm as := by
  intro m as h
  induction as generalizing m with
  | nil => exact ⟨[], by simpa using h, .nil⟩
  | cons a as ih =>
    rw [List.map_cons] at h
    have hm : f a ∈ m := h.mem_iff.mpr List.mem_cons_self
    obtain ⟨l1, l2, rfl⟩ := List.append_of_mem hm
    have h2 : (l1 ++ l2).Perm (as.map f) := by
      have h3 : (f a :: (l1 ++ l2)).Perm (f a :: as.map f) := (List.perm_middle.symm).trans h
      exact List.Perm.cons_inv h3
    obtain ⟨bs, e, p⟩ := ih h2
    obtain ⟨b1, b2, rfl, e1, e2⟩ := List.map_eq_append_iff.mp e.symm
    refine ⟨b1 ++ a :: b2, ?_, ?_⟩
    · rw [List.map_append, List.map_cons, e1, e2]
    · exact List.perm_middle.trans (p.cons a)
theorem lexB_ltP (p q : Int × Int) : SrtO.lexB p q = ltP p q := by
  rw [Bool.eq_iff_iff, SrtO.lexB_iff, ltP_iff]
section
variable {G : GC} {X : Cx} {pins : List (Addr × Obj)} {s : Shared} {σ : L2.St} {ρ : List Addr} {H : Hp} {S : Store} {xs : List V} {us : List Value} {ws : List W} {Q : VK} {E : XK}
theorem Rs.one {w : W} (r : Rs G ρ H [w] xs) : ∃ x, xs = [x] ∧ R G ρ H w x := by
  cases r with
  | cons a b => cases b; exact ⟨_, rfl, a⟩
theorem Rs.two {w w' : W} (r : Rs G ρ H [w, w'] xs) : ∃ x y, xs = [x, y] ∧ R G ρ H w x ∧ R G ρ H w' y := by
  cases r with
  | cons a b =>
    cases b with
    | cons c d => cases d; exact ⟨_, _, rfl, a, c⟩
theorem biW_snd (b : B) (hcm : bcalm b = true → X.calm = true ∧ X.A.handled = none) (hK : X.K = G.K) (hw : X.w = G.w) (I : Inv X pins σ H s) (r : Vals xs us) (rp : Rp G ρ H S) (rs : Rs G ρ H ws xs) (po : Post G (R G) E ρ H Q (biW S b ws)) :
    wpAny (model X.prog X.w) X.A (call (biV b) us) (EP X pins σ Q) X.xe s := by
  unfold biW at po
  split at po
  · -- len of a text
    split at po
    · obtain ⟨x, rfl, r1⟩ := rs.one
      cases r1
      exact call_len pins s σ H _ us Q I r ⟨_, _, rfl, ⟨lim_line (by assumption), rfl⟩, po.here rp .int⟩
    · exact po.elim
  · obtain ⟨x, rfl, r1⟩ := rs.one
    obtain ⟨a, vs, rfl, h1, h2⟩ := r1.seqT (K := X.K) rfl
    exact call_len pins s σ H _ us Q I r ⟨_, vs.length, rfl, .inr ⟨vs, h1, rfl⟩, by rw [← h2.length]; exact po.here rp .int⟩
  · obtain ⟨x, rfl, r1⟩ := rs.one
    obtain ⟨a, vs, rfl, h1, h2⟩ := r1.seqT (K := X.K) rfl
    exact call_len pins s σ H _ us Q I r ⟨_, vs.length, rfl, .inr ⟨vs, h1, rfl⟩, by rw [← h2.length]; exact po.here rp .int⟩
  · obtain ⟨x, rfl, r1⟩ := rs.one
    split at po
    · obtain ⟨a, vs, rfl, h1, h2⟩ := rp.seqL r1 (.inl (by assumption))
      exact call_len pins s σ H _ us Q I r ⟨_, vs.length, rfl, .inl ⟨vs, by rw [hK]; exact h1, rfl⟩, by rw [← h2.length]; exact po.here rp .int⟩
    · obtain ⟨a, vs, rfl, h1, h2⟩ := rp.seqL r1 (.inr (by assumption))
      exact call_len pins s σ H _ us Q I r ⟨_, vs.length, rfl, .inl ⟨vs, by rw [hK]; exact h1, rfl⟩, by rw [← h2.length]; exact po.here rp .int⟩
    · obtain ⟨a, rfl, _, vs, h1, h2⟩ := rp.cellAt r1 (by assumption)
      rw [Vals.ref1 r]
      exact d_len I (.inl h1) fun t s' I' => ⟨.int _, H, I', ⟨t, rfl⟩, by rw [← h2.length]; exact po.here rp .int⟩
    · rename_i zs hz
      obtain ⟨a, rfl, _, h1⟩ := rp.cellAt r1 hz
      rw [Vals.ref1 r]
      have h1' : H a = some (SetO X.w a (fun j => decide (j ∈ zs)) zs.length) := by rw [hw]; exact h1
      obtain ⟨o, es, ep, t, k1, k2, k3, _, _, _, k7, k8, k9, _⟩ := setO_get I h1'
      have hb : es.size < 4096 := k7
      refine call_len_set k1 k2 k3 k8 (by omega) ⟨.int _, H, I.tok _, ⟨_, by rw [k9]⟩, po.here rp .int⟩
    · exact po.elim
  · obtain ⟨x, rfl, r1⟩ := rs.one
    cases r1
    exact call_int1 pins s σ H _ us Q I r (.inl ⟨_, rfl, po.here rp .int⟩)
  · obtain ⟨x, rfl, r1⟩ := rs.one
    cases r1
    exact call_int1 pins s σ H _ us Q I r (.inr ⟨_, rfl, po.here rp .int⟩)
  · obtain ⟨x, rfl, r1⟩ := rs.one
    cases r1
    exact call_abs pins s σ H _ us Q I r ⟨_, rfl, po.here rp .int⟩
  · obtain ⟨x, y, rfl, r1, r2⟩ := rs.two
    cases r1; cases r2
    exact call_min2 (hcm rfl).1 pins s σ H _ us Q I r ⟨_, _, rfl, po.here rp .int⟩
  · obtain ⟨x, y, rfl, r1, r2⟩ := rs.two
    cases r1; cases r2
    exact call_max2 (hcm rfl).1 pins s σ H _ us Q I r ⟨_, _, rfl, po.here rp .int⟩
  · obtain ⟨x, rfl, r1⟩ := rs.one
    split at po
    · rename_i i is e
      obtain ⟨ys, e1, e2⟩ := Option.bind_eq_some_iff.mp e
      obtain ⟨a, vs, rfl, h1, h2⟩ := rp.lstOf r1 e1
      rw [h2.ints e2] at h1
      refine cr_min (hcm rfl).1 pins s σ H _ us Q I r ⟨a, i :: is, rfl, by rw [hK]; exact h1, by simp, fun m hm hle => ?_⟩
      obtain ⟨k1, k2⟩ := minL_spec is i
      rw [Int.le_antisymm (hle _ k1) (k2 m hm)]
      exact po.here rp .int
    · exact po.elim
  · obtain ⟨x, rfl, r1⟩ := rs.one
    split at po
    · rename_i i is e
      obtain ⟨ys, e1, e2⟩ := Option.bind_eq_some_iff.mp e
      obtain ⟨a, vs, rfl, h1, h2⟩ := rp.lstOf r1 e1
      rw [h2.ints e2] at h1
      refine cr_max (hcm rfl).1 pins s σ H _ us Q I r ⟨a, i :: is, rfl, by rw [hK]; exact h1, by simp, fun m hm hle => ?_⟩
      obtain ⟨k1, k2⟩ := maxL_spec is i
      rw [Int.le_antisymm (k2 m hm) (hle _ k1)]
      exact po.here rp .int
    · exact po.elim
  · obtain ⟨x, rfl, r1⟩ := rs.one
    split at po
    · rename_i is e
      obtain ⟨ys, e1, e2⟩ := Option.bind_eq_some_iff.mp e
      obtain ⟨a, vs, rfl, h1, h2⟩ := rp.lstOf r1 e1
      rw [h2.ints e2] at h1
      exact cr_sum (hcm rfl).1 pins s σ H _ us Q I r ⟨a, is, rfl, by rw [hK]; exact h1, po.here rp .int⟩
    · exact po.elim
  · obtain ⟨x, rfl, r1⟩ := rs.one
    split at po
    · rename_i is e
      obtain ⟨ys, e1, e2⟩ := Option.bind_eq_some_iff.mp e
      obtain ⟨a, vs, rfl, h1, h2⟩ := rp.lstOf r1 e1
      rw [h2.bls e2] at h1
      exact cr_any (hcm rfl).1 pins s σ H _ us Q I r ⟨a, is, rfl, by rw [hK]; exact h1, po.here rp .bl⟩
    · exact po.elim
  · obtain ⟨x, rfl, r1⟩ := rs.one
    split at po
    · rename_i is e
      obtain ⟨ys, e1, e2⟩ := Option.bind_eq_some_iff.mp e
      obtain ⟨a, vs, rfl, h1, h2⟩ := rp.lstOf r1 e1
      rw [h2.bls e2] at h1
      exact cr_all (hcm rfl).1 pins s σ H _ us Q I r ⟨a, is, rfl, by rw [hK]; exact h1, po.here rp .bl⟩
    · exact po.elim
  · -- sorted
    obtain ⟨x, rfl, r1⟩ := rs.one
    split at po
    · rename_i is e
      obtain ⟨ys, e1, e2⟩ := Option.bind_eq_some_iff.mp e
      obtain ⟨a, vs, rfl, h1, h2⟩ := rp.seqOf r1 e1
      rw [h2.ints e2] at h1
      refine sortedI_snd I r (by rw [hK]; exact h1) fun ns' p hp hr hn => ?_
      rw [srtI_uniq hp hr]
      exact po.newL rp Rs.of_ints hn
    · rename_i is _ e
      split at po
      · rename_i hl
        obtain ⟨ys, e1, e2⟩ := Option.bind_eq_some_iff.mp e
        unfold keysOf at e1
        split at e1
        · split at e1
          · cases e1
            obtain ⟨a, rfl, _, vs, h1, h2⟩ := rp.cellAt r1 (by assumption)
            refine call_sortedDI (hcm rfl).1 pins s σ H _ us Q I r ⟨a, vs, is, rfl, .inl h1, keys_ints h2 e2, hl, fun ns' p hp hr hn => ?_⟩
            rw [srtI_uniq hp hr]
            exact po.newL rp Rs.of_ints hn
          · cases e1
        · cases e1
      · exact po.elim
    · split at po
      · rename_i ps e
        obtain ⟨ys, e1, e2⟩ := Option.bind_eq_some_iff.mp e
        obtain ⟨a, vs, rfl, h1, h2⟩ := rp.lstOf r1 e1
        obtain ⟨as, k1, k2, k3⟩ := prs_snd h2 e2
        rw [k1] at h1
        -- what stands at an address
        have fn : ∀ q ∈ as, ∀ q' ∈ as, q.1 = q'.1 → q.2 = q'.2 := fun q hq q' hq' e => by
          have z1 := k3 q hq
          have z2 := k3 q' hq'
          rw [e, z2] at z1
          have z3 := HO.tup.inj (Option.some.inj z1)
          simp only [List.cons.injEq, V.int.injEq, and_true] at z3
          exact Prod.ext z3.1.symm z3.2.symm
        let k : V → Int × Int := fun x => match x with
          | .ref t => ((as.find? fun q => decide (q.1 = t)).map (·.2)).getD (0, 0)
          | _ => (0, 0)
        have hk : ∀ q ∈ as, k (.ref q.1) = q.2 := fun q hq => by
          show ((as.find? fun q' => decide (q'.1 = q.1)).map (·.2)).getD (0, 0) = q.2
          cases e : as.find? fun q' => decide (q'.1 = q.1) with
          | none => exact absurd (decide_eq_true rfl) (List.find?_eq_none.mp e q hq)
          | some q' =>
            have m1 := List.mem_of_find?_eq_some e
            have m2 := List.find?_some e
            simp only [decide_eq_true_eq] at m2
            exact fn q' m1 q hq m2
        refine cr_sortedPO pins s σ H _ us Q I r ⟨a, _, k, rfl, by rw [hK]; exact h1, fun x hx => ?_, fun ys' p hs hb hp => ?_⟩
        · obtain ⟨q, hq, rfl⟩ := List.mem_map.mp hx
          exact ⟨q.1, rfl, by rw [hk q hq]; exact k3 q hq⟩
        · -- the sorted addresses are those of some rearrangement
          obtain ⟨bs, hb1, hb2⟩ := perm_map_lift hb.perm
          have pm2 : (bs.map (·.2)).Perm ps := by rw [k2]; exact hb2.map _
          have rise : (bs.map (·.2)).Pairwise (fun p q => ltP q p = false) := by
            rw [List.pairwise_map]
            have hs' := hs
            unfold SrtO.Srtd at hs'
            rw [hb1, List.pairwise_map] at hs'
            refine hs'.imp_of_mem fun {q q'} hq hq' z => ?_
            have e1 := hk q (hb2.mem_iff.mp hq)
            have e2 := hk q' (hb2.mem_iff.mp hq')
            unfold L2.ltP at z
            rw [e1, e2, lexB_ltP] at z
            exact z
          rw [hb1]
          have e3 := srtP_uniq pm2 rise
          refine po.newL rp ?_ hp
          rw [← e3]
          exact Rs.of_prs fun q hq => k3 q (hb2.mem_iff.mp hq)
      · exact po.elim
  · -- tuple
    obtain ⟨x, rfl, r1⟩ := rs.one
    split at po
    · rename_i ys e
      obtain ⟨a, vs, rfl, h1, h2⟩ := r1.seqT (K := X.K) e
      exact call_tuple_of pins s σ H _ us Q I r ⟨a, vs, rfl, .inr ⟨h1, po.here rp r1⟩⟩
    · rename_i ne
      split at po
      · rename_i ys e
        unfold Rf.seqOf at e
        split at e
        · cases ne
        · cases ne
        · split at e
          · cases e
            obtain ⟨a, vs, rfl, h1, h2⟩ := rp.seqL r1 (.inl (by assumption))
            exact call_tupF pins s σ H _ us Q I r ⟨a, vs, rfl, by rw [hK]; exact h1, po.newF rp h2⟩
          · cases e
            obtain ⟨a, vs, rfl, h1, h2⟩ := rp.seqL r1 (.inr (by assumption))
            exact call_tupF pins s σ H _ us Q I r ⟨a, vs, rfl, by rw [hK]; exact h1, po.newF rp h2⟩
          · cases e
        · cases e
      · exact po.elim
  · -- list
    obtain ⟨x, rfl, r1⟩ := rs.one
    split at po
    · rename_i ys e
      obtain ⟨a, vs, rfl, h1, h2⟩ := rp.seqOf r1 e
      exact call_list_of pins s σ H _ us Q I r ⟨a, vs, rfl, by rw [hK]; exact h1, fun l hl => po.newL rp h2 hl⟩
    · exact po.elim
  · -- set
    obtain ⟨x, rfl, r1⟩ := rs.one
    split at po
    · rename_i is e
      split at po
      · rename_i hl
        obtain ⟨_, f1, f2⟩ := Option.bind_eq_some_iff.mp e
        obtain ⟨a, vs, rfl, h1, h2⟩ := r1.seqT (K := X.K) f1
        rw [h2.ints f2] at h1
        rw [Vals.ref1 r]
        obtain ⟨its, rv, ho, _⟩ := I.tuple h1
        obtain ⟨k1, k2⟩ := nubI_nodup is
        have hsb : is.length + 1 < scanBound := by
          have : (4096 : Nat) ≤ scanBound := by decide
          omega
        refine call_set_tupI is (hcm rfl).2 ho (Vals.ints rv) hsb fun h' tk c hs _ hx => ?_
        obtain ⟨z1, z2⟩ := setR_n hs k1 (fun j => by rw [Bool.eq_iff_iff, decide_eq_true_eq, decide_eq_true_eq, k2 j])
        have nH : H s.heap.objs.size = none := I.hok.fresh (Nat.le_refl _)
        refine ⟨.ref _, upd H s.heap.objs.size (SetO X.w s.heap.objs.size (fun j => decide (j ∈ nubI is)) (nubI is).length), I.laid (t' := tk) hx (Nat.le_refl _) (setO_new z2), rfl, ?_⟩
        refine po _ _ _ (Ext.push rp nH) (Rp.push rp nH ?_) (.loc rp.push_at)
        show _ = some (SetO G.w _ _ _)
        rw [← hw]
        exact upd_same
      · exact po.elim
    · exact po.elim
  · -- dict
    obtain ⟨x, rfl, r1⟩ := rs.one
    split at po
    · rename_i kvs e
      split at po
      · obtain ⟨ys, e1, e2⟩ := Option.bind_eq_some_iff.mp e
        obtain ⟨a, vs, rfl, h1, h2⟩ := rp.lstOf r1 e1
        obtain ⟨ps, prs, rfl, k2, k3⟩ := pairs_snd (K := X.K) h2 e2
        refine call_dictP (hcm rfl).1 pins s σ H _ us Q I r ⟨a, ps, prs, rfl, by rw [hK]; exact h1, k2, fun p hp => ?_⟩
        have rk := RK.merge k3 (RK.nil (G := G) (ρ := ρ) (H := H) (κ := DKey))
        exact po _ _ _ (Ext.push rp hp) (Rp.push rp hp ⟨_, upd_same, rk.mono (Ext.push rp hp)⟩) (.loc rp.push_at)
      · exact po.elim
    · exact po.elim
  · -- isinstance
    obtain ⟨x, y, rfl, r1, r2⟩ := rs.two
    split at po
    · rename_i k e
      unfold isiW at e
      split at e
      · split at e
        · rename_i t ts e1 e2
          cases e
          obtain ⟨h1, h2⟩ := tyW_snd hK rp r1 e1
          obtain ⟨tp, vs, rfl, h3, h4⟩ := r2.tup_inv
          obtain ⟨h5, h6⟩ := tyOfs_snd h4 e2
          rw [h5] at h3
          exact call_isiT pins s σ H _ us Q I r ⟨x, tp, _, _, _, _, rfl, h3, clsV_tys ts, h1, kitAny_tys h2 ts h6, po.here rp .bl⟩
        · cases e
      · split at e
        · rename_i t t' e1 e2
          cases e
          obtain ⟨h1, h2⟩ := tyW_snd hK rp r1 e1
          obtain ⟨h5, h6⟩ := tyOf1_snd r2 e2
          subst h5
          exact call_isi pins s σ H _ us Q I r ⟨x, _, _, _, _, rfl, .ty _, h1, kits _ h2 _ h6, po.here rp .bl⟩
        · cases e
    · exact po.elim
  · exact po.elim
end
end Rf

set_option Elab.async false
set_option maxRecDepth 100000
/-! RfOps6: methods of built-in things by values. -/
namespace Rf
open PySem PySem.Spec PyProof.Rows L2
def kTy : Nat → String
  | 0 => "list" | 1 => "tuple" | _ => "dict"
def mNm : M → Str
  | .append => "append" | .extend => "extend" | .pop => "pop" | .popAt => "pop" | .index => "index" | .get1 => "get" | .get2 => "get" | _ => ""
def mId : M → Nat → String
  | .append, _ => "list.append" | .extend, _ => "list.extend" | .pop, _ => "list.pop" | .popAt, _ => "list.pop" | .index, 0 => "list.index" | .index, _ => "tuple.index" | .get1, _ => "dict.get" | .get2, _ => "dict.get" | _, _ => ""
theorem findD_some {d : PyData} : ∀ {ds : List PyData} {k : Nat}, findD d ds = some k → ∃ z, ds[k]? = some z ∧ PyData.eqv z d = true ∧ ∀ m z', m < k → ds[m]? = some z' → PyData.eqv z' d = false
  | [], _, h => by cases h
  | y :: ys, k, h => by
    unfold findD at h
    split at h
    · cases h
      exact ⟨y, rfl, by assumption, fun m _ hm => absurd hm (Nat.not_lt_zero m)⟩
    · rename_i hn
      obtain ⟨j, h1, h2⟩ := Option.map_eq_some_iff.mp h
      subst h2
      obtain ⟨z, k1, k2, k3⟩ := findD_some h1
      refine ⟨z, by simpa using k1, k2, fun m z' hm hz => ?_⟩
      cases m with
      | zero => simp at hz; subst hz; simpa using hn
      | succ m => exact k3 m z' (by omega) (by simpa using hz)
section
variable {G : GC} {X : Cx} {pins : List (Addr × Obj)} {s : Shared} {σ : L2.St} {ρ : List Addr} {H : Hp} {S : Store} {x : V} {xs : List V} {v : Value} {us : List Value} {w : W} {ws : List W} {Q : VK} {E : XK}
theorem mFacts {m : M} (h : mOk S m w = true) : PlainAttrs (kTy (mK m w)) ∧ Slot (kTy (mK m w)) (mNm m) (mId m (mK m w)) ∧ typeOf (.builtin (mId m (mK m w))) = pure (.type "method_descriptor") := by
  unfold mOk at h
  split at h
  · exact ⟨PySem.F.plainAttrs_tuple, PySem.F.slot_tuple_index, PySem.F.type_tuple_index⟩
  · exact ⟨PySem.F.plainAttrs_list, PySem.F.slot_list_index, PySem.F.type_list_index⟩
  · exact ⟨PySem.F.plainAttrs_dict, PySem.F.slot_dict_get, PySem.F.type_dict_get⟩
  · exact ⟨PySem.F.plainAttrs_dict, PySem.F.slot_dict_get, PySem.F.type_dict_get⟩
  · exact ⟨PySem.F.plainAttrs_list, PySem.F.slot_list_append, PySem.F.type_list_append⟩
  · exact ⟨PySem.F.plainAttrs_list, PySem.F.slot_list_extend, PySem.F.type_list_extend⟩
  · exact ⟨PySem.F.plainAttrs_list, PySem.F.slot_list_pop, PySem.F.type_list_pop⟩
  · exact ⟨PySem.F.plainAttrs_list, PySem.F.slot_list_pop, PySem.F.type_list_pop⟩
  · cases h
theorem mIs {m : M} (hK : X.K = G.K) (I : Inv X pins σ H s) (r : RelV x v) (rp : Rp G ρ H S) (ra : R G ρ H w x) (h : mOk S m w = true) : s.TypeIs v (kTy (mK m w)) ∧ ∀ a, v = .ref a → ∃ ob, s.heap.get? a = some ob ∧ ob.dict = none := by
  have lst : ∀ l, w = .loc l → (∃ ys, S.get l = some (.lst ys) ∨ S.get l = some (.frz ys)) → s.TypeIs v "list" ∧ ∀ a, v = .ref a → ∃ ob, s.heap.get? a = some ob ∧ ob.dict = none := fun l e ⟨ys, q⟩ => by
    subst e
    obtain ⟨a, vs, rfl, h1, _⟩ := rp.seqL ra q
    exact tyV_is I r (.inl ⟨rfl, vs, by rw [hK]; exact h1⟩)
  have dct : ∀ l, w = .loc l → ((∃ k, S.get l = some (.dic k)) ∨ ∃ k, S.get l = some (.dct k)) → s.TypeIs v "dict" ∧ ∀ a, v = .ref a → ∃ ob, s.heap.get? a = some ob ∧ ob.dict = none := fun l e q => by
    subst e
    rcases q with ⟨k, q⟩ | ⟨k, q⟩
    · obtain ⟨a, rfl, _, vs, h1, _⟩ := rp.cellAt ra q
      exact tyV_is I r (.inr (.inr (.inl ⟨rfl, .inl ⟨vs, h1⟩⟩)))
    · obtain ⟨a, rfl, _, vs, h1, _⟩ := rp.cellAt ra q
      exact tyV_is I r (.inr (.inr (.inl ⟨rfl, .inr ⟨vs, h1⟩⟩)))
  unfold mOk at h
  split at h
  · cases ra with
    | tpl h1 h2 _ =>
      cases r
      obtain ⟨k1, _, its, _, o, k2, k3, _⟩ := I.hok _ _ h1
      rw [k1] at k2; cases k2
      exact ⟨⟨_, k1, k3⟩, fun a e => by cases e; exact ⟨_, k1, h2⟩⟩
  · split at h
    · exact lst _ rfl ⟨_, .inl (by assumption)⟩
    · exact lst _ rfl ⟨_, .inr (by assumption)⟩
    · cases h
  · split at h
    · exact dct _ rfl (.inl ⟨_, by assumption⟩)
    · exact dct _ rfl (.inr ⟨_, by assumption⟩)
    · cases h
  · split at h
    · exact dct _ rfl (.inl ⟨_, by assumption⟩)
    · exact dct _ rfl (.inr ⟨_, by assumption⟩)
    · cases h
  · split at h
    · exact lst _ rfl ⟨_, .inl (by assumption)⟩
    · cases h
  · split at h
    · exact lst _ rfl ⟨_, .inl (by assumption)⟩
    · cases h
  · split at h
    · exact lst _ rfl ⟨_, .inl (by assumption)⟩
    · cases h
  · split at h
    · exact lst _ rfl ⟨_, .inl (by assumption)⟩
    · cases h
  · cases h
/-- t.index(y) of a tuple of data -/
theorem mt_tupIx (hu : X.A.units + 65 < cLine) {a : Addr} {y : V} {u : Value} {d : PyData} {ds : List PyData} {k : Nat} (I : Inv X pins σ H s) (ry : RelV y u) (ht : Dp X.K H (.ref a) (.tuple ds)) (hd : Dp X.K H y d)
    (st : SeqAt.shaped (.tuple ds) = true) (sd : SeqAt.shaped d = true) (hk : findD d ds = some k) (q : Q (.int (k : Nat)) H) : wpAny (model X.prog X.w) X.A (call (.builtin "tuple.index") [.ref a, u]) (EP X pins σ Q) X.xe s := by
  obtain ⟨bs, r1⟩ := Dp.reads I d y u hd ry
  have hxs : PyData.canLayAll0 ds = true := (shaped_all st (.inr rfl)).1
  have hroom : X.A.units + 1 + min (PyData.depthAll ds) d.depth < cLine := by
    have := (shaped_all st (.inr rfl)).2
    omega
  cases ht with
  | tup hs ha =>
    obtain ⟨its, rv, ⟨⟨cl, dd, da, sl⟩, ho, k1, n, k2⟩, _⟩ := I.tuple hs
    simp only at k1 k2
    subst k1; subst k2
    obtain ⟨as, h4⟩ := Dp.readsAll I ds _ its ha rv
    have hn : its.length = ds.length := SeqAt.ReadsAll.length ds its as h4
    have hmap : its.map (SeqAt.readOf s.heap) = ds := SeqAt.readsAll_map ds its as hxs h4
    obtain ⟨z, z1, z2, z3⟩ := findD_some hk
    obtain ⟨hkd, _⟩ := List.getElem?_eq_some_iff.mp z1
    have hj : k < its.toArray.size := by rw [List.size_toArray]; omega
    have at_ : ∀ (m : Nat) (hm : m < its.toArray.size), ds[m]? = some (SeqAt.readOf s.heap its.toArray[m]) := fun m hm => by
      have hm' : m < its.length := by simpa using hm
      rw [← hmap, List.getElem?_map, List.getElem?_eq_getElem hm']
      simp
    refine call_meets PySem.F.slot_tuple_index ⟨_, ho, rfl⟩ PySem.F.entry_tuple_index (PySem.F.args_tuple_index_2 _ _)
      (TI.tuple_indexAt a its.toArray n dd sl u (fun y => PyData.eqv (SeqAt.readOf s.heap y) d) k hj ?_ fun m hm hmk => z3 m _ hmk (at_ m hm))
      ⟨ho, SeqAt.items_eqAt (vs := its.toArray) h4 r1 hxs (SeqAt.canLay_of_shaped sd) hroom, ⟨.int (k : Nat), H, I.tok _, ⟨_, rfl⟩, q⟩⟩
    have e := at_ k hj
    rw [z1] at e
    show PyData.eqv (SeqAt.readOf s.heap its.toArray[k]) d = true
    rw [← Option.some.inj e]
    exact z2
theorem bmW_snd (m : M) (hu : X.A.units + 80 < cLine) (hK : X.K = G.K) (I : Inv X pins σ H s) (r : RelV x v) (rs : Vals xs us) (rp : Rp G ρ H S) (ra : R G ρ H w x) (ras : Rs G ρ H ws xs) (po : Post G (R G) E ρ H Q (bmW S m w ws)) :
    wpAny (model X.prog X.w) X.A (call (.builtin (mId m (mK m w))) (v :: us)) (EP X pins σ Q) X.xe s := by
  unfold bmW at po
  split at po
  · -- append
    split at po
    · split at po
      · obtain ⟨y, rfl, ry⟩ := ras.one
        obtain ⟨a, vs, rfl, ha, h1, h2⟩ := rp.lst ra (by assumption)
        exact mt_append pins s σ H _ _ v us Q I r rs ⟨a, vs, y, rfl, rfl, h1, by rw [← h2.length]; exact lim_line' (by assumption), po.writeL rp ha h1 (h2.app (.cons ry .nil)) fun _ _ => .non⟩
      · exact po.elim
    · exact po.elim
  · -- extend
    split at po
    · split at po
      · obtain ⟨y, rfl, ry⟩ := ras.one
        obtain ⟨a, vs, rfl, ha, h1, h2⟩ := rp.lst ra (by assumption)
        obtain ⟨b, zs, rfl, hb, h3, h4⟩ := rp.lst ry (by assumption)
        exact mt_extend pins s σ H _ _ v us Q I r rs ⟨a, b, vs, zs, rfl, rfl, h1, h3, by rw [← h2.length, ← h4.length]; exact lim_line (by assumption), po.writeL rp ha h1 (h2.app h4) fun _ _ => .non⟩
      · exact po.elim
    · exact po.elim
  · -- pop
    split at po
    · split at po
      · rename_i hy
        cases ras
        obtain ⟨a, vs, rfl, ha, h1, h2⟩ := rp.lst ra (by assumption)
        obtain ⟨y, k1, k2⟩ := h2.get hy
        exact mt_pop pins s σ H _ _ v us Q I r rs ⟨a, vs, y, rfl, rfl, h1, by rw [← h2.length]; exact k1, po.writeL rp ha h1 h2.dropLast fun _ e => k2.mono e⟩
      · exact po.elim
    · exact po.elim
  · -- pop at
    split at po
    · split at po
      · rename_i hk
        split at po
        · rename_i hy
          obtain ⟨y, rfl, ry⟩ := ras.one
          cases ry
          obtain ⟨a, vs, rfl, ha, h1, h2⟩ := rp.lst ra (by assumption)
          obtain ⟨y, k1, k2⟩ := h2.get hy
          have hz : vs.length ≤ sizeLine := (I.hok _ _ h1).1
          rw [sizeLine_eq] at hz
          have e2 := h2.length
          have hb : ∀ {n : Nat} {i : Int} {k : Nat}, ixOf n i = some k → n ≤ sizeLine → -(2 ^ 63) ≤ i ∧ i < 2 ^ 63 ∧ seqIndex? i n = some k := fun {n i k} e hn => by
            rw [sizeLine_eq] at hn
            unfold ixOf at e
            unfold seqIndex?
            split at e
            · split at e
              · cases e
                refine ⟨by omega, by omega, ?_⟩
                have c1 : ¬ i < 0 := by omega
                simp only [c1, if_false, Bool.and_eq_true, decide_eq_true_eq]
                rw [if_pos (by omega)]
              · cases e
            · split at e
              · cases e
                refine ⟨by omega, by omega, ?_⟩
                have c1 : i < 0 := by omega
                simp only [c1, if_true, Bool.and_eq_true, decide_eq_true_eq]
                rw [if_pos (by omega)]
              · cases e
          have hz2 : vs.length ≤ sizeLine := (I.hok _ _ h1).1
          rw [e2] at hk
          obtain ⟨b1, b2, b3⟩ := hb hk hz2
          exact mt_popAt pins s σ H _ _ v us Q I r rs ⟨a, vs, _, _, y, rfl, rfl, h1, b1, b2, b3, k1, po.writeL rp ha h1 (h2.erase _) fun _ e => k2.mono e⟩
        · exact po.elim
      · exact po.elim
    · exact po.elim
  · -- index
    split at po
    · rename_i d hd
      split at po
      · rename_i ds hx
        split at po
        · rename_i k hk
          obtain ⟨y, rfl, ry⟩ := ras.one
          obtain ⟨h1, h2⟩ := toD_dp rp _ _ _ _ ra hx
          obtain ⟨h3, h4⟩ := toD_dp rp _ _ _ _ ry hd
          obtain ⟨a, vs, rfl, _, _⟩ := ra.seqT (K := X.K) rfl
          cases r
          obtain ⟨u, rfl, ru⟩ := rs.one
          rw [← hK] at h1 h3
          exact mt_tupIx (by omega) I ru h1 h3 (toD_shaped h2 hx) (toD_shaped h4 hd) hk (po.here rp .int)
        · exact po.elim
      · rename_i ds hx
        split at po
        · rename_i k hk
          obtain ⟨y, rfl, ry⟩ := ras.one
          obtain ⟨h1, h2⟩ := toD_dp rp _ _ _ _ ra hx
          obtain ⟨h3, h4⟩ := toD_dp rp _ _ _ _ ry hd
          obtain ⟨a, rfl, _⟩ := ra.loc_inv
          obtain ⟨z, z1, z2, z3⟩ := findD_some hk
          rw [← hK] at h1 h3
          exact mt_indexD (by omega) pins s σ H _ _ v us Q I r rs ⟨a, y, d, ds, k, z, rfl, rfl, h1, h3, toD_shaped h2 hx, toD_shaped h4 hd, z1, z2, z3, po.here rp .int⟩
        · exact po.elim
      · exact po.elim
    · exact po.elim
  · -- get
    obtain ⟨y, rfl, ry⟩ := ras.one
    split at po
    · split at po
      · rename_i k hk
        obtain ⟨a, rfl, ha, vs, h1, h2⟩ := rp.cellAt ra (by assumption)
        cases r
        obtain ⟨u, rfl, ru⟩ := rs.one
        refine d_get1 (by omega) I (.inl ⟨vs, k, .inl h1, key_snd ry hk, rfl⟩) ru fun w' s' I' rw' => ⟨_, H, I', rw', ?_⟩
        rcases h2.get k with ⟨e1, e2⟩ | ⟨w1, v1, e1, e2, e3⟩
        · rw [e1] at po; rw [e2]; exact po.here rp .non
        · rw [e1] at po; rw [e2]; exact po.here rp e3
      · exact po.elim
    · split at po
      · rename_i k hk
        obtain ⟨a, rfl, ha, vs, h1, h2⟩ := rp.cellAt ra (by assumption)
        cases r
        obtain ⟨u, rfl, ru⟩ := rs.one
        obtain ⟨b, eb, hb⟩ := tkey_snd ry hk
        refine d_get1 (by omega) I (.inr ⟨vs, k, b, .inl h1, eb, hb, rfl⟩) ru fun w' s' I' rw' => ⟨_, H, I', rw', ?_⟩
        rcases h2.get k with ⟨e1, e2⟩ | ⟨w1, v1, e1, e2, e3⟩
        · rw [e1] at po; rw [e2]; exact po.here rp .non
        · rw [e1] at po; rw [e2]; exact po.here rp e3
      · exact po.elim
    · exact po.elim
  · -- get, with a value for none
    obtain ⟨y, z, rfl, ry, rz⟩ := ras.two
    split at po
    · split at po
      · rename_i k hk
        obtain ⟨a, rfl, ha, vs, h1, h2⟩ := rp.cellAt ra (by assumption)
        cases r
        obtain ⟨u, u2, rfl, ru, ru2⟩ := vals2 rs
        refine d_get2 (by omega) I (.inl ⟨vs, k, .inl h1, key_snd ry hk, rfl⟩) ru ru2 fun w' s' I' rw' => ⟨_, H, I', rw', ?_⟩
        rcases h2.get k with ⟨e1, e2⟩ | ⟨w1, v1, e1, e2, e3⟩
        · rw [e1] at po; rw [e2]; exact po.here rp rz
        · rw [e1] at po; rw [e2]; exact po.here rp e3
      · exact po.elim
    · split at po
      · rename_i k hk
        obtain ⟨a, rfl, ha, vs, h1, h2⟩ := rp.cellAt ra (by assumption)
        cases r
        obtain ⟨u, u2, rfl, ru, ru2⟩ := vals2 rs
        obtain ⟨b, eb, hb⟩ := tkey_snd ry hk
        refine d_get2 (by omega) I (.inr ⟨vs, k, b, .inl h1, eb, hb, rfl⟩) ru ru2 fun w' s' I' rw' => ⟨_, H, I', rw', ?_⟩
        rcases h2.get k with ⟨e1, e2⟩ | ⟨w1, v1, e1, e2, e3⟩
        · rw [e1] at po; rw [e2]; exact po.here rp rz
        · rw [e1] at po; rw [e2]; exact po.here rp e3
      · exact po.elim
    · exact po.elim
  · exact po.elim
end
end Rf

set_option Elab.async false
set_option maxRecDepth 100000
/-! RfSnd1: expressions of RfCore over the layer's rules. -/
namespace Rf
open PySem PySem.Spec PyProof.Rows L2

/-- the names' slots -/
def RSt (G : GC) (ρ : List Addr) (H : Hp) (τ : Tau) (σ : L2.St) : Prop := τ.length = σ.length ∧ ∀ (i : Nat) (w : W), τ[i]? = some (some w) → ∃ v, σ[i]? = some (some v) ∧ R G ρ H w v
/-- a reading given by the evaluator -/
def Lf {α β : Type} (G : GC) (Ω : WX) (rel : List Addr → Hp → α → β → Prop) (d : Tau → Store → Res α) (σ : L2.St) (H : Hp) (Q : β → Hp → Prop) : Prop :=
  ∃ ρ τ S, Rp G ρ H S ∧ RSt G ρ H τ σ ∧ Post G rel (WE Ω σ) ρ H Q (d τ S)
abbrev bq : List Addr → Hp → Bool → Bool → Prop := fun _ _ a b => a = b
abbrev oq : List Addr → Hp → Option Int → Option Int → Prop := fun _ _ a b => a = b
abbrev LE (G : GC) (E : WX) (d : Tau → Store → Res W) : TE := Lf G E (R G) d
abbrev LT (G : GC) (E : WX) (d : Tau → Store → Res Bool) : TT := Lf G E bq d
abbrev LA (G : GC) (E : WX) (d : Tau → Store → Res (List W)) : TA := Lf G E (Rs G) d

section
variable {G : GC} {Ω : WX} {ρ ρ' : List Addr} {H H' : Hp} {τ : Tau} {σ : L2.St} {S : Store}
theorem RSt.mono (e : Ext G ρ H ρ' H') (h : RSt G ρ H τ σ) : RSt G ρ' H' τ σ := ⟨h.1, fun i w q => by
  obtain ⟨v, h1, h2⟩ := h.2 i w q
  exact ⟨v, h1, h2.mono e⟩⟩
theorem RSt.put {i : Nat} {w : W} {v : V} (h : RSt G ρ H τ σ) (r : R G ρ H w v) : RSt G ρ H (τ.set i (some w)) (σ.set i (some v)) := ⟨by rw [List.length_set, List.length_set, h.1], fun j x q => by
  by_cases hj : i = j
  · subst hj
    by_cases hl : i < τ.length
    · rw [List.getElem?_set_self hl] at q
      cases q
      exact ⟨v, by rw [List.getElem?_set_self (by rw [← h.1]; exact hl)], r⟩
    · rw [List.getElem?_eq_none (by rw [List.length_set]; omega)] at q; cases q
  · rw [List.getElem?_set_ne hj] at q
    obtain ⟨u, h1, h2⟩ := h.2 j x q
    exact ⟨u, by rw [List.getElem?_set_ne hj]; exact h1, h2⟩⟩
theorem RSt.drop {i : Nat} (h : RSt G ρ H τ σ) : RSt G ρ H (τ.set i none) (σ.set i none) := ⟨by rw [List.length_set, List.length_set, h.1], fun j x q => by
  by_cases hj : i = j
  · subst hj
    by_cases hl : i < τ.length
    · rw [List.getElem?_set_self hl] at q; cases q
    · rw [List.getElem?_eq_none (by rw [List.length_set]; omega)] at q; cases q
  · rw [List.getElem?_set_ne hj] at q
    obtain ⟨u, h1, h2⟩ := h.2 j x q
    exact ⟨u, by rw [List.getElem?_set_ne hj]; exact h1, h2⟩⟩
theorem RSt.wipe (h : RSt G ρ H τ σ) : ∀ own : List Nat, RSt G ρ H (wipeT τ own) (L2.wipe σ own)
  | [] => h
  | v :: vs => RSt.drop (RSt.wipe h vs)
variable {α β γ δ : Type} {rel : List Addr → Hp → α → β → Prop} {rel2 : List Addr → Hp → γ → δ → Prop} {d : Tau → Store → Res γ} {k : γ → Store → Res α} {Q : β → Hp → Prop}
/-- one after another -/
theorem Lf.bind (rp : Rp G ρ H S) (st : RSt G ρ H τ σ) (po : Post G rel (WE Ω σ) ρ H Q ((d τ S).bind k)) :
    Lf G Ω rel2 d σ H fun y H1 => ∃ ρ1 w S1, Ext G ρ H ρ1 H1 ∧ Rp G ρ1 H1 S1 ∧ RSt G ρ1 H1 τ σ ∧ rel2 ρ1 H1 w y ∧ Post G rel (WE Ω σ) ρ1 H1 Q (k w S1) :=
  ⟨ρ, τ, S, rp, st, (po.bind (rel2 := rel2)).imp fun y H1 ⟨ρ1, w, S1, e, rp1, r, p⟩ => ⟨ρ1, w, S1, e, rp1, st.mono e, r, p⟩⟩
theorem Lf.bindE (rp : Rp G ρ H S) (st : RSt G ρ H τ σ) (po : Post G rel (WE Ω σ) ρ H Q ((d τ S).bind k)) :
    Lf G Ω rel2 d σ H fun y H1 => ∃ ρ1 w S1, d τ S = .ok w S1 ∧ Ext G ρ H ρ1 H1 ∧ Rp G ρ1 H1 S1 ∧ RSt G ρ1 H1 τ σ ∧ rel2 ρ1 H1 w y ∧ Post G rel (WE Ω σ) ρ1 H1 Q (k w S1) := by
  refine ⟨ρ, τ, S, rp, st, ?_⟩
  cases e : d τ S with
  | ok w S1 =>
    rw [e] at po
    exact fun ρ1 H1 y e1 rp1 r => ⟨ρ1, w, S1, rfl, e1, rp1, st.mono e1, r, po.from e1⟩
  | exc c fs S1 => rw [e] at po; exact po
  | stuck => rw [e] at po; exact po.elim
theorem Lf.imp {d : Tau → Store → Res α} {Q' : β → Hp → Prop} (h : Lf G Ω rel d σ H Q) (hq : ∀ v H', Q v H' → Q' v H') : Lf G Ω rel d σ H Q' := by
  obtain ⟨ρ, τ, S, rp, st, po⟩ := h
  exact ⟨ρ, τ, S, rp, st, po.imp hq⟩
end

/-- what the walk knows of a place -/
structure GX (G : GC) (Ω : WX) (X : Cx) : Prop where
  K : X.K = G.K
  w : X.w = G.w
  tk : Takes X Ω
  po : PassesOwn (model X.prog X.w) X.A X.env X.xe
  units : X.A.units + 80 < cLine
  nd : X.N.Nodup
theorem _root_.L2.PE.via {X : Cx} {e : Expr} {t t' : TE} (h : PE X e t) (hi : ∀ σ H Q, t' σ H Q → t σ H Q) : PE X e t' := ⟨fun pins s σ H Q I q => h.run pins s σ H Q I (hi _ _ _ q)⟩
theorem _root_.L2.PT.via {X : Cx} {e : Expr} {t t' : TT} (h : PT X e t) (hi : ∀ σ H Q, t' σ H Q → t σ H Q) : PT X e t' := ⟨fun pins s σ H Q I q => h.run pins s σ H Q I (hi _ _ _ q)⟩
theorem _root_.L2.PW.via {X : Cx} {e : Expr} {t t' : TT} (h : PW X e t) (hi : ∀ σ H Q, t' σ H Q → t σ H Q) : PW X e t' := ⟨fun w pins s σ H Q I q => h.run w pins s σ H Q I (hi _ _ _ q)⟩
theorem _root_.L2.PA.via {X : Cx} {e : List Expr} {t t' : TA} (h : PA X e t) (hi : ∀ σ H Q, t' σ H Q → t σ H Q) : PA X e t' := ⟨fun p pins s σ H Q I q => h.run p pins s σ H Q I (hi _ _ _ q)⟩

section
variable {G : GC} {X : Cx} {Ω : WX} (g : GX G Ω X) {F : Ora} {pos : Pos}
include g
theorem snd_var {x : Str} {i : Nat} (hN : X.N[i]? = some x) (hv : Vis X.env.scope x) (hd : (x == ("__debug__" : Str)) = false) (hcd : (x == ("__classdict__" : Str)) = false) : PE X (.Name x pos) (LE G Ω (evE F (.var i))) :=
  (pe_var hN hv hd hcd).via fun σ H Q ⟨ρ, τ, S, rp, st, po⟩ => by
    unfold evE at po
    split at po
    · obtain ⟨v, h1, h2⟩ := st.2 _ _ (by assumption)
      exact ⟨v, h1, po.here rp h2⟩
    · exact po.elim
theorem snd_con {e : Expr} {v : V} {ir : E} {w : W} (h : PE X e (tC v)) (hr : ∀ ρ H, R G ρ H w v) (he : ∀ τ S, evE F ir τ S = .ok w S) : PE X e (LE G Ω (evE F ir)) :=
  h.via fun σ H Q ⟨ρ, τ, S, rp, st, po⟩ => by
    rw [he] at po
    exact po.here rp (hr _ _)
theorem snd_int {i : Int} {j : Nat} : PE X (.Constant (.int i) j pos) (LE G Ω (evE F (.int i))) := snd_con g pe_int (fun _ _ => .int) fun τ S => by unfold evE; rfl
theorem snd_bl {b : Bool} {j : Nat} : PE X (.Constant (.bool b) j pos) (LE G Ω (evE F (.bl b))) := snd_con g pe_bl (fun _ _ => .bl) fun τ S => by unfold evE; rfl
theorem snd_non {j : Nat} : PE X (.Constant .none j pos) (LE G Ω (evE F .non)) := snd_con g pe_non (fun _ _ => .non) fun τ S => by unfold evE; rfl
theorem snd_str {z : Str} {j : Nat} : PE X (.Constant (.str z) j pos) (LE G Ω (evE F (.str z))) := snd_con g pe_str (fun _ _ => .str) fun τ S => by unfold evE; rfl
theorem snd_ty {x : Str} {t : String} (hg : Gl X x) (hm : X.mg x = none) (hv : bootBuiltins x = some (.type t)) (hn : x ≠ "__name__") (hd : (x == ("__debug__" : Str)) = false) : PE X (.Name x pos) (LE G Ω (evE F (.ty t))) :=
  snd_con g (pe_bltn (v := .ty t) hg hm hv rfl hn hd) (fun _ _ => .ty) fun τ S => by unfold evE; rfl
theorem snd_glb {x : Str} {k : Nat} {v : V} {u : Value} (hg : Gl X x) (hm : X.mg x = some u) (hr : RelV v u) (hw : ∀ ρ H, R G ρ H (F.glb k) v) (hd : (x == ("__debug__" : Str)) = false) : PE X (.Name x pos) (LE G Ω (evE F (.glb k))) :=
  snd_con g (pe_glob hg hm hr hd) hw fun τ S => by unfold evE; rfl
theorem snd_bin {o : Operator} {a b : Expr} {ea eb : E} (ha : PE X a (LE G Ω (evE F ea))) (hb : PE X b (LE G Ω (evE F eb))) : PE X (.BinOp a o b pos) (LE G Ω (evE F (.bin o ea eb))) := by
  refine (pe_op (r := fun x y H Q => ∃ E ρ S w z, Rp G ρ H S ∧ R G ρ H w x ∧ R G ρ H z y ∧ Post G (R G) E ρ H Q (binW S o w z)) ?_ ha hb).via fun σ H Q ⟨ρ, τ, S, rp, st, po⟩ => ?_
  · intro pins s σ H x y v u Q I r1 r2 ⟨E, ρ, S, w, z, rp, ra, rb, po⟩
    exact binW_snd o g.K I r1 r2 rp ra rb po
  · unfold evE at po
    refine Lf.imp (Lf.bind rp st po) fun x H1 ⟨ρ1, w, S1, _, rp1, st1, r1, po1⟩ => ?_
    exact Lf.imp (Lf.bind rp1 st1 po1) fun y H2 ⟨ρ2, z, S2, e2, rp2, _, r2, po2⟩ => ⟨_, ρ2, S2, w, z, rp2, r1.mono e2, r2, po2⟩
theorem snd_un {o : UnaryOp} {a : Expr} {ea : E} (ha : PE X a (LE G Ω (evE F ea))) : PE X (.UnaryOp o a pos) (LE G Ω (evE F (.un o ea))) := by
  refine (pe_un (r := fun x H Q => ∃ ρ w z, R G ρ H w x ∧ unW o w = some z ∧ ∀ y, R G ρ H z y → Q y H) ?_ ha).via fun σ H Q ⟨ρ, τ, S, rp, st, po⟩ => ?_
  · intro pins s σ H x v Q I r1 ⟨ρ, w, z, ra, e, q⟩
    exact unW_snd o I r1 ra e q
  · unfold evE at po
    refine Lf.imp (Lf.bind rp st po) fun x H1 ⟨ρ1, w, S1, _, rp1, st1, r1, po1⟩ => ?_
    obtain ⟨z, h1, h2⟩ := po1.of
    exact ⟨ρ1, w, z, r1, h1, fun y ry => h2.here rp1 ry⟩
theorem snd_cmp {o : CmpOp} {a b : Expr} {ea eb : E} (ha : PE X a (LE G Ω (evE F ea))) (hb : PE X b (LE G Ω (evE F eb))) (hm : behindInMarks o b = false) : PE X (.Compare a [o] [b] pos) (LE G Ω (evE F (.cmp o ea eb))) := by
  refine (pe_cmpR (r := fun x y H Q => ∃ ρ S w z k, Rp G ρ H S ∧ R G ρ H w x ∧ R G ρ H z y ∧ cmpW S o w z = some k ∧ Q (.bl k) H) ?_ ha hb hm).via fun σ H Q ⟨ρ, τ, S, rp, st, po⟩ => ?_
  · intro pins s σ H x y v u Q I r1 r2 ⟨ρ, S, w, z, k, rp, ra, rb, e, q⟩
    exact cmpW_snd o g.units g.K I r1 r2 rp ra rb e q
  · unfold evE at po
    refine Lf.imp (Lf.bind rp st po) fun x H1 ⟨ρ1, w, S1, _, rp1, st1, r1, po1⟩ => ?_
    refine Lf.imp (Lf.bind rp1 st1 po1) fun y H2 ⟨ρ2, z, S2, e2, rp2, _, r2, po2⟩ => ?_
    obtain ⟨u, h1, h2⟩ := po2.of
    obtain ⟨k, h3, rfl⟩ := Option.map_eq_some_iff.mp h1
    exact ⟨ρ2, S2, w, z, k, rp2, r1.mono e2, r2, h3, h2.here rp2 .bl⟩
theorem snd_chn {o o' : CmpOp} {a b c : Expr} {ea eb ec : E} (ha : PE X a (LE G Ω (evE F ea))) (hb : PE X b (LE G Ω (evE F eb))) (hc : PE X c (LE G Ω (evE F ec))) (hm : lastMarks [o, o'] [b, c] = false) :
    PE X (.Compare a [o, o'] [b, c] pos) (LE G Ω (evE F (.chn o o' ea eb ec))) := by
  have ok : ∀ p : CmpOp, OpR X (compareOp p) (fun x y H Q => ∃ ρ S w z k, Rp G ρ H S ∧ R G ρ H w x ∧ R G ρ H z y ∧ cmpW S p w z = some k ∧ Q (.bl k) H) :=
    fun p pins s σ H x y v u Q I r1 r2 ⟨ρ, S, w, z, k, rp, ra, rb, e, q⟩ => cmpW_snd p g.units g.K I r1 r2 rp ra rb e q
  refine (pe_chain (ok o) (ok o') ha hb hc hm).via fun σ H Q ⟨ρ, τ, S, rp, st, po⟩ => ?_
  unfold evE at po
  refine Lf.imp (Lf.bind rp st po) fun x H1 ⟨ρ1, w, S1, _, rp1, st1, r1, po1⟩ => ?_
  refine Lf.imp (Lf.bind rp1 st1 po1) fun y H2 ⟨ρ2, z, S2, e2, rp2, st2, r2, po2⟩ => ?_
  split at po2
  · rename_i hk
    refine ⟨ρ2, S2, w, z, true, rp2, r1.mono e2, r2, hk, true, rfl, ?_⟩
    rw [if_pos rfl]
    refine Lf.imp (Lf.bind rp2 st2 po2) fun y3 H3 ⟨ρ3, z3, S3, e3, rp3, _, r3, po3⟩ => ?_
    obtain ⟨u, h1, h2⟩ := po3.of
    obtain ⟨k, h3, rfl⟩ := Option.map_eq_some_iff.mp h1
    exact ⟨ρ3, S3, z, z3, k, rp3, r2.mono e3, r3, h3, h2.here rp3 .bl⟩
  · rename_i hk
    refine ⟨ρ2, S2, w, z, false, rp2, r1.mono e2, r2, hk, false, rfl, ?_⟩
    rw [if_neg (by decide)]
    exact po2.here rp2 .bl
  · exact po2.elim
/-! ### tests -/
theorem snd_val {e : Expr} {ir : E} (h : PE X e (LE G Ω (evE F ir))) (he : ∀ whole, isTrue e X.env whole = (do let v ← whole; standAt e.pos; holding [v] (truthy v))) : PT X e (LT G Ω (evT F (.val ir))) := by
  refine ⟨fun pins s σ H Q I ⟨ρ, τ, S, rp, st, po⟩ => ?_⟩
  unfold evT at po
  rw [he]
  refine wpAny_bind (thn (h.run pins s σ H _ I (Lf.bind rp st po)) fun u s1 ⟨x, H1, I1, r1, ρ1, w, S1, _, rp1, _, r2, po1⟩ => ?_)
  obtain ⟨k, h1, h2⟩ := po1.of
  refine wpAny_bind (wpAny_standAt (wpAny_holding ?_))
  exact truW_snd g.K I1 r1 rp1 r2 h1 (h2 _ _ _ Ext.refl rp1 rfl)
theorem snd_not {a : Expr} {ta : T} (h : PT X a (LT G Ω (evT F ta))) : PT X (.UnaryOp .Not a pos) (LT G Ω (evT F (.not ta))) :=
  (pt_not h).via fun σ H Q ⟨ρ, τ, S, rp, st, po⟩ => by
    unfold evT at po
    refine Lf.imp (Lf.bind rp st po) fun k H1 ⟨ρ1, w, S1, _, rp1, _, r1, po1⟩ => ?_
    cases r1
    exact po1 _ _ _ Ext.refl rp1 rfl
theorem snd_andT {a b : Expr} {rest : List Expr} {ta tb : T} (ha : PT X a (LT G Ω (evT F ta))) (hb : PW X (.BoolOp .And (b :: rest) pos) (LT G Ω (evT F tb))) : PW X (.BoolOp .And (a :: b :: rest) pos) (LT G Ω (evT F (.and ta tb))) :=
  (pw_and ha hb).via fun σ H Q ⟨ρ, τ, S, rp, st, po⟩ => by
    unfold evT at po
    refine Lf.imp (Lf.bind rp st po) fun k H1 ⟨ρ1, w, S1, _, rp1, st1, r1, po1⟩ => ?_
    cases r1
    cases k with
    | true => rw [if_pos rfl]; exact ⟨_, _, _, rp1, st1, po1⟩
    | false => rw [if_neg (by decide)]; exact po1 _ _ _ Ext.refl rp1 rfl
theorem snd_orT {a b : Expr} {rest : List Expr} {ta tb : T} (ha : PT X a (LT G Ω (evT F ta))) (hb : PW X (.BoolOp .Or (b :: rest) pos) (LT G Ω (evT F tb))) : PW X (.BoolOp .Or (a :: b :: rest) pos) (LT G Ω (evT F (.or ta tb))) :=
  (pw_or ha hb).via fun σ H Q ⟨ρ, τ, S, rp, st, po⟩ => by
    unfold evT at po
    refine Lf.imp (Lf.bind rp st po) fun k H1 ⟨ρ1, w, S1, _, rp1, st1, r1, po1⟩ => ?_
    cases r1
    cases k with
    | true => rw [if_pos rfl]; exact po1 _ _ _ Ext.refl rp1 rfl
    | false => rw [if_neg (by decide)]; exact ⟨_, _, _, rp1, st1, po1⟩
/-! ### and, or, not, if as values -/
theorem snd_and {a b : Expr} {rest : List Expr} {ea eb : E} (ha : PE X a (LE G Ω (evE F ea))) (hb : PE X (.BoolOp .And (b :: rest) pos) (LE G Ω (evE F eb))) : PE X (.BoolOp .And (a :: b :: rest) pos) (LE G Ω (evE F (.and ea eb))) :=
  (pe_and ha hb).via fun σ H Q ⟨ρ, τ, S, rp, st, po⟩ => by
    unfold evE at po
    refine Lf.imp (Lf.bind rp st po) fun x H1 ⟨ρ1, w, S1, _, rp1, st1, r1, po1⟩ => ?_
    split at po1
    · cases r1
      exact ⟨true, rfl, by rw [if_pos rfl]; exact ⟨_, _, _, rp1, st1, po1⟩⟩
    · cases r1
      exact ⟨false, rfl, by rw [if_neg (by decide)]; exact po1.here rp1 .bl⟩
    · exact po1.elim
theorem snd_or {a b : Expr} {rest : List Expr} {ea eb : E} (ha : PE X a (LE G Ω (evE F ea))) (hb : PE X (.BoolOp .Or (b :: rest) pos) (LE G Ω (evE F eb))) : PE X (.BoolOp .Or (a :: b :: rest) pos) (LE G Ω (evE F (.or ea eb))) :=
  (pe_or ha hb).via fun σ H Q ⟨ρ, τ, S, rp, st, po⟩ => by
    unfold evE at po
    refine Lf.imp (Lf.bind rp st po) fun x H1 ⟨ρ1, w, S1, _, rp1, st1, r1, po1⟩ => ?_
    split at po1
    · cases r1
      exact ⟨true, rfl, by rw [if_pos rfl]; exact po1.here rp1 .bl⟩
    · cases r1
      exact ⟨false, rfl, by rw [if_neg (by decide)]; exact ⟨_, _, _, rp1, st1, po1⟩⟩
    · exact po1.elim
theorem snd_ite {c a b : Expr} {tc : T} {ea eb : E} (hc : PT X c (LT G Ω (evT F tc))) (ha : PE X a (LE G Ω (evE F ea))) (hb : PE X b (LE G Ω (evE F eb))) : PE X (.IfExp c a b pos) (LE G Ω (evE F (.ite tc ea eb))) :=
  (pe_ifExp hc ha hb).via fun σ H Q ⟨ρ, τ, S, rp, st, po⟩ => by
    unfold evE at po
    refine Lf.imp (Lf.bind rp st po) fun k H1 ⟨ρ1, w, S1, _, rp1, st1, r1, po1⟩ => ?_
    cases r1
    cases k with
    | true => rw [if_pos rfl]; exact ⟨_, _, _, rp1, st1, po1⟩
    | false => rw [if_neg (by decide)]; exact ⟨_, _, _, rp1, st1, po1⟩
/-! ### rows of arguments -/
theorem snd_nil : PA X [] (LA G Ω (evEs F .nil)) := pa_nil.via fun σ H Q ⟨ρ, τ, S, rp, st, po⟩ => by
  unfold evEs at po
  exact po _ _ _ Ext.refl rp .nil
theorem snd_cons {e : Expr} {es : List Expr} {ie : E} {ies : Es} (he : PE X e (LE G Ω (evE F ie))) (hr : PA X es (LA G Ω (evEs F ies))) (hs : starEach (e :: es) X.env = (false, eval e X.env) :: starEach es X.env) : PA X (e :: es) (LA G Ω (evEs F (.cons ie ies))) :=
  (pa_cons he hr hs).via fun σ H Q ⟨ρ, τ, S, rp, st, po⟩ => by
    unfold evEs at po
    refine Lf.imp (Lf.bind rp st po) fun x H1 ⟨ρ1, w, S1, _, rp1, st1, r1, po1⟩ => ?_
    refine Lf.imp (Lf.bind rp1 st1 po1) fun xs H2 ⟨ρ2, ws, S2, e2, rp2, st2, r2, po2⟩ => ?_
    exact po2 _ _ _ Ext.refl rp2 (.cons (r1.mono e2) r2)
theorem snd_tup {es : List Expr} {ies : Es} {x1} (h : PA X es (LA G Ω (evEs F ies))) : PE X (.Tuple es x1 pos) (LE G Ω (evE F (.tup ies))) :=
  (pe_tupF h).via fun σ H Q ⟨ρ, τ, S, rp, st, po⟩ => by
    unfold evE at po
    refine Lf.imp (Lf.bind rp st po) fun xs H1 ⟨ρ1, ws, S1, _, rp1, st1, r1, po1⟩ => ?_
    split at po1
    · exact ⟨by rw [← r1.length]; exact lim_line (by assumption), po1.newF rp1 r1⟩
    · exact po1.elim
theorem snd_tpp {es : List Expr} {ies : Es} {x1} (h : PA X es (LA G Ω (evEs F ies))) : PE X (.Tuple es x1 pos) (LE G Ω (evE F (.tpp ies))) :=
  (pe_tup h).via fun σ H Q ⟨ρ, τ, S, rp, st, po⟩ => by
    unfold evE at po
    refine Lf.imp (Lf.bind rp st po) fun xs H1 ⟨ρ1, ws, S1, _, rp1, st1, r1, po1⟩ => ?_
    split at po1
    · exact ⟨by rw [← r1.length]; exact lim_line (by assumption), fun p hp => po1.newT rp1 r1 hp⟩
    · exact po1.elim
theorem snd_lst {es : List Expr} {ies : Es} (h : PA X es (LA G Ω (evEs F ies))) : PE X (.List es pos) (LE G Ω (evE F (.lst ies))) :=
  (pe_lst h).via fun σ H Q ⟨ρ, τ, S, rp, st, po⟩ => by
    unfold evE at po
    refine Lf.imp (Lf.bind rp st po) fun xs H1 ⟨ρ1, ws, S1, _, rp1, st1, r1, po1⟩ => ?_
    split at po1
    · exact ⟨by rw [← r1.length]; exact lim_line (by assumption), fun p hp => po1.newL rp1 r1 hp⟩
    · exact po1.elim
/-! ### comparisons as tests -/
theorem snd_cmpT {o : CmpOp} {a b : Expr} {ea eb : E} (ha : PE X a (LE G Ω (evE F ea))) (hb : PE X b (LE G Ω (evE F eb))) (hm : behindInMarks o b = false) : PT X (.Compare a [o] [b] pos) (LT G Ω (evT F (.val (.cmp o ea eb)))) := by
  refine (pt_cmpR (r := fun x y H Q => ∃ ρ S w z k, Rp G ρ H S ∧ R G ρ H w x ∧ R G ρ H z y ∧ cmpW S o w z = some k ∧ Q (.bl k) H) ?_ ha hb hm).via fun σ H Q ⟨ρ, τ, S, rp, st, po⟩ => ?_
  · intro pins s σ H x y v u Q I r1 r2 ⟨ρ, S, w, z, k, rp, ra, rb, e, q⟩
    exact cmpW_snd o g.units g.K I r1 r2 rp ra rb e q
  · unfold evT at po
    obtain ⟨ρ', τ', S', rp', st', po'⟩ := Lf.bind (rel2 := R G) rp st po
    unfold evE at po'
    refine Lf.imp (Lf.bind rp' st' po') fun x H1 ⟨ρ1, w, S1, _, rp1, st1, r1, po1⟩ => ?_
    refine Lf.imp (Lf.bind rp1 st1 po1) fun y H2 ⟨ρ2, z, S2, e2, rp2, _, r2, po2⟩ => ?_
    obtain ⟨u, h1, h2⟩ := po2.of
    obtain ⟨k, h3, rfl⟩ := Option.map_eq_some_iff.mp h1
    refine ⟨ρ2, S2, w, z, k, rp2, r1.mono e2, r2, h3, k, rfl, ?_⟩
    obtain ⟨ρ3, w3, S3, _, rp3, _, r3, po3⟩ := h2.here rp2 .bl
    cases r3
    exact po3 _ _ _ Ext.refl rp3 rfl
theorem snd_chnT {o o' : CmpOp} {a b c : Expr} {ea eb ec : E} (ha : PE X a (LE G Ω (evE F ea))) (hb : PE X b (LE G Ω (evE F eb))) (hc : PE X c (LE G Ω (evE F ec))) (hm : lastMarks [o, o'] [b, c] = false) :
    PT X (.Compare a [o, o'] [b, c] pos) (LT G Ω (evT F (.val (.chn o o' ea eb ec)))) := by
  have ok : ∀ p : CmpOp, OpR X (compareOp p) (fun x y H Q => ∃ ρ S w z k, Rp G ρ H S ∧ R G ρ H w x ∧ R G ρ H z y ∧ cmpW S p w z = some k ∧ Q (.bl k) H) :=
    fun p pins s σ H x y v u Q I r1 r2 ⟨ρ, S, w, z, k, rp, ra, rb, e, q⟩ => cmpW_snd p g.units g.K I r1 r2 rp ra rb e q
  refine (pt_chain (ok o) (ok o') ha hb hc hm).via fun σ H Q ⟨ρ, τ, S, rp, st, po⟩ => ?_
  unfold evT at po
  obtain ⟨ρ', τ', S', rp', st', po'⟩ := Lf.bind (rel2 := R G) rp st po
  unfold evE at po'
  have fin : ∀ {ρ2 : List Addr} {H2 : Hp} {S2 : Store} {k : Bool}, Rp G ρ2 H2 S2 → Post G (R G) (WE Ω σ) ρ2 H2 (fun y H1 => ∃ ρ1 w S1, Ext G ρ H ρ1 H1 ∧ Rp G ρ1 H1 S1 ∧ RSt G ρ1 H1 τ σ ∧ R G ρ1 H1 w y ∧ Post G bq (WE Ω σ) ρ1 H1 Q (Res.of (truW S1 w) S1)) (.ok (.bl k) S2) → ∃ k', V.bl k = .bl k' ∧ Q k' H2 := fun {ρ2 H2 S2 k} rp2 h2 => by
    obtain ⟨ρ3, w3, S3, _, rp3, _, r3, po3⟩ := h2.here rp2 .bl
    cases r3
    exact ⟨k, rfl, po3 _ _ _ Ext.refl rp3 rfl⟩
  refine Lf.imp (Lf.bind rp' st' po') fun x H1 ⟨ρ1, w, S1, _, rp1, st1, r1, po1⟩ => ?_
  refine Lf.imp (Lf.bind rp1 st1 po1) fun y H2 ⟨ρ2, z, S2, e2, rp2, st2, r2, po2⟩ => ?_
  split at po2
  · rename_i hk
    refine ⟨ρ2, S2, w, z, true, rp2, r1.mono e2, r2, hk, true, rfl, ?_⟩
    rw [if_pos rfl]
    refine Lf.imp (Lf.bind rp2 st2 po2) fun y3 H3 ⟨ρ3, z3, S3, e3, rp3, _, r3, po3⟩ => ?_
    obtain ⟨u, h1, h2⟩ := po3.of
    obtain ⟨k, h3, rfl⟩ := Option.map_eq_some_iff.mp h1
    exact ⟨ρ3, S3, z, z3, k, rp3, r2.mono e3, r3, h3, fin rp3 h2⟩
  · rename_i hk
    refine ⟨ρ2, S2, w, z, false, rp2, r1.mono e2, r2, hk, false, rfl, ?_⟩
    rw [if_neg (by decide)]
    exact fin rp2 po2
  · exact po2.elim
/-- not a, as a value -/
theorem snd_notV {a : Expr} {ea : E} (ha : PE X a (LE G Ω (evE F ea))) : PE X (.UnaryOp .Not a pos) (LE G Ω (evE F (.tst (.not (.val ea))))) := by
  refine ⟨fun pins s σ H Q I ⟨ρ, τ, S, rp, st, po⟩ => ?_⟩
  unfold evE evT evT at po
  have p3 := ((po.bind (rel2 := bq)).bind (rel2 := bq)).bind (rel2 := R G)
  refine UnaryOp_ (thn (ha.run pins s σ H _ I ⟨ρ, τ, S, rp, st, p3⟩) fun v s1 ⟨x, H1, I1, r1, ρ1, w, S1, _, rp1, r2, po1⟩ => ?_)
  obtain ⟨k, h1, h2⟩ := po1.of
  obtain ⟨ρ3, k3, S3, e3, rp3, r3, p3⟩ := h2 _ _ _ Ext.refl rp1 rfl
  cases r3
  obtain ⟨ρ4, k4, S4, e4, rp4, r4, p4⟩ := p3 _ _ _ Ext.refl rp3 rfl
  cases r4
  exact not_of (thn (truW_snd (Q := fun k' H' => k' = k ∧ H' = H1) g.K I1 r1 rp1 r2 h1 ⟨rfl, rfl⟩) fun b s2 ⟨H2, I2, eb, eh⟩ => by
    subst eb; subst eh
    exact ⟨.bl _, _, I2, rfl, p4.here rp4 .bl⟩)
end
end Rf

set_option Elab.async false
set_option maxRecDepth 100000
/-! RfSnd2: places, slices, ranges, calls, attributes. -/
namespace Rf
open PySem PySem.Spec PyProof.Rows L2
theorem Res.bind_assoc {α β γ : Type} (r : Res α) (f : α → Store → Res β) (k : β → Store → Res γ) : (r.bind f).bind k = r.bind fun a S => (f a S).bind k := by cases r <;> rfl
theorem Res.ok_bind {α β : Type} (a : α) (S : Store) (k : α → Store → Res β) : (Res.ok a S).bind k = k a S := rfl
/-- no star, nothing that is read otherwise -/
def plainE : Expr → Bool
  | .Starred _ _ => false
  | _ => true
theorem star_plain {e : Expr} {es : List Expr} {env : Env} (h : plainE e = true) : starEach (e :: es) env = (false, eval e env) :: starEach es env := by
  cases e <;> first | rfl | cases h
theorem stars_plain : ∀ {es : List Expr} {env : Env} {pos : Pos}, es.all plainE = true → (backTo pos (starEach es env)).any (·.1) = false
  | [], _, _, _ => rfl
  | e :: es, env, pos, h => by
    rw [List.all_cons, Bool.and_eq_true] at h
    rw [star_plain h.1]
    show (false || (backTo pos (starEach es env)).any (·.1)) = false
    rw [stars_plain h.2]; rfl
theorem stars_len : ∀ {es : List Expr} {env : Env} {pos : Pos}, es.all plainE = true → (backTo pos (starEach es env)).all (fun x => !x.1) = true
  | [], _, _, _ => rfl
  | e :: es, env, pos, h => by
    rw [List.all_cons, Bool.and_eq_true] at h
    rw [star_plain h.1]
    show ((!false) && (backTo pos (starEach es env)).all (fun x => !x.1)) = true
    rw [stars_len h.2]; rfl
def Es.len : Es → Nat
  | .nil => 0
  | .cons _ r => r.len + 1
theorem evEs_len {F : Ora} : ∀ {ies : Es} {τ : Tau} {S S1 : Store} {ws : List W}, evEs F ies τ S = .ok ws S1 → ws.length = ies.len
  | .nil, τ, S, S1, ws, h => by unfold evEs at h; cases h; rfl
  | .cons e r, τ, S, S1, ws, h => by
    unfold evEs at h
    cases h1 : evE F e τ S with
    | ok x S2 =>
      rw [h1] at h
      cases h2 : evEs F r τ S2 with
      | ok xs S3 =>
        rw [show (Res.ok x S2).bind (fun x S => (evEs F r τ S).bind fun xs S => Res.ok (x :: xs) S) = (evEs F r τ S2).bind fun xs S => Res.ok (x :: xs) S from rfl, h2] at h
        cases h
        rw [List.length_cons, evEs_len h2]; rfl
      | exc c fs S3 => rw [show (Res.ok x S2).bind (fun x S => (evEs F r τ S).bind fun xs S => Res.ok (x :: xs) S) = (evEs F r τ S2).bind fun xs S => Res.ok (x :: xs) S from rfl, h2] at h; cases h
      | stuck => rw [show (Res.ok x S2).bind (fun x S => (evEs F r τ S).bind fun xs S => Res.ok (x :: xs) S) = (evEs F r τ S2).bind fun xs S => Res.ok (x :: xs) S from rfl, h2] at h; cases h
    | exc c fs S2 => rw [h1] at h; cases h
    | stuck => rw [h1] at h; cases h
theorem biV_kind (b : B) : (∃ id, biV b = .builtin id) ∨ ∃ T, biV b = .type T := by
  cases b <;> first
    | exact .inl ⟨_, rfl⟩
    | exact .inr ⟨_, rfl⟩
/-- a def that is called with n arguments -/
def spI (G : GC) (d : List W → Store → Res W) (np : Nat) : Sp := fun vs H Q E => vs.length = np ∧ ∃ ρ S ws, Rp G ρ H S ∧ Rs G ρ H ws vs ∧ Post G (R G) E ρ H Q (d ws S)
structure CallOk (G : GC) (X : Cx) (d : List W → Store → Res W) (f : Addr) (n : Nat) : Prop where
  ex : (∀ ws S, ws.length = n → d ws S = .stuck) ∨ ∃ (lv : Nat) (fd : FuncData) (ps : List Str) (ds : List Value) (dvs : List V) (dws : List W),
    FnOk X.prog X.w X.K X.mg X.base (L2.CX X.prog X.w) lv f fd ps (spI G d ps.length) ∧ Room (lv + 1) X.A ∧ Binds X.K fd ps ds ∧ Vals dvs ds ∧ (∀ ρ H, Rs G ρ H dws dvs) ∧ n + dvs.length = ps.length ∧ ∀ ws S, ws.length = n → d (ws ++ dws) S = d ws S
section
variable {G : GC} {X : Cx} {Ω : WX} (g : GX G Ω X) {F : Ora} {pos : Pos}
include g
theorem CallOk.run {d : List W → Store → Res W} {f : Addr} {n : Nat} (c : CallOk G X d f n) {pins : List (Addr × Obj)} {σ : L2.St} {H : Hp} {s : Shared} {Q : VK} {us : List Value} {vs : List V} {ρ : List Addr} {S : Store} {ws : List W} (I : Inv X pins σ H s) (r : Vals vs us)
    (rp : Rp G ρ H S) (rs : Rs G ρ H ws vs) (hn : ws.length = n) (po : Post G (R G) (WE Ω σ) ρ H Q (d ws S)) : wpAny (model X.prog X.w) X.A (call (.ref f) us) (EP X pins σ Q) X.xe s := by
  rcases c.ex with st | ⟨lv, fd, ps, ds, dvs, dws, F1, hr, hb, hd, hw, hl, hdef⟩
  · rw [st ws S hn] at po; exact po.elim
  refine run_fnSD (E := WE Ω) F1 (hr.mono (Nat.le_succ _)) hb hd (passAt g.tk σ) I r ⟨by rw [List.length_append, ← rs.length, hn]; exact hl, ρ, S, ws ++ dws, rp, rs.app (hw _ _), ?_⟩
  rw [hdef ws S hn]
  exact po
/-! ### places -/
theorem snd_ix {a b : Expr} {ea eb : E} (ha : PE X a (LE G Ω (evE F ea))) (hb : PE X b (LE G Ω (evE F eb))) (h1 : PlainIx b) : PE X (.Subscript a b pos) (LE G Ω (evE F (.ix ea eb))) := by
  refine (pe_ix (r := fun x y H Q => ∃ ρ S w z c, Rp G ρ H S ∧ R G ρ H w x ∧ R G ρ H z y ∧ ixW S w z = some c ∧ ∀ v, R G ρ H c v → Q v H) ?_ ha hb h1).via fun σ H Q ⟨ρ, τ, S, rp, st, po⟩ => ?_
  · intro value slice pins s σ H x y v u Q I r1 r2 ⟨ρ, S, w, z, c, rp, ra, rb, e, q⟩ hs
    exact ixW_snd (by have := g.units; omega) g.K I r1 r2 rp ra rb e q hs
  · unfold evE at po
    refine Lf.imp (Lf.bind rp st po) fun x H1 ⟨ρ1, w, S1, _, rp1, st1, r1, po1⟩ => ?_
    refine Lf.imp (Lf.bind rp1 st1 po1) fun y H2 ⟨ρ2, z, S2, e2, rp2, _, r2, po2⟩ => ?_
    obtain ⟨c, h1, h2⟩ := po2.of
    exact ⟨ρ2, S2, w, z, c, rp2, r1.mono e2, r2, h1, fun v rv => h2.here rp2 rv⟩
theorem snd_po0 : PO X none (Lf G Ω oq (evP F .nil)) := ⟨fun pins s σ H Q I ⟨ρ, τ, S, rp, st, po⟩ => by
  unfold evP at po
  exact po_none.run pins s σ H Q I (po _ _ _ Ext.refl rp rfl)⟩
theorem snd_po1 {e : Expr} {ir : E} (h : PE X e (LE G Ω (evE F ir))) : PO X (some e) (Lf G Ω oq (evP F (.cons ir .nil))) := ⟨fun pins s σ H Q I ⟨ρ, τ, S, rp, st, po⟩ => by
  unfold evP at po
  refine (po_some h).run pins s σ H Q I (Lf.imp (Lf.bind rp st po) fun x H1 ⟨ρ1, w, S1, _, rp1, st1, r1, po1⟩ => ?_)
  split at po1
  · cases r1
    exact ⟨_, rfl, po1 _ _ _ Ext.refl rp1 rfl⟩
  · exact po1.elim⟩
theorem snd_sl {a : Expr} {lo hi : Option Expr} {ea : E} {il ih : Es} {p2 : Pos} (ha : PE X a (LE G Ω (evE F ea))) (hl : PO X lo (Lf G Ω oq (evP F il))) (hh : PO X hi (Lf G Ω oq (evP F ih))) : PE X (.Subscript a (.Slice lo hi none p2) pos) (LE G Ω (evE F (.sl ea il ih))) := by
  refine (pe_slice (SlR.or sl_tupF sl_list) ha hl hh).via fun σ H Q ⟨ρ, τ, S, rp, st, po⟩ => ?_
  unfold evE at po
  refine Lf.imp (Lf.bind rp st po) fun x H1 ⟨ρ1, w, S1, _, rp1, st1, r1, po1⟩ => ?_
  refine Lf.imp (Lf.bind rp1 st1 po1) fun l H2 ⟨ρ2, l', S2, e2, rp2, st2, r2, po2⟩ => ?_
  refine Lf.imp (Lf.bind rp2 st2 po2) fun h H3 ⟨ρ3, h', S3, e3, rp3, st3, r3, po3⟩ => ?_
  cases r2; cases r3
  exact slW_snd g.K rp3 ((r1.mono e2).mono e3) po3
theorem snd_rev {e : Expr} {ir : E} {k : Nat} {p1 p2 p3 : Pos} (he : PE X e (LE G Ω (evE F ir))) : PE X (.Subscript e (.Slice none none (some (.UnaryOp .USub (.Constant (.int 1) k p1) p2)) p3) pos) (LE G Ω (evE F (.rev ir))) := by
  refine ⟨fun pins s σ H Q I ⟨ρ, τ, S, rp, st, po⟩ => ?_⟩
  unfold evE at po
  cases hd : evE F ir τ S with
  | stuck => rw [hd] at po; exact po.elim
  | exc c fs S1 =>
    rw [hd] at po
    refine (pe_revL he).run pins s σ H Q I ⟨ρ, τ, S, rp, st, ?_⟩
    rw [hd]
    exact po
  | ok w S1 =>
    rw [hd] at po
    change Post G (R G) (WE Ω σ) ρ H Q (revW S1 w) at po
    have tup : ∀ {xs : List W}, tupOf w = some xs → revW S1 w = .ok (.tpl xs.reverse) S1 → wpAny (model X.prog X.w) X.A (eval (.Subscript e (.Slice none none (some (.UnaryOp .USub (.Constant (.int 1) k p1) p2)) p3) pos) X.env) (EP X pins σ Q) X.xe s := fun {xs} hw hr => by
      rw [hr] at po
      refine (pe_revT he).run pins s σ H Q I ⟨ρ, τ, S, rp, st, ?_⟩
      rw [hd]
      intro ρ1 H1 x e1 rp1 r1
      obtain ⟨a, vs, rfl, h1, h2⟩ := r1.seqT (K := X.K) hw
      exact ⟨a, vs, rfl, h1, (po.from e1).newF rp1 h2.rev⟩
    cases w with
    | tup xs => exact tup rfl rfl
    | tpl xs => exact tup rfl rfl
    | loc l =>
      refine (pe_revL he).run pins s σ H Q I ⟨ρ, τ, S, rp, st, ?_⟩
      rw [hd]
      intro ρ1 H1 x e1 rp1 r1
      have po1 := po.from e1
      unfold revW at po1
      dsimp only at po1
      split at po1
      · obtain ⟨a, vs, rfl, _, h1, h2⟩ := rp1.lst r1 (by assumption)
        exact ⟨a, vs, rfl, SqL.of h1, fun p hp => po1.newL rp1 h2.rev hp⟩
      · exact po1.elim
    | _ => exact po.elim
/-! ### ranges -/
omit g in
theorem rg_small {i j : Int} {ws : List W} (h : rgOf ws = some (i, j)) : -1000000 ≤ i ∧ i ≤ 1000000 ∧ -1000000 ≤ j ∧ j ≤ 1000000 := by
  unfold rgOf at h
  split at h
  · split at h
    · cases h; omega
    · cases h
  · split at h
    · cases h; omega
    · cases h
  · cases h
omit g in
theorem rgW_rel (i j : Int) {ρ : List Addr} {H : Hp} : Rs G ρ H (rgW i j) (rgV i j) := by
  unfold rgW rgV
  induction List.range (j - i).toNat with
  | nil => exact .nil
  | cons a l ih => exact .cons .int ih
/-- tuple(range(..)), its object known -/
theorem pe_tupRgF (hc : X.calm = true) {e : Expr} {te : L2.St → Hp → (Int → Int → Hp → Prop) → Prop} {p : Pos} (hg : Gl X "tuple") (hm : X.mg "tuple" = none) (he : PRg X e te) (na : starEach [e] X.env = (false, eval e X.env) :: starEach [] X.env) :
    PE X (.Call (.Name "tuple" p) [e] [] pos) (fun σ H Q => te σ H fun a b H1 => RgOk a b ∧ NewF H1 Q (rgV a b)) := by
  refine ⟨fun pins s σ H Q I h => Call_ (ld_blt I hg hm boot_tuple (PyProof.Rows.callWith_type1 (args_cons (thn (he pins s σ H _ I h) fun x s1 ⟨r, a, b, t, u, v, H1, ex, hr, I1, ok, q⟩ => args_nil ?_) na) na))⟩
  subst ex
  obtain ⟨b1, b2, b3, b4, b5⟩ := ok
  refine call_tuple_range (n := (b - a).toNat) (I1.ok.hd hc) hr (small_one b1 b2 b3 b4) (rangeSize_nat a b) b5 fun h' tk acc hk hi => ?_
  have fin := laidF (s := { s1 with heap := h', toks := tk }) (I1.kept hk) (vals_rg hi) (by rw [rgV_length, sizeLine_eq]; omega) q
  rw [Array.toArray_toList] at fin
  exact fin
omit g in
theorem rg1_read {ea : E} {d : Int → Int → Store → Res W} {σ : L2.St} {H : Hp} {Q : VK} {ρ : List Addr} {τ : Tau} {S : Store} (rp : Rp G ρ H S) (st : RSt G ρ H τ σ)
    (po : Post G (R G) (WE Ω σ) ρ H Q ((evEs F (.cons ea .nil) τ S).bind fun ws S => match rgOf ws with | some (i, j) => d i j S | none => .stuck)) :
    tRg1 (LE G Ω (evE F ea)) σ H fun i j H1 => RgOk i j ∧ ∃ ρ1 S1, Rp G ρ1 H1 S1 ∧ Post G (R G) (WE Ω σ) ρ1 H1 Q (d i j S1) := by
  unfold evEs at po
  rw [Res.bind_assoc] at po
  refine Lf.imp (Lf.bind rp st po) fun x H1 ⟨ρ1, w, S1, e1, rp1, st1, r1, po1⟩ => ?_
  unfold evEs at po1
  rw [Res.ok_bind, Res.ok_bind] at po1
  split at po1
  · rename_i i j he
    obtain ⟨k1, k2, k3, k4⟩ := rg_small he
    unfold rgOf at he
    split at he
    · rename_i n hw
      cases hw
      cases r1
      split at he
      · cases he
        exact ⟨_, rfl, ⟨by omega, by omega, by omega, by omega, by omega⟩, ρ1, S1, rp1, po1⟩
      · cases he
    · rename_i hw; cases hw
    · cases he
  · exact po1.elim
omit g in
theorem rg2_read {ea eb : E} {d : Int → Int → Store → Res W} {σ : L2.St} {H : Hp} {Q : VK} {ρ : List Addr} {τ : Tau} {S : Store} (rp : Rp G ρ H S) (st : RSt G ρ H τ σ)
    (po : Post G (R G) (WE Ω σ) ρ H Q ((evEs F (.cons ea (.cons eb .nil)) τ S).bind fun ws S => match rgOf ws with | some (i, j) => d i j S | none => .stuck)) :
    tRg2 (LE G Ω (evE F ea)) (LE G Ω (evE F eb)) σ H fun i j H1 => RgOk i j ∧ ∃ ρ1 S1, Rp G ρ1 H1 S1 ∧ Post G (R G) (WE Ω σ) ρ1 H1 Q (d i j S1) := by
  unfold evEs at po
  rw [Res.bind_assoc] at po
  refine Lf.imp (Lf.bind rp st po) fun x H1 ⟨ρ1, w, S1, e1, rp1, st1, r1, po1⟩ => ?_
  unfold evEs at po1
  rw [Res.bind_assoc, Res.bind_assoc] at po1
  refine Lf.imp (Lf.bind rp1 st1 po1) fun y H2 ⟨ρ2, z, S2, e2, rp2, st2, r2, po2⟩ => ?_
  unfold evEs at po2
  rw [Res.ok_bind, Res.ok_bind, Res.ok_bind] at po2
  split at po2
  · rename_i i j he
    obtain ⟨k1, k2, k3, k4⟩ := rg_small he
    unfold rgOf at he
    split at he
    · rename_i n hw
      cases hw
    · rename_i hw
      cases hw
      cases r1; cases r2
      split at he
      · cases he
        exact ⟨_, _, rfl, rfl, ⟨by omega, by omega, by omega, by omega, by omega⟩, ρ2, S2, rp2, po2⟩
      · cases he
    · cases he
  · exact po2.elim
section
variable {a b : Expr} {ea eb : E} {p p' pos' : Pos} (hc : X.calm = true) (hgr : Gl X "range") (hmr : X.mg "range" = none)
include hc hgr hmr
theorem snd_lrg1 (hg : Gl X "list") (hm : X.mg "list" = none) (ha : PE X a (LE G Ω (evE F ea))) (hp : plainE a = true) : PE X (.Call (.Name "list" p) [.Call (.Name "range" p') [a] [] pos'] [] pos) (LE G Ω (evE F (.rg false (.cons ea .nil)))) :=
  (pe_listRg hc hg hm (prg_1 hgr hmr ha (star_plain hp))).via fun σ H Q ⟨ρ, τ, S, rp, st, po⟩ => by
    unfold evE at po
    refine Lf.imp (rg1_read (d := fun i j S => .ok (.loc S.n) (S.push (.lst (rgW i j)))) rp st po) fun x H1 ⟨i, e, k, ρ1, S1, rp1, po1⟩ => ⟨i, e, k, fun q hq => po1.newL rp1 (rgW_rel _ _) hq⟩
theorem snd_trg1 (hg : Gl X "tuple") (hm : X.mg "tuple" = none) (ha : PE X a (LE G Ω (evE F ea))) (hp : plainE a = true) : PE X (.Call (.Name "tuple" p) [.Call (.Name "range" p') [a] [] pos'] [] pos) (LE G Ω (evE F (.rg true (.cons ea .nil)))) :=
  (pe_tupRgF g hc hg hm (prg_1 hgr hmr ha (star_plain hp)) rfl).via fun σ H Q ⟨ρ, τ, S, rp, st, po⟩ => by
    unfold evE at po
    refine Lf.imp (rg1_read (d := fun i j S => .ok (.tpl (rgW i j)) S) rp st po) fun x H1 ⟨i, e, k, ρ1, S1, rp1, po1⟩ => ⟨i, e, k, po1.newF rp1 (rgW_rel _ _)⟩
theorem snd_lrg2 (hg : Gl X "list") (hm : X.mg "list" = none) (ha : PE X a (LE G Ω (evE F ea))) (hb : PE X b (LE G Ω (evE F eb))) (hp : plainE a = true) (hp2 : plainE b = true) : PE X (.Call (.Name "list" p) [.Call (.Name "range" p') [a, b] [] pos'] [] pos) (LE G Ω (evE F (.rg false (.cons ea (.cons eb .nil))))) :=
  (pe_listRg hc hg hm (prg_2 hgr hmr ha hb (star_plain hp) (star_plain hp2) (stars_plain (by simp [hp2])))).via fun σ H Q ⟨ρ, τ, S, rp, st, po⟩ => by
    unfold evE at po
    refine Lf.imp (rg2_read (d := fun i j S => .ok (.loc S.n) (S.push (.lst (rgW i j)))) rp st po) fun x H1 h1 => Lf.imp h1 fun y H2 ⟨i, j, e, e', k, ρ1, S1, rp1, po1⟩ => ⟨i, j, e, e', k, fun q hq => po1.newL rp1 (rgW_rel _ _) hq⟩
theorem snd_trg2 (hg : Gl X "tuple") (hm : X.mg "tuple" = none) (ha : PE X a (LE G Ω (evE F ea))) (hb : PE X b (LE G Ω (evE F eb))) (hp : plainE a = true) (hp2 : plainE b = true) : PE X (.Call (.Name "tuple" p) [.Call (.Name "range" p') [a, b] [] pos'] [] pos) (LE G Ω (evE F (.rg true (.cons ea (.cons eb .nil))))) :=
  (pe_tupRgF g hc hg hm (prg_2 hgr hmr ha hb (star_plain hp) (star_plain hp2) (stars_plain (by simp [hp2]))) rfl).via fun σ H Q ⟨ρ, τ, S, rp, st, po⟩ => by
    unfold evE at po
    refine Lf.imp (rg2_read (d := fun i j S => .ok (.tpl (rgW i j)) S) rp st po) fun x H1 h1 => Lf.imp h1 fun y H2 ⟨i, j, e, e', k, ρ1, S1, rp1, po1⟩ => ⟨i, j, e, e', k, po1.newF rp1 (rgW_rel _ _)⟩
end
/-! ### calls -/
section
variable {x : Str} {p : Pos} {es : List Expr} {ies : Es} (hp : es.all plainE = true) (hl : es.length = ies.len) (ha : PA X es (LA G Ω (evEs F ies)))
include hp hl ha
theorem snd_call {k : Nat} {f : Addr} (hg : Gl X x) (hdb : (x == ("__debug__" : Str)) = false) (hm : X.mg x = some (.ref f)) (hk : PySem.W.keepIn X.K (.ref f) = true) (c : CallOk G X (F.call k) f es.length) : PE X (.Call (.Name x p) es [] pos) (LE G Ω (evE F (.call k ies []))) := by
  refine ⟨fun pins s σ H Q I ⟨ρ, τ, S, rp, st, po⟩ => ?_⟩
  refine wpAny_Call_Name_kw (ld_glob I hg hm ?_ hdb)
  unfold evE at po
  cases es with
  | nil =>
    cases ies with
    | cons _ _ => cases hl
    | nil =>
      unfold evEs at po
      exact PySem.W.callWith_K0 I.kIn hk (c.run g I .nil rp .nil rfl po)
  | cons e es =>
    rw [List.all_cons, Bool.and_eq_true] at hp
    refine PySem.W.callWith_K (h₀ := X.base) I.ok.mod.kin hk (thn (ha.run pos pins s σ H _ I (Lf.bindE rp st po)) fun us s1 ⟨vs, H1, I1, r, ρ1, ws, S1, e1, _, rp1, _, r1, po1⟩ => ⟨I1.kIn, ?_⟩) (star_plain hp.1) (stars_plain hp.2)
    exact c.run g I1 r rp1 r1 ((evEs_len e1).trans hl.symm) po1
theorem snd_bi {b : B} (hne : es ≠ []) (hg : Gl X x) (hdb : (x == ("__debug__" : Str)) = false) (hm : X.mg x = none) (hv : bootBuiltins x = some (biV b)) (hn : x ≠ "__name__") (hh : bcalm b = true → X.calm = true) : PE X (.Call (.Name x p) es [] pos) (LE G Ω (evE F (.bi b ies))) := by
  refine ⟨fun pins s σ H Q I ⟨ρ, τ, S, rp, st, po⟩ => ?_⟩
  refine wpAny_Call_Name_kw (ld_blt I hg hm hv ?_ hn hdb)
  unfold evE at po
  cases es with
  | nil => exact absurd rfl hne
  | cons e es =>
    rw [List.all_cons, Bool.and_eq_true] at hp
    have hf := biV_kind b
    have run := thn (ha.run pos pins s σ H _ I (Lf.bindE rp st po)) fun us s1 ⟨vs, H1, I1, r, ρ1, ws, S1, e1, _, rp1, _, r1, po1⟩ => biW_snd b (fun z => ⟨hh z, I1.ok.hd (hh z)⟩) g.K g.w I1 r rp1 r1 po1
    generalize biV b = f at run hf
    rcases hf with ⟨id, rfl⟩ | ⟨T, rfl⟩
    · exact PyProof.Rows.callWith_builtin1 run (star_plain hp.1) (stars_plain hp.2)
    · exact PyProof.Rows.callWith_type1 run (star_plain hp.1) (stars_plain hp.2)
theorem snd_mk {c : Nat} {f : Addr} (hg : Gl X x) (hdb : (x == ("__debug__" : Str)) = false) (hm : X.mg x = some (.ref (G.cadr c))) (M : Mk X.K (G.cadr c) f) (cl : CallOk G X (F.init c) f (es.length + 1)) : PE X (.Call (.Name x p) es [] pos) (LE G Ω (evE F (.mk c ies))) := by
  have mk : ∀ {pins : List (Addr × Obj)} {s : Shared} {σ : L2.St} {H : Hp} {Q : VK} {us : List Value} {vs : List V} {ρ : List Addr} {S : Store} {ws : List W}, Inv X pins σ H s → Vals vs us → Rp G ρ H S → Rs G ρ H ws vs → ws.length = es.length →
      Post G (R G) (WE Ω σ) ρ H Q ((F.init c (.loc S.n :: ws) (S.push (.ins c []))).noX.bind fun w S' => match w with | .non => .ok (.loc S.n) S' | _ => .stuck) → wpAny (model X.prog X.w) X.A (call (.ref (G.cadr c)) us) (EP X pins σ Q) X.xe s := by
    intro pins s σ H Q us vs ρ S ws I r rp rs hn po
    rcases cl.ex with st | ⟨lv, fd, ps, ds, dvs, dws, F1, hr, hb, hd, hw, hl', hdef⟩
    · rw [st _ _ (by rw [List.length_cons, hn])] at po; exact po.elim
    refine run_make M F1 hr hb hd (E := E0) (fun _ _ _ _ _ _ _ z => by obtain ⟨_, _, _, _, _, _, _, _, _, _, _, _, z⟩ := z; exact z.elim) I r fun x dx hx hdx hne => ⟨?_, ?_⟩
    · rw [List.length_cons, List.length_append, ← rs.length, hn]; omega
    have rp1 := rp.aside (o := .own x) hdx
    have hx1 : upd H dx (.own x) x = none := by rw [upd_ne (Ne.symm hne)]; exact hx
    have e1 := Ext.aside (G := G) (o := HO.own x) rp hdx
    have e2 := Ext.push (G := G) (o := HO.ins (G.cadr c) dx []) rp1 hx1
    refine ⟨ρ ++ [x], S.push (.ins c []), .loc S.n :: (ws ++ dws), Rp.push rp1 hx1 ⟨dx, [], upd_same, .nil⟩, .cons (.loc rp1.push_at) (((rs.mono e1).mono e2).app (hw _ _)), ?_⟩
    have hd2 : F.init c (.loc S.n :: (ws ++ dws)) (S.push (.ins c [])) = F.init c (.loc S.n :: ws) (S.push (.ins c [])) := hdef (.loc S.n :: ws) _ (by rw [List.length_cons, hn])
    rw [hd2]
    refine ((po.from (e1.trans e2)).bind (rel2 := R G)).noX.imp fun v H2 ⟨ρ3, w, S3, e3, rp3, r3, po3⟩ => ?_
    split at po3
    · cases r3
      exact ⟨rfl, po3.here rp3 (.loc (e3.pre _ _ rp1.push_at))⟩
    · exact po3.elim
  refine ⟨fun pins s σ H Q I ⟨ρ, τ, S, rp, st, po⟩ => ?_⟩
  refine wpAny_Call_Name_kw (ld_glob I hg hm ?_ hdb)
  unfold evE at po
  cases es with
  | nil =>
    cases ies with
    | cons _ _ => cases hl
    | nil =>
      unfold evEs at po
      exact PySem.W.callWith_K0 I.kIn M.kp (mk I .nil rp .nil rfl po)
  | cons e es =>
    rw [List.all_cons, Bool.and_eq_true] at hp
    refine PySem.W.callWith_K (h₀ := X.base) I.ok.mod.kin M.kp (thn (ha.run pos pins s σ H _ I (Lf.bindE rp st po)) fun us s1 ⟨vs, H1, I1, r, ρ1, ws, S1, e1, _, rp1, _, r1, po1⟩ => ⟨I1.kIn, ?_⟩) (star_plain hp.1) (stars_plain hp.2)
    exact mk I1 r rp1 r1 ((evEs_len e1).trans hl.symm) po1
end
/-! ### methods of built-in things -/
/-- what stands ahead of a dot -/
def plainO : Expr → Bool
  | .Call _ _ _ _ => false
  | _ => true
omit g in
theorem base_plain {o : Expr} {n : Str} {env : Env} (h : plainO o = true) : attributeBase o n env (eval o env) = eval o env := by
  cases o <;> first | rfl | cases h
theorem snd_bm {m : M} {o : Expr} {es : List Expr} {eo : E} {ies : Es} {apos cpos : Pos} (ho : PE X o (LE G Ω (evE F eo))) (ha : PA X es (LA G Ω (evEs F ies))) (hp : es.all plainE = true) (hpo : plainO o = true) (hl : es.length = ies.len) (hfew : es.length < 20) (hline : (apos.endLine == cpos.line) = true) :
    PE X (.Call (.Attribute o (mNm m) apos) es [] cpos) (LE G Ω (evE F (.bm m eo ies))) := by
  have hu := g.units
  refine ⟨fun pins s σ H Q I ⟨ρ, τ, S, rp, st, po⟩ => ?_⟩
  unfold evE at po
  have run := thn (ho.run pins s σ H _ I (Lf.bind rp st po)) fun v s1 ⟨x, H1, I1, r1, ρ1, w, S1, _, rp1, st1, rw1, po1⟩ => show MethodOn X.prog X.w X.A (mNm m) cpos v (backTo cpos (starEach es X.env)) (EP X pins σ Q) X.xe s1 from by
    split at po1
    · rename_i hk
      obtain ⟨pa, sl, ty⟩ := mFacts hk
      obtain ⟨t1, t2⟩ := mIs g.K I1 r1 rp1 rw1 hk
      refine ⟨_, _, pa, sl, ty, t1, t2, ?_⟩
      cases es with
      | nil =>
        cases ies with
        | cons _ _ => cases hl
        | nil =>
          unfold evEs at po1
          exact Calls.callWith_builtin rfl (PySem.evalArgs_none (bmW_snd m hu g.K I1 r1 .nil rp1 rw1 .nil po1))
      | cons e es =>
        rw [List.all_cons, Bool.and_eq_true] at hp
        have pa := ha.run cpos pins s1 σ H1 _ I1 (Lf.bind rp1 st1 po1)
        rw [star_plain hp.1] at pa ⊢
        refine Calls.callWith_builtin (by show (false || (backTo cpos (starEach es X.env)).any (·.1)) = false; rw [stars_plain hp.2]; rfl) (Calls.evalArgs_plain (thn pa fun us s2 ⟨vs, H2, I2, r2, ρ2, ws, S2, e2, rp2, _, rs2, po2⟩ => ?_))
        exact bmW_snd m hu g.K I2 r1 r2 rp2 (rw1.mono e2) rs2 po2
    · exact po1.elim
  refine wpAny_Call_method_late (base_plain hpo) ?_ hline rfl run
  rw [stars_len hp]
  show (true && ([] : List (Option Str × Sem Value)).all (fun x => x.1.isSome) && decide (es.length + 0 + (if ([] : List Keyword).isEmpty then 0 else 1) < 30)) = true
  simp
  omega
end
end Rf

set_option Elab.async false
set_option maxRecDepth 100000
/-! RfSnd3: own methods, attributes, new dicts. -/
namespace Rf
open PySem PySem.Spec PyProof.Rows L2
section
variable {G : GC} {X : Cx} {Ω : WX} (g : GX G Ω X) {F : Ora} {pos : Pos}
theorem RF.get {ρ : List Addr} {H : Hp} (ok : GOk G) {fs : List (Nat × W)} {vs : List (Str × V)} (h : RF G ρ H fs vs) {f : Nat} (hf : f < G.nf) {w : W} (e : fget fs f = some w) : ∃ v, vs.lookup (G.fnm f) = some v ∧ R G ρ H w v := by
  induction h with
  | nil => cases e
  | @cons k x v xs ys hk r _ ih =>
    unfold fget at e
    by_cases q : k = f
    · subst q
      rw [if_pos rfl] at e
      cases e
      exact ⟨v, by rw [List.lookup_cons_self], r⟩
    · rw [if_neg q] at e
      have ne : (G.fnm f == G.fnm k) = false := by
        rw [beq_eq_false_iff_ne]
        exact fun z => q (ok.inj _ _ hk hf z.symm)
      obtain ⟨u, h1, h2⟩ := ih e
      exact ⟨u, by rw [List.lookup_cons, ne]; exact h1, h2⟩
theorem RF.no_meth {ρ : List Addr} {H : Hp} {fs : List (Nat × W)} {vs : List (Str × V)} (h : RF G ρ H fs vs) (m : Nat) (c : Nat) (ha : (fs.all fun p => G.fok c p.1) = true) (hm : ∀ i, G.fok c i = true → G.fnm i ≠ G.mnm m) : vs.lookup (G.mnm m) = none := by
  induction h with
  | nil => rfl
  | @cons k x v xs ys hk r _ ih =>
    rw [List.all_cons, Bool.and_eq_true] at ha
    have ne : (G.mnm m == G.fnm k) = false := by
      rw [beq_eq_false_iff_ne]
      exact fun z => hm k ha.1 z.symm
    rw [List.lookup_cons, ne]
    exact ih ha.2
theorem RF.put {ρ : List Addr} {H : Hp} (ok : GOk G) {fs : List (Nat × W)} {vs : List (Str × V)} (h : RF G ρ H fs vs) {f : Nat} (hf : f < G.nf) {w : W} {v : V} (r : R G ρ H w v) : RF G ρ H (fput fs f w) (putF (G.fnm f) v vs) := by
  induction h with
  | nil => exact .cons hf r .nil
  | @cons k x u xs ys hk r0 t ih =>
    unfold fput putF
    by_cases q : k = f
    · subst q
      rw [if_pos rfl]
      simp only [beq_self_eq_true, if_true]
      exact .cons hk r t
    · rw [if_neg q]
      have ne : G.fnm k ≠ G.fnm f := fun z => q (ok.inj _ _ hk hf z)
      simp only [beq_iff_eq, ne, if_false]
      exact .cons hk r0 ih
include g
theorem snd_fld (ok : GOk G) {e : Expr} {ir : E} {f : Nat} (he : PE X e (LE G Ω (evE F ir))) (hp : plainO e = true) (hF : F.fok = G.fok) : PE X (.Attribute e (G.fnm f) pos) (LE G Ω (evE F (.fld ir f))) :=
  (pe_fld he (base_plain hp)).via fun σ H Q ⟨ρ, τ, S, rp, st, po⟩ => by
    unfold evE at po
    refine Lf.imp (Lf.bind rp st po) fun x H1 ⟨ρ1, w, S1, _, rp1, st1, r1, po1⟩ => ?_
    obtain ⟨c, h1, h2⟩ := po1.of
    unfold fldW at h1
    split at h1
    · split at h1
      · split at h1
        · rename_i hk
          rw [hF] at hk
          obtain ⟨k1, k2, k3⟩ := ok.cls _ _ hk
          obtain ⟨a, rfl, ha, dx, vs, k4, k5⟩ := rp1.cellAt r1 (by assumption)
          obtain ⟨v, k6, k7⟩ := k5.get ok k1 h1
          exact ⟨a, _, dx, vs, v, rfl, k4, by rw [g.K]; exact k2, by rw [g.K]; exact k3, k6, h2.here rp1 k7⟩
        · cases h1
      · cases h1
    · cases h1
/-- o.m(..) of an own class -/
theorem snd_om (ok : GOk G) {m : Nat} {o : Expr} {es : List Expr} {eo : E} {ies : Es} {apos cpos : Pos} {fadr : Nat → Addr} (ho : PE X o (LE G Ω (evE F eo))) (ha : PA X es (LA G Ω (evEs F ies))) (hp : es.all plainE = true) (hpo : plainO o = true) (hl : es.length = ies.len) (hfew : es.length < 20) (hline : (apos.endLine == cpos.line) = true)
    (hF : F.fok = G.fok)
    (hm : ∀ c f, F.meth c m = some f → Cls X.K (G.cadr c) ∧ Meth X.K (G.cadr c) (G.mnm m) (fadr f) ∧ (∀ i, G.fok c i = true → G.fnm i ≠ G.mnm m) ∧ CallOk G X (F.call f) (fadr f) (es.length + 1)) :
    PE X (.Call (.Attribute o (G.mnm m) apos) es [] cpos) (LE G Ω (evE F (.om m eo ies))) := by
  refine ⟨fun pins s σ H Q I ⟨ρ, τ, S, rp, st, po⟩ => ?_⟩
  unfold evE at po
  rw [arm_eval_Call, base_plain hpo]
  have hform : methodCallForm (es.length + ([] : List Keyword).length) (backTo cpos (starEach es X.env)) (backToKw cpos (keywordEach [] X.env)) = true := by
    unfold methodCallForm
    rw [stars_len hp]
    show (true && ([] : List (Option Str × Sem Value)).all (fun x => x.1.isSome) && decide (es.length + 0 + (if ([] : List (Option Str × Sem Value)).isEmpty then 0 else 1) < 30)) = true
    simp
    omega
  have hpos : methodCallPos true o X.env apos cpos = pure cpos := by unfold methodCallPos; simp [hline]
  unfold methodCall
  rw [hform]
  refine wpAny_bind (thn (ho.run pins s σ H _ I (Lf.bind rp st po)) fun v s1 ⟨x, H1, I1, r1, ρ1, w, S1, _, rp1, st1, rw1, po1⟩ => wpAny_bind (wpAny_standAt ?_))
  split at po1
  · split at po1
    · split at po1
      · rename_i f hf
        obtain ⟨k1, k2, kn, k3⟩ := hm _ _ hf
        split at po1
        rotate_left
        · exact po1.elim
        rename_i hall
        rw [hF] at hall
        obtain ⟨a, rfl, ha', dx, vs, k4, k5⟩ := rp1.cellAt rw1 (by assumption)
        cases (show v = Value.ref a from r1)
        refine wpAny_bind (wpAny_holding (getmeth_ok I1 k4 k1 k2 (k5.no_meth m _ hall kn) ?_))
        refine wpAny_bind (wpAny_of_eq hpos ?_)
        cases es with
        | nil =>
          cases ies with
          | cons _ _ => cases hl
          | nil =>
            unfold evEs at po1
            exact PySem.W.callWith_K0 (first := [.ref a]) I1.kIn k2.kp (k3.run g (us := [.ref a]) (vs := [.ref a]) I1 (.cons rfl .nil) rp1 (.cons rw1 .nil) rfl po1)
        | cons e es =>
          rw [List.all_cons, Bool.and_eq_true] at hp
          refine PySem.W.callWith_K (first := [.ref a]) (h₀ := X.base) I1.ok.mod.kin k2.kp (thn (ha.run cpos pins s1 σ H1 _ I1 (Lf.bindE rp1 st1 po1)) fun us s2 ⟨us', H2, I2, r2, ρ2, ws, S2, e2, e2', rp2, _, rs2, po2⟩ => ⟨I2.kIn, ?_⟩) (star_plain hp.1) (stars_plain hp.2)
          exact k3.run g (us := .ref a :: us) (vs := .ref a :: us') I2 (.cons rfl r2) rp2 (.cons (rw1.mono e2') rs2) (by rw [List.length_cons, evEs_len e2, ← hl]) po2
      · exact po1.elim
    · exact po1.elim
  · exact po1.elim
/-! ### new dicts -/
theorem snd_dct0 : PE X (.Dict [] [] pos) (LE G Ω (evE F (.dct .nil))) := pe_dnewK.via fun σ H Q ⟨ρ, τ, S, rp, st, po⟩ => by
  unfold evE evD at po
  change Post G (R G) (WE Ω σ) ρ H Q (if ([] : List (DKey × W)).length ≤ 15 then .ok (.loc S.n) (S.push (.dic (mergeD [] []))) else .stuck) at po
  rw [if_pos (by decide)] at po
  exact fun p hp => po _ _ _ (Ext.push rp hp) (Rp.push rp hp ⟨[], upd_same, .nil⟩) (.loc rp.push_at)
end
end Rf

set_option Elab.async false
set_option maxRecDepth 100000
set_option maxHeartbeats 2000000
/-! RfSet: len(set(xs)), xs a list of tuples of whole numbers and None: the set's table is worked in plain terms. -/
namespace Rf
open PySem PySem.Spec PyProof.Rows L2
abbrev NKd (P : Program) (w : World) : KeyKind P w (Option L2.Key) := L2.noneKind P w
def nkk (k : NK) : List (Option L2.Key) := k.map (Option.map Sum.inl)
theorem nkk_inj {a b : NK} (h : nkk a = nkk b) : a = b := by
  unfold nkk at h
  refine List.map_inj_right (fun x y e => ?_) |>.mp h
  cases x with
  | none => cases y with
    | none => rfl
    | some _ => cases e
  | some i => cases y with
    | none => cases e
    | some j => cases e; rfl
theorem nhash_ok {P : Program} {w : World} (k : NK) : tupleKeyHash (NKd P w) (nkk k) = nhash k := by
  unfold tupleKeyHash nhash nkk
  rw [List.map_map]
  have e : ((NKd P w).hash ∘ Option.map Sum.inl) = nhash1 := by
    funext x
    cases x <;> rfl
  rw [e]
/-- a tuple told by its key lies at c -/
abbrev TupAt (P : Program) (w : World) (h : Heap) (k : NK) (c : Addr) : Prop := IsTupleKey (NKd P w) h (nkk k) c
theorem TupAt.keep {P : Program} {w : World} {h h' : Heap} {k : NK} {c : Addr} (t : TupAt P w h k c) (e : ∀ o, h.get? c = some o → h'.get? c = some o) : TupAt P w h' k c := by
  obtain ⟨o, its, n, g, rest⟩ := t
  exact ⟨o, its, n, e _ g, rest⟩
theorem TupAt.noSet {P : Program} {w : World} {h : Heap} {k : NK} {c a : Addr} {o : Obj} {ea : Array (Int × Value)} {ep : Nat} {t : SetTable} (z : TupAt P w h k c) (ho : h.get? a = some o) (hd : o.data = .set ea ep t) : c ≠ a := fun e => by
  obtain ⟨o2, its, n, g, _, d, _⟩ := z
  rw [e, ho] at g
  cases g
  rw [hd] at d
  cases d
/-! ### rows -/
def RowR (T : NK → Addr → Prop) (p : Int × NK) (q : Int × Value) : Prop := q.1 = p.1 ∧ p.1 = nhash p.2 ∧ ∃ c, q.2 = .ref c ∧ T p.2 c
inductive Rws (T : NK → Addr → Prop) : List (Int × NK) → List (Int × Value) → Prop
  | nil : Rws T [] []
  | cons {p : Int × NK} {q : Int × Value} {ps : List (Int × NK)} {qs : List (Int × Value)} : RowR T p q → Rws T ps qs → Rws T (p :: ps) (q :: qs)
section
variable {T : NK → Addr → Prop}
theorem Rws.len : ∀ {ps : List (Int × NK)} {qs : List (Int × Value)}, Rws T ps qs → qs.length = ps.length
  | _, _, .nil => rfl
  | _, _, .cons _ r => congrArg Nat.succ r.len
theorem Rws.at : ∀ {ps : List (Int × NK)} {qs : List (Int × Value)} (_ : Rws T ps qs) (i : Nat), (ps[i]? = none ∧ qs[i]? = none) ∨ ∃ p q, ps[i]? = some p ∧ qs[i]? = some q ∧ RowR T p q
  | _, _, .nil, i => .inl ⟨by simp, by simp⟩
  | _, _, .cons (p := p) (q := q) r _, 0 => .inr ⟨p, q, rfl, rfl, r⟩
  | _, _, .cons _ rs, i + 1 => by simpa using rs.at i
theorem Rws.app : ∀ {ps ps2 : List (Int × NK)} {qs qs2 : List (Int × Value)}, Rws T ps qs → Rws T ps2 qs2 → Rws T (ps ++ ps2) (qs ++ qs2)
  | _, _, _, _, .nil, z => z
  | _, _, _, _, .cons r rs, z => .cons r (rs.app z)
theorem Rws.take : ∀ {ps : List (Int × NK)} {qs : List (Int × Value)} (n : Nat), Rws T ps qs → Rws T (ps.take n) (qs.take n)
  | _, _, 0, _ => .nil
  | _, _, _ + 1, .nil => .nil
  | _, _, n + 1, .cons r rs => .cons r (rs.take n)
theorem Rws.drop : ∀ {ps : List (Int × NK)} {qs : List (Int × Value)} (n : Nat), Rws T ps qs → Rws T (ps.drop n) (qs.drop n)
  | _, _, 0, r => r
  | _, _, _ + 1, .nil => .nil
  | _, _, n + 1, .cons _ rs => rs.drop n
theorem Rws.fst : ∀ {ps : List (Int × NK)} {qs : List (Int × Value)}, Rws T ps qs → qs.map (·.1) = ps.map (·.1)
  | _, _, .nil => rfl
  | _, _, .cons r rs => by rw [List.map_cons, List.map_cons, rs.fst, r.1]
theorem Rws.pick {ps : List (Int × NK)} {qs : List (Int × Value)} (r : Rws T ps qs) : ∀ l : List Nat, Rws T (l.filterMap (ps[·]?)) (l.filterMap (qs[·]?))
  | [] => .nil
  | i :: l => by
    rcases r.at i with ⟨e1, e2⟩ | ⟨p, q, e1, e2, z⟩
    · rw [List.filterMap_cons_none e1, List.filterMap_cons_none e2]; exact r.pick l
    · rw [List.filterMap_cons_some e1, List.filterMap_cons_some e2]; exact .cons z (r.pick l)
/-- the arrays -/
abbrev RwA (T : NK → Addr → Prop) (es : Array (Int × NK)) (ea : Array (Int × Value)) : Prop := Rws T es.toList ea.toList
variable {es : Array (Int × NK)} {ea : Array (Int × Value)}
theorem RwA.size (r : RwA T es ea) : ea.size = es.size := r.len
theorem RwA.get (r : RwA T es ea) (i : Nat) : (es[i]? = none ∧ ea[i]? = none) ∨ ∃ p q, es[i]? = some p ∧ ea[i]? = some q ∧ RowR T p q := by
  rw [← Array.getElem?_toList, ← Array.getElem?_toList]
  exact r.at i
theorem RwA.hash (r : RwA T es ea) : (fun i => (ea[i]?.map (·.1)).getD 0) = hAt es := by
  funext i
  unfold hAt
  rcases r.get i with ⟨e1, e2⟩ | ⟨p, q, e1, e2, z⟩
  · rw [e1, e2]; rfl
  · rw [e1, e2]; exact z.1
theorem RwA.fstA (r : RwA T es ea) : ea.map (·.1) = es.map (·.1) := by
  apply Array.toList_inj.mp
  rw [Array.toList_map, Array.toList_map]
  exact r.fst
theorem RwA.ins (r : RwA T es ea) (p : Nat) {k : NK} {c : Addr} (hk : T k c) : RwA T (SetTable.insertAt es p (nhash k, k)) (SetTable.insertAt ea p (nhash k, .ref c)) := by
  unfold RwA
  rw [SetTable.toList_insertAt, SetTable.toList_insertAt]
  exact (r.take p).app (.cons ⟨rfl, rfl, c, rfl, hk⟩ (r.drop p))
theorem RwA.pickA (r : RwA T es ea) (order : Array Nat) : RwA T (order.filterMap (es[·]?)) (order.filterMap (ea[·]?)) := by
  unfold RwA
  rw [Array.toList_filterMap, Array.toList_filterMap]
  have e1 : (fun i : Nat => es[i]?) = (fun i : Nat => es.toList[i]?) := by funext i; rw [Array.getElem?_toList]
  have e2 : (fun i : Nat => ea[i]?) = (fun i : Nat => ea.toList[i]?) := by funext i; rw [Array.getElem?_toList]
  rw [e1, e2]
  exact r.pick _
end
/-! ### what is asked of a tuple on the way -/
section
variable {P : Program} {w : World} {A : Around} {E : Value → Shared → Prop} {s : Shared}
/-- an element of such a tuple -/
theorem elem_nk : ∀ {k : NK} {vs : List Value}, ItemsAre (NKd P w) (nkk k) vs → ∀ v ∈ vs, v = .none ∨ ∃ i t, v = Value.int i t
  | [], vs, z, v, hv => by
    have z' : ItemsAre (NKd P w) [] vs := z
    cases z'; cases hv
  | x :: k, vs, z, v, hv => by
    have z' : ItemsAre (NKd P w) (Option.map Sum.inl x :: nkk k) vs := z
    cases z' with
    | cons a b =>
      rcases List.mem_cons.mp hv with rfl | hv
      · cases x with
        | none => exact .inl (L2.nk_none a)
        | some i =>
          rcases L2.keyIs_shape (k := .inl i) a with ⟨j, t, _, e⟩ | ⟨y, t, e, _⟩
          · exact .inr ⟨j, t, e⟩
          · cases e
      · exact elem_nk b v hv
/-- a loop over such elements that asks each one a plain question -/
theorem each_nk {M : Model} {f : Value → Sem Bool} {b : Bool} {β : Type} {stp : Value → β → Sem (ForInStep β)} {r0 : β} {Q : β → Shared → Prop} (hs : ∀ v, (v = .none ∨ ∃ i t, v = Value.int i t) → ∀ Q' : ForInStep β → Shared → Prop, Q' (.yield r0) s → wpAny M A (stp v r0) Q' E s) :
    ∀ vs : List Value, (∀ v ∈ vs, v = .none ∨ ∃ i t, v = Value.int i t) → Q r0 s → wpAny M A (forIn vs r0 stp) Q E s
  | [], _, q => by rw [List.forIn_nil]; exact wpAny_pure q
  | v :: vs, h, q => by
    rw [List.forIn_cons]
    exact wpAny_bind (hs v (h v List.mem_cons_self) _ (each_nk (f := f) (b := b) hs vs (fun u hu => h u (List.mem_cons_of_mem _ hu)) q))
theorem cls_nk {k : NK} {c : Addr} {Q : Bool → Shared → Prop} (t : TupAt P w s.heap k c) (q : Q false s) : wpAny (model P w) A (ofAClassStatement 8 (.ref c)) Q E s := by
  have ty := t.typeIs
  obtain ⟨o, its, n, g, _, d, z⟩ := t
  unfold ofAClassStatement
  refine wpAny_bind (wpAny_typeOf ty ?_)
  simp only [show (("tuple" : String) == "tuple") = true by decide, if_true]
  refine wpAny_bind (wpAny_pure ?_)
  simp only [Bool.not_true, Bool.false_eq_true, if_false]
  refine wpAny_bind (wpAny_seqItems g d ?_)
  dsimp only
  refine wpAny_bind ?_
  rw [← Array.forIn_toList]
  refine each_nk (f := fun _ => pure true) (b := true) (fun v hv Q' q' => ?_) its.toList (elem_nk z) ?_
  · rcases hv with rfl | ⟨i, t, rfl⟩
    · exact wpAny_bind (wpAny_pure (wpAny_pure q'))
    · exact wpAny_bind (wpAny_pure (wpAny_pure q'))
  · exact wpAny_pure q
theorem byv_nk {k : NK} {c : Addr} {Q : Bool → Shared → Prop} (t : TupAt P w s.heap k c) (q : Q true s) : wpAny (model P w) A (hashByValue 8 (.ref c)) Q E s := by
  have ty := t.typeIs
  obtain ⟨o, its, n, g, _, d, z⟩ := t
  unfold hashByValue
  refine wpAny_bind (wpAny_specialOf ty F.slot_tuple_hash.lookup (wpAny_bind (wpAny_seqItems g d (wpAny_bind ?_))))
  show wpAny _ _ (forIn its _ _) _ _ s
  rw [← Array.forIn_toList]
  refine each_nk (f := fun _ => pure true) (b := true) (fun v hv Q' q' => ?_) its.toList (elem_nk z) ?_
  · rcases hv with rfl | ⟨i, t, rfl⟩
    · exact wpAny_bind (wpAny_pure (wpAny_pure q'))
    · exact wpAny_bind (wpAny_pure (wpAny_pure q'))
  · exact wpAny_pure q
/-- nothing is seen of a search -/
theorem hid_nk {k : NK} {c : Addr} {Q : Bool → Shared → Prop} (t : TupAt P w s.heap k c) (q : Q false s) : ∀ ys : List Value, (∀ y ∈ ys, ∃ k' b, y = Value.ref b ∧ TupAt P w s.heap k' b) → wpAny (model P w) A (searchCouldBeSeen (.ref c) ys) Q E s := by
  intro ys hy
  unfold searchCouldBeSeen
  refine wpAny_bind ?_
  suffices z : ∀ (ys : List Value) (stp : Value → Option Bool × Unit → Sem (ForInStep (Option Bool × Unit))) (Q2 : Option Bool × Unit → Shared → Prop), (∀ y ∈ ys, ∃ k' b, y = Value.ref b ∧ TupAt P w s.heap k' b) →
      (∀ b k', TupAt P w s.heap k' b → ∀ Q' : ForInStep (Option Bool × Unit) → Shared → Prop, Q' (.yield (none, ())) s → wpAny (model P w) A (stp (.ref b) (none, ())) Q' E s) → Q2 (none, ()) s → wpAny (model P w) A (forIn ys (none, ()) stp) Q2 E s by
    refine z ys _ _ hy (fun b k' tb Q' q' => ?_) ?_
    rotate_left
    · exact wpAny_pure q
    dsimp only
    split
    · exact wpAny_pure q'
    · refine wpAny_bind (wpAny_eqIsQuiet_tuple t ?_)
      simp only [Bool.not_true, Bool.false_eq_true, if_false]
      refine wpAny_bind (wpAny_eqIsQuiet_tuple tb ?_)
      simp only [Bool.not_true, Bool.false_eq_true, if_false]
      refine wpAny_bind (cls_nk t ?_)
      simp only [Bool.false_eq_true, if_false]
      refine wpAny_bind (cls_nk tb ?_)
      simp only [Bool.false_eq_true, if_false]
      exact wpAny_pure q'
  intro ys
  induction ys with
  | nil => intro stp Q2 _ _ q2; rw [List.forIn_nil]; exact wpAny_pure q2
  | cons y ys ih =>
    intro stp Q2 hy hs q2
    rw [List.forIn_cons]
    obtain ⟨k', b, rfl, tb⟩ := hy y List.mem_cons_self
    exact wpAny_bind (hs b k' tb _ (ih stp Q2 (fun u hu => hy u (List.mem_cons_of_mem _ hu)) hs q2))
/-! ### the set -/
/-- the set at a, its rows as told -/
def SetN (T : NK → Addr → Prop) (h : Heap) (a : Addr) (q : TabP) : Prop := ∃ (o : Obj) (ep : Nat) (ea : Array (Int × Value)), h.get? a = some o ∧ o.ExactSet ∧ o.data = .set ea ep q.2 ∧ RwA T q.1 ea
variable {T : NK → Addr → Prop}
theorem row_of {es : Array (Int × NK)} {ea : Array (Int × Value)} (r : RwA T es ea) {y : Int × Value} (hy : y ∈ ea.toList) : ∃ k b, y.2 = Value.ref b ∧ T k b := by
  obtain ⟨i, hi⟩ := List.mem_iff_getElem?.mp hy
  rcases r.at i with ⟨_, e⟩ | ⟨p, q, _, e, _, _, c, e2, t⟩
  · rw [e] at hi; cases hi
  · rw [e] at hi
    cases hi
    exact ⟨p.2, c, e2, t⟩
/-- the search -/
theorem seek_ok {a c : Addr} {k : NK} {q : TabP} {o : Obj} {ep : Nat} {ea : Array (Int × Value)} {Q : SetFound → Shared → Prop} (ho : s.heap.get? a = some o) (hd : o.data = .set ea ep q.2) (r : RwA T q.1 ea) (hT : ∀ k c, T k c → TupAt P w s.heap k c) (hf : q.2.fits ea.size = true) (hk : TupAt P w s.heap k c) (hu : A.units < cLine) :
    ∀ (n : Nat) (st : Option SetTable.Probe) (res : Option Nat), seekP q.1 q.2 k (nhash k) n st = some res → (match res with | none => Q (.there none) s | some j => Q (.free j false) s) → wpAny (model P w) A (setSearchFrom a (.ref c) (nhash k) true n st) Q E s
  | 0, st, res, e, _ => by unfold seekP at e; cases e
  | n + 1, st, res, e, hq => by
    unfold seekP at e
    rw [setSearchFrom_succ]
    refine wpAny_bind (wpAny_setState_of ho hd hf ?_)
    dsimp only
    rw [r.hash]
    split at e
    · cases e
    · rename_i hg
      rw [if_neg hg]
      refine wpAny_bind (wpAny_pure ?_)
      split at e
      · rename_i j hp
        cases e
        rw [hp]
        exact wpAny_pure hq
      · rename_i j i next hp
        rw [hp]
        dsimp only
        have rest : ∀ x, x = (do
            let some (_, y) := ea[i]? | unsupported "internal:set-entry"
            let equal ← holding [y] (eqBool y (.ref c))
            let (es', _, t') ← setState a
            if true && equal then return SetFound.there none
            let some same := t'.sameMemory q.2.moves q.2.mask | unsupported "set.changed-during-lookup:is-the-new-block-at-the-old-address"
            let still ← match (if same then t'.slot j else .empty) with
              | .live i' => match es'[i']? with
                | some (_, y') => do pure (if ← isSame y' y then some i' else none)
                | none => pure none
              | _ => pure none
            match still with
            | none => rule "set.search.anew"; setSearchFrom a (.ref c) (nhash k) true n none
            | some i' => if equal then return .there (some i') else setSearchFrom a (.ref c) (nhash k) true n (some next)) → wpAny (model P w) A x Q E s := by
          intro x hx
          subst hx
          rcases r.get i with ⟨e1, _⟩ | ⟨p, y, e1, e2, _, _, b, hb, tb⟩
          · rw [e1] at e; cases e
          · rw [e1] at e
            obtain ⟨yh, yv⟩ := y
            cases hb
            rw [e2]
            dsimp only at e ⊢
            refine wpAny_bind (wpAny_holding (wpAny_eqBool_tuple hu (hT _ _ tb) hk (wpAny_bind (wpAny_setState_of ho hd hf ?_))))
            dsimp only
            by_cases hkk : p.2 = k
            · rw [if_pos hkk] at e
              cases e
              rw [if_pos (by rw [hkk]; simp)]
              exact wpAny_pure hq
            · rw [if_neg hkk] at e
              have nk : ¬ nkk p.2 = nkk k := fun z => hkk (nkk_inj z)
              split at e
              · rename_i hsl
                rw [if_neg (by simp [nk])]
                refine wpAny_bind (wpAny_pure ?_)
                rw [sameMem]
                dsimp only
                rw [if_pos rfl, hsl]
                dsimp only
                rw [e2]
                refine wpAny_bind (wpAny_isSame_ref_self (wpAny_bind (wpAny_pure ?_)))
                rw [if_pos rfl]
                dsimp only
                rw [if_neg (by simp [nk])]
                exact seek_ok ho hd r hT hf hk hu n _ res e hq
              · cases e
        by_cases hl : q.2.led = true
        · rw [if_neg (by simp [hl])]
          exact wpAny_bind (wpAny_pure (rest _ rfl))
        · rw [if_pos (by simp [hl])]
          refine wpAny_bind (hid_nk hk ?_ _ fun y hy => ?_)
          · rw [if_neg (by simp)]
            exact rest _ rfl
          · obtain ⟨z, hz, ez⟩ := List.mem_map.mp hy
            have hz2 : z ∈ ea.toList := by
              have := (Array.mem_filter.mp (Array.mem_toList_iff.mp hz)).1
              exact Array.mem_toList_iff.mpr this
            obtain ⟨k2, b, e1, t⟩ := row_of r hz2
            exact ⟨k2, b, by rw [← ez]; exact e1, hT _ _ t⟩
      · cases e
/-- the table laid anew -/
theorem lay_ok {a : Addr} {q q2 : TabP} (sn : SetN T s.heap a q) (e : layP q = some q2) {Q : Unit → Shared → Prop} (hz : q.1.size ≤ 1001) (hq : ∀ h', Heap.SameBut a s.heap h' → SetN T h' a q2 → Q () { s with heap := h' }) : wpAny (model P w) A (setRelay a (SetTable.grown q.1.size)) Q E s := by
  obtain ⟨o, ep, ea, ho, hx, hd, r⟩ := sn
  unfold layP at e
  split at e
  · rename_i hc
    rw [Bool.and_eq_true, decide_eq_true_eq] at hc
    split at e
    · rename_i t2 order hr
      split at e
      · rename_i hs
        cases e
        rw [setRelay_eq]
        refine wpAny_bind (wpAny_setState_of ho hd (by rw [r.size]; exact hc.1) ?_)
        dsimp only
        rw [if_neg (by rw [sizeLine_eq]; omega)]
        rw [r.fstA, hr]
        dsimp only
        have rp := r.pickA order
        have hs2 : (order.filterMap (ea[·]?)).size = ea.size := by rw [rp.size, hs, r.size]
        rw [if_neg (by rw [hs2]; simp)]
        refine wpAny_bind (wpAny_pure ?_)
        dsimp only
        refine wpAny_storeSet_of ho hd ?_ (by rw [hs2, r.size, sizeLine_eq]; omega)
        have sb : Heap.SameBut a s.heap (s.heap.update a (Obj.putSet (order.filterMap (ea[·]?)) t2)) := Heap.SameBut.update ..
        exact hq _ sb ⟨_, _, _, store_at ho hd, ⟨hx.1, hx.2.1, hx.2.2⟩, rfl, rp⟩
      · cases e
    · cases e
  · cases e
/-- one is added -/
theorem add_ok {a c : Addr} {k : NK} {q q2 : TabP} (sn : SetN T s.heap a q) (hT : ∀ k c, T k c → TupAt P w s.heap k c) (hk : T k c) (hu : A.units < cLine) (e : addP q k = some q2) {Q : Bool → Shared → Prop} (hq : ∀ b h', Heap.SameBut a s.heap h' → SetN T h' a q2 → Q b { s with heap := h' }) :
    wpAny (model P w) A (setAddHashed a (.ref c) (nhash k)) Q E s := by
  have sn0 := sn
  obtain ⟨o, ep, ea, ho, hx, hd, r⟩ := sn
  unfold addP at e
  split at e
  · rename_i hc
    simp only [Bool.and_eq_true, decide_eq_true_eq] at hc
    have hf : q.2.fits ea.size = true := by rw [r.size]; exact hc.1.1
    unfold setAddHashed
    refine wpAny_holding ?_
    rw [show (100000 : Nat) = 99999 + 1 from rfl, setAddHashedIn_succ]
    refine wpAny_bind (wpAny_setState_of ho hd hf ?_)
    dsimp only
    rw [if_neg (by simp [byScan, Value.scannable])]
    have go : ∀ res, seekP q.1 q.2 k (nhash k) 100000 none = some res → ∀ Q' : SetFound → Shared → Prop, (match res with | none => Q' (.there none) s | some j => Q' (.free j false) s) → wpAny (model P w) A (setSearch a (.ref c) (nhash k) true) Q' E s := fun res h Q' hq' => by
      unfold setSearch
      exact seek_ok ho hd r hT hf (hT _ _ hk) hu 100000 none res h hq'
    split at e
    · rename_i h1
      cases e
      refine wpAny_bind (go _ h1 _ ?_)
      exact wpAny_pure (hq false s.heap (Heap.SameBut.refl a s.heap) sn0)
    · rename_i j h1
      split at e
      · rename_i hsz
        refine wpAny_bind (go _ h1 _ ?_)
        dsimp only
        refine wpAny_bind (wpAny_setState_of ho hd hf ?_)
        dsimp only
        have r1 : RwA T (putP q k j).1 (SetTable.insertAt ea (q.2.put j).2 (nhash k, .ref c)) := r.ins _ hk
        have hz1 : (SetTable.insertAt ea (q.2.put j).2 (nhash k, Value.ref c)).size = q.1.size + 1 := by rw [r1.size, hsz]
        have hpl : (q.2.put j).1.plain = true := hc.1.2
        have tail : wpAny (model P w) A (storeSet a (SetTable.insertAt ea (q.2.put j).2 (nhash k, .ref c)) (q.2.put j).1) (fun _ s' => wpAny (model P w) A (do
            if !false && (q.2.put j).1.tooFull then setRelay a (SetTable.grown (ea.size + 1))
            return true) Q E s') E s := by
          refine wpAny_storeSet_of ho hd ?_ (by rw [hz1, sizeLine_eq]; omega)
          have sb : Heap.SameBut a s.heap (s.heap.update a (Obj.putSet (SetTable.insertAt ea (q.2.put j).2 (nhash k, Value.ref c)) (q.2.put j).1)) := Heap.SameBut.update ..
          have sn1 : SetN T (s.heap.update a (Obj.putSet (SetTable.insertAt ea (q.2.put j).2 (nhash k, Value.ref c)) (q.2.put j).1)) a (putP q k j) :=
            ⟨_, _, _, store_at ho hd, ⟨hx.1, hx.2.1, hx.2.2⟩, rfl, r1⟩
          generalize s.heap.update a (Obj.putSet (SetTable.insertAt ea (q.2.put j).2 (nhash k, Value.ref c)) (q.2.put j).1) = h1 at sb sn1 ⊢
          split at e
          · rename_i hfull
            have hfull' : (q.2.put j).1.tooFull = true := hfull
            rw [hfull', show ea.size + 1 = (putP q k j).1.size by rw [hsz, r.size]]
            simp only [Bool.not_false, Bool.and_self, if_true]
            refine wpAny_bind (lay_ok (s := { s with heap := h1 }) sn1 e (by rw [hsz]; omega) fun h2 sb2 sn2 => ?_)
            exact wpAny_pure (hq true h2 (sb.trans sb2) sn2)
          · rename_i hfull
            cases e
            have hfull' : ¬ (q.2.put j).1.tooFull = true := hfull
            rw [if_neg (by simp [hfull'])]
            exact wpAny_bind (wpAny_pure (wpAny_pure (hq true h1 sb sn1)))
        rw [hpl]
        simp only [if_true]
        refine wpAny_bind (byv_nk (hT _ _ hk) ?_)
        simp only [if_true]
        exact wpAny_bind tail
      · cases e
    · cases e
  · cases e
end
end Rf

set_option Elab.async false
set_option maxRecDepth 100000
set_option maxHeartbeats 3200000
/-! RfSet2: set(xs) is filled; len(set(xs)). -/
namespace Rf
open PySem PySem.Spec PyProof.Rows L2
section
variable {P : Program} {w : World} {A : Around} {E : Value → Shared → Prop} {s : Shared}
/-- a heap in which all of h0 still stands -/
abbrev Kept (h0 h : Heap) : Prop := ∀ b o, h0.get? b = some o → h.get? b = some o
theorem SetN.move {T : NK → Addr → Prop} {h h' : Heap} {a : Addr} {q : TabP} (z : SetN T h a q) (k : ∀ o, h.get? a = some o → h'.get? a = some o) : SetN T h' a q := by
  obtain ⟨o, ep, ea, e, r⟩ := z
  exact ⟨o, ep, ea, k o e, r⟩
/-- the loop that fills it -/
theorem fill_ok {I : Addr} {fp wr : List Addr} {G : Array GenState → Array GenState → Prop} {n : Nat} {Pv : Nat → Value → Prop} {St : Nat → Shared → Prop} {R : Result → Shared → Prop} (W : WalksS P w A.in1 I fp wr G n Pv St)
    {a : Addr} (ha : a ∉ fp) {ks : List (NK × Addr)} (hn : n = ks.length) (hv : ∀ i v, Pv i v → ∃ p, ks[i]? = some p ∧ v = .ref p.2) {h0 : Heap} (hk : ∀ p ∈ ks, TupAt P w h0 p.1 p.2) (h0a : h0.get? a = none) (h0w : ∀ b ∈ wr, h0.get? b = none) (hu : A.in1.units < cLine) {qe : TabP} :
    ∀ (m i : Nat) (s : Shared) (q : TabP), m + i = n → St i s → Kept h0 s.heap → SetN (TupAt P w h0) s.heap a q → setP ((ks.drop i).map (·.1)) q = some qe →
      (∀ s', Moved (a :: wr) G s s' → SetN (TupAt P w h0) s'.heap a qe → Kept h0 s'.heap → R (.ok (.ret .none)) s') → codeAny (model P w) A (.builtin "set.update.loop" ⟨[.ref a, .ref I], []⟩) R s := by
  have aw : a ∉ wr := fun z => ha (W.sub _ z)
  have up : ∀ b ∈ wr, b ∈ a :: wr := fun b z => List.mem_cons_of_mem _ z
  intro m
  induction m with
  | zero =>
    intro i s q hm st kp sn hs hR
    obtain rfl : i = n := by omega
    rw [hn, List.drop_length] at hs
    cases hs
    refine codeAny_builtin F.entry_set_update_loop ?_
    rw [Around.under_plainId F.plain_set_update_loop]
    refine wpAny_bind (W.done s _ _ st fun s1 mv => wpAny_pure ?_)
    refine hR s1 (mv.mono up) (sn.move fun o e => mv.heap a o aw e) fun b o e => mv.heap b o (fun z => ?_) (kp b o e)
    rw [h0w b z] at e; cases e
  | succ m ih =>
    intro i s q hm st kp sn hs hR
    have hi : i < n := by omega
    refine codeAny_builtin F.entry_set_update_loop ?_
    rw [Around.under_plainId F.plain_set_update_loop]
    refine wpAny_bind (W.item i s _ _ hi st fun v s1 pv st1 mv => ?_)
    obtain ⟨p, hp, rfl⟩ := hv i v pv
    have kp1 : Kept h0 s1.heap := fun b o e => mv.heap b o (fun z => by rw [h0w b z] at e; cases e) (kp b o e)
    have sn1 := sn.move (h' := s1.heap) fun o e => mv.heap a o aw e
    have hpm := List.mem_iff_getElem?.mpr ⟨i, hp⟩
    have tp := hk p hpm
    have dr : ks.drop i = p :: ks.drop (i + 1) := by
      obtain ⟨hl, e⟩ := List.getElem?_eq_some_iff.mp hp
      rw [List.drop_eq_getElem_cons hl, e]
    rw [dr, List.map_cons] at hs
    have hs' : (addP q p.1).bind (setP ((ks.drop (i + 1)).map (·.1))) = some qe := hs
    obtain ⟨q1, e1, e2⟩ := Option.bind_eq_some_iff.mp hs'
    refine wpAny_bind (wpAny_holding ?_)
    unfold setAdd
    refine wpAny_holding (wpAny_bind (wpAny_pyHash_tuple hu (tp.keep fun o e => kp1 _ _ e) ?_))
    rw [nhash_ok]
    refine add_ok (s := { s1 with toks := s1.toks + ((nkk p.1).length + 1) }) sn1 (fun k c t => t.keep fun o e => kp1 _ _ e) tp hu e1 fun b h2 sb sn2 => ?_
    have kp2 : Kept h0 h2 := fun b o e => by rw [sb.2 b (fun z => by rw [z, h0a] at e; cases e)]; exact kp1 b o e
    refine wpAny_pure ⟨plainId_quiet F.plain_set_update_loop _, ih (i + 1) _ q1 (by omega) (W.frame _ s1 _ _ st1 (Nat.le_add_right _ _) fun b hb o e => ?_) kp2 sn2 e2 fun s3 mv3 sn3 kp3 => ?_⟩
    · rw [sb.2 b (fun z => ha (z ▸ hb))]; exact e
    · refine hR s3 (Moved.trans W.gtrans ((mv.mono up).then_heap (Nat.le_add_right _ _) fun b o hb e => ?_) mv3) sn3 kp3
      rw [sb.2 b (fun z => hb (z ▸ List.mem_cons_self))]; exact e
/-- an empty set's object -/
abbrev set0 (w : World) : Obj := { cls := .type "set", dict := none, data := .set #[] 0 (.fresh 0 0 (!w.params.followText "set-order")) }
theorem set0_n {T : NK → Addr → Prop} {h : Heap} {a : Addr} (e : h.get? a = some (set0 w)) : SetN T h a (#[], .fresh 0 0 (!w.params.followText "set-order")) := ⟨_, _, _, e, ⟨rfl, rfl, rfl⟩, rfl, .nil⟩
/-- its __init__, a list given -/
theorem init_set {a l : Addr} {items : Array Value} {ks : List (NK × Addr)} {qe : TabP} (hh : A.handled = none) (hS : s.heap.get? a = some (set0 w)) (hal : a ≠ l) (hl : s.heap.IsList l items) (hit : items.toList = ks.map fun p => Value.ref p.2) {h0 : Heap} (hk : ∀ p ∈ ks, TupAt P w h0 p.1 p.2)
    (h0a : h0.get? a = none) (hz : h0.objs.size ≤ s.heap.objs.size) (kp : Kept h0 s.heap) (hu : A.units + 2 < cLine) (hs : setP (ks.map (·.1)) (#[], .fresh 0 0 (!w.params.followText "set-order")) = some qe) {Q : PySem.Fin → Shared → Prop}
    (hq : ∀ (h' : Heap) (tk : Nat), SetN (TupAt P w h0) h' a qe → Kept h0 h' → Q (.done (.ret .none)) { s with heap := h', toks := tk }) : wpAny (model P w) A.in1 (Builtin.«set.__init__» ⟨[.ref a, .ref l], []⟩) Q E s := by
  have hsz : items.size = ks.length := by
    have q := congrArg List.length hit
    rw [Array.length_toList, List.length_map] at q
    exact q
  obtain ⟨ol, hol, hcl, nl, hdl⟩ := hl
  obtain ⟨oc, od, odat, osl⟩ := ol
  subst hcl; subst hdl
  have sl1 := F.sub_list_set
  have sl2 := F.sub_list_frozenset
  have nd : (Value.type "list" == Value.type "dict") = false := by decide
  have hlst : s.heap.IsList l items := ⟨_, hol, rfl, nl, rfl⟩
  have hT : s.TypeIs (.ref a) "set" := ⟨_, hS, rfl⟩
  unfold Builtin.«set.__init__» noKeywords Builtin.Frozenset.updateFrom
  generalize hPI : pyIter = PI
  wp_walk
  subst hPI
  refine wpAny_pyIter_list hlst ?_
  refine wpAny_bind (wpAny_runValue ?_)
  have lt : l < s.heap.objs.size := Heap.lt_size hol
  have la : a < s.heap.objs.size := Heap.lt_size hS
  have hv : ∀ (i : Nat) (v : Value), items[i]? = some v → ∃ p, ks[i]? = some p ∧ v = .ref p.2 := fun i v e => by
    rw [← Array.getElem?_toList, hit, List.getElem?_map] at e
    obtain ⟨p, e1, e2⟩ := Option.map_eq_some_iff.mp e
    exact ⟨p, e1, e2.symm⟩
  have hh2 : A.in1.in1.handled = none := by simp [hh]
  refine fill_ok (h0 := h0) ((Walks.list hh2 _ l (Nat.ne_of_lt lt) items).toS) (a := a) (by simp [Nat.ne_of_lt la, hal]) hsz hv hk h0a (fun b hb => ?_) ?_ items.size 0 _ _ rfl ⟨⟨_, Heap.get?_push_size _ rfl, rfl, rfl⟩, hlst.push _⟩ (fun b o e => Heap.get?_push_of_some _ (kp b o e)) ((set0_n hS).move fun o e => Heap.get?_push_of_some _ e) hs fun s2 mv sn kp2 => ?_
  · rw [List.mem_singleton.mp hb]
    exact Heap.get?_none_of_le hz
  · exact hu
  · obtain ⟨h2, g2, d2, t2, o2⟩ := s2
    have e1 : g2 = s.gens := mv.gens
    have e2 : d2 = s.drawn := mv.drawn
    have e3 : o2 = s.os := mv.os
    subst e1 e2 e3
    exact wpAny_pure (wpAny_pure (hq h2 t2 sn kp2))
/-- set(xs) -/
theorem call_set_nk {l : Addr} {items : Array Value} {ks : List (NK × Addr)} {qe : TabP} (hh : A.handled = none) (hl : s.heap.IsList l items) (hit : items.toList = ks.map fun p => Value.ref p.2) (hk : ∀ p ∈ ks, TupAt P w s.heap p.1 p.2) (hu : A.units + 3 < cLine)
    (hs : setP (ks.map (·.1)) (#[], .fresh 0 0 (!w.params.followText "set-order")) = some qe) {Q : Value → Shared → Prop} (hq : ∀ (h' : Heap) (tk : Nat), SetN (TupAt P w s.heap) h' s.heap.objs.size qe → Kept s.heap h' → Q (.ref s.heap.objs.size) { s with heap := h', toks := tk }) :
    wpAny (model P w) A (call (.type "set") [.ref l]) Q E s := by
  have lt : l < s.heap.objs.size := by obtain ⟨ol, hol, _⟩ := hl; exact Heap.lt_size hol
  obtain ⟨c, tl, hmro⟩ := F.called_set.mro
  have f1 := F.called_set.made
  have f2 := F.called_set.sub
  have f3 := F.called_set.notType
  have f4 := F.called_set.canCreate
  have f5 := F.typeCall_set_1 (.ref l)
  refine wpAny_call (codeAny_of_tree ?_)
  show wpAny _ _ (callAny (.type "set") _) _ _ _
  refine wpAny_pure ⟨Code.quiet_builtin _ (by decide +kernel), codeAny_builtin F.entry_type_call ?_⟩
  rw [Around.under_plain (weight_type_call_type "set" [.ref l] []) rfl]
  repeat (any_goals (first | assumption | wp_step))
  have mk : ∀ {A' : Around}, codeAny (model P w) A' (.call (.builtin "set.__new__") ⟨[.type "set", .ref l], []⟩) (wants (fun u s1 => u = .ref s.heap.objs.size ∧ s1 = { s with heap := s.heap.push (set0 w) }) E) s := fun {A'} => code_set_led1 (.ref l) ⟨rfl, rfl⟩
  have ini : ∀ {A' : Around}, A'.handled = none → A'.units + 2 < cLine → codeAny (model P w) A' (.call (.builtin "set.__init__") ⟨[.ref s.heap.objs.size, .ref l], []⟩) (wants (fun u s2 => u = .none ∧ ∃ h' tk, s2 = { s with heap := h', toks := tk } ∧ SetN (TupAt P w s.heap) h' s.heap.objs.size qe ∧ Kept s.heap h') E) { s with heap := s.heap.push (set0 w) } := fun {A'} ha hb => by
    have g1 : (s.heap.push (set0 w)).get? s.heap.objs.size = some (set0 w) := Heap.get?_push_size _ rfl
    have hT : Shared.TypeIs { s with heap := s.heap.push (set0 w) } (.ref s.heap.objs.size) "set" := ⟨_, g1, rfl⟩
    refine codeAny_call_builtin F.called_set.init.plain F.entry_set_init (check_set_init_1 hT ?_)
    exact init_set (A := A') (h0 := s.heap) ha g1 (Nat.ne_of_gt lt) (hl.push _) hit hk (Heap.get?_none_of_le (Nat.le_refl _)) (by rw [Heap.size_push]; exact Nat.le_succ _) (fun b o e => Heap.get?_push_of_some _ e) hb hs fun h' tk sn kp => ⟨rfl, h', tk, rfl, sn, kp⟩
  refine codeAny_mono mk fun r s1 hr => ?_
  cases r with
  | error e => exact hr
  | ok fl =>
    cases fl with
    | ret u =>
      obtain ⟨rfl, rfl⟩ := hr
      have g1 : (s.heap.push (set0 w)).get? s.heap.objs.size = some (set0 w) := Heap.get?_push_size _ rfl
      have hT : Shared.TypeIs { s with heap := s.heap.push (set0 w) } (.ref s.heap.objs.size) "set" := ⟨_, g1, rfl⟩
      have f6 := F.called_set.init.lookup
      have f7 := F.called_set.init.bind (.ref s.heap.objs.size)
      repeat (any_goals (first | assumption | wp_step))
      refine codeAny_mono (ini (by simp [hh]) ?_) fun r2 s2 hr2 => ?_
      · exact hu
      · cases r2 with
        | error e => exact hr2
        | ok fl2 =>
          cases fl2 with
          | ret u2 =>
            obtain ⟨rfl, h', tk, rfl, sn, kp⟩ := hr2
            repeat (any_goals (first | assumption | wp_step))
            exact hq h' tk sn kp
          | _ => exact hr2.elim
    | _ => exact hr.elim
end
/-! ### len(set(xs)) -/
section
variable {G : GC} {X : Cx} {Ω : WX}
theorem nk_of_R {ρ : List Addr} {H : Hp} {pins : List (Addr × Obj)} {σ : L2.St} {s : Shared} {w : W} {v : V} {u : Value} {k : NK} (I : Inv X pins σ H s) (hK : X.K = G.K) (r : R G ρ H w v) (hu : RelV v u) (e : nkOf w = some k) : ∃ c, u = .ref c ∧ TupAt X.prog X.w s.heap k c := by
  have items : ∀ {xs : List W} {vs : List V} {us : List Value} {k : NK}, mapO (fun | W.non => some (none : Option Int) | .int i => some (some i) | _ => none) xs = some k → Rs G ρ H xs vs → Vals vs us → ItemsAre (NKd X.prog X.w) (nkk k) us := by
    intro xs
    induction xs with
    | nil => intro vs us k e rs hv; cases rs; cases hv; unfold mapO at e; cases e; exact .nil
    | cons x xs ih =>
      intro vs us k e rs hv
      cases rs with
      | cons rx rs =>
        cases hv with
        | cons hx hv =>
          unfold mapO at e
          split at e
          · rename_i y hy
            obtain ⟨k2, e1, e2⟩ := Option.map_eq_some_iff.mp e
            subst e2
            refine .cons ?_ (ih e1 rs hv)
            cases rx with
            | non => cases hy; cases hx; rfl
            | int => cases hy; obtain ⟨t, rfl⟩ := hx; exact beq_self_eq_true _
            | _ => cases hy
          · cases e
  have tup : ∀ {a : Addr} {vs : List V}, SqT X.K H a vs → ∀ {xs : List W}, Rs G ρ H xs vs → mapO (fun | W.non => some (none : Option Int) | .int i => some (some i) | _ => none) xs = some k → TupAt X.prog X.w s.heap k a := fun {a vs} hq {xs} rs e => by
    obtain ⟨its, r, ⟨o, ho, hc, n, hd⟩, _⟩ := I.tuple hq
    exact ⟨o, its.toArray, n, ho, hc, hd, by simpa using items e rs r⟩
  unfold nkOf at e
  cases r with
  | @tup xs vs a h rs =>
    cases hu
    exact ⟨a, rfl, tup (.of h) rs e⟩
  | @tpl xs vs a o h d rs =>
    cases hu
    exact ⟨a, rfl, tup (.inl (.inr ⟨o, h⟩)) rs e⟩
  | _ => cases e
theorem lset_snd {ρ : List Addr} {H : Hp} {pins : List (Addr × Obj)} {σ : L2.St} {s : Shared} {S : Store} {w w' : W} {v : V} {u : Value} {Q : VK} (hc : X.calm = true) (hu : X.A.units + 80 < cLine) (I : Inv X pins σ H s) (hK : X.K = G.K) (rp : Rp G ρ H S) (r : R G ρ H w v) (rv : RelV v u) (e : lsetW S w = some w')
    (q : ∀ n : Nat, w' = .int n → Q (.int n) H) : wpAny (model X.prog X.w) X.A (call (.type "set") [u]) (fun c s2 => wpAny (model X.prog X.w) X.A (call (.builtin "len") [c]) (EP X pins σ Q) X.xe s2) X.xe s := by
  unfold lsetW at e
  split at e
  · rename_i n
    split at e
    · rename_i xs hx
      obtain ⟨m, e1, e2⟩ := Option.map_eq_some_iff.mp e
      obtain ⟨ks, e3, e4⟩ := Option.bind_eq_some_iff.mp e1
      cases r with
      | loc hl =>
        obtain ⟨c, hc1, hc2⟩ := rp.cell n _ hl
        rw [hx] at hc1
        cases hc1
        obtain ⟨vs, hv, rs⟩ := hc2
        cases rv
        obtain ⟨its, ri, pl, _⟩ := I.list (SqL.of hv)
        have all : ∀ {xs : List W} {vs : List V} {us : List Value} {ks : List NK}, mapO nkOf xs = some ks → Rs G ρ H xs vs → Vals vs us → ∃ ps : List (NK × Addr), us = ps.map (fun p => Value.ref p.2) ∧ ks = ps.map (·.1) ∧ ∀ p ∈ ps, TupAt X.prog X.w s.heap p.1 p.2 := by
          intro xs
          induction xs with
          | nil => intro vs us ks e rs hv; cases rs; cases hv; unfold mapO at e; cases e; exact ⟨[], rfl, rfl, fun p hp => by cases hp⟩
          | cons x xs ih =>
            intro vs us ks e rs hv
            cases rs with
            | cons rx rs =>
              cases hv with
              | cons hx hv =>
                unfold mapO at e
                split at e
                · rename_i y hy
                  obtain ⟨k2, e1, e2⟩ := Option.map_eq_some_iff.mp e
                  subst e2
                  obtain ⟨ps, p1, p2, p3⟩ := ih e1 rs hv
                  obtain ⟨c, c1, c2⟩ := nk_of_R I hK rx hx hy
                  refine ⟨(y, c) :: ps, by rw [p1, c1]; rfl, by rw [p2]; rfl, fun p hp => ?_⟩
                  rcases List.mem_cons.mp hp with rfl | hp
                  · exact c2
                  · exact p3 p hp
                · cases e
        obtain ⟨ps, p1, p2, p3⟩ := all e3 rs ri
        have cnt : ∃ qe : TabP, setP ks (#[], .fresh 0 0 (!X.w.params.followText "set-order")) = some qe ∧ qe.2.fits qe.1.size = true ∧ qe.1.size < 2000 ∧ qe.1.size = m := by
          have both : ∀ b, ∃ qe : TabP, setP ks (#[], .fresh 0 0 b) = some qe ∧ qe.2.fits qe.1.size = true ∧ qe.1.size < 2000 ∧ qe.1.size = m := by
            have one : ∀ b z, countP b ks = some z → z = m → ∃ qe : TabP, setP ks (#[], .fresh 0 0 b) = some qe ∧ qe.2.fits qe.1.size = true ∧ qe.1.size < 2000 ∧ qe.1.size = m := fun b z h hz => by
              unfold countP at h
              obtain ⟨qe, h1, h2⟩ := Option.bind_eq_some_iff.mp h
              split at h2
              · rename_i hc
                rw [Bool.and_eq_true, decide_eq_true_eq] at hc
                cases h2
                exact ⟨qe, h1, hc.1, hc.2, hz⟩
              · cases h2
            unfold lsetK at e4
            split at e4
            · rename_i a b ha hb
              split at e4
              · rename_i hab
                cases e4
                intro bb
                cases bb with
                | true => exact one true _ ha rfl
                | false => exact one false _ hb hab.symm
              · cases e4
            · cases e4
          exact both _
        obtain ⟨qe, s1, s2, s3, s4⟩ := cnt
        rw [p2] at s1
        refine call_set_nk (ks := ps) (I.ok.hd hc) pl.isList (by simpa using p1) p3 (by omega) s1 fun h' tk sn kp => ?_
        obtain ⟨o, ep, ea, ho, hx2, hd, ra⟩ := sn
        have hz : ea.size = m := by rw [ra.size, s4]
        have I2 : Inv X pins σ H { s with heap := h', toks := tk } := I.kept kp
        refine call_len_set ho hx2 hd (by rw [ra.size]; exact s2) (by rw [hz]; omega) ⟨.int m, H, I2.tok _, ⟨_, by rw [hz]⟩, q m e2.symm⟩
    · cases e
  · cases e
variable (g : GX G Ω X) {F : Ora} {pos : Pos}
include g
theorem snd_lset {a : Expr} {e : E} {p p2 q : Pos} (hc : X.calm = true) (hg : Gl X "len") (hm : X.mg "len" = none) (hg2 : Gl X "set") (hm2 : X.mg "set" = none) (ha : PE X a (LE G Ω (evE F e))) (na : starEach [a] X.env = (false, eval a X.env) :: starEach [] X.env) :
    PE X (.Call (.Name "len" p) [.Call (.Name "set" p2) [a] [] q] [] pos) (LE G Ω (evE F (.lset e))) := by
  refine ⟨fun pins s σ H Q I ⟨ρ, τ, S, rp, st, po⟩ => ?_⟩
  unfold evE at po
  refine Call_ (ld_blt I hg hm boot_len ?_)
  refine PyProof.Rows.callWith_builtin1 (PyProof.Rows.args_cons ?_ rfl) rfl rfl
  refine Call_ (ld_blt I hg2 hm2 boot_set ?_)
  refine PyProof.Rows.callWith_type1 (PyProof.Rows.args_cons (thn (ha.run pins s σ H _ I (Lf.bind rp st po)) fun v s1 ⟨x, H1, I1, r1, ρ1, w, S1, e1, rp1, st1, rw1, po1⟩ => PyProof.Rows.args_nil ?_) na) na rfl
  cases hw : lsetW S1 w with
  | none => rw [hw] at po1; exact po1.elim
  | some w' =>
    rw [hw] at po1
    refine wpAny_mono (lset_snd hc g.units I1 g.K rp1 rw1 r1 hw (Q := Q) fun n en => ?_) (fun c s2 hq => PyProof.Rows.args_nil hq) fun _ _ z => z
    subst en
    exact po1 _ _ _ Ext.refl rp1 .int
end
end Rf

set_option Elab.async false
set_option maxRecDepth 100000
/-! RfIter: enumerate over a tuple; what a loop of RfCore walks. -/
namespace Rf
open PySem PySem.Spec PyProof.Rows L2
open AutoSeq1 (wpAny_loadPart')
theorem enumT_new (l : Addr) (xs : Array Value) (n : Nat) (dd : Option Addr) (sl : Array (Option Value)) :
    Meets (Builtin.«enumerate.__new__» ⟨[.type "enumerate", .ref l], []⟩) (fun _ R s => s.heap.get? l = some { cls := .type "tuple", dict := dd, data := .seq xs n, slots := sl } ∧
      R (.ok (.ret (.ref (s.heap.push { cls := .type "tuple_iterator", data := .fields #[.ref l, .int 0 0] }).objs.size)))
        { s with heap := (s.heap.push { cls := .type "tuple_iterator", data := .fields #[.ref l, .int 0 0] }).push { cls := .type "enumerate", data := .fields #[.none, .bool false, .ref s.heap.objs.size, rawInt 0, .none, .none] } }) :=
  .of_wp fun prog w A R s h => by
    obtain ⟨h0, g0, d0, t0, o0⟩ := s
    obtain ⟨hl, hq⟩ := h
    have hsub := sub_enumerate
    have hT : Heap.IsTuple (Shared.heap ⟨h0, g0, d0, t0, o0⟩) l xs := ⟨_, hl, rfl, n, rfl⟩
    wp_walk using wpAny_loadPart' hl
    refine wpAny_stack_any fun st => wpAny_pure ?_
    split
    · rename_i c _ _ _ _ _
      cases (c == Value.type "enumerate")
      · wp_walk using wpAny_loadPart' hl, wpAny_pyIter_tuple hT
        exact ⟨_, rfl, hq⟩
      · wp_walk using wpAny_loadPart' hl, wpAny_pyIter_tuple hT
        exact ⟨_, rfl, hq⟩
    · wp_walk using wpAny_loadPart' hl, wpAny_pyIter_tuple hT
      exact ⟨_, rfl, hq⟩
section
variable {prog : Program} {w : World} {A : Around} {E : Value → Shared → Prop} {s : Shared}
theorem call_enumT {l : Addr} {xs : Array Value} {Q : Value → Shared → Prop} (hT : s.heap.IsTuple l xs)
    (h : ∀ h', IsEnum h' (s.heap.objs.size + 1) s.heap.objs.size 0 .none → h'.IsTupleIter s.heap.objs.size l 0 → (∀ b o, s.heap.get? b = some o → h'.get? b = some o) → Q (.ref (s.heap.objs.size + 1)) { s with heap := h' }) :
    wpAny (model prog w) A (call (.type "enumerate") [.ref l]) Q E s := by
  obtain ⟨⟨c, dd, dt, sl⟩, hl, hc, n, hd⟩ := hT
  replace hc : c = .type "tuple" := hc
  replace hd : dt = .seq xs n := hd
  subst hc; subst hd
  refine callType_new F.called_enumerate (by decide) (F.typeCall_enumerate_1 _) (F.newCall_enumerate_1 _) (fun obj => F.args_object_init_2 obj _) F.entry_enumerate_new (enumT_new l xs n dd sl) ⟨hl, ?_⟩
  have hz : (s.heap.push { cls := .type "tuple_iterator", data := .fields #[.ref l, .int 0 0] }).objs.size = s.heap.objs.size + 1 := Heap.size_push ..
  show _ ∧ _
  rw [hz]
  have k1 := Heap.get?_push_size (s.heap.push { cls := .type "tuple_iterator", data := .fields #[.ref l, .int 0 0] }) (o := { cls := .type "enumerate", data := .fields #[.none, .bool false, .ref s.heap.objs.size, rawInt 0, .none, .none] }) rfl
  rw [hz] at k1
  refine ⟨⟨_, k1, rfl⟩, h _ k1 ?_ fun b o e => Heap.get?_push_of_some _ (Heap.get?_push_of_some _ e)⟩
  exact ⟨_, Heap.get?_push_of_some _ (Heap.get?_push_size s.heap (o := { cls := .type "tuple_iterator", data := .fields #[.ref l, .int 0 0] }) rfl), rfl, rfl⟩
end
/-- enumerate over the tuple of n things at a -/
def IteT (K : PySem.W.Frag) (a : Addr) (n : Nat) : L2.It :=
  ⟨fun i H => ∃ (xs : List V) (x : V), SqT K H a xs ∧ xs.length = n ∧ xs[i]? = some x, fun i H v H' => ∃ T x, v = .ref T ∧ H T = none ∧ H' = upd H T (.tup [.int (i : Nat), x]) ∧ ∀ xs, SqT K H a xs → xs[i]? = some x, fun i H => ∃ xs : List V, SqT K H a xs ∧ xs.length = n ∧ n ≤ i⟩
theorem turn_enumT {P : Program} {w : World} {K : PySem.W.Frag} {elts : List Expr} {kk : Nat} {tpos : Pos} (a e it : Addr) (n : Nat) (hea : e ≠ a) (hai : a ≠ it) :
    Turn P w K (.Tuple elts kk tpos) (IteT K a n) [e, it] e (fun i h => (∃ old, IsEnum h e it ((i : Nat) : Int) old) ∧ h.IsTupleIter it a i ∧ e ≠ it ∧ i ≤ n) where
  mem := by simp
  obj := fun i h ⟨⟨old, he⟩, ⟨o, ho, hc, hd⟩, _, _⟩ b hb => by
    rcases List.mem_cons.mp hb with z | z
    · rw [z]; exact ⟨_, he, fun v q => nomatch q⟩
    · rw [List.mem_singleton.mp z]; exact ⟨o, ho, fun v q => by rw [hd] at q; cases q⟩
  keep := fun i h h' ⟨⟨old, he⟩, hi, hne, hle⟩ k => ⟨⟨old, k e (by simp) _ he⟩, hi.at fun o q => k it (by simp) o q, hne, hle⟩
  item := by
    intro X hP hw hK hc i pins s σ H E I hf st hg
    subst hP; subst hw; subst hK
    obtain ⟨⟨old, he⟩, hit, hne, hle⟩ := st
    obtain ⟨xs, x, hq, hn, hx⟩ := hg
    obtain ⟨us, rv, p, hz⟩ := I.tuple hq
    obtain ⟨u, hu, ru⟩ := rv.get hx
    have le : e < s.heap.objs.size := Heap.lt_size he
    have li : it < s.heap.objs.size := by obtain ⟨_, q, _⟩ := hit; exact Heap.lt_size q
    have iu : us.toArray[i]? = some u := by simpa using hu
    have lt : i < us.toArray.size := (Array.getElem?_eq_some_iff.mp iu).1
    refine wpAny_pyNext_enum_itemD (Draws.tuple (A := X.A.in1) (I.ok.hd hc) it a hai us.toArray) he ⟨hit, p⟩ lt hne (by simp [hne, hea]) fun y h' tk hy ho hst hT hsz hk => ?_
    rw [iu] at hy
    cases hy
    refine ⟨_, rfl, wpAny_letOwnedTupleGo_enum (s := { s with heap := h', toks := tk + 1 }) ho fun h2 he2 sb => ?_⟩
    have hT2 : h2.get? s.heap.objs.size = some { cls := .type "tuple", data := .seq #[.int i tk, u] } := (sb.2 _ (Nat.ne_of_gt le)).trans hT
    have new : ObjOk X.prog X.w (upd H s.heap.objs.size (.tup [.int (i : Nat), x])) h2 s.heap.objs.size (.tup [.int (i : Nat), x]) :=
      ⟨by show 2 ≤ sizeLine; decide, [.int i tk, u], .cons ⟨_, rfl⟩ (.cons ru .nil), ⟨_, hT2, rfl, _, rfl⟩⟩
    have I1 := I.turnedNew (t' := tk + 1) (ch := [e, it]) (fun b ob hb q => (sb.2 b (fun z => hb (by simp [z]))).trans (hk b ob (fun z => hb (by simp [z])) (fun z => hb (by simp [z])) q)) hf (Nat.le_refl _) new
    refine ⟨.ref s.heap.objs.size, _, I1, rfl, ⟨_, x, rfl, I.hok.fresh (Nat.le_refl _), rfl, fun ys hy => by rw [I.tuple_inj hy hq]; exact hx⟩, ⟨⟨u, ?_⟩, hst.1.at fun o q => (sb.2 it (Ne.symm hne)).trans q, hne, ?_⟩, fun b hb => ?_⟩
    · rw [show ((i + 1 : Nat) : Int) = (i : Int) + 1 by omega]; exact he2
    · rw [List.size_toArray, ← rv.length] at lt; omega
    · have lb : b < s.heap.objs.size := by
        rcases List.mem_cons.mp hb with z | z
        · rw [z]; exact le
        · rw [List.mem_singleton.mp z]; exact li
      rw [upd_ne (Nat.ne_of_lt lb)]
      exact (hf b hb).1
  done := by
    intro X hP hw hK hc i pins s σ H E I hf st hg
    subst hP; subst hw; subst hK
    obtain ⟨⟨old, he⟩, hit, hne, hle⟩ := st
    obtain ⟨xs, hq, hn, hx⟩ := hg
    obtain ⟨us, rv, p, hz⟩ := I.tuple hq
    obtain ⟨f0, f1, f2, f3, f4, f5⟩ := hf it (by simp)
    have ei : i = us.toArray.size := by rw [List.size_toArray, ← rv.length]; omega
    subst ei
    exact wpAny_pyNext_enum_endD (Draws.tuple (A := X.A.in1) (I.ok.hd hc) it a hai us.toArray) he ⟨hit, p⟩ fun h' eb => ⟨rfl, I.turned (t' := s.toks) (fun b o hb q => eb b o hb q) f0 f1 f3 f4 f5⟩
  self := fun A i s Q E ⟨⟨_, he⟩, _, _⟩ h => wpAny_pyIter_enum he h
theorem pi_enumT {X : Cx} {e : Expr} {ta : TA} {p pos tpos : Pos} {elts : List Expr} {kk : Nat} (hg : Gl X "enumerate") (hm : X.mg "enumerate" = none) (ha : PA X [e] ta) (hs : starEach [e] X.env = [(false, eval e X.env)]) :
    PI X (.Tuple elts kk tpos) (.Call (.Name "enumerate" p) [e] [] pos) (fun σ H R => ta σ H fun vs H1 => ∃ a xs, vs = [.ref a] ∧ SqT X.K H1 a xs ∧ R (IteT X.K a xs.length) H1) := by
  refine ⟨fun pins s σ H R I h => Call_ (ld_blt I hg hm boot_enumerate (PyProof.Rows.callWith_type1 (thn (ha.run pos pins s σ H _ I h) fun us s1 ⟨vs, H1, I1, r1, a, xs, ex, hq, q⟩ => ?_) hs rfl))⟩
  subst ex
  obtain ⟨u, rfl, ru⟩ := vals1 r1
  cases ru
  obtain ⟨its, rv, p', hz⟩ := I1.tuple hq
  have ha' : a < s1.heap.objs.size := by obtain ⟨_, e1, _⟩ := p'; exact Heap.lt_size e1
  refine call_enumT p' fun h' he hit hk => wpAny_pyIter_enum he ?_
  have I2 : Inv X pins σ H1 { s1 with heap := h' } := I1.kept (t' := s1.toks) hk
  refine ⟨s1.heap.objs.size + 1, [s1.heap.objs.size + 1, s1.heap.objs.size], _, _, H1, rfl, I2, turn_enumT a (s1.heap.objs.size + 1) s1.heap.objs.size xs.length (Nat.ne_of_gt (Nat.lt_succ_of_lt ha')) (Nat.ne_of_lt ha'), ⟨⟨.none, he⟩, hit, Nat.succ_ne_self _, Nat.zero_le _⟩, fun b hb => ?_, q⟩
  have hle : s1.heap.objs.size ≤ b := by
    rcases List.mem_cons.mp hb with z | z
    · rw [z]; exact Nat.le_succ _
    · rw [List.mem_singleton.mp z]; exact Nat.le_refl _
  exact I1.fpOk hle (I1.hok.fresh hle)
end Rf

set_option Elab.async false
set_option maxRecDepth 100000
/-! RfLoop: what is walked, turn by turn; targets; list comprehensions. -/
namespace Rf
open PySem PySem.Spec PyProof.Rows L2
inductive JR (G : GC) (K : PySem.W.Frag) (ρ : List Addr) (H : Hp) : Ju → L2.It → Prop
  | st {xs : List W} {vs : List V} {a : Addr} : Rd H a (.tup vs) → Rs G ρ H xs vs → JR G K ρ H (.one (.st xs)) (Itt K a)
  | lv {l : Nat} {a : Addr} : ρ[l]? = some a → JR G K ρ H (.one (.lv l)) (Itl K a)
  | rng {lo : Int} {n : Nat} : JR G K ρ H (.rng lo n) (Itr lo n)
  | enS {xs : List W} {vs : List V} {a : Addr} : Rd H a (.tup vs) → Rs G ρ H xs vs → JR G K ρ H (.enum (.st xs)) (IteT K a vs.length)
  | enL {l : Nat} {a : Addr} : ρ[l]? = some a → JR G K ρ H (.enum (.lv l)) (Ite K a)
  | zpS {xs ys : List W} {vs us : List V} {a b : Addr} : Rd H a (.tup vs) → Rs G ρ H xs vs → Rd H b (.tup us) → Rs G ρ H ys us → JR G K ρ H (.zip [.st xs, .st ys]) (RZ.ItzT K a b)
  | zpL {l m : Nat} {a b : Addr} : ρ[l]? = some a → ρ[m]? = some b → JR G K ρ H (.zip [.lv l, .lv m]) (Itz K a b)
  | its {l : Nat} {d : Addr} {o : Obj} {kvs : List (DKey × W)} {vs : List (Key × V)} : H d = some (.frz o (.dK vs)) → RK G ρ H kvs vs → JR G K ρ H (.items l kvs) (Iti d o vs)
section
variable {G : GC} {X : Cx} {pins : List (Addr × Obj)} {s : Shared} {ρ ρ' : List Addr} {H H' : Hp} {σ : L2.St} {S : Store} {J : Ju} {jt : L2.It} {i : Nat}
theorem rd_ext {a : Addr} {vs : List V} (e : Ext G ρ H ρ' H') (h : Rd H a (.tup vs)) : Rd H' a (.tup vs) := by
  rcases h with h | ⟨o, h⟩
  · exact .inl (e.tup _ _ h)
  · exact .inr ⟨o, e.tpl _ _ _ h⟩
theorem JR.mono {K : PySem.W.Frag} (e : Ext G ρ H ρ' H') (h : JR G K ρ H J jt) : JR G K ρ' H' J jt := by
  cases h with
  | st h1 h2 => exact .st (rd_ext e h1) (h2.mono e)
  | lv h1 => exact .lv (e.pre _ _ h1)
  | rng => exact .rng
  | enS h1 h2 => exact .enS (rd_ext e h1) (h2.mono e)
  | enL h1 => exact .enL (e.pre _ _ h1)
  | zpS h1 h2 h3 h4 => exact .zpS (rd_ext e h1) (h2.mono e) (rd_ext e h3) (h4.mono e)
  | zpL h1 h2 => exact .zpL (e.pre _ _ h1) (e.pre _ _ h2)
  | its h1 h2 => exact .its (e.tpl _ _ _ h1) (h2.mono e)
/-- a list that is walked, as it stands -/
theorem lv_at (rp : Rp G ρ H S) {l : Nat} {a : Addr} (h : ρ[l]? = some a) {o : Option W} (e : (Src.lv l).at S i = some o) : ∃ xs vs, SqL G.K H a vs ∧ Rs G ρ H xs vs ∧ o = xs[i]? := by
  change (match S.get l with | some (.lst xs) => some xs[i]? | some (.frz xs) => some xs[i]? | _ => none) = some o at e
  split at e
  · cases e
    obtain ⟨b, vs, h1, h2, h3⟩ := rp.seqL (.loc h) (.inl (by assumption))
    cases h1
    exact ⟨_, vs, h2, h3, rfl⟩
  · cases e
    obtain ⟨b, vs, h1, h2, h3⟩ := rp.seqL (.loc h) (.inr (by assumption))
    cases h1
    exact ⟨_, vs, h2, h3, rfl⟩
  · cases e
theorem Rs.none {xs : List W} {vs : List V} (h : Rs G ρ H xs vs) (e : xs[i]? = none) : vs.length ≤ i := by
  rw [← h.length]; exact List.getElem?_eq_none_iff.mp e
theorem pair_new (rp : Rp G ρ H S) {T : Addr} (hT : H T = none) {w z : W} {v u : V} (r1 : R G ρ H w v) (r2 : R G ρ H z u) : Ext G ρ H ρ (upd H T (.tup [v, u])) ∧ Rp G ρ (upd H T (.tup [v, u])) S ∧ R G ρ (upd H T (.tup [v, u])) (.tup [w, z]) (.ref T) :=
  have e := Ext.aside (G := G) (o := HO.tup [v, u]) rp hT
  ⟨e, rp.aside hT, .tup upd_same (.cons (r1.mono e) (.cons (r2.mono e) .nil))⟩
theorem zip2 {s t : Src} {x : W} (e : (Ju.zip [s, t]).at S i = some (some x)) : ∃ y z, s.at S i = some (some y) ∧ t.at S i = some (some z) ∧ x = .tup [y, z] := by
  change (zipAt S i [s, t]).map (fun o => o.map W.tup) = some (some x) at e
  obtain ⟨o, e1, e2⟩ := Option.map_eq_some_iff.mp e
  obtain ⟨ws, e3, e4⟩ := Option.map_eq_some_iff.mp e2
  subst e3; subst e4
  unfold zipAt at e1
  split at e1
  · rename_i y ws' h1 h2
    cases e1
    unfold zipAt at h2
    split at h2
    · rename_i z zs h3 h4
      cases h2
      unfold zipAt at h4
      cases h4
      exact ⟨_, _, h1, h3, rfl⟩
    · cases h2
    · cases h2
  · cases e1
  · cases e1
theorem zip2n {s t : Src} (e : (Ju.zip [s, t]).at S i = some none) : (s.at S i = some none ∧ ∃ o, t.at S i = some o) ∨ ((∃ o, s.at S i = some o) ∧ t.at S i = some none) := by
  change (zipAt S i [s, t]).map (fun o => o.map W.tup) = some none at e
  obtain ⟨o, e1, e2⟩ := Option.map_eq_some_iff.mp e
  have e2 := Option.map_eq_none_iff.mp e2
  subst e2
  have zt : zipAt S i [t] = some none → t.at S i = some none := fun h => by
    unfold zipAt at h
    split at h
    · cases h
    · rename_i a b hx h1 h2
      unfold zipAt at h2
      cases h2
      cases a with
      | none => exact h1
      | some y => exact (hx y [] rfl rfl).elim
    · cases h
  have zs : ∀ o, zipAt S i [t] = some o → ∃ p, t.at S i = some p := fun o h => by
    cases ht : t.at S i with
    | some p => exact ⟨p, rfl⟩
    | none => unfold zipAt at h; rw [ht] at h; cases h
  unfold zipAt at e1
  split at e1
  · cases e1
  · rename_i a b hx h1 h2
    cases a with
    | none => exact .inl ⟨h1, zs _ h2⟩
    | some y =>
      cases b with
      | none => exact .inr ⟨⟨_, h1⟩, zt h2⟩
      | some ys => exact (hx y ys rfl rfl).elim
  · cases e1
theorem rk_get {κ : Type} : ∀ {kvs : List (κ × W)} {vs : List (κ × V)} {i : Nat} {p : κ × W}, RK G ρ H kvs vs → kvs[i]? = some p → ∃ v, vs[i]? = some (p.1, v) ∧ R G ρ H p.2 v := by
  intro kvs vs i p h
  induction h generalizing i with
  | nil => intro e; simp at e
  | cons r _ ih =>
    intro e
    cases i with
    | zero =>
      have e1 := Option.some.inj e
      subst e1
      exact ⟨_, rfl, r⟩
    | succ i => exact ih e
theorem JR.item (hJ : JR G G.K ρ H J jt) (rp : Rp G ρ H S) {x : W} (e : J.at S i = some (some x)) :
    jt.go i H ∧ ∀ v H', jt.yld i H v H' → Ext G ρ H ρ H' ∧ Rp G ρ H' S ∧ R G ρ H' x v := by
  have here : ∀ {v : V}, R G ρ H x v → ∀ H', H' = H → Ext G ρ H ρ H' ∧ Rp G ρ H' S ∧ R G ρ H' x v := fun r H' q => by subst q; exact ⟨Ext.refl, rp, r⟩
  cases hJ with
  | st h1 h2 =>
    have e1 : ‹List W›[i]? = some x := Option.some.inj e
    obtain ⟨v, h3, h4⟩ := h2.get e1
    refine ⟨⟨_, v, .inl h1, h3⟩, fun u H' ⟨q1, q2⟩ => ?_⟩
    have := q2 _ (.inl h1)
    rw [h3] at this; cases this
    exact here h4 H' q1
  | lv h1 =>
    obtain ⟨xs, vs, k1, k2, k3⟩ := lv_at rp h1 e
    obtain ⟨v, h3, h4⟩ := k2.get k3.symm
    refine ⟨⟨_, v, k1, h3⟩, fun u H' ⟨q1, q2⟩ => ?_⟩
    have := q2 _ k1
    rw [h3] at this; cases this
    exact here h4 H' q1
  | @rng lo n =>
    change some (if i < n then some (W.int (lo + i)) else none) = some (some x) at e
    have e := Option.some.inj e
    split at e
    · rename_i hl
      cases e
      exact ⟨hl, fun u H' ⟨q1, q2⟩ => by subst q2; exact here .int H' q1⟩
    · cases e
  | enS h1 h2 =>
    rename_i xs vs a
    change some (xs[i]?.map fun z => W.tup [.int i, z]) = some (some x) at e
    obtain ⟨y, e1, e2⟩ := Option.map_eq_some_iff.mp (Option.some.inj e)
    subst e2
    obtain ⟨v, h3, h4⟩ := h2.get e1
    refine ⟨⟨_, v, .inl h1, rfl, h3⟩, fun u H' ⟨T, z, q0, q1, q2, q3⟩ => ?_⟩
    have := q3 _ (.inl h1)
    rw [h3] at this; cases this
    subst q0; subst q2
    exact pair_new rp q1 .int h4
  | @enL l a h1 =>
    change ((Src.lv l).at S i).map (fun o => o.map fun z => W.tup [.int i, z]) = some (some x) at e
    obtain ⟨o, e1, e2⟩ := Option.map_eq_some_iff.mp e
    obtain ⟨y, e3, e4⟩ := Option.map_eq_some_iff.mp e2
    subst e4
    obtain ⟨xs, vs, k1, k2, k3⟩ := lv_at rp h1 e1
    obtain ⟨v, h3, h4⟩ := k2.get (k3.symm.trans e3)
    refine ⟨⟨_, v, k1, h3⟩, fun u H' ⟨T, z, q0, q1, q2, q3⟩ => ?_⟩
    have := q3 _ k1
    rw [h3] at this; cases this
    subst q0; subst q2
    exact pair_new rp q1 .int h4
  | zpS h1 h2 h3 h4 =>
    obtain ⟨y, z, e1, e2, e3⟩ := zip2 e
    subst e3
    obtain ⟨v, k1, k2⟩ := h2.get (Option.some.inj e1)
    obtain ⟨u, k3, k4⟩ := h4.get (Option.some.inj e2)
    refine ⟨⟨_, _, v, u, .inl h1, .inl h3, k1, k3⟩, fun t H' ⟨T, a1, b1, q0, q1, q2, q3, q4⟩ => ?_⟩
    have m1 := q3 _ (.inl h1)
    have m2 := q4 _ (.inl h3)
    rw [k1] at m1; cases m1
    rw [k3] at m2; cases m2
    subst q0; subst q2
    exact pair_new rp q1 k2 k4
  | zpL h1 h2 =>
    obtain ⟨y, z, e1, e2, e3⟩ := zip2 e
    subst e3
    obtain ⟨xs, vs, j1, j2, j3⟩ := lv_at rp h1 e1
    obtain ⟨ys, us, j4, j5, j6⟩ := lv_at rp h2 e2
    obtain ⟨v, k1, k2⟩ := j2.get j3.symm
    obtain ⟨u, k3, k4⟩ := j5.get j6.symm
    refine ⟨⟨_, _, v, u, j1, j4, k1, k3⟩, fun t H' ⟨T, a1, b1, q0, q1, q2, q3, q4⟩ => ?_⟩
    have m1 := q3 _ j1
    have m2 := q4 _ j4
    rw [k1] at m1; cases m1
    rw [k3] at m2; cases m2
    subst q0; subst q2
    exact pair_new rp q1 k2 k4
  | @its l d o kvs vs h1 h2 =>
    change some ((kvs[i]?).map fun q => W.tup [match q.1 with | .inl k => .int k | .inr s => .str s, q.2]) = some (some x) at e
    obtain ⟨p, e1, e2⟩ := Option.map_eq_some_iff.mp (Option.some.inj e)
    subst e2
    obtain ⟨v, h3, h4⟩ := rk_get h2 e1
    refine ⟨⟨h1, (List.getElem?_eq_some_iff.mp h3).1⟩, fun u H' ⟨T, k, z, q0, q1, q2, q3⟩ => ?_⟩
    rw [h3] at q0; cases q0
    subst q1; subst q3
    have rk : R G ρ H (match p.1 with | .inl k => W.int k | .inr s => .str s) (kV p.1) := by
      cases p.1 with
      | inl k => exact .int
      | inr z => exact .str
    exact pair_new rp q2 rk h4
theorem JR.stop (hJ : JR G G.K ρ H J jt) (rp : Rp G ρ H S) (e : J.at S i = some none) : jt.stop i H := by
  cases hJ with
  | st h1 h2 => exact ⟨_, .inl h1, h2.none (Option.some.inj e)⟩
  | lv h1 =>
    obtain ⟨xs, vs, k1, k2, k3⟩ := lv_at rp h1 e
    exact ⟨_, k1, k2.none k3.symm⟩
  | @rng lo n =>
    change some (if i < n then some (W.int (lo + i)) else none) = some none at e
    have e := Option.some.inj e
    split at e
    · cases e
    · exact Nat.le_of_not_lt (by assumption)
  | @enS xs vs a h1 h2 =>
    change some (xs[i]?.map fun z => W.tup [.int i, z]) = some none at e
    have e1 := Option.map_eq_none_iff.mp (Option.some.inj e)
    exact ⟨_, .inl h1, rfl, h2.none e1⟩
  | @enL l a h1 =>
    change ((Src.lv l).at S i).map (fun o => o.map fun z => W.tup [.int i, z]) = some none at e
    obtain ⟨o, e1, e2⟩ := Option.map_eq_some_iff.mp e
    obtain ⟨xs, vs, k1, k2, k3⟩ := lv_at rp h1 e1
    exact ⟨_, k1, k2.none (k3.symm.trans (Option.map_eq_none_iff.mp e2))⟩
  | zpS h1 h2 h3 h4 =>
    refine ⟨_, _, .inl h1, .inl h3, ?_⟩
    rcases zip2n e with ⟨e1, _⟩ | e1
    · exact .inl (h2.none (Option.some.inj e1))
    · exact .inr (h4.none (Option.some.inj e1.2))
  | zpL h1 h2 =>
    rcases zip2n e with ⟨e1, o, e2⟩ | ⟨⟨o, e1⟩, e2⟩
    · obtain ⟨xs, vs, j1, j2, j3⟩ := lv_at rp h1 e1
      obtain ⟨ys, us, j4, j5, j6⟩ := lv_at rp h2 e2
      exact ⟨_, _, j1, j4, .inl (j2.none j3.symm)⟩
    · obtain ⟨xs, vs, j1, j2, j3⟩ := lv_at rp h1 e1
      obtain ⟨ys, us, j4, j5, j6⟩ := lv_at rp h2 e2
      exact ⟨_, _, j1, j4, .inr (j5.none j6.symm)⟩
  | @its l d o kvs vs h1 h2 =>
    change some ((kvs[i]?).map fun q => W.tup [match q.1 with | .inl k => .int k | .inr s => .str s, q.2]) = some none at e
    have e1 := Option.map_eq_none_iff.mp (Option.some.inj e)
    refine ⟨h1, ?_⟩
    rw [← h2.length]
    exact List.getElem?_eq_none_iff.mp e1
end
end Rf

set_option Elab.async false
set_option maxRecDepth 100000
/-! RfComp: targets, what is walked, list comprehensions. -/
namespace Rf
open PySem PySem.Spec PyProof.Rows L2
theorem two_of {α : Type} {l : List α} (h : l.length = 2) : ∃ a b, l = [a, b] := by
  match l, h with
  | [a, b], _ => exact ⟨a, b, rfl⟩
/-- a range's bounds -/
def rgOf' : List V → Option (Int × Int)
  | [.int j] => some (0, j)
  | [.int i, .int j] => some (i, j)
  | _ => none
theorem rgOf_rel {G : GC} {ρ : List Addr} {H : Hp} {ws : List W} {vs : List V} {p : Int × Int} (r : Rs G ρ H ws vs) (h : rgOf ws = some p) : rgOf' vs = some p := by
  unfold rgOf at h
  split at h
  · split at h
    · cases h
      obtain ⟨x, rfl, r1⟩ := r.one
      cases r1; rfl
    · cases h
  · split at h
    · cases h
      obtain ⟨x, y, rfl, r1, r2⟩ := r.two
      cases r1; cases r2; rfl
    · cases h
  · cases h
/-- a target; P: what is kept of the slots -/
def RSP (G : GC) (P : L2.St → L2.St → Prop) (σ : L2.St) (ρ : List Addr) (H : Hp) (τ' : Tau) (σ' : L2.St) : Prop := RSt G ρ H τ' σ' ∧ P σ σ'
def LG (G : GC) (P : L2.St → L2.St → Prop) (d : W → Tau → Store → Res Tau) : TG := fun v σ H Q => ∃ ρ τ S w, Rp G ρ H S ∧ RSt G ρ H τ σ ∧ R G ρ H w v ∧ Post G (RSP G P σ) E0 ρ H Q (d w τ S).noX
def LGs (G : GC) (P : L2.St → L2.St → Prop) (d : List W → Tau → Store → Res Tau) : TGs := fun vs σ H Q => ∃ ρ τ S ws, Rp G ρ H S ∧ RSt G ρ H τ σ ∧ Rs G ρ H ws vs ∧ Post G (RSP G P σ) E0 ρ H Q (d ws τ S).noX
abbrev LI (G : GC) (Ω : WX) (K : PySem.W.Frag) (d : Tau → Store → Res Ju) : TI := Lf G Ω (JR G K) d
theorem _root_.L2.PG.via {X : Cx} {e : Expr} {t t' : TG} (h : PG X e t) (hi : ∀ v σ H Q, t' v σ H Q → t v σ H Q) : PG X e t' := ⟨fun pins s σ H v u Q I r q => h.run pins s σ H v u Q I r (hi _ _ _ _ q)⟩
theorem _root_.L2.PI.via {X : Cx} {tg e : Expr} {t t' : TI} (h : PI X tg e t) (hi : ∀ σ H R, t' σ H R → t σ H R) : PI X tg e t' := ⟨fun pins s σ H R I q => h.run pins s σ H R I (hi _ _ _ q)⟩
section
variable {G : GC} {X : Cx} {Ω : WX} (g : GX G Ω X) {F : Ora} {pos : Pos}
include g
/-! ### targets -/
variable {P : L2.St → L2.St → Prop}
theorem snd_gnm {i : Nat} {x : Str} (hi : X.N[i]? = some x) (hx : Loc X.env.scope x) (hf : X.fn x = true ∨ X.env.scope.names.lookup x = some .local) (hP : ∀ σ v, P σ (σ.set i (some v))) : PG X (.Name x pos) (LG G P (evG F (.nm i))) :=
  (pg_name g.nd hi hx hf).via fun v σ H Q ⟨ρ, τ, S, w, rp, st, r, po⟩ => by
    unfold evG at po
    exact po _ _ _ Ext.refl rp ⟨st.put r, hP _ _⟩
theorem snd_gs0 (hr : ∀ σ, P σ σ) : PGs X [] (LGs G P (evGs F .nil)) := ⟨fun pins s σ H vs us Q I r ⟨ρ, τ, S, ws, rp, st, rs, po⟩ => by
  cases rs with
  | nil =>
    unfold evGs at po
    exact pgs_nil.run pins s σ H _ us Q I r ⟨rfl, po _ _ _ Ext.refl rp ⟨st, hr _⟩⟩
  | cons _ _ => unfold evGs at po; exact po.elim⟩
theorem snd_gs1 (hT : ∀ a b c, P a b → P b c → P a c) {e : Expr} {es : List Expr} {t : Tg} {ts : Tgs} (h1 : PG X e (LG G P (evG F t))) (h2 : PGs X es (LGs G P (evGs F ts))) (hs : (assignEach (e :: es) X.env).map (·.2) = assign e X.env :: (assignEach es X.env).map (·.2)) : PGs X (e :: es) (LGs G P (evGs F (.cons t ts))) :=
  ⟨fun pins s σ H vs us Q I r ⟨ρ, τ, S, ws, rp, st, rs, po⟩ => by
    cases rs with
    | nil => unfold evGs at po; exact po.elim
    | cons r1 rr =>
      unfold evGs at po
      refine (pgs_cons h1 h2 hs).run pins s σ H _ us Q I r ⟨_, _, rfl, ρ, τ, S, _, rp, st, r1, ?_⟩
      refine (po.bindN (rel2 := RSP G P σ)).imp fun σ' H' ⟨ρ1, τ1, S1, e1, rp1, ⟨st1, p1⟩, po1⟩ => ⟨ρ1, τ1, S1, _, rp1, st1, rr.mono e1, ?_⟩
      exact po1.re fun ρ2 H2 τ2 σ2 ⟨k1, k2⟩ => ⟨k1, hT _ _ _ p1 k2⟩⟩
theorem snd_gtp (hc : X.calm = true) {es : List Expr} {ts : Tgs} {k : Nat} {n : Nat} (h : PGs X es (LGs G P (evGs F ts))) (hn : (assignEach es X.env).length = n) (hst : (assignEach es X.env).findIdx? (·.1) = none) (hl : ∀ {ws : List W} {τ : Tau} {S : Store}, ws.length ≠ n → ∀ τ' S', evGs F ts ws τ S ≠ .ok τ' S') : PG X (.Tuple es k pos) (LG G P (evG F (.tp ts))) :=
  (pg_tup hc h hn hst).via fun v σ H Q ⟨ρ, τ, S, w, rp, st, r, po⟩ => by
    have go : ∀ {ws : List W}, tupOf w = some ws → Post G (RSP G P σ) E0 ρ H Q (evGs F ts ws τ S).noX → gTup X.K n (LGs G P (evGs F ts)) v σ H Q := fun {ws} hw po => by
      obtain ⟨a, vs, rfl, h1, h2⟩ := r.seqT (K := X.K) hw
      by_cases e : ws.length = n
      · exact ⟨a, vs, rfl, h1, h2.length.symm.trans e, ρ, τ, S, ws, rp, st, h2, po⟩
      · cases q : evGs F ts ws τ S with
        | ok τ' S' => exact absurd q (hl e _ _)
        | exc c fs S' => rw [q] at po; exact po.elim
        | stuck => rw [q] at po; exact po.elim
    unfold evG at po
    split at po
    · rename_i q; cases q
    · rename_i q; cases q; exact go rfl po
    · rename_i q; cases q; exact go rfl po
    · rename_i q; cases q
    · rename_i q; cases q
    · exact po.elim
theorem snd_gsub (hr : ∀ σ, P σ σ) {o i : Expr} {eo ei : E} (ho : PE X o (LE G Ω (evE F eo))) (hi : PE X i (LE G Ω (evE F ei)))
    (ha : ∀ v, assign (.Subscript o i pos) X.env v = (do
      let ov ← holding [v] (eval o X.env)
      let iv ← holding [v, ov] (eval i X.env)
      standAt pos
      holding [v, ov, iv] (setItem ov iv v)
      release [v, ov, iv] [])) : PG X (.Subscript o i pos) (LG G P (evG F (.sub eo ei))) := by
  refine (pg_sub (t := fun x y z H Q => ∃ ρ S a b c S', Rp G ρ H S ∧ R G ρ H a x ∧ R G ρ H b y ∧ R G ρ H c z ∧ setW S a b c = some S' ∧ ∀ H', Ext G ρ H ρ H' → Rp G ρ H' S' → Q H') ho hi ?_ ha).via fun v σ H Q ⟨ρ, τ, S, w, rp, st, r, po⟩ => ?_
  · intro pins s σ H x y z v u r Q I r1 r2 r3 ⟨ρ, S, a, b, c, S', rp, ra, rb, rc, h, q⟩
    exact setW_snd (by have := g.units; omega) I r1 r2 r3 rp ra rb rc h q
  · unfold evG at po
    refine ⟨ρ, τ, S, rp, st, (po.bindN (rel2 := R G)).noX.imp fun x H1 ⟨ρ1, a, S1, e1, rp1, r1, po1⟩ => ?_⟩
    refine ⟨ρ1, τ, S1, rp1, st.mono e1, (po1.bindN (rel2 := R G)).noX.imp fun y H2 ⟨ρ2, b, S2, e2, rp2, r2, po2⟩ => ?_⟩
    have st2 := (st.mono e1).mono e2
    split at po2
    · rename_i S' hs
      exact ⟨ρ2, S2, a, b, w, S', rp2, r1.mono e2, r2, (r.mono e1).mono e2, hs, fun H' ex rp' => po2 _ _ _ ex rp' ⟨st2.mono ex, hr _⟩⟩
    · exact po2.elim
/-! ### what is walked -/
theorem snd_iseq {tg e : Expr} {ie : E} (he : PE X e (LE G Ω (evE F ie))) : PI X tg e (LI G Ω X.K (evI F (.seq ie))) := by
  have hK := g.K
  refine ⟨fun pins s σ H R' I ⟨ρ, τ, S, rp, st, po⟩ => ?_⟩
  unfold evI at po
  cases hd : evE F ie τ S with
  | exc c fs S1 =>
    rw [hd] at po
    exact thn (he.run pins s σ H (fun _ _ => False) I ⟨ρ, τ, S, rp, st, by rw [hd]; exact po⟩) fun v s1 ⟨_, _, _, _, z⟩ => z.elim
  | stuck => rw [hd] at po; exact po.elim
  | ok w S1 =>
    rw [hd] at po
    change Post G (JR G X.K) (WE Ω σ) ρ H R' (match srcOf S1 w with | some s => .ok (.one s) S1 | none => .stuck) at po
    have here : Post G (R G) (WE Ω σ) ρ H (fun x H1 => ∃ ρ1, Ext G ρ H ρ1 H1 ∧ Rp G ρ1 H1 S1 ∧ R G ρ1 H1 w x) (evE F ie τ S) := by
      rw [hd]; exact fun ρ' H' v e rp' r => ⟨ρ', e, rp', r⟩
    split at po
    · rename_i sc hs
      unfold srcOf at hs
      have tup : ∀ {xs : List W}, tupOf w = some xs → sc = .st xs → wpAny (model X.prog X.w) X.A (eval e X.env) (fun v s1 => wpAny (model X.prog X.w) X.A (pyIter v) (PIE X pins σ tg R') X.xe s1) X.xe s := fun {xs} hw es => by
        subst es
        refine (pi_tup (tg := tg) he).run pins s σ H R' I ⟨ρ, τ, S, rp, st, here.imp fun x H1 ⟨ρ1, e1, rp1, r1⟩ => ?_⟩
        obtain ⟨a, vs, rfl, h1, h2⟩ := r1.tup_rd hw
        exact ⟨a, rfl, ⟨vs, .inl h1⟩, po _ _ _ e1 rp1 (.st h1 h2)⟩
      have lst : ∀ {l : Nat}, w = .loc l → ((∃ xs, S1.get l = some (.lst xs)) ∨ ∃ xs, S1.get l = some (.frz xs)) → sc = .lv l → wpAny (model X.prog X.w) X.A (eval e X.env) (fun v s1 => wpAny (model X.prog X.w) X.A (pyIter v) (PIE X pins σ tg R') X.xe s1) X.xe s := fun {l} hw hl es => by
        subst es; subst hw
        refine (pi_list (tg := tg) he).run pins s σ H R' I ⟨ρ, τ, S, rp, st, here.imp fun x H1 ⟨ρ1, e1, rp1, r1⟩ => ?_⟩
        have hl' : ∃ xs, S1.get l = some (.lst xs) ∨ S1.get l = some (.frz xs) := by
          rcases hl with ⟨xs, q⟩ | ⟨xs, q⟩
          · exact ⟨xs, .inl q⟩
          · exact ⟨xs, .inr q⟩
        obtain ⟨xs, q⟩ := hl'
        obtain ⟨a, vs, rfl, h1, h2⟩ := rp1.seqL r1 q
        obtain ⟨b, hb, hb2⟩ := r1.loc_inv
        cases hb
        exact ⟨a, rfl, ⟨vs, by rw [hK]; exact h1⟩, po _ _ _ e1 rp1 (.lv hb2)⟩
      split at hs
      · cases hs; exact tup rfl rfl
      · cases hs; exact tup rfl rfl
      · split at hs
        · cases hs; exact lst rfl (.inl ⟨_, by assumption⟩) rfl
        · cases hs; exact lst rfl (.inr ⟨_, by assumption⟩) rfl
        · cases hs
      · cases hs
    · exact po.elim
omit g in
theorem eval_here {α β : Type} {rel : List Addr → Hp → α → β → Prop} {ρ : List Addr} {H : Hp} {w : α} {S1 : Store} {E : XK} : Post G rel E ρ H (fun x H1 => ∃ ρ1, Ext G ρ H ρ1 H1 ∧ Rp G ρ1 H1 S1 ∧ rel ρ1 H1 w x) (.ok w S1) := fun ρ' H' v e rp' r => ⟨ρ', e, rp', r⟩
theorem snd_ienum {e : Expr} {ie : E} {p tpos : Pos} {elts : List Expr} {kk : Nat} (hg : Gl X "enumerate") (hm : X.mg "enumerate" = none) (he : PE X e (LE G Ω (evE F ie))) (hp : plainE e = true) :
    PI X (.Tuple elts kk tpos) (.Call (.Name "enumerate" p) [e] [] pos) (LI G Ω X.K (evI F (.enum ie))) := by
  have hK := g.K
  have pa : PA X [e] (tCons (LE G Ω (evE F ie)) tNil) := pa_cons he pa_nil (star_plain hp)
  have hs : starEach [e] X.env = [(false, eval e X.env)] := star_plain hp
  refine ⟨fun pins s σ H R' I ⟨ρ, τ, S, rp, st, po⟩ => ?_⟩
  unfold evI at po
  cases hd : evE F ie τ S with
  | exc c fs S1 =>
    rw [hd] at po
    refine (pi_enum hg hm pa hs).run pins s σ H R' I ⟨ρ, τ, S, rp, st, ?_⟩
    rw [hd]
    exact po
  | stuck => rw [hd] at po; exact po.elim
  | ok w S1 =>
    rw [hd] at po
    change Post G (JR G X.K) (WE Ω σ) ρ H R' (match srcOf S1 w with | some s => .ok (.enum s) S1 | none => .stuck) at po
    have here : Post G (R G) (WE Ω σ) ρ H (fun x H1 => ∃ ρ1, Ext G ρ H ρ1 H1 ∧ Rp G ρ1 H1 S1 ∧ R G ρ1 H1 w x) (evE F ie τ S) := by
      rw [hd]; exact eval_here
    split at po
    · rename_i sc hsr
      unfold srcOf at hsr
      have tup : ∀ {xs : List W}, tupOf w = some xs → sc = .st xs → wpAny (model X.prog X.w) X.A (eval (.Call (.Name "enumerate" p) [e] [] pos) X.env) (fun v s1 => wpAny (model X.prog X.w) X.A (pyIter v) (PIE X pins σ (.Tuple elts kk tpos) R') X.xe s1) X.xe s := fun {xs} hw es => by
        subst es
        refine (pi_enumT hg hm pa hs).run pins s σ H R' I ⟨ρ, τ, S, rp, st, here.imp fun x H1 ⟨ρ1, e1, rp1, r1⟩ => ?_⟩
        obtain ⟨a, vs, rfl, h1, h2⟩ := r1.tup_rd hw
        exact ⟨a, vs, rfl, .inl h1, po _ _ _ e1 rp1 (.enS h1 h2)⟩
      have lst : ∀ {l : Nat}, w = .loc l → (∃ xs, S1.get l = some (.lst xs) ∨ S1.get l = some (.frz xs)) → sc = .lv l → wpAny (model X.prog X.w) X.A (eval (.Call (.Name "enumerate" p) [e] [] pos) X.env) (fun v s1 => wpAny (model X.prog X.w) X.A (pyIter v) (PIE X pins σ (.Tuple elts kk tpos) R') X.xe s1) X.xe s := fun {l} hw ⟨xs, q⟩ es => by
        subst es; subst hw
        refine (pi_enum hg hm pa hs).run pins s σ H R' I ⟨ρ, τ, S, rp, st, here.imp fun x H1 ⟨ρ1, e1, rp1, r1⟩ => ?_⟩
        obtain ⟨a, vs, rfl, h1, h2⟩ := rp1.seqL r1 q
        obtain ⟨b, hb, hb2⟩ := r1.loc_inv
        cases hb
        exact ⟨a, vs, rfl, by rw [hK]; exact h1, po _ _ _ e1 rp1 (.enL hb2)⟩
      split at hsr
      · cases hsr; exact tup rfl rfl
      · cases hsr; exact tup rfl rfl
      · split at hsr
        · cases hsr; exact lst rfl ⟨_, .inl (by assumption)⟩ rfl
        · cases hsr; exact lst rfl ⟨_, .inr (by assumption)⟩ rfl
        · cases hsr
      · cases hsr
    · exact po.elim
theorem snd_irng {es : List Expr} {ies : Es} {tg : Expr} {p : Pos} (hg : Gl X "range") (hm : X.mg "range" = none) (ha : PA X es (LA G Ω (evEs F ies))) (hp : es.all plainE = true) (hl : es.length = ies.len) (h2 : es.length = 1 ∨ es.length = 2) :
    PI X tg (.Call (.Name "range" p) es [] pos) (LI G Ω X.K (evI F (.rng ies))) := by
  have rd : ∀ {σ : L2.St} {H : Hp} {R' : L2.It → Hp → Prop}, LI G Ω X.K (evI F (.rng ies)) σ H R' → LA G Ω (evEs F ies) σ H fun vs H1 => vs.length = es.length ∧ ∃ i j, rgOf' vs = some (i, j) ∧ (-1000000 ≤ i ∧ i ≤ 1000000 ∧ -1000000 ≤ j ∧ j ≤ 1000000) ∧ R' (Itr i (j - i).toNat) H1 := fun {σ H R'} ⟨ρ, τ, S, rp, st, po⟩ => by
    unfold evI at po
    refine Lf.imp (Lf.bindE rp st po) fun vs H1 ⟨ρ1, ws, S1, ee, e1, rp1, st1, r1, po1⟩ => ?_
    split at po1
    · rename_i i j he
      exact ⟨by rw [← r1.length, evEs_len ee, hl], i, j, rgOf_rel r1 he, rg_small he, po1 _ _ _ Ext.refl rp1 .rng⟩
    · exact po1.elim
  rcases h2 with h2 | h2
  · obtain ⟨a, rfl⟩ := List.length_eq_one_iff.mp h2
    rw [List.all_cons, Bool.and_eq_true] at hp
    refine (pi_range1 hg hm ha (star_plain hp.1)).via fun σ H R' h => Lf.imp (rd h) fun vs H1 ⟨n, i, j, e, b, q⟩ => ?_
    obtain ⟨x, rfl⟩ := List.length_eq_one_iff.mp n
    unfold rgOf' at e
    split at e
    · rename_i hx
      cases hx; cases e
      exact ⟨j, rfl, by omega, by omega, by rw [Int.sub_zero] at q; exact q⟩
    · rename_i hx; cases hx
    · cases e
  · obtain ⟨a, b, rfl⟩ := two_of h2
    rw [List.all_cons, List.all_cons, Bool.and_eq_true, Bool.and_eq_true] at hp
    have s2 : starEach [b] X.env = [(false, eval b X.env)] := star_plain hp.2.1
    refine (pi_range2 hg hm ha (by rw [star_plain hp.1, s2]) s2).via fun σ H R' h => Lf.imp (rd h) fun vs H1 ⟨n, i, j, e, bd, q⟩ => ?_
    obtain ⟨x, y, rfl⟩ := two_of n
    unfold rgOf' at e
    split at e
    · rename_i hx; cases hx
    · rename_i hx
      cases hx; cases e
      exact ⟨i, j, rfl, ⟨by omega, by omega, by omega, by omega⟩, q⟩
    · cases e
theorem snd_izip {a b : Expr} {ea eb : E} {p tpos : Pos} {elts : List Expr} {kk : Nat} (hg : Gl X "zip") (hm : X.mg "zip" = none) (h1 : PE X a (LE G Ω (evE F ea))) (h2 : PE X b (LE G Ω (evE F eb))) (hp : plainE a = true) (hp2 : plainE b = true) :
    PI X (.Tuple elts kk tpos) (.Call (.Name "zip" p) [a, b] [] pos) (LI G Ω X.K (evI F (.zip (.cons ea (.cons eb .nil))))) := by
  have hK := g.K
  have s2 : starEach [b] X.env = [(false, eval b X.env)] := star_plain hp2
  have pa : PA X [a, b] (LA G Ω (evEs F (.cons ea (.cons eb .nil)))) := snd_cons g h1 (snd_cons g h2 (snd_nil g) s2) (star_plain hp)
  refine (RZ.pi_zipA hg hm pa (star_plain hp) (stars_plain (by simp [hp2]))).via fun σ H R' ⟨ρ, τ, S, rp, st, po⟩ => ?_
  unfold evI at po
  refine Lf.imp (Lf.bindE rp st po) fun vs H1 ⟨ρ1, ws, S1, ee, e1, rp1, st1, r1, po1⟩ => ?_
  have hn : ws.length = 2 := evEs_len ee
  obtain ⟨w1, w2, rfl⟩ := two_of hn
  obtain ⟨x, y, rfl, ra, rb⟩ := r1.two
  have so : ∀ {w : W} {v : V} {sc : Src}, R G ρ1 H1 w v → srcOf S1 w = some sc → (∃ xs c vs, sc = .st xs ∧ v = .ref c ∧ Rd H1 c (.tup vs) ∧ Rs G ρ1 H1 xs vs) ∨ ∃ l c vs, sc = .lv l ∧ v = .ref c ∧ ρ1[l]? = some c ∧ SqL G.K H1 c vs := fun {w v sc} r h => by
    unfold srcOf at h
    split at h
    · cases h
      obtain ⟨c, vs, h1, h2, h3⟩ := r.tup_rd rfl
      exact .inl ⟨_, c, vs, rfl, h1, h2, h3⟩
    · cases h
      obtain ⟨c, vs, h1, h2, h3⟩ := r.tup_rd rfl
      exact .inl ⟨_, c, vs, rfl, h1, h2, h3⟩
    · split at h
      · cases h
        obtain ⟨c, vs, k1, k2, k3⟩ := rp1.seqL r (.inl (by assumption))
        obtain ⟨d, k4, k5⟩ := r.loc_inv
        rw [k1] at k4; cases k4
        exact .inr ⟨_, c, vs, rfl, k1, k5, k2⟩
      · cases h
        obtain ⟨c, vs, k1, k2, k3⟩ := rp1.seqL r (.inr (by assumption))
        obtain ⟨d, k4, k5⟩ := r.loc_inv
        rw [k1] at k4; cases k4
        exact .inr ⟨_, c, vs, rfl, k1, k5, k2⟩
      · cases h
    · cases h
  have two : ∀ {s1 s2 : Src}, mapO (srcOf S1) [w1, w2] = some [s1, s2] → srcOf S1 w1 = some s1 ∧ srcOf S1 w2 = some s2 := fun {s1 s2} h => by
    obtain ⟨_, h2⟩ := mapO_some h
    obtain ⟨y1, k1, k2⟩ := h2 0 w1 rfl
    obtain ⟨y2, k3, k4⟩ := h2 1 w2 rfl
    cases k2; cases k4
    exact ⟨k1, k3⟩
  split at po1
  · rename_i xs ys hss
    obtain ⟨e2, e5⟩ := two hss
    rcases so ra e2 with ⟨xs, c, cs, q, rfl, k1, k2⟩ | ⟨l, c, cs, q, rfl, k1, k2⟩
    · rcases so rb e5 with ⟨ys, d, ds, q', rfl, k3, k4⟩ | ⟨m, d, ds, q', rfl, k3, k4⟩
      · cases q; cases q'
        exact ⟨c, d, cs, ds, rfl, .inr ⟨.inl k1, .inl k3, po1 _ _ _ Ext.refl rp1 (.zpS k1 k2 k3 k4)⟩⟩
      · cases q'
    · cases q
  · rename_i l m hss
    obtain ⟨e2, e5⟩ := two hss
    rcases so ra e2 with ⟨xs, c, cs, q, rfl, k1, k2⟩ | ⟨l, c, cs, q, rfl, k1, k2⟩
    · cases q
    · rcases so rb e5 with ⟨ys, d, ds, q', rfl, k3, k4⟩ | ⟨m, d, ds, q', rfl, k3, k4⟩
      · cases q'
      · cases q; cases q'
        exact ⟨c, d, cs, ds, rfl, .inl ⟨by rw [hK]; exact k2, by rw [hK]; exact k4, po1 _ _ _ Ext.refl rp1 (.zpL k1 k3)⟩⟩
  · exact po1.elim
/-! ### the guards of a comprehension -/
theorem snd_ts0 : PTs X [] (LT G Ω (evTs F .nil)) := ⟨fun pins s σ H Q I ⟨ρ, τ, S, rp, st, po⟩ => by
  unfold evTs at po
  exact pts_nil.run pins s σ H Q I (po _ _ _ Ext.refl rp rfl)⟩
theorem snd_ts1 {c : Expr} {t : T} (h : PT X c (LT G Ω (evT F t))) : PTs X [c] (LT G Ω (evTs F (.cons t .nil))) := ⟨fun pins s σ H Q I ⟨ρ, τ, S, rp, st, po⟩ => by
  unfold evTs at po
  exact (pts_one h).run pins s σ H Q I ⟨ρ, τ, S, rp, st, po⟩⟩
end
end Rf

set_option Elab.async false
set_option maxRecDepth 100000
/-! RfLc: list comprehensions. -/
namespace Rf
open PySem PySem.Spec PyProof.Rows L2
theorem set_comm' {α : Type} (l : List α) (i j : Nat) (a : α) : (l.set i a).set j a = (l.set j a).set i a := by
  by_cases h : i = j
  · subst h; rfl
  · exact List.set_comm a a h
theorem wipe_set_none (σ : L2.St) (v : Nat) : ∀ vs : List Nat, L2.wipe (σ.set v none) vs = (L2.wipe σ vs).set v none
  | [] => rfl
  | u :: us => by
    show (L2.wipe (σ.set v none) us).set u none = ((L2.wipe σ us).set u none).set v none
    rw [wipe_set_none σ v us]
    exact set_comm' _ _ _ _
theorem wipe_idem (σ : L2.St) : ∀ vs : List Nat, L2.wipe (L2.wipe σ vs) vs = L2.wipe σ vs
  | [] => rfl
  | u :: us => by
    show (L2.wipe ((L2.wipe σ us).set u none) us).set u none = (L2.wipe σ us).set u none
    rw [wipe_set_none, wipe_idem σ us, List.set_set]
/-- only these slots changed -/
abbrev W0 : WX := fun _ _ _ _ => False
def OwnP (own : List Nat) (σ σ' : L2.St) : Prop := L2.wipe σ' own = L2.wipe σ own
theorem wipe_put : ∀ (own : List Nat) (σ : L2.St) (i : Nat) (v : Option V), i ∈ own → L2.wipe (σ.set i v) own = L2.wipe σ own
  | [], _, _, _, h => by cases h
  | u :: us, σ, i, v, h => by
    show (L2.wipe (σ.set i v) us).set u none = (L2.wipe σ us).set u none
    by_cases hi : i ∈ us
    · rw [wipe_put us σ i v hi]
    · have e : i = u := by
        rcases List.mem_cons.mp h with z | z
        · exact z
        · exact absurd z hi
      subst e
      have gen : ∀ (us : List Nat), i ∉ us → (L2.wipe (σ.set i v) us).set i none = (L2.wipe σ us).set i none := by
        intro us hus
        induction us with
        | nil => show (σ.set i v).set i none = σ.set i none; rw [List.set_set]
        | cons a as ih =>
          have h1 : i ≠ a := fun z => hus (by rw [z]; exact List.mem_cons_self)
          have h2 : i ∉ as := fun z => hus (List.mem_cons_of_mem _ z)
          show ((L2.wipe (σ.set i v) as).set a none).set i none = ((L2.wipe σ as).set a none).set i none
          rw [List.set_comm _ _ h1.symm, ih h2, List.set_comm _ _ h1]
      exact gen us hi
theorem upd_self {H : Hp} {a : Addr} {o : HO} (h : H a = some o) : upd H a o = H := by
  funext b
  by_cases e : b = a
  · subst e; rw [upd_same, h]
  · rw [upd_ne e]
theorem Ext.out {G : GC} {ρ ρ' : List Addr} {H H' : Hp} {a : Addr} {o : HO} (e : Ext G ρ H ρ' H') (h : a ∉ ρ) (ha : H a = some o) (nb : ∀ ps, o ≠ .tbl ps := by intro ps z; cases z) : a ∉ ρ' ∧ H' a = some o :=
  have h1 : a ∉ ρ' := fun z => by
    rcases e.new a z with q | q
    · exact h q
    · rw [ha] at q; cases q
  ⟨h1, e.keep a o ha h nb⟩
section
variable {G : GC} {X : Cx} {Ω : WX} (g : GX G Ω X) {F : Ora} {pos : Pos}
/-- one turn of a comprehension -/
def lcStep (F : Ora) (ie : E) (ig : Tg) (fs : Ts) (own : List Nat) (τ : Tau) (x : W) (S : Store) : Res (Option W) := (evG F ig x (wipeT τ own) S).bind fun τ' S => (evTs F fs τ' S).bind fun k S => match k with
  | true => (evE F ie τ' S).bind fun y S => .ok (some y) S
  | false => .ok none S
theorem bind_ok {α β : Type} {r : Res α} {k : α → Store → Res β} {b : β} {S' : Store} (h : r.bind k = .ok b S') : ∃ a S, r = .ok a S ∧ k a S = .ok b S' := by
  cases r with
  | ok a S => exact ⟨a, S, rfl, h⟩
  | exc c fs S => cases h
  | stuck => cases h
theorem lcStep_ok {ie : E} {ig : Tg} {fs : Ts} {own : List Nat} {τ : Tau} {x : W} {S S' : Store} {o : Option W} (h : lcStep F ie ig fs own τ x S = .ok o S') :
    ∃ τ2 S2 k S3, evG F ig x (wipeT τ own) S = .ok τ2 S2 ∧ evTs F fs τ2 S2 = .ok k S3 ∧ ((k = false ∧ o = none ∧ S' = S3) ∨ (k = true ∧ ∃ y, evE F ie τ2 S3 = .ok y S' ∧ o = some y)) := by
  unfold lcStep at h
  obtain ⟨τ2, S2, h1, h⟩ := bind_ok h
  obtain ⟨k, S3, h2, h⟩ := bind_ok h
  refine ⟨τ2, S2, k, S3, h1, h2, ?_⟩
  cases k with
  | false => cases h; exact .inl ⟨rfl, rfl, rfl⟩
  | true =>
    obtain ⟨y, S4, h3, h⟩ := bind_ok h
    cases h
    exact .inr ⟨rfl, y, h3, rfl⟩
theorem compJ_noexc {α : Type} {J : Ju} {step : W → Store → Res (Option α)} {c : Nat} {fs : List (Nat × W)} {S' : Store} : ∀ (m i : Nat) (S : Store), compJ J step m i S ≠ .exc c fs S'
  | 0, i, S, h => by
    unfold compJ at h
    split at h <;> cases h
  | m + 1, i, S, h => by
    unfold compJ at h
    split at h
    · split at h
      · exact compJ_noexc _ _ _ h
      · split at h <;> cases h
      · cases h
    · cases h
include g
theorem lc_read {own : List (Str × Nat)} {ie : E} {ig : Tg} {ii : Rf.It} {fs : Ts} {σ : L2.St} {H : Hp} {Q : VK} (h : LE G Ω (evE F (.lc ie ig ii fs (own.map (·.2)))) σ H Q) :
    tLc (LI G Ω X.K (evI F ii)) (LG G (OwnP (own.map (·.2))) (evG F ig)) (LT G W0 (evTs F fs)) (LE G W0 (evE F ie)) (own.map (·.2)) σ H Q := by
  have hK := g.K
  obtain ⟨ρ, τ, S, rp, st, po⟩ := h
  unfold evE at po
  refine Lf.imp (Lf.bind rp st po) fun jt H1 ⟨ρ1, J, S1, e1, rp1, st1, hJ, po1⟩ D hD => ?_
  change Post G (R G) (WE Ω σ) ρ1 H1 Q (if J.len S1 ≤ lim then (compJ J (lcStep F ie ig fs (own.map (·.2)) τ) (J.len S1) 0 S1).bind fun ys S => .ok (.loc S.n) (S.push (.lst ys)) else .stuck) at po1
  rw [hK] at hJ
  generalize hst : lcStep F ie ig fs (own.map (·.2)) τ = step at po1
  split at po1
  · rename_i hlim
    have hD1 : D ∉ ρ1 := fun z => by obtain ⟨o, q, _⟩ := rp1.in_some z; rw [hD] at q; cases q
    let Wd : Nat → Nat → Hp → Prop := fun i m H => ∃ ρi Si acc vacc, Ext G ρ1 H1 ρi H ∧ Rp G ρi H Si ∧ D ∉ ρi ∧ H D = some (.lst vacc) ∧ Rs G ρi H acc vacc ∧ acc.length ≤ i ∧ i + m ≤ lim ∧ ∃ ys S', compJ J step m i Si = .ok ys S' ∧ Post G (R G) (WE Ω σ) ρ1 H1 Q (.ok (.loc S'.n) (S'.push (.lst (acc ++ ys))))
    refine ⟨Wd, ⟨J.len S1, ρ1, S1, [], [], Ext.aside rp1 hD, rp1.aside hD, hD1, upd_same, .nil, Nat.le_refl _, by omega, ?_⟩, fun i m H2 ⟨ρi, Si, acc, vacc, ei, rpi, hDi, hDv, rsi, hle, hlm, ys, S', hc, hp⟩ => ?_⟩
    · cases e : compJ J step (J.len S1) 0 S1 with
      | ok ys S' => rw [e] at po1; exact ⟨ys, S', rfl, po1⟩
      | exc c fs S' => exact absurd e (compJ_noexc _ _ _)
      | stuck => rw [e] at po1; exact po1.elim
    · have hJi := hJ.mono ei
      cases m with
      | zero =>
        unfold compJ at hc
        split at hc
        · rename_i hat
          cases hc
          refine .inl ⟨hJi.stop rpi hat, ?_⟩
          rw [List.append_nil] at hp
          have nt : ∀ xs, HO.lst vacc ≠ .tup xs := fun xs z => by cases z
          have nf : ∀ q u, HO.lst vacc ≠ .frz q u := fun q u z => by cases z
          have u2 : Up ρi H2 (ρi ++ [D]) H2 := ⟨fun n a e => by rw [List.getElem?_append_left (List.getElem?_eq_some_iff.mp e).1]; exact e, fun _ _ h => h, fun _ _ _ h => h⟩
          have rp' := rpi.adopt (c := .lst acc) (o' := .lst vacc) hDi hDv nt nf ⟨fun _ z => (by cases z), fun _ z => (by cases z)⟩ (by rw [upd_self hDv]; exact ⟨vacc, hDv, rsi.up u2⟩)
          have ex := ei.adopt (o := .lst vacc) hD
          rw [upd_self hDv] at rp' ex
          exact hp _ _ _ ex rp' (.loc rpi.push_at)
        · cases hc
      | succ m =>
        unfold compJ at hc
        split at hc
        · rename_i x hat
          obtain ⟨hgo, hy⟩ := hJi.item rpi hat
          refine .inr ⟨hgo, Wd (i + 1) m, fun H' h => ⟨m, Nat.lt_succ_self _, h⟩, fun v H3 hyl => ?_⟩
          obtain ⟨e3, rp3, r3⟩ := hy v H3 hyl
          obtain ⟨_, hD3⟩ := e3.out hDi hDv
          have st3 := (st1.mono (ei.trans e3)).wipe (own.map (·.2))
          cases hstep : step x Si with
          | exc c fs S2 => rw [hstep] at hc; cases hc
          | stuck => rw [hstep] at hc; cases hc
          | ok o S9 =>
          rw [hstep] at hc
          rw [← hst] at hstep
          obtain ⟨τ2, S2, k, S3, hg1, ht1, hk⟩ := lcStep_ok hstep
          refine ⟨ρi, _, Si, x, rp3, st3, r3, ?_⟩
          rw [hg1]
          intro ρ4 H4 σ4 e4 rp4 ⟨st4, p4⟩
          refine ⟨(show L2.wipe σ4 (own.map (·.2)) = L2.wipe (L2.wipe σ (own.map (·.2))) (own.map (·.2)) from p4).trans (wipe_idem _ _), ρ4, τ2, S2, rp4, st4, ?_⟩
          obtain ⟨hD4, hD4v⟩ := e4.out hDi hD3
          rw [ht1]
          intro ρ5 H5 k' e5 rp5 hk'
          cases hk'
          obtain ⟨hD5, hD5v⟩ := e5.out hD4 hD4v
          have all5 := ((ei.trans e3).trans e4).trans e5
          have rs5 := ((rsi.mono e3).mono e4).mono e5
          rcases hk with ⟨k0, o0, s0⟩ | ⟨k0, y, he1, o0⟩
          · subst k0; subst o0; subst s0
            rw [if_neg (by decide)]
            exact ⟨ρ5, S9, acc, vacc, all5, rp5, hD5, hD5v, rs5, by omega, by omega, ys, S', hc, hp⟩
          · subst k0; subst o0
            rw [if_pos rfl]
            refine ⟨ρ5, τ2, S3, rp5, st4.mono e5, ?_⟩
            rw [he1]
            intro ρ6 H6 yv e6 rp6 r6
            obtain ⟨hD6, hD6v⟩ := e6.out hD5 hD5v
            have nt : ∀ xs, HO.lst vacc ≠ .tup xs := fun xs z => by cases z
            have nf : ∀ q u, HO.lst vacc ≠ .frz q u := fun q u z => by cases z
            have up := Up.off (ρ := ρ6) (o' := .lst (vacc ++ [yv])) hD6v nt nf
            refine ⟨vacc, hD6v, ?_, ρ6, S9, acc ++ [y], vacc ++ [yv], (all5.trans e6).off hD, rp6.off hD6 hD6v nt nf ⟨fun _ z => (by cases z), fun _ z => (by cases z)⟩, hD6, upd_same, ((rs5.mono e6).app (.cons r6 .nil)).up up, ?_, by omega, ?_⟩
            · rw [← rsi.length]; exact lim_line' (by omega)
            · rw [List.length_append, List.length_singleton]; omega
            · dsimp only at hc
              cases hc2 : compJ J step m (i + 1) S9 with
              | exc c fs S5 => rw [hc2] at hc; cases hc
              | stuck => rw [hc2] at hc; cases hc
              | ok ys2 S5 =>
                rw [hc2] at hc
                obtain ⟨q1, q2⟩ := Res.ok.inj hc
                subst q1; subst q2
                exact ⟨ys2, S5, rfl, by rw [List.append_assoc]; exact hp⟩
        · cases hc
  · exact po1.elim
theorem snd_lc (hc : X.calm = true) {elt tg iter : Expr} {ifs : List Expr} {scope : Scope} {own : List (Str × Nat)} {ie : E} {ig : Tg} {ii : Rf.It} {fs : Ts} (hi : PI X tg iter (LI G Ω X.K (evI F ii))) (ok : BlkOk X.N X.env.scope scope own)
    (hg : ∀ (s : Shared) (H : Hp) (C : Addr) (cl : List (Str × Addr)) (fp : List Addr), PG (X.blk s H scope (compEnvC scope cl C X.env) fp) tg (LG G (OwnP (own.map (·.2))) (evG F ig)))
    (ht : ∀ (s : Shared) (H : Hp) (C : Addr) (cl : List (Str × Addr)) (fp : List Addr), PTs (X.blk s H scope (compEnvC scope cl C X.env) fp) ifs (LT G W0 (evTs F fs)))
    (he : ∀ (s : Shared) (H : Hp) (C : Addr) (cl : List (Str × Addr)) (fp : List Addr), PE (X.blk s H scope (compEnvC scope cl C X.env) fp) elt (LE G W0 (evE F ie))) (hs : ∀ x, foldedSetIterable iter X.env x = pure x) :
    PE X (.ListComp elt [⟨tg, iter, ifs, 0⟩] scope pos) (LE G Ω (evE F (.lc ie ig ii fs (own.map (·.2))))) :=
  (pe_lc hc g.nd hi ok hg ht he hs).via fun σ H Q h => lc_read g h
end
end Rf

set_option Elab.async false
set_option maxRecDepth 100000
/-! RfStm: statements. -/
namespace Rf
open PySem PySem.Spec PyProof.Rows L2
def PostO (G : GC) (Ω : WX) (D : Ends) (ρ : List Addr) (H : Hp) : Out → Prop
  | .nx τ S => ∀ ρ' H' σ', Ext G ρ H ρ' H' → Rp G ρ' H' S → RSt G ρ' H' τ σ' → D.nx σ' H'
  | .rt w S => ∀ ρ' H' v, Ext G ρ H ρ' H' → Rp G ρ' H' S → R G ρ' H' w v → D.rt v H'
  | .bk τ S => ∀ ρ' H' σ', Ext G ρ H ρ' H' → Rp G ρ' H' S → RSt G ρ' H' τ σ' → D.bk σ' H'
  | .ct τ S => ∀ ρ' H' σ', Ext G ρ H ρ' H' → Rp G ρ' H' S → RSt G ρ' H' τ σ' → D.ct σ' H'
  | .exc c fs τ S => ∀ ρ' H' σ' d, Ext G ρ H ρ' H' → Rp G ρ' H' S → RSt G ρ' H' τ σ' → ExcR G ρ' H' c fs d → Ω (.ref (G.cadr c)) d σ' H'
  | .stuck => False
def LS (G : GC) (Ω : WX) (d : Tau → Store → Out) : TS := fun D σ H => ∃ ρ τ S, Rp G ρ H S ∧ RSt G ρ H τ σ ∧ PostO G Ω D ρ H (d τ S)
section
variable {G : GC} {Ω : WX} {D : Ends} {ρ ρ' : List Addr} {H H' : Hp} {o : Out}
theorem PostO.from (e : Ext G ρ H ρ' H') (h : PostO G Ω D ρ H o) : PostO G Ω D ρ' H' o := by
  cases o with
  | nx τ S => exact fun _ _ _ e2 => h _ _ _ (e.trans e2)
  | rt w S => exact fun _ _ _ e2 => h _ _ _ (e.trans e2)
  | bk τ S => exact fun _ _ _ e2 => h _ _ _ (e.trans e2)
  | ct τ S => exact fun _ _ _ e2 => h _ _ _ (e.trans e2)
  | exc c fs τ S => exact fun _ _ _ _ e2 => h _ _ _ _ (e.trans e2)
  | stuck => exact h
theorem PostO.bind {α β : Type} {rel : List Addr → Hp → α → β → Prop} {r : Res α} {τ : Tau} {σ : L2.St} {k : α → Store → Out} (st : RSt G ρ H τ σ) (h : PostO G Ω D ρ H (r.out τ k)) :
    Post G rel (WE Ω σ) ρ H (fun y H1 => ∃ ρ1 w S1, Ext G ρ H ρ1 H1 ∧ Rp G ρ1 H1 S1 ∧ rel ρ1 H1 w y ∧ PostO G Ω D ρ1 H1 (k w S1)) r := by
  cases r with
  | ok w S => exact fun ρ1 H1 y e rp rl => ⟨ρ1, w, S, e, rp, rl, h.from e⟩
  | exc c fs S => exact fun ρ1 H1 d e rp x => h ρ1 H1 σ d e rp (st.mono e) x
  | stuck => exact h.elim
theorem Lf.out {α β : Type} {rel : List Addr → Hp → α → β → Prop} {d : Tau → Store → Res α} {τ : Tau} {σ : L2.St} {S : Store} {k : α → Store → Out} (rp : Rp G ρ H S) (st : RSt G ρ H τ σ) (po : PostO G Ω D ρ H ((d τ S).out τ k)) :
    Lf G Ω rel d σ H fun y H1 => ∃ ρ1 w S1, Ext G ρ H ρ1 H1 ∧ Rp G ρ1 H1 S1 ∧ RSt G ρ1 H1 τ σ ∧ rel ρ1 H1 w y ∧ PostO G Ω D ρ1 H1 (k w S1) :=
  ⟨ρ, τ, S, rp, st, (po.bind st (rel := rel)).imp fun y H1 ⟨ρ1, w, S1, e, rp1, r, p⟩ => ⟨ρ1, w, S1, e, rp1, st.mono e, r, p⟩⟩
end
theorem _root_.L2.PS.via {X : Cx} {e : Stmt} {t t' : TS} (h : PS X e t) (hi : ∀ D σ H, t' D σ H → t D σ H) : PS X e t' := ⟨fun pins s σ H D I q => h.run pins s σ H D I (hi _ _ _ q)⟩
theorem _root_.L2.PSs.via {X : Cx} {e : List Stmt} {t t' : TS} (h : PSs X e t) (hi : ∀ D σ H, t' D σ H → t D σ H) : PSs X e t' := ⟨fun pins s σ H D I q => h.run pins s σ H D I (hi _ _ _ q)⟩
abbrev AnyP : L2.St → L2.St → Prop := fun _ _ => True
section
variable {G : GC} {X : Cx} {Ω : WX} (g : GX G Ω X) {F : Ora} {pos : Pos}
include g
theorem snd_asg {tg e : Expr} {ie : E} {ig : Tg} (he : PE X e (LE G Ω (evE F ie))) (hg : PG X tg (LG G AnyP (evG F ig))) (hs : swapsWithSole [tg] e pos.line X.env = pure false) (hw : swappedStores [tg] e X.env = pure none) (h1 : (assignEach [tg] X.env).map (·.2) = [assign tg X.env]) :
    PS X (.Assign [tg] e pos) (LS G Ω (exS F (.asg ig ie))) :=
  (ps_asg he hg hs hw h1).via fun D σ H ⟨ρ, τ, S, rp, st, po⟩ => by
    unfold exS at po
    refine Lf.imp (Lf.out rp st po) fun x H1 ⟨ρ1, w, S1, e1, rp1, st1, r1, po1⟩ => ⟨ρ1, τ, S1, w, rp1, st1, r1, ?_⟩
    exact (po1.bind st1 (rel := RSP G AnyP σ)).noE.imp fun σ' H' ⟨ρ2, τ2, S2, e2, rp2, ⟨st2, _⟩, po2⟩ => po2 _ _ _ Ext.refl rp2 st2
/-- name = [..], one on one line -/
theorem snd_setLc (hc : X.calm = true) {i : Nat} {y : Str} {py : Pos} {elt tg iter : Expr} {ifs : List Expr} {scope : Scope} {own : List (Str × Nat)} {p2 : Pos} {ie : E} {ig : Tg} {ii : Rf.It} {fs : Ts} (hy : X.N[i]? = some y) (hyl : X.env.scope.names.lookup y = some .local)
    (hsw : swapsWith (.ListComp elt [⟨tg, iter, ifs, 0⟩] scope p2) (some (.Name y py)) pos.line X.env = pure true) (hi : PI X tg iter (LI G Ω X.K (evI F ii))) (ok : BlkOk X.N X.env.scope scope own)
    (hg : ∀ (s : Shared) (H : Hp) (C : Addr) (cl : List (Str × Addr)) (fp : List Addr), PG (X.blk s H scope (compEnvC scope cl C X.env) fp) tg (LG G (OwnP (own.map (·.2))) (evG F ig)))
    (ht : ∀ (s : Shared) (H : Hp) (C : Addr) (cl : List (Str × Addr)) (fp : List Addr), PTs (X.blk s H scope (compEnvC scope cl C X.env) fp) ifs (LT G W0 (evTs F fs)))
    (he : ∀ (s : Shared) (H : Hp) (C : Addr) (cl : List (Str × Addr)) (fp : List Addr), PE (X.blk s H scope (compEnvC scope cl C X.env) fp) elt (LE G W0 (evE F ie))) (hs : ∀ x, foldedSetIterable iter X.env x = pure x) :
    PS X (.Assign [.Name y py] (.ListComp elt [⟨tg, iter, ifs, 0⟩] scope p2) pos) (LS G Ω (exS F (.asg (.nm i) (.lc ie ig ii fs (own.map (·.2)))))) :=
  (ps_setLc hc g.nd hy hyl hsw hi ok hg ht he hs).via fun D σ H ⟨ρ, τ, S, rp, st, po⟩ => by
    unfold exS at po
    refine lc_read g ⟨ρ, τ, S, rp, st, (po.bind st (rel := R G)).imp fun x H1 ⟨ρ1, w, S1, e1, rp1, r1, po1⟩ => ?_⟩
    unfold evG at po1
    exact po1 _ _ _ Ext.refl rp1 ((st.mono e1).put r1)
theorem snd_ex {e : Expr} {ie : E} (he : PE X e (LE G Ω (evE F ie))) (hs : swapsWith e none pos.line X.env = pure false) : PS X (.Expr e pos) (LS G Ω (exS F (.ex ie))) :=
  (ps_expr he hs).via fun D σ H ⟨ρ, τ, S, rp, st, po⟩ => by
    unfold exS at po
    exact Lf.imp (Lf.out rp st po) fun x H1 ⟨ρ1, w, S1, e1, rp1, st1, r1, po1⟩ => po1 _ _ _ Ext.refl rp1 st1
theorem snd_ret {e : Expr} {ie : E} (he : PE X e (LE G Ω (evE F ie))) : PS X (.Return (some e) pos) (LS G Ω (exS F (.ret ie))) :=
  (ps_ret he).via fun D σ H ⟨ρ, τ, S, rp, st, po⟩ => by
    unfold exS at po
    exact Lf.imp (Lf.out rp st po) fun x H1 ⟨ρ1, w, S1, e1, rp1, st1, r1, po1⟩ => po1 _ _ _ Ext.refl rp1 r1
theorem snd_retN : PS X (.Return none pos) (LS G Ω (exS F .retN)) := ps_retN.via fun D σ H ⟨ρ, τ, S, rp, st, po⟩ => by
  unfold exS at po
  exact po _ _ _ Ext.refl rp .non
theorem snd_pas : PS X (.Pass pos) (LS G Ω (exS F .pas)) := ps_pass.via fun D σ H ⟨ρ, τ, S, rp, st, po⟩ => by
  unfold exS at po
  exact po _ _ _ Ext.refl rp st
theorem snd_brk : PS X (.Break pos) (LS G Ω (exS F .brk)) := ps_break.via fun D σ H ⟨ρ, τ, S, rp, st, po⟩ => by
  unfold exS at po
  exact po _ _ _ Ext.refl rp st
theorem snd_cnt : PS X (.Continue pos) (LS G Ω (exS F .cnt)) := ps_continue.via fun D σ H ⟨ρ, τ, S, rp, st, po⟩ => by
  unfold exS at po
  exact po _ _ _ Ext.refl rp st
theorem snd_doc {x : Str} {j : Nat} {p2 : Pos} : PS X (.Expr (.Constant (.str x) j p2) pos) (LS G Ω (exS F .pas)) := ps_doc.via fun D σ H ⟨ρ, τ, S, rp, st, po⟩ => by
  unfold exS at po
  exact po _ _ _ Ext.refl rp st
/-- what is never come to -/
theorem snd_never {st : Stmt} {ir : Sm} (h : ∀ τ S, exS F ir τ S = .stuck) : PS X st (LS G Ω (exS F ir)) := ps_never.via fun D σ H ⟨ρ, τ, S, rp, st, po⟩ => by
  rw [h τ S] at po; exact po
theorem snd_ifs {c : Expr} {a b : List Stmt} {t : T} {ia ib : Sms} (hc : PT X c (LT G Ω (evT F t))) (ha : PSs X a (LS G Ω (exB F ia))) (hb : PSs X b (LS G Ω (exB F ib))) : PS X (.If c a b pos) (LS G Ω (exS F (.ifs t ia ib))) :=
  (ps_if hc ha hb).via fun D σ H ⟨ρ, τ, S, rp, st, po⟩ => by
    unfold exS at po
    refine Lf.imp (Lf.out rp st po) fun k H1 ⟨ρ1, w, S1, e1, rp1, st1, r1, po1⟩ => ?_
    cases r1
    cases k with
    | true => rw [if_pos rfl]; exact ⟨_, _, _, rp1, st1, po1⟩
    | false => rw [if_neg (by decide)]; exact ⟨_, _, _, rp1, st1, po1⟩
theorem snd_b0 : PSs X [] (LS G Ω (exB F .nil)) := pss_nil.via fun D σ H ⟨ρ, τ, S, rp, st, po⟩ => by
  unfold exB at po
  exact po _ _ _ Ext.refl rp st
theorem snd_b1 {st : Stmt} {rest : List Stmt} {s1 : Sm} {r1 : Sms} (h1 : PS X st (LS G Ω (exS F s1))) (h2 : PSs X rest (LS G Ω (exB F r1))) : PSs X (st :: rest) (LS G Ω (exB F (.cons s1 r1))) :=
  (pss_cons h1 h2).via fun D σ H ⟨ρ, τ, S, rp, st, po⟩ => by
    unfold exB at po
    refine ⟨ρ, τ, S, rp, st, ?_⟩
    cases e : exS F s1 τ S with
    | nx τ1 S1 =>
      rw [e] at po
      exact fun ρ' H' σ' e1 rp1 st1 => ⟨ρ', τ1, S1, rp1, st1, po.from e1⟩
    | rt w S1 => rw [e] at po; exact po
    | bk τ1 S1 => rw [e] at po; exact po
    | ct τ1 S1 => rw [e] at po; exact po
    | exc c fs τ1 S1 => rw [e] at po; exact po
    | stuck => rw [e] at po; exact po
end
end Rf

set_option Elab.async false
set_option maxRecDepth 100000
/-! RfStm2: in-place operators, attributes, loops. -/
namespace Rf
open PySem PySem.Spec PyProof.Rows L2
section
variable {G : GC} {X : Cx} {Ω : WX} (g : GX G Ω X) {F : Ora} {pos : Pos}
theorem augW_snd (o : Operator) {pins : List (Addr × Obj)} {s : Shared} {σ : L2.St} {H : Hp} {x y : V} {v u : Value} {Q : VK} {ρ : List Addr} {S : Store} {a b : W} (I : Inv X pins σ H s) (r1 : RelV x v) (r2 : RelV y u) (rp : Rp G ρ H S) (ra : R G ρ H a x) (rb : R G ρ H b y) {E : XK} (po : Post G (R G) E ρ H Q (augW S o a b)) :
    wpAny (model X.prog X.w) X.A (inplaceOp o v u) (EP X pins σ Q) X.xe s := by
  unfold augW at po
  split at po
  · cases ra; cases rb
    exact ip_add pins s σ H _ _ v u Q I r1 r2 ⟨_, _, rfl, rfl, po.here rp .int⟩
  · cases ra; cases rb
    exact ip_sub pins s σ H _ _ v u Q I r1 r2 ⟨_, _, rfl, rfl, po.here rp .int⟩
  · split at po
    · cases ra; cases rb
      exact iop_add_str pins s σ H _ _ v u Q I r1 r2 ⟨_, _, rfl, rfl, lim_line (by assumption), po.here rp .str⟩
    · exact po.elim
  · exact po.elim
def tipA (G : GC) (o : Operator) : TIp := fun x y H Q => ∃ E ρ S a b, Rp G ρ H S ∧ R G ρ H a x ∧ R G ρ H b y ∧ Post G (R G) E ρ H Q (augW S o a b)
theorem pip_aug (o : Operator) : PIp X o (tipA G o) := fun pins s σ H x y v u Q I r1 r2 ⟨E, ρ, S, a, b, rp, ra, rb, po⟩ => augW_snd o I r1 r2 rp ra rb po
include g
theorem snd_aug {i : Nat} {x : Str} {e : Expr} {ie : E} {o : Operator} {p2 : Pos} (hi : X.N[i]? = some x) (hx : Loc X.env.scope x) (hf : X.fn x = true ∨ X.env.scope.names.lookup x = some .local) (he : PE X e (LE G Ω (evE F ie))) : PS X (.AugAssign (.Name x p2) o e pos) (LS G Ω (exS F (.aug i o ie))) :=
  (ps_aug g.nd hi hx he (pip_aug (G := G) o) hf).via fun D σ H ⟨ρ, τ, S, rp, st, po⟩ => by
    unfold exS at po
    split at po
    · rename_i w hw
      obtain ⟨v, h1, h2⟩ := st.2 _ _ hw
      refine ⟨v, h1, Lf.imp (Lf.out rp st po) fun y H1 ⟨ρ1, z, S1, e1, rp1, st1, r1, po1⟩ => ⟨WE Ω σ, ρ1, S1, w, z, rp1, h2.mono e1, r1, ?_⟩⟩
      exact (po1.bind st1 (rel := R G)).imp fun z' H2 ⟨ρ2, w2, S2, e2, rp2, r2, po2⟩ => po2 _ _ _ Ext.refl rp2 ((st1.mono e2).put r2)
    · exact po.elim
/-- name, name = .., .. -/
theorem snd_par2 (hc : X.calm = true) {i j : Nat} {x y : Str} {a b : Expr} {ies : Es} {px py pt : Pos} {kt k2 pt2} (hi : X.N[i]? = some x) (hj : X.N[j]? = some y) (hij : i ≠ j) (hx : X.env.scope.names.lookup x = some .local) (hy : X.env.scope.names.lookup y = some .local) (ha : PA X [a, b] (LA G Ω (evEs F ies)))
    (hw : swappedStores [.Tuple [.Name x px, .Name y py] kt pt] (.Tuple [a, b] k2 pt2) X.env = pure (some [x, y])) (hl : ies.len = 2) : PS X (.Assign [.Tuple [.Name x px, .Name y py] kt pt] (.Tuple [a, b] k2 pt2) pos) (LS G Ω (exS F (.par [i, j] ies))) :=
  (ps_par hc g.nd hi hj hij hx hy ha hw rfl).via fun D σ H ⟨ρ, τ, S, rp, st, po⟩ => by
    unfold exS at po
    cases hd : evEs F ies τ S with
    | exc c fs S1 =>
      refine ⟨ρ, τ, S, rp, st, ?_⟩
      rw [hd] at po ⊢
      exact fun ρ1 H1 d e1 rp1 x => po _ _ _ _ e1 rp1 (st.mono e1) x
    | stuck => rw [hd] at po; exact po.elim
    | ok ws S1 =>
      obtain ⟨w1, w2, rfl⟩ := two_of ((evEs_len hd).trans hl)
      refine ⟨ρ, τ, S, rp, st, ?_⟩
      rw [hd] at po ⊢
      intro ρ1 H1 vs e1 rp1 rs
      obtain ⟨v1, v2, rfl, r1, r2⟩ := rs.two
      exact ⟨v1, v2, rfl, po _ _ _ e1 rp1 (((st.mono e1).put r1).put r2)⟩
theorem snd_par3 (hc : X.calm = true) {i j l : Nat} {x y z : Str} {a b c : Expr} {ies : Es} {px py pz pt : Pos} {kt k2 pt2} (hi : X.N[i]? = some x) (hj : X.N[j]? = some y) (hk : X.N[l]? = some z) (hij : i ≠ j) (hil : i ≠ l) (hjl : j ≠ l) (hx : X.env.scope.names.lookup x = some .local) (hy : X.env.scope.names.lookup y = some .local) (hz : X.env.scope.names.lookup z = some .local) (ha : PA X [a, b, c] (LA G Ω (evEs F ies)))
    (hw : swappedStores [.Tuple [.Name x px, .Name y py, .Name z pz] kt pt] (.Tuple [a, b, c] k2 pt2) X.env = pure (some [x, y, z])) (hl : ies.len = 3) : PS X (.Assign [.Tuple [.Name x px, .Name y py, .Name z pz] kt pt] (.Tuple [a, b, c] k2 pt2) pos) (LS G Ω (exS F (.par [i, j, l] ies))) :=
  (ps_par3 hc g.nd hi hj hk hij hil hjl hx hy hz ha hw rfl).via fun D σ H ⟨ρ, τ, S, rp, st, po⟩ => by
    unfold exS at po
    cases hd : evEs F ies τ S with
    | exc c fs S1 =>
      refine ⟨ρ, τ, S, rp, st, ?_⟩
      rw [hd] at po ⊢
      exact fun ρ1 H1 d e1 rp1 x => po _ _ _ _ e1 rp1 (st.mono e1) x
    | stuck => rw [hd] at po; exact po.elim
    | ok ws S1 =>
      have hn := (evEs_len hd).trans hl
      obtain ⟨w1, w2, w3, rfl⟩ : ∃ w1 w2 w3, ws = [w1, w2, w3] := by
        match ws, hn with
        | [a, b, c], _ => exact ⟨a, b, c, rfl⟩
      refine ⟨ρ, τ, S, rp, st, ?_⟩
      rw [hd] at po ⊢
      intro ρ1 H1 vs e1 rp1 rs
      cases rs with
      | cons r1 rr =>
        obtain ⟨v2, v3, rfl, r2, r3⟩ := rr.two
        exact ⟨_, v2, v3, rfl, po _ _ _ e1 rp1 ((((st.mono e1).put r1).put r2).put r3)⟩
/-- o.f = .. -/
theorem snd_fdA (ok : GOk G) {o e : Expr} {f : Nat} {eo ie : E} {p2 : Pos} (ho : PE X o (LE G Ω (evE F eo))) (he : PE X e (LE G Ω (evE F ie))) (hs : swapsWith e (some (.Attribute o (G.fnm f) p2)) pos.line X.env = pure false) (hF : F.fok = G.fok) :
    PS X (.Assign [.Attribute o (G.fnm f) p2] e pos) (LS G Ω (exS F (.asg (.fd eo f) ie))) :=
  (ps_fld ho he hs).via fun D σ H ⟨ρ, τ, S, rp, st, po⟩ => by
    unfold exS at po
    refine Lf.imp (Lf.out rp st po) fun y H1 ⟨ρ1, w, S1, e1, rp1, st1, r1, po1⟩ => ?_
    unfold evG at po1
    have po2 := (po1.bind st1 (rel := RSt G)).noX (E' := WE Ω σ)
    refine Lf.imp (Lf.bind rp1 st1 po2) fun x H2 ⟨ρ2, z, S2, e2, rp2, st2, r2, po3⟩ => ?_
    split at po3
    · rename_i S' hset
      unfold setF at hset
      split at hset
      · split at hset
        · rename_i c fs hcell
          split at hset
          · rename_i hk
            cases hset
            obtain ⟨hk1, hk2⟩ := hk
            rw [hF] at hk1
            obtain ⟨k1, k2, k3⟩ := ok.cls _ _ hk1
            obtain ⟨a, rfl, ha, dx, vs, k4, k5⟩ := rp2.cellAt r2 hcell
            have hfz : ∀ q u, H2 a ≠ some (.frz q u) := fun q u z => by rw [k4] at z; cases z
            refine ⟨a, _, dx, vs, rfl, k4, by rw [g.K]; exact k2, by rw [g.K]; exact k3, by rw [← k5.length]; omega, ?_⟩
            have ex := Ext.write (G := G) (o := .ins (G.cadr c) dx (putF (G.fnm f) y vs)) rp2 ha hfz
            obtain ⟨ρ3, τ3, S3, e3, rp3, st3, po4⟩ := po3 _ _ _ ex (Rp.write rp2 ha hfz ⟨dx, _, upd_same, (k5.put ok k1 (r1.mono e2)).mono ex⟩) (st2.mono ex)
            exact po4 _ _ _ Ext.refl rp3 st3
          · cases hset
        · cases hset
      · cases hset
    · exact po3.elim
end
end Rf

set_option Elab.async false
set_option maxRecDepth 100000
/-! RfStm3: loops. -/
namespace Rf
open PySem PySem.Spec PyProof.Rows L2
section
variable {G : GC} {X : Cx} {Ω : WX} (g : GX G Ω X) {F : Ora} {pos : Pos}
theorem LS_to {D D' : Ends} {ρ : List Addr} {H : Hp} {o : Out} (h : PostO G Ω D ρ H o) (h1 : ∀ τ S, o = .nx τ S → PostO G Ω D' ρ H o) (h2 : ∀ w S, o = .rt w S → PostO G Ω D' ρ H o) (h3 : ∀ τ S, o = .bk τ S → PostO G Ω D' ρ H o) (h4 : ∀ τ S, o = .ct τ S → PostO G Ω D' ρ H o) : PostO G Ω D' ρ H o := by
  cases o with
  | nx τ S => exact h1 _ _ rfl
  | rt w S => exact h2 _ _ rfl
  | bk τ S => exact h3 _ _ rfl
  | ct τ S => exact h4 _ _ rfl
  | exc c fs τ S => exact h
  | stuck => exact h
theorem fr_loop {D : Ends} {ρ1 : List Addr} {H1 : Hp} {J : Ju} {jt : L2.It} {S1 : Store} {τ : Tau} {σ : L2.St} {n0 : Nat} {step : W → Tau → Store → Out} {ig : Tg} {ib : Sms} (hJ : JR G G.K ρ1 H1 J jt) (rp1 : Rp G ρ1 H1 S1) (st1 : RSt G ρ1 H1 τ σ)
    (po1 : PostO G Ω D ρ1 H1 (loopJ J step n0 0 τ S1)) (hst : ∀ x τ S, step x τ S = (evG F ig x τ S).noX.out τ fun τ S => exB F ib τ S) :
    ∃ Wd : Nat → Nat → L2.St → Hp → Prop, (∃ m, Wd 0 m σ H1) ∧ ∀ i m σ H, Wd i m σ H →
      (jt.stop i H ∧ D.nx σ H) ∨ (jt.go i H ∧ ∃ N : L2.St → Hp → Prop, (∀ σ' H', N σ' H' → ∃ m', m' < m ∧ Wd (i + 1) m' σ' H') ∧ ∀ x H', jt.yld i H x H' → LG G AnyP (evG F ig) x σ H' fun σ2 H2 => LS G Ω (exB F ib) { D with nx := N, ct := N, bk := D.nx } σ2 H2) := by
  let Wd : Nat → Nat → L2.St → Hp → Prop := fun i m σ' H' => ∃ ρi τi Si, Ext G ρ1 H1 ρi H' ∧ Rp G ρi H' Si ∧ RSt G ρi H' τi σ' ∧ PostO G Ω D ρi H' (loopJ J step m i τi Si)
  refine ⟨Wd, ⟨n0, ρ1, τ, S1, Ext.refl, rp1, st1, po1⟩, fun i m σ' H' ⟨ρi, τi, Si, ei, rpi, sti, pi⟩ => ?_⟩
  have hJi := hJ.mono ei
  cases m with
  | zero =>
    unfold loopJ at pi
    split at pi
    · rename_i hat
      exact .inl ⟨hJi.stop rpi hat, pi _ _ _ Ext.refl rpi sti⟩
    · exact pi.elim
  | succ m =>
    unfold loopJ at pi
    split at pi
    · rename_i x hat
      obtain ⟨hgo, hy⟩ := hJi.item rpi hat
      refine .inr ⟨hgo, Wd (i + 1) m, fun σ2 H2 h => ⟨m, Nat.lt_succ_self _, h⟩, fun v H3 hyl => ?_⟩
      obtain ⟨e3, rp3, r3⟩ := hy v H3 hyl
      refine ⟨ρi, τi, Si, x, rp3, sti.mono e3, r3, ?_⟩
      have hstep := hst x τi Si
      rw [hstep] at pi
      cases hg1 : evG F ig x τi Si with
      | exc c fs S2 => rw [hg1] at pi; exact pi.elim
      | stuck => rw [hg1] at pi; exact pi.elim
      | ok τ2 S2 =>
        rw [hg1] at pi
        intro ρ4 H4 σ4 e4 rp4 ⟨st4, _⟩
        refine ⟨ρ4, τ2, S2, rp4, st4, ?_⟩
        have all4 := (ei.trans e3).trans e4
        have pi := pi.from (e3.trans e4)
        dsimp only [Res.out, Res.noX] at pi
        cases hb1 : exB F ib τ2 S2 with
        | nx τ5 S5 =>
          rw [hb1] at pi
          exact fun ρ5 H5 σ5 e5 rp5 st5 => ⟨ρ5, τ5, S5, all4.trans e5, rp5, st5, pi.from e5⟩
        | ct τ5 S5 =>
          rw [hb1] at pi
          exact fun ρ5 H5 σ5 e5 rp5 st5 => ⟨ρ5, τ5, S5, all4.trans e5, rp5, st5, pi.from e5⟩
        | bk τ5 S5 => rw [hb1] at pi; exact pi
        | rt w S5 => rw [hb1] at pi; exact pi
        | exc c fs τ5 S5 => rw [hb1] at pi; exact pi
        | stuck => rw [hb1] at pi; exact pi.elim
    · exact pi.elim
include g
theorem snd_fr {tg iter : Expr} {body : List Stmt} {ig : Tg} {ii : Rf.It} {ib : Sms} (hc : X.calm = true) (hi : PI X tg iter (LI G Ω X.K (evI F ii))) (hg : PG X tg (LG G AnyP (evG F ig))) (hb : PSs X body (LS G Ω (exB F ib))) (hs : ∀ x, foldedSetIterable iter X.env x = pure x) (hni : ∀ e, ii ≠ .items e) :
    PS X (.For tg iter body [] pos) (LS G Ω (exS F (.fr ig ii ib))) := by
  have hK := g.K
  refine (ps_for g.po hc hi hg hb hs).via fun D σ H ⟨ρ, τ, S, rp, st, po⟩ => ?_
  unfold exS at po
  have noit : ∀ {J : Ju} {S1 : Store}, evI F ii τ S = .ok J S1 → (∀ l kvs, J ≠ .items l kvs) := fun {J S1} h l kvs q => by
    subst q
    cases ii with
    | items e => exact hni e rfl
    | seq e =>
      unfold evI at h
      obtain ⟨x, S2, _, h⟩ := bind_ok h
      split at h <;> cases h
    | rng e =>
      unfold evI at h
      obtain ⟨x, S2, _, h⟩ := bind_ok h
      split at h <;> cases h
    | enum e =>
      unfold evI at h
      obtain ⟨x, S2, _, h⟩ := bind_ok h
      split at h <;> cases h
    | zip e =>
      unfold evI at h
      obtain ⟨x, S2, _, h⟩ := bind_ok h
      split at h <;> cases h
  cases hJe : evI F ii τ S with
  | exc c fs S1 =>
    refine ⟨ρ, τ, S, rp, st, ?_⟩
    rw [hJe] at po ⊢
    exact fun ρ1 H1 d e1 rp1 x => po _ _ _ _ e1 rp1 (st.mono e1) x
  | stuck => rw [hJe] at po; exact po.elim
  | ok J S1 =>
    have hno := noit hJe
    refine ⟨ρ, τ, S, rp, st, ?_⟩
    rw [hJe] at po ⊢
    generalize hst : (fun x τ S => (evG F ig x τ S).noX.out τ fun τ S => exB F ib τ S) = step at po
    have po1 : PostO G Ω D ρ H (loopJ J step (J.len S1) 0 τ S1) := by
      have e1 : lockJ J S1 = S1 := by cases J <;> first | rfl | exact absurd rfl (hno _ _)
      have e2 : ∀ o, PostO G Ω D ρ H (openO J o) → PostO G Ω D ρ H o := fun o h => by
        cases J <;> first
          | (cases o <;> exact h)
          | exact absurd rfl (hno _ _)
      have po' : PostO G Ω D ρ H (openO J (loopJ J step (J.len S1) 0 τ (lockJ J S1))) := po
      rw [e1] at po'
      exact e2 _ po'
    intro ρ1 H1 jt e1 rp1 hJ
    rw [hK] at hJ
    exact fr_loop hJ rp1 (st.mono e1) (po1.from e1) (fun x τ S => by rw [← hst])
theorem snd_whl {c : Expr} {body : List Stmt} {t : T} {ib : Sms} (hc : PT X c (LT G Ω (evT F t))) (hb : PSs X body (LS G Ω (exB F ib))) : PS X (.While c body [] pos) (LS G Ω (exS F (.whl t ib))) := by
  refine (ps_while g.po hc hb).via fun D σ H ⟨ρ, τ, S, rp, st, po⟩ => ?_
  unfold exS at po
  let Wd : Nat → L2.St → Hp → Prop := fun m σ' H' => ∃ ρi τi Si, Rp G ρi H' Si ∧ RSt G ρi H' τi σ' ∧ PostO G Ω D ρi H' (whileN (fun τ S => evT F t τ S) (fun τ S => exB F ib τ S) m τi Si)
  refine ⟨Wd, ⟨F.lf, ρ, τ, S, rp, st, po⟩, fun m σ' H' ⟨ρi, τi, Si, rpi, sti, pi⟩ => ?_⟩
  cases m with
  | zero => unfold whileN at pi; exact pi.elim
  | succ m =>
    unfold whileN at pi
    refine Lf.imp (Lf.out rpi sti pi) fun k H1 ⟨ρ1, w, S1, e1, rp1, st1, r1, p1⟩ => ?_
    cases r1
    cases k with
    | false =>
      rw [if_neg (by decide)]
      exact p1 _ _ _ Ext.refl rp1 st1
    | true =>
      rw [if_pos rfl]
      refine ⟨Wd m, fun σ2 H2 h => ⟨m, Nat.lt_succ_self _, h⟩, ρ1, τi, S1, rp1, st1, ?_⟩
      dsimp only at p1
      cases hb1 : exB F ib τi S1 with
      | nx τ5 S5 =>
        rw [hb1] at p1
        exact fun ρ5 H5 σ5 e5 rp5 st5 => ⟨ρ5, τ5, S5, rp5, st5, p1.from e5⟩
      | ct τ5 S5 =>
        rw [hb1] at p1
        exact fun ρ5 H5 σ5 e5 rp5 st5 => ⟨ρ5, τ5, S5, rp5, st5, p1.from e5⟩
      | bk τ5 S5 => rw [hb1] at p1; exact p1
      | rt w S5 => rw [hb1] at p1; exact p1
      | exc c fs τ5 S5 => rw [hb1] at p1; exact p1
      | stuck => rw [hb1] at p1; exact p1.elim
omit g in
/-- a try whose suite raises nothing -/
theorem snd_trN {body : List Stmt} {h0 : ExceptHandler} {hs : List ExceptHandler} {ib : Sms} (hb : PSs X.nox body (LS G W0 (exB F ib))) : PS X (.Try body (h0 :: hs) [] [] pos) (LS G Ω (exS F (.trN ib))) := by
  have base : PS X.nox (.Try body (h0 :: hs) [] [] pos) (LS G Ω (exS F (.trN ib))) := (ps_try_never (fun _ _ z => z) hb pss_nil).via fun D σ H ⟨ρ, τ, S, rp, st, po⟩ => by
    unfold exS at po
    refine ⟨ρ, τ, S, rp, st, ?_⟩
    cases e : exB F ib τ S with
    | nx τ1 S1 => rw [e] at po; exact po
    | rt w S1 => rw [e] at po; exact po
    | bk τ1 S1 => rw [e] at po; exact po
    | ct τ1 S1 => rw [e] at po; exact po
    | exc c fs τ1 S1 => rw [e] at po; exact po.elim
    | stuck => rw [e] at po; exact po.elim
  exact ⟨fun pins s σ H D I hw => wpAny_mono (base.run pins s σ H D (I.wish _) hw) (fun _ _ q => q.unwish) fun _ _ z => False.elim z⟩
end
end Rf

set_option Elab.async false
set_option maxRecDepth 100000
/-! RfStm4: attributes in place, items that go. -/
namespace Rf
open PySem PySem.Spec PyProof.Rows L2
section
variable {G : GC} {X : Cx} {Ω : WX} (g : GX G Ω X) {F : Ora} {pos : Pos}
include g
theorem snd_del {o i : Expr} {eo ei : E} {tpos : Pos} (ho : PE X o (LE G Ω (evE F eo))) (hi : PE X i (LE G Ω (evE F ei))) : PS X (.Delete [.Subscript o i tpos] pos) (LS G Ω (exS F (.del eo ei))) :=
  (ps_ddel ho hi).via fun D σ H ⟨ρ, τ, S, rp, st, po⟩ => by
    unfold exS at po
    refine Lf.imp (Lf.out rp st po) fun x H1 ⟨ρ1, w, S1, e1, rp1, st1, r1, po1⟩ => ?_
    refine Lf.imp (Lf.out rp1 st1 po1) fun y H2 ⟨ρ2, k, S2, e2, rp2, st2, r2, po2⟩ => ?_
    split at po2
    · split at po2
      · rename_i kvs hcell
        split at po2
        · rename_i q hq
          split at po2
          · rename_i v hv
            obtain ⟨a, rfl, ha, vs, k1, k2⟩ := rp2.cellAt (r1.mono e2) hcell
            have hfz : ∀ q u, H2 a ≠ some (.frz q u) := fun q u z => by rw [k1] at z; cases z
            have ex := Ext.write (G := G) (o := .dK (dropK vs q)) rp2 ha hfz
            refine ⟨a, vs, q, rfl, k1, key_snd r2 hq, ?_, po2 _ _ _ ex (Rp.write rp2 ha hfz ⟨_, upd_same, (k2.del q).mono ex⟩) (st2.mono ex)⟩
            rcases k2.get q with ⟨e3, _⟩ | ⟨_, _, _, e4, _⟩
            · rw [e3] at hv; cases hv
            · rw [e4]; rfl
          · exact po2.elim
        · exact po2.elim
      · exact po2.elim
    · exact po2.elim
theorem snd_augF (ok : GOk G) {o e : Expr} {f : Nat} {eo ie : E} {op : Operator} {tpos : Pos} (ho : PE X o (LE G Ω (evE F eo))) (he : PE X e (LE G Ω (evE F ie))) (hF : F.fok = G.fok) : PS X (.AugAssign (.Attribute o (G.fnm f) tpos) op e pos) (LS G Ω (exS F (.augF eo f op ie))) :=
  (ps_fldaug (rd := tipA G op) ho he fun pins s σ H x y u v Q I r1 r2 ⟨E, ρ, S, a, b, rp, ra, rb, po⟩ => augW_snd op I r1 r2 rp ra rb po).via fun D σ H ⟨ρ, τ, S, rp, st, po⟩ => by
    unfold exS at po
    refine Lf.imp (Lf.out rp st po) fun x H1 ⟨ρ1, w, S1, e1, rp1, st1, r1, po1⟩ => ?_
    split at po1
    · rename_i v hv
      unfold fldW at hv
      split at hv
      · split at hv
        · rename_i c fs hcell
          split at hv
          · rename_i hk
            rw [hF] at hk
            obtain ⟨k1, k2, k3⟩ := ok.cls _ _ hk
            obtain ⟨a, rfl, ha, dx, vs, k4, k5⟩ := rp1.cellAt r1 hcell
            obtain ⟨u, k6, k7⟩ := k5.get ok k1 hv
            refine ⟨a, _, dx, vs, u, rfl, k4, by rw [g.K]; exact k2, by rw [g.K]; exact k3, k6, ?_⟩
            refine Lf.imp (Lf.out rp1 st1 po1) fun y H2 ⟨ρ2, z, S2, e2, rp2, st2, r2, po2⟩ => ⟨WE Ω σ, ρ2, S2, v, z, rp2, k7.mono e2, r2, ?_⟩
            refine (po2.bind st2 (rel := R G)).imp fun zv H3 ⟨ρ3, z3, S3, e3, rp3, r3, po3⟩ => ?_
            split at po3
            · rename_i hcls
              split at po3
              · rename_i S4 hset
                unfold setF at hset
                dsimp only at hset
                split at hset
                · rename_i c2 fs2 hcell2
                  have ec : c = c2 := by
                    unfold clsW at hcls
                    dsimp only at hcls
                    rw [hcell, hcell2] at hcls
                    exact Option.some.inj hcls
                  subst ec
                  split at hset
                  · rename_i hk2
                    cases hset
                    obtain ⟨b, hb, ha2, dx2, vs2, k8, k9⟩ := rp3.cellAt ((r1.mono e2).mono e3) hcell2
                    cases hb
                    have hfz : ∀ q u, H3 a ≠ some (.frz q u) := fun q u z => by rw [k8] at z; cases z
                    have ex := Ext.write (G := G) (o := .ins (G.cadr c) dx2 (putF (G.fnm f) zv vs2)) rp3 ha2 hfz
                    exact ⟨dx2, vs2, k8, by rw [← k9.length]; omega, po3 _ _ _ ex (Rp.write rp3 ha2 hfz ⟨dx2, _, upd_same, (k9.put ok k1 r3).mono ex⟩) ((st2.mono e3).mono ex)⟩
                  · cases hset
                · cases hset
              · exact po3.elim
            · exact po3.elim
          · cases hv
        · cases hv
      · cases hv
    · exact po1.elim
end
end Rf

set_option Elab.async false
set_option maxRecDepth 100000
/-! RfDct: dict displays. -/
namespace Rf
open PySem PySem.Spec PyProof.Rows L2
def trsOf (G : GC) (Ω : WX) (F : Ora) : Ps → List (TE × TE)
  | .nil => []
  | .cons k v r => (LE G Ω (evE F k), LE G Ω (evE F v)) :: trsOf G Ω F r
def Ps.len : Ps → Nat
  | .nil => 0
  | .cons _ _ r => r.len + 1
section
variable {G : GC} {Ω : WX} {F : Ora}
theorem ev_pairs {σ : L2.St} {τ : Tau} : ∀ (ps : Ps) {ρ : List Addr} {H : Hp} {S S' : Store} {kvs : List (DKey × W)} {Q : List (V × V) → Hp → Prop}, Rp G ρ H S → RSt G ρ H τ σ → evD F ps τ S = .ok kvs S' →
    (∀ ρ' H' (vs : List (Key × V)), Ext G ρ H ρ' H' → Rp G ρ' H' S' → RK G ρ' H' kvs vs → Q (vs.map fun kv => (kV kv.1, kv.2)) H') → tPairs (trsOf G Ω F ps) σ H Q
  | .nil, ρ, H, S, S', kvs, Q, rp, st, h, hq => by
    unfold evD at h
    cases h
    exact hq ρ H [] Ext.refl rp .nil
  | .cons k v r, ρ, H, S, S', kvs, Q, rp, st, h, hq => by
    unfold evD at h
    obtain ⟨x, S1, e1, h⟩ := bind_ok h
    obtain ⟨y, S2, e2, h⟩ := bind_ok h
    split at h
    · rename_i q hk
      obtain ⟨rr, S3, e3, h⟩ := bind_ok h
      cases h
      refine ⟨ρ, τ, S, rp, st, ?_⟩
      rw [e1]
      intro ρ1 H1 X ex1 rp1 r1
      refine ⟨ρ1, τ, S1, rp1, st.mono ex1, ?_⟩
      rw [e2]
      intro ρ2 H2 Y ex2 rp2 r2
      refine ev_pairs r rp2 ((st.mono ex1).mono ex2) e3 fun ρ3 H3 vs ex3 rp3 rk => ?_
      have e := key_snd r1 hk
      subst e
      exact hq ρ3 H3 ((q, Y) :: vs) ((ex1.trans ex2).trans ex3) rp3 (.cons (r2.mono ex3) rk)
    · cases h
variable {X : Cx} (g : GX G Ω X) {pos : Pos}
include g
theorem snd_dctN {keys : List (Option Expr)} {vals : List Expr} {ps : Ps} (h : PPs X pos keys vals (trsOf G Ω F ps)) (hall : keys.all (·.isSome) = true) (hl : keys.length = vals.length) (h0 : keys ≠ []) (h15 : keys.length ≤ 15) : PE X (.Dict keys vals pos) (LE G Ω (evE F (.dct ps))) :=
  (pe_disp h hall hl h0 h15).via fun σ H Q ⟨ρ, τ, S, rp, st, po⟩ p hp => by
    unfold evE at po
    cases hd : evD F ps τ S with
    | exc c fs S1 => rw [hd] at po; exact po.elim
    | stuck => rw [hd] at po; exact po.elim
    | ok kvs S1 =>
      rw [hd] at po
      change Post G (R G) (WE Ω σ) ρ H Q (if kvs.length ≤ 15 then .ok (.loc S1.n) (S1.push (.dic (mergeD [] kvs))) else .stuck) at po
      split at po
      · rename_i hlen
        have hpn : p ∉ ρ := fun z => by obtain ⟨o, q, _⟩ := rp.in_some z; rw [hp] at q; cases q
        have ex0 := Ext.aside (G := G) (o := HO.dK []) rp hp
        refine ev_pairs ps (rp.aside hp) (st.mono ex0) hd fun ρ' H' vs ex rp' rk => ?_
        obtain ⟨hp2, hpv⟩ := ex.out hpn upd_same
        have nt : ∀ xs, HO.dK [] ≠ .tup xs := fun xs z => by cases z
        have nf : ∀ q u, HO.dK [] ≠ .frz q u := fun q u z => by cases z
        have u := Up.off (ρ := ρ') (o' := .dK (L2.mergeK [] vs)) hpv nt nf
        have up : Up ρ' H' (ρ' ++ [p]) (upd H' p (.dK (L2.mergeK [] vs))) := ⟨fun n x e => by rw [List.getElem?_append_left (List.getElem?_eq_some_iff.mp e).1]; exact e, u.tup, u.tpl⟩
        have rm := (RK.merge rk (RK.nil (G := G) (ρ := ρ') (H := H') (κ := DKey))).up up
        exact ⟨hpv, vs, rfl, by rw [← rk.length]; exact hlen, po _ _ _ ((ex0.trans ex).adopt hp) (rp'.adopt hp2 hpv nt nf ⟨fun _ z => (by cases z), fun _ z => (by cases z)⟩ ⟨_, upd_same, rm⟩) (.loc rp'.push_at)⟩
      · exact po.elim
end
end Rf

set_option Elab.async false
set_option maxRecDepth 100000
/-! RfAug: o[i] op= e. -/
namespace Rf
open PySem PySem.Spec PyProof.Rows L2
section
variable {G : GC} {X : Cx} {pins : List (Addr × Obj)} {s : Shared} {σ : L2.St} {ρ : List Addr} {H : Hp} {S : Store} {x y : V} {v u : Value} {a b c : W} {Q : VK}
theorem get_list {p : Addr} {vs : List V} {i : Int} {z : V} (I : Inv X pins σ H s) (hq : SqL X.K H p vs) (r2 : RelV (.int i) u) (he : L2.atI vs i = some z) (q : Q z H) : wpAny (model X.prog X.w) X.A (getItem (.ref p) u) (EP X pins σ Q) X.xe s := by
  obtain ⟨t, rfl⟩ := r2
  obtain ⟨us, r, pl, hz⟩ := I.list hq
  obtain ⟨j, k1, k2, k3, k4, k5⟩ := atI_get he
  obtain ⟨w, ew, rw'⟩ := r.get k2
  have el := r.length
  have l63 := line63
  have iw : us.toArray[j]? = some w := by simpa using ew
  by_cases h0 : 0 ≤ i
  · rw [seqIndex_of h0 k5] at k1
    have ej : i.toNat = j := Option.some.inj k1
    exact wpAny_getItem_list pl.isList h0 (by omega) (by rw [ej]; exact iw) ⟨z, H, I, rw', q⟩
  · rw [seqIndex_neg (by omega) k4] at k1
    have ej : (i + (us.toArray.size : Int)).toNat = j := by
      rw [List.size_toArray, ← el]
      exact Option.some.inj k1
    exact wpAny_getItem_list_neg pl.isList (by omega) (by rw [List.size_toArray]; omega) (by omega) (by rw [ej]; exact iw) ⟨z, H, I, rw', q⟩
theorem getW_snd (hu : X.A.units + 1 < cLine) (hK : X.K = G.K) (I : Inv X pins σ H s) (r1 : RelV x v) (r2 : RelV y u) (rp : Rp G ρ H S) (ra : R G ρ H a x) (rb : R G ρ H b y) (h : getW S a b = some c) (q : ∀ z, R G ρ H c z → Q z H) :
    wpAny (model X.prog X.w) X.A (getItem v u) (EP X pins σ Q) X.xe s := by
  unfold getW at h
  split at h
  · unfold ixW at h
    dsimp only at h
    split at h
    · rename_i e
      cases rb
      obtain ⟨p, vs, rfl, h1, h2⟩ := rp.seqL ra (.inl e)
      obtain ⟨z, h3, h4⟩ := h2.atI h
      cases r1
      exact get_list I (by rw [hK]; exact h1) r2 h3 (q z h4)
    · rename_i e
      cases rb
      obtain ⟨p, vs, rfl, h1, h2⟩ := rp.seqL ra (.inr e)
      obtain ⟨z, h3, h4⟩ := h2.atI h
      cases r1
      exact get_list I (by rw [hK]; exact h1) r2 h3 (q z h4)
    · rename_i e
      obtain ⟨p, rfl, hp, vs, h1, h2⟩ := rp.cellAt ra e
      cases (show v = Value.ref p from r1)
      obtain ⟨k, e1, e2⟩ := Option.bind_eq_some_iff.mp h
      rcases h2.get k with ⟨e3, _⟩ | ⟨w, z, e3, e4, e5⟩
      · rw [e3] at e2; cases e2
      · rw [e2] at e3; cases e3
        have gd : DGet H p y (some z) := by rw [key_snd rb e1, ← e4]; exact DGet.k h1
        exact d_getItem hu I gd r2 fun w' s' I' rw' => ⟨z, H, I', rw', q z e5⟩
    · rename_i e
      obtain ⟨p, rfl, hp, vs, h1, h2⟩ := rp.cellAt ra e
      cases (show v = Value.ref p from r1)
      obtain ⟨k, e1, e2⟩ := Option.bind_eq_some_iff.mp h
      obtain ⟨b', rfl, hb⟩ := tkey_snd rb e1
      rcases h2.get k with ⟨e3, _⟩ | ⟨w, z, e3, e4, e5⟩
      · rw [e3] at e2; cases e2
      · rw [e2] at e3; cases e3
        have gd : DGet H p (.ref b') (some z) := by rw [← e4]; exact DGet.t h1 hb
        exact d_getItem hu I gd r2 fun w' s' I' rw' => ⟨z, H, I', rw', q z e5⟩
    · cases h
  · cases h
end
section
variable {G : GC} {X : Cx} {Ω : WX} (g : GX G Ω X) {F : Ora} {pos : Pos}
include g
theorem snd_augS {o i e : Expr} {eo ei ie : E} {op : Operator} {tpos : Pos} (ho : PE X o (LE G Ω (evE F eo))) (hi : PE X i (LE G Ω (evE F ei))) (he : PE X e (LE G Ω (evE F ie)))
    (ha : ∀ ov iv new, augStore i ov iv new = (do holding [new, ov, iv] (setItem ov iv new); release [new, ov, iv] []; pure .next)) : PS X (.AugAssign (.Subscript o i tpos) op e pos) (LS G Ω (exS F (.augS eo ei op ie))) := by
  have hu := g.units
  refine (ps_augS (tget := fun x y H Q => ∃ ρ S a b c, Rp G ρ H S ∧ R G ρ H a x ∧ R G ρ H b y ∧ getW S a b = some c ∧ ∀ z, R G ρ H c z → Q z H) (tset := fun x y z H Q => ∃ ρ S a b c S', Rp G ρ H S ∧ R G ρ H a x ∧ R G ρ H b y ∧ R G ρ H c z ∧ setW S a b c = some S' ∧ ∀ H', Ext G ρ H ρ H' → Rp G ρ H' S' → Q H')
    ho hi (fun pins s σ H x y v u Q I r1 r2 ⟨ρ, S, a, b, c, rp, ra, rb, e, q⟩ => getW_snd (by omega) g.K I r1 r2 rp ra rb e q) he (pip_aug (G := G) op)
    (fun pins s σ H x y z v u r Q I r1 r2 r3 ⟨ρ, S, a, b, c, S', rp, ra, rb, rc, h, q⟩ => setW_snd (by omega) I r1 r2 r3 rp ra rb rc h q) ha).via fun D σ H ⟨ρ, τ, S, rp, st, po⟩ => ?_
  unfold exS at po
  refine Lf.imp (Lf.out rp st po) fun x H1 ⟨ρ1, w, S1, e1, rp1, st1, r1, po1⟩ => ?_
  refine Lf.imp (Lf.out rp1 st1 po1) fun y H2 ⟨ρ2, k, S2, e2, rp2, st2, r2, po2⟩ => ?_
  split at po2
  · rename_i v hv
    refine ⟨ρ2, S2, w, k, v, rp2, r1.mono e2, r2, hv, fun z rz => ?_⟩
    refine Lf.imp (Lf.out rp2 st2 po2) fun y3 H3 ⟨ρ3, w3, S3, e3, rp3, st3, r3, po3⟩ => ?_
    refine ⟨WE Ω σ, ρ3, S3, v, w3, rp3, rz.mono e3, r3, ?_⟩
    refine (po3.bind st3 (rel := R G)).imp fun z4 H4 ⟨ρ4, w4, S4, e4, rp4, r4, po4⟩ => ?_
    split at po4
    · rename_i S5 hset
      exact ⟨ρ4, S4, w, k, w4, S5, rp4, ((r1.mono e2).mono e3).mono e4, (r2.mono e3).mono e4, r4, hset, fun H' ex rp' => po4 _ _ _ ex rp' ((st3.mono e4).mono ex)⟩
    · exact po4.elim
  · exact po2.elim
end
end Rf

set_option Elab.async false
set_option maxRecDepth 100000
set_option maxHeartbeats 1000000
/-! RfTry: try with clauses, what they say of what they caught. -/
namespace Rf
open PySem PySem.Spec PyProof.Rows L2
theorem Ext.outX {G : GC} {ρ ρ' : List Addr} {H H' : Hp} {fs : List (Nat × W)} {d : Option Addr} (e : Ext G ρ H ρ' H') (h : XdR G ρ H fs d) : XdR G ρ' H' fs d := by
  rcases h with h | ⟨dx, vs, h1, h2, h3, h4⟩
  · exact .inl h
  · obtain ⟨k1, k2⟩ := e.out h3 h2
    exact .inr ⟨dx, vs, h1, k2, k1, h4.mono e⟩
/-- what an except suite knows -/
structure UF (G : GC) (ρ : List Addr) (H : Hp) (τ : Tau) (σ : L2.St) (S : Store) (a : Addr) (c : Nat) (fs : List (Nat × W)) (d : Option Addr) (nm : Option Nat) : Prop where
  rp : Rp G ρ H S
  st : RSt G ρ H τ σ
  xo : XOk G c fs
  xd : XdR G ρ H fs d
  nm : ∀ i, nm = some i → σ[i]? = some (some (.ref a))
theorem UF.mono {G : GC} {ρ ρ' : List Addr} {H H' : Hp} {τ : Tau} {σ : L2.St} {S S' : Store} {a : Addr} {c : Nat} {fs : List (Nat × W)} {d : Option Addr} {nm : Option Nat} (u : UF G ρ H τ σ S a c fs d nm) (e : Ext G ρ H ρ' H') (rp : Rp G ρ' H' S') : UF G ρ' H' τ σ S' a c fs d nm :=
  ⟨rp, u.st.mono e, u.xo, e.outX u.xd, u.nm⟩
/-- the reading of a term in a suite; the class caught is cls -/
def LU {α β : Type} (G : GC) (a : Addr) (cls : Value) (d : Option Addr) (nm : Option Nat) (rel : List Addr → Hp → α → β → Prop) (f : List (Nat × W) → Tau → Store → Res α) (σ : L2.St) (H : Hp) (Q : β → Hp → Prop) : Prop :=
  ∃ ρ τ S c fs, cls = .ref (G.cadr c) ∧ UF G ρ H τ σ S a c fs d nm ∧ Post G rel E0 ρ H Q (f fs τ S)
section
variable {G : GC} {a : Addr} {cls : Value} {d : Option Addr} {nm : Option Nat} {α β γ δ : Type} {rel : List Addr → Hp → α → β → Prop} {rel2 : List Addr → Hp → γ → δ → Prop} {ρ : List Addr} {H : Hp} {τ : Tau} {σ : L2.St} {S : Store} {c : Nat} {fs : List (Nat × W)} {Q : β → Hp → Prop} {k : γ → Store → Res α} {f : List (Nat × W) → Tau → Store → Res γ}
theorem LU.bind (hc : cls = .ref (G.cadr c)) (u : UF G ρ H τ σ S a c fs d nm) (po : Post G rel E0 ρ H Q ((f fs τ S).bind k)) :
    LU G a cls d nm rel2 f σ H fun y H1 => ∃ ρ1 w S1, Ext G ρ H ρ1 H1 ∧ UF G ρ1 H1 τ σ S1 a c fs d nm ∧ rel2 ρ1 H1 w y ∧ Post G rel E0 ρ1 H1 Q (k w S1) :=
  ⟨ρ, τ, S, c, fs, hc, u, (po.bind (rel2 := rel2)).imp fun y H1 ⟨ρ1, w, S1, e, rp1, r, p⟩ => ⟨ρ1, w, S1, e, u.mono e rp1, r, p⟩⟩
theorem LU.imp {f : List (Nat × W) → Tau → Store → Res α} {Q' : β → Hp → Prop} (h : LU G a cls d nm rel f σ H Q) (hq : ∀ v H', Q v H' → Q' v H') : LU G a cls d nm rel f σ H Q' := by
  obtain ⟨ρ, τ, S, c, fs, hc, u, po⟩ := h
  exact ⟨ρ, τ, S, c, fs, hc, u, po.imp hq⟩
end
abbrev LUe (G : GC) (a : Addr) (cls : Value) (d : Option Addr) (nm : Option Nat) (u : U) : TE := LU G a cls d nm (R G) fun fs => evU fs u
abbrev LUs (G : GC) (a : Addr) (cls : Value) (d : Option Addr) (nm : Option Nat) (us : Us) : TA := LU G a cls d nm (Rs G) fun fs => evUs fs us
section
variable {G : GC} {X : Cx} {a : Addr} {oe : Obj} {cls : Value} {d : Option Addr} {pn : List (Addr × Obj)} {nm : Option Nat} {pos : Pos}
theorem u_con {e : Expr} {v : V} {u : U} {w : W} (h : PE (X.suite a ((a, oe) :: pn)) e (tC v)) (hr : ∀ ρ H, R G ρ H w v) (he : ∀ fs τ S, evU fs u τ S = .ok w S) : PE (X.suite a ((a, oe) :: pn)) e (LUe G a cls d nm u) :=
  h.via fun σ H Q ⟨ρ, τ, S, c, fs, hc, uf, po⟩ => by
    dsimp only at po
    rw [he] at po
    exact po.here uf.rp (hr _ _)
theorem u_var {x : Str} {i : Nat} (hN : X.N[i]? = some x) (hv : Vis X.env.scope x) (hd : (x == ("__debug__" : Str)) = false) (hcd : (x == ("__classdict__" : Str)) = false) : PE (X.suite a ((a, oe) :: pn)) (.Name x pos) (LUe G a cls d nm (.var i)) :=
  (pe_var (X := X.suite a ((a, oe) :: pn)) hN hv hd hcd).via fun σ H Q ⟨ρ, τ, S, c, fs, hc, uf, po⟩ => by
    dsimp only at po
    unfold evU at po
    split at po
    · obtain ⟨v, h1, h2⟩ := uf.st.2 _ _ (by assumption)
      exact ⟨v, h1, po.here uf.rp h2⟩
    · exact po.elim
theorem RF.getX {ρ : List Addr} {H : Hp} (ok : GOk G) {fs : List (Nat × W)} {vs : List (Str × V)} (h : RF G ρ H fs vs) {f : Nat} {w : W} (e : fget fs f = some w) : (∃ q ∈ fs, q.1 = f) ∧ ∃ v, vs.lookup (G.fnm f) = some v ∧ R G ρ H w v := by
  have mem : ∀ {fs : List (Nat × W)}, fget fs f = some w → ∃ q ∈ fs, q.1 = f := by
    intro fs
    induction fs with
    | nil => intro e; cases e
    | cons p r ih =>
      intro e
      obtain ⟨k, x⟩ := p
      unfold fget at e
      by_cases q : k = f
      · exact ⟨_, List.mem_cons_self, q⟩
      · rw [if_neg q] at e
        obtain ⟨y, h1, h2⟩ := ih e
        exact ⟨y, List.mem_cons_of_mem _ h1, h2⟩
  have lt : ∀ {fs : List (Nat × W)} {vs : List (Str × V)}, RF G ρ H fs vs → ∀ q ∈ fs, q.1 < G.nf := by
    intro fs vs h
    induction h with
    | nil => intro q hq; cases hq
    | cons hk _ _ ih =>
      intro q hq
      rcases List.mem_cons.mp hq with z | z
      · rw [z]; exact hk
      · exact ih q z
  obtain ⟨q, h1, h2⟩ := mem e
  exact ⟨⟨q, h1, h2⟩, h.get ok (h2 ▸ lt h q h1) e⟩
theorem u_fld (hK : X.K = G.K) (ok : GOk G) {x : Str} {i f : Nat} (hN : X.N[i]? = some x) (hv : Vis X.env.scope x) (hd : (x == ("__debug__" : Str)) = false) (hcd : (x == ("__classdict__" : Str)) = false) (hz : Zc cls d oe) (hf : ∃ vs, oe.data = .fields vs) {p : Pos} :
    PE (X.suite a ((a, oe) :: pn)) (.Attribute (.Name x p) (G.fnm f) pos) (LUe G a cls d (some i) (.fld f)) := by
  refine ⟨fun pins s σ H Q I ⟨ρ, τ, S, c, fs, hc, uf, po⟩ => ?_⟩
  dsimp only at po
  unfold evU at po
  obtain ⟨w, h1, h2⟩ := po.of
  rcases uf.xd with z | ⟨dx, vs, e1, e2, e3, e4⟩
  · subst z; cases h1
  · obtain ⟨⟨q, m1, m2⟩, v, l1, l2⟩ := e4.getX ok h1
    rcases uf.xo with z | ⟨T, hno⟩
    · subst z; cases h1
    · have hno := hno q m1
      rw [m2] at hno
      rw [← hK] at hno T
      exact (pe_xf T hno hz hf (pe_var (X := X.suite a ((a, oe) :: pn)) (pos := p) hN hv hd hcd)).run pins s σ H Q I ⟨.ref a, uf.nm i rfl, rfl, hc, dx, vs, v, e1, e2, l1, h2.here uf.rp l2⟩
theorem u_nil : PA (X.suite a ((a, oe) :: pn)) [] (LUs G a cls d nm .nil) := pa_nil.via fun σ H Q ⟨ρ, τ, S, c, fs, hc, uf, po⟩ => by
  dsimp only at po
  unfold evUs at po
  exact po _ _ _ Ext.refl uf.rp .nil
theorem u_cons {e : Expr} {es : List Expr} {u : U} {us : Us} (he : PE (X.suite a ((a, oe) :: pn)) e (LUe G a cls d nm u)) (hr : PA (X.suite a ((a, oe) :: pn)) es (LUs G a cls d nm us)) (hs : starEach (e :: es) X.env = (false, eval e X.env) :: starEach es X.env) :
    PA (X.suite a ((a, oe) :: pn)) (e :: es) (LUs G a cls d nm (.cons u us)) :=
  (pa_cons he hr hs).via fun σ H Q ⟨ρ, τ, S, c, fs, hc, uf, po⟩ => by
    dsimp only at po
    unfold evUs at po
    refine (LU.bind hc uf po).imp fun x H1 ⟨ρ1, w, S1, e1, uf1, r1, po1⟩ => ?_
    refine (LU.bind hc uf1 po1).imp fun xs H2 ⟨ρ2, ws, S2, e2, uf2, r2, po2⟩ => ?_
    exact po2 _ _ _ Ext.refl uf2.rp (.cons (r1.mono e2) r2)
theorem u_tup {es : List Expr} {us : Us} {x1} (h : PA (X.suite a ((a, oe) :: pn)) es (LUs G a cls d nm us)) : PE (X.suite a ((a, oe) :: pn)) (.Tuple es x1 pos) (LUe G a cls d nm (.tup us)) :=
  (pe_tupF h).via fun σ H Q ⟨ρ, τ, S, c, fs, hc, uf, po⟩ => by
    dsimp only at po
    unfold evU at po
    refine (LU.bind hc uf po).imp fun xs H1 ⟨ρ1, ws, S1, _, uf1, r1, po1⟩ => ?_
    split at po1
    · exact ⟨by rw [← r1.length]; exact lim_line (by assumption), po1.newF uf1.rp r1⟩
    · exact po1.elim
theorem u_lst {es : List Expr} {us : Us} (h : PA (X.suite a ((a, oe) :: pn)) es (LUs G a cls d nm us)) : PE (X.suite a ((a, oe) :: pn)) (.List es pos) (LUe G a cls d nm (.lst us)) :=
  (pe_lst h).via fun σ H Q ⟨ρ, τ, S, c, fs, hc, uf, po⟩ => by
    dsimp only at po
    unfold evU at po
    refine (LU.bind hc uf po).imp fun xs H1 ⟨ρ1, ws, S1, _, uf1, r1, po1⟩ => ?_
    split at po1
    · exact ⟨by rw [← r1.length]; exact lim_line (by assumption), fun p hp => po1.newL uf1.rp r1 hp⟩
    · exact po1.elim
end
end Rf

set_option Elab.async false
set_option maxRecDepth 100000
set_option maxHeartbeats 1000000
/-! RfTry2: the statement of an except suite; try. -/
namespace Rf
open PySem PySem.Spec PyProof.Rows L2
theorem exU_app {fs : List (Nat × W)} {i : Nat} {u : U} {τ : Tau} {S : Store} : exU fs (.app i u) τ S = match τ[i]? with
    | some (some x) => match mOk S .append x with
      | true => (evU fs u τ S).out τ fun w S => (bmW S .append x [w]).noX.out τ fun _ S => .nx τ S
      | false => .stuck
    | _ => .stuck := rfl
mutual
theorem evU_noexc {fs : List (Nat × W)} {c : Nat} {f2 : List (Nat × W)} {S2 : Store} : ∀ (u : U) (τ : Tau) (S : Store), evU fs u τ S ≠ .exc c f2 S2
  | .non, τ, S, h => by unfold evU at h; cases h
  | .bl b, τ, S, h => by unfold evU at h; cases h
  | .int i, τ, S, h => by unfold evU at h; cases h
  | .str z, τ, S, h => by unfold evU at h; cases h
  | .var i, τ, S, h => by
    unfold evU at h
    split at h <;> cases h
  | .fld f, τ, S, h => by
    unfold evU at h
    cases q : fget fs f with
    | none => rw [q] at h; cases h
    | some w => rw [q] at h; cases h
  | .tup us, τ, S, h => by
    unfold evU at h
    cases q : evUs fs us τ S with
    | ok ws S1 =>
      rw [q] at h
      change (if ws.length ≤ lim then Res.ok (W.tpl ws) S1 else .stuck) = _ at h
      split at h <;> cases h
    | exc c3 f3 S3 => exact evUs_noexc us τ S q
    | stuck => rw [q] at h; cases h
  | .lst us, τ, S, h => by
    unfold evU at h
    cases q : evUs fs us τ S with
    | ok ws S1 =>
      rw [q] at h
      change (if ws.length ≤ lim then Res.ok (W.loc S1.n) (S1.push (.lst ws)) else .stuck) = _ at h
      split at h <;> cases h
    | exc c3 f3 S3 => exact evUs_noexc us τ S q
    | stuck => rw [q] at h; cases h
theorem evUs_noexc {fs : List (Nat × W)} {c : Nat} {f2 : List (Nat × W)} {S2 : Store} : ∀ (us : Us) (τ : Tau) (S : Store), evUs fs us τ S ≠ .exc c f2 S2
  | .nil, τ, S, h => by unfold evUs at h; cases h
  | .cons u r, τ, S, h => by
    unfold evUs at h
    cases q : evU fs u τ S with
    | ok x S1 =>
      rw [q] at h
      change ((evUs fs r τ S1).bind fun xs S => Res.ok (x :: xs) S) = _ at h
      cases q2 : evUs fs r τ S1 with
      | ok xs S3 => rw [q2] at h; cases h
      | exc c3 f3 S3 => exact evUs_noexc r τ S1 q2
      | stuck => rw [q2] at h; cases h
    | exc c3 f3 S3 => exact evU_noexc u τ S q
    | stuck => rw [q] at h; cases h
end
theorem exU_noexc {fs : List (Nat × W)} {c : Nat} {f2 : List (Nat × W)} {τ2 : Tau} {S2 : Store} (u : Su) (τ : Tau) (S : Store) : exU fs u τ S ≠ .exc c f2 τ2 S2 := fun h => by
  have gen : ∀ (v : U) (k : W → Store → Out), (∀ w S, k w S ≠ .exc c f2 τ2 S2) → (evU fs v τ S).out τ k ≠ .exc c f2 τ2 S2 := fun v k hk h => by
    cases q : evU fs v τ S with
    | ok w S1 => rw [q] at h; exact hk _ _ h
    | exc c3 f3 S3 => exact evU_noexc v τ S q
    | stuck => rw [q] at h; cases h
  cases u with
  | asg i v => exact gen v _ (fun w S h => by cases h) h
  | ret v => exact gen v _ (fun w S h => by cases h) h
  | pas => cases h
  | app i v =>
    rw [exU_app] at h
    split at h
    · split at h
      · refine gen v _ (fun w S h => ?_) h
        cases q : bmW S .append _ [w] with
        | ok y S1 => rw [q] at h; cases h
        | exc c3 f3 S3 => rw [q] at h; cases h
        | stuck => rw [q] at h; cases h
      · cases h
    · cases h
theorem exU_nobk {fs : List (Nat × W)} {τ2 : Tau} {S2 : Store} (u : Su) (τ : Tau) (S : Store) : exU fs u τ S ≠ .bk τ2 S2 ∧ exU fs u τ S ≠ .ct τ2 S2 := by
  have gen : ∀ (v : U) (k : W → Store → Out) (o : Out), (∀ w S, k w S ≠ o) → o ≠ .stuck → (∀ c f τ S, o ≠ .exc c f τ S) → (evU fs v τ S).out τ k ≠ o := fun v k o hk h1 h2 h => by
    cases q : evU fs v τ S with
    | ok w S1 => rw [q] at h; exact hk _ _ h
    | exc c3 f3 S3 => rw [q] at h; exact h2 _ _ _ _ h.symm
    | stuck => rw [q] at h; exact h1 h.symm
  have app : ∀ (i : Nat) (v : U) (o : Out), (∀ τ S, o ≠ .nx τ S) → o ≠ .stuck → (∀ c f τ S, o ≠ .exc c f τ S) → exU fs (.app i v) τ S ≠ o := fun i v o h0 h1 h2 h => by
    rw [exU_app] at h
    split at h
    · split at h
      · refine gen v _ o (fun w S h => ?_) h1 h2 h
        cases q : bmW S .append _ [w] with
        | ok y S1 => rw [q] at h; exact h0 _ _ h.symm
        | exc c3 f3 S3 => rw [q] at h; exact h1 h.symm
        | stuck => rw [q] at h; exact h1 h.symm
      · exact h1 h.symm
    · exact h1 h.symm
  cases u with
  | asg i v => exact ⟨gen v _ _ (fun w S h => by cases h) (fun h => by cases h) (fun _ _ _ _ h => by cases h), gen v _ _ (fun w S h => by cases h) (fun h => by cases h) (fun _ _ _ _ h => by cases h)⟩
  | ret v => exact ⟨gen v _ _ (fun w S h => by cases h) (fun h => by cases h) (fun _ _ _ _ h => by cases h), gen v _ _ (fun w S h => by cases h) (fun h => by cases h) (fun _ _ _ _ h => by cases h)⟩
  | pas => exact ⟨fun h => (by cases h), fun h => (by cases h)⟩
  | app i v => exact ⟨app i v _ (fun _ _ h => by cases h) (fun h => by cases h) (fun _ _ _ _ h => by cases h), app i v _ (fun _ _ h => by cases h) (fun h => by cases h) (fun _ _ _ _ h => by cases h)⟩
def LUS (G : GC) (a : Addr) (cls : Value) (d : Option Addr) (nm : Option Nat) (u : Su) : TS := fun D σ H =>
  ∃ ρ τ S c fs, cls = .ref (G.cadr c) ∧ UF G ρ H τ σ S a c fs d nm ∧ PostO G W0 D ρ H (exU fs u τ S)
section
variable {G : GC} {X : Cx} {a : Addr} {oe : Obj} {cls : Value} {d : Option Addr} {pn : List (Addr × Obj)} {nm : Option Nat} {pos : Pos}
theorem LU.out {α β : Type} {rel : List Addr → Hp → α → β → Prop} {ρ : List Addr} {H : Hp} {τ : Tau} {σ : L2.St} {S : Store} {c : Nat} {fs : List (Nat × W)} {f : List (Nat × W) → Tau → Store → Res α} {k : α → Store → Out} {D : Ends} (hc : cls = .ref (G.cadr c)) (u : UF G ρ H τ σ S a c fs d nm) (po : PostO G W0 D ρ H ((f fs τ S).out τ k)) :
    LU G a cls d nm rel f σ H fun y H1 => ∃ ρ1 w S1, Ext G ρ H ρ1 H1 ∧ UF G ρ1 H1 τ σ S1 a c fs d nm ∧ rel ρ1 H1 w y ∧ PostO G W0 D ρ1 H1 (k w S1) :=
  ⟨ρ, τ, S, c, fs, hc, u, ((po.bind u.st (rel := rel)).exE fun _ _ _ z => z).imp fun y H1 ⟨ρ1, w, S1, e, rp1, r, p⟩ => ⟨ρ1, w, S1, e, u.mono e rp1, r, p⟩⟩
theorem us_asg {z : Str} {pz : Pos} {e : Expr} {i : Nat} {u : U} (nd : X.N.Nodup) (hi : X.N[i]? = some z) (hx : Loc X.env.scope z) (hf : X.fn z = true ∨ X.env.scope.names.lookup z = some .local) (he : PE (X.suite a ((a, oe) :: pn)) e (LUe G a cls d nm u))
    (hs : swapsWithSole [.Name z pz] e pos.line X.env = pure false) (hw : swappedStores [.Name z pz] e X.env = pure none) (h1 : (assignEach [.Name z pz] X.env).map (·.2) = [assign (.Name z pz) X.env]) : PS (X.suite a ((a, oe) :: pn)) (.Assign [.Name z pz] e pos) (LUS G a cls d nm (.asg i u)) :=
  (ps_asg (X := X.suite a ((a, oe) :: pn)) he (pg_name (X := X.suite a ((a, oe) :: pn)) nd hi hx hf) hs hw h1).via fun D σ H ⟨ρ, τ, S, c, fs, hc, uf, po⟩ => by
    unfold exU at po
    exact (LU.out hc uf po).imp fun y H1 ⟨ρ1, w, S1, e1, uf1, r1, po1⟩ => po1 _ _ _ Ext.refl uf1.rp (uf1.st.put r1)
theorem us_ret {e : Expr} {u : U} (he : PE (X.suite a ((a, oe) :: pn)) e (LUe G a cls d nm u)) : PS (X.suite a ((a, oe) :: pn)) (.Return (some e) pos) (LUS G a cls d nm (.ret u)) :=
  (ps_ret he).via fun D σ H ⟨ρ, τ, S, c, fs, hc, uf, po⟩ => by
    unfold exU at po
    exact (LU.out hc uf po).imp fun y H1 ⟨ρ1, w, S1, e1, uf1, r1, po1⟩ => po1 _ _ _ Ext.refl uf1.rp r1
theorem us_pas : PS (X.suite a ((a, oe) :: pn)) (.Pass pos) (LUS G a cls d nm .pas) := ps_pass.via fun D σ H ⟨ρ, τ, S, c, fs, hc, uf, po⟩ => by
  unfold exU at po
  exact po _ _ _ Ext.refl uf.rp uf.st
theorem us_app {x : Str} {i : Nat} {e : Expr} {u : U} {p1 apos cpos : Pos} (hK : X.K = G.K) (hu : X.A.units + 80 < cLine) (hN : X.N[i]? = some x) (hv : Vis X.env.scope x) (hd : (x == ("__debug__" : Str)) = false) (hcd : (x == ("__classdict__" : Str)) = false)
    (he : PE (X.suite a ((a, oe) :: pn)) e (LUe G a cls d nm u)) (hp : plainE e = true) (hline : (apos.endLine == cpos.line) = true) : PS (X.suite a ((a, oe) :: pn)) (.Expr (.Call (.Attribute (.Name x p1) "append" apos) [e] [] cpos) pos) (LUS G a cls d nm (.app i u)) := by
  have hu' : (X.suite a ((a, oe) :: pn)).A.units + 80 < cLine := hu
  have call : PE (X.suite a ((a, oe) :: pn)) (.Call (.Attribute (.Name x p1) "append" apos) [e] [] cpos) fun σ H Q => ∃ ρ τ S c fs w, cls = .ref (G.cadr c) ∧ UF G ρ H τ σ S a c fs d nm ∧ τ[i]? = some (some w) ∧ mOk S .append w = true ∧
      Post G (R G) E0 ρ H Q ((evU fs u τ S).bind fun z S => (bmW S .append w [z]).noX) := by
    refine ⟨fun pins s σ H Q I ⟨ρ, τ, S, c, fs, w, hc, uf, hw, hk, po⟩ => ?_⟩
    have pa := u_cons he (u_nil (G := G) (X := X) (a := a) (oe := oe) (cls := cls) (d := d) (pn := pn) (nm := nm)) (star_plain hp)
    obtain ⟨v, hv1, rv⟩ := uf.st.2 _ _ hw
    have run := thn ((pe_var (X := X.suite a ((a, oe) :: pn)) (pos := p1) hN hv hd hcd).run pins s σ H (fun y H1 => y = v ∧ H1 = H) I ⟨v, hv1, rfl, rfl⟩) fun vu s1 ⟨y, H1, I1, r1, q1⟩ => show MethodOn X.prog X.w (X.suite a ((a, oe) :: pn)).A (mNm .append) cpos vu (backTo cpos (starEach [e] X.env)) (EP (X.suite a ((a, oe) :: pn)) pins σ Q) (X.suite a ((a, oe) :: pn)).xe s1 from by
      obtain ⟨rfl, rfl⟩ := q1
      obtain ⟨pa', sl, ty⟩ := mFacts hk
      obtain ⟨t1, t2⟩ := mIs (X := X.suite a ((a, oe) :: pn)) hK I1 r1 uf.rp rv hk
      refine ⟨_, _, pa', sl, ty, t1, t2, ?_⟩
      have po' : Post G (R G) E0 ρ H1 Q ((evUs fs (.cons u .nil) τ S).bind fun ws S => match ws with | [z] => (bmW S .append w [z]).noX | _ => .stuck) := by
        unfold evUs
        rw [Res.bind_assoc]
        cases q : evU fs u τ S with
        | ok z S1 => rw [q] at po; unfold evUs; exact po
        | exc c fs S1 => rw [q] at po; exact po
        | stuck => rw [q] at po; exact po
      have pr := pa.run cpos pins s1 σ H1 _ I1 (LU.bind hc uf po')
      rw [show starEach [e] X.env = (false, eval e X.env) :: starEach [] X.env from star_plain hp] at pr ⊢
      refine Calls.callWith_builtin (by rfl) (Calls.evalArgs_plain (thn pr fun us s2 ⟨vs, H2, I2, r2, ρ2, ws, S2, e2, uf2, rs2, po2⟩ => ?_))
      split at po2
      · exact bmW_snd (X := X.suite a ((a, oe) :: pn)) (E := E0) .append hu' hK I2 r1 r2 uf2.rp (rv.mono e2) rs2 po2.noX
      · exact po2.elim
    refine wpAny_Call_method_late (by rfl) ?_ hline rfl run
    rw [stars_len (by rw [List.all_cons, hp]; rfl)]
    rfl
  refine (ps_expr call (by rfl)).via fun D σ H ⟨ρ, τ, S, c, fs, hc, uf, po⟩ => ?_
  rw [exU_app] at po
  split at po
  · rename_i w hw
    split at po
    · rename_i hk
      refine ⟨ρ, τ, S, c, fs, w, hc, uf, hw, hk, ?_⟩
      have p2 := (po.bind uf.st (rel := R G)).exE (E' := E0) fun _ _ _ z => z
      cases q : evU fs u τ S with
      | stuck => rw [q] at p2; exact p2
      | exc c fs S1 => rw [q] at p2; exact p2
      | ok z S1 =>
        rw [q] at po
        have p3 : PostO G W0 D ρ H ((bmW S1 .append w [z]).noX.out τ fun _ S => .nx τ S) := po
        refine ((p3.bind uf.st (rel := R G)).exE (E' := E0) fun _ _ _ z => z).imp fun y H1 ⟨ρ1, w1, S2, e1, rp1, r1, po1⟩ => ?_
        exact po1 _ _ _ Ext.refl rp1 (uf.st.mono e1)
    · exact po.elim
  · exact po.elim
end
end Rf

set_option Elab.async false
set_option maxRecDepth 100000
set_option maxHeartbeats 1000000
/-! RfTry3: try with clauses. -/
namespace Rf
open PySem PySem.Spec PyProof.Rows L2
/-- a clause's name -/
inductive NmOk (X : Cx) : Option Nat → Option Str → Prop
  | none : NmOk X none none
  | some {i : Nat} {n : Str} : X.N[i]? = some n → X.env.kindOf n = some .local → NmOk X (some i) (some n)
inductive HdOk (G : GC) (X : Cx) : Hs → List ExceptHandler → Prop
  | nil : HdOk G X .nil []
  | cons {c : Nat} {nm : Option Nat} {u : Su} {r : Hs} {x : Str} {np pos' : Pos} {nmS : Option Str} {b0 : Stmt} {suite : List Stmt} {hds : List ExceptHandler} (hc : Names X x (.ref (G.cadr c))) (hn : NmOk X nm nmS)
      (hsu : ∀ (a : Addr) (oe : Obj) (cls : Value) (d : Option Addr) (pn : List (Addr × Obj)), Zc cls d oe → (∃ vs, oe.data = .fields vs) → PSs (X.suite a ((a, oe) :: pn)) (b0 :: suite) (LUS G a cls d nm u)) (hr : HdOk G X r hds) :
      HdOk G X (.cons c nm u r) (.ExceptHandler (some (.Name x np)) nmS (b0 :: suite) pos' :: hds)
/-- what the clauses wish -/
def wT (G : GC) (Ω : WX) (D : Ends) (hs : Hs) : WX := fun cls d σ H => ∃ ρ τ S c fs, cls = .ref (G.cadr c) ∧ Rp G ρ H S ∧ RSt G ρ H τ σ ∧ XOk G c fs ∧ XdR G ρ H fs d ∧ PostO G Ω D ρ H (exH G.sub hs c fs τ S)
section
variable {G : GC} {X : Cx} {Ω : WX} {pins : List (Addr × Obj)}
/-- the clauses, one by one -/
theorem clauses (ok : GOk G) (hK : X.K = G.K) (hst : X.stack = X.env :: X.outer) (hfr : X.env.frame = some X.env.locals) (nd : X.N.Nodup) (tk : Takes X Ω) {D : Ends} {a : Addr} {B : Heap} {sI sB : Shared} {τ₀ : L2.St} {Hc : Hp} {cls : Value} {d : Option Addr}
    (J : Inv X pins τ₀ Hc sI) (nb : ∀ b o, sI.heap.get? b = some o → b ∉ frs X.stack → B.get? b = some o) (up : sI.heap.UpToSlots sB.heap) (fl : HandSPX.FlyingZ B (X.env :: X.outer) a (Zc cls d) sB.heap) (na : Hc a = none) (os : sB.os = sI.os) (ag : AllBare sB.gens) :
    ∀ {hs : Hs} {hds : List ExceptHandler}, HdOk G X hs hds → wT G Ω D hs cls d τ₀ Hc → wpAny (model X.prog X.w) X.A (handleBy (.ref a) X.env hds) (SP X pins D) X.xe sB := by
  have okX := J.ok
  obtain ⟨oB, vB, heB, hzB, hdB⟩ := fl.there
  have notFr : a ∉ frs (X.env :: X.outer) := fun hm => by
    obtain ⟨_, o2, e2, hnf⟩ := fl.2.2.1.mem hm
    rw [heB] at e2; cases e2
    exact hnf _ hdB
  have nL : a ≠ X.env.locals := fun z => notFr (List.mem_filterMap.mpr ⟨X.env, List.mem_cons_self, by rw [hfr, z]⟩)
  have nF : a ∉ X.fs := fun hm => by
    obtain ⟨e, he, q⟩ := List.mem_filterMap.mp hm
    exact notFr (List.mem_filterMap.mpr ⟨e, List.mem_cons_of_mem _ he, q⟩)
  have JB : Inv X pins τ₀ Hc sB := J.landed nb fl.1 up os ag
  have SB := JB.suite heB hdB na nL nF
  intro hs hds hk
  induction hk with
  | nil =>
    intro ⟨ρ, τ, S, c, fs, hc, rp, st, xo, xd, po⟩
    have out : Ω cls d τ₀ Hc := by rw [hc]; exact po _ _ _ _ Ext.refl rp st ⟨xo, xd⟩
    refine wpAny_handleBy_nil ?_
    obtain ⟨k1, k2, k3, oe, vs, T, oT, ts, he, hz, hd, h1, hr⟩ := id fl
    unfold PySem.passOn
    refine wpAny_bind (wpAny_field he hd h1 ?_)
    rw [if_neg (show ¬ ((Value.ref T == Value.none) = true) from by simp)]
    have fin : wpAny (model X.prog X.w) X.A (setFlight (.ref a) X.env.frame) (fun _ s9 => wpAny (model X.prog X.w) X.A (throw (.ref a) : Sem Flow) (SP X pins D) X.xe s9) X.xe sB := by
      rw [hfr]
      refine HandSPX.setFlight_upZ fl fun h9 hh9 up9 => wpAny_throw (tk _ _ ?_)
      exact ⟨a, B, sI, pins, τ₀, Hc, cls, d, rfl, J, nb, up.trans up9, .inr (.inr (by rw [hst]; exact hh9)), na, os, ag, out⟩
    first
      | exact wpAny_bind (wpAny_pure (wpAny_bind fin))
      | exact wpAny_bind fin
  | @cons c1 nm u r x np pos' nmS b0 suite hds2 hc hn hsu _ ih =>
    intro ⟨ρ, τ, S, c, fs, hcl, rp, st, xo, xd, po⟩
    unfold exH at po
    have hsub : ∃ b, G.sub c c1 = some b := by
      cases q : G.sub c c1 with
      | none => rw [q] at po; exact po.elim
      | some b => exact ⟨b, rfl⟩
    obtain ⟨b, hb⟩ := hsub
    have hm1 : PySem.W.exmOne X.K cls (.ref (G.cadr c1)) = some b := by rw [hK, hcl]; exact ok.exm _ _ _ hb
    rw [hb] at po
    refine wpAny_handleBy_cons (codeAny_handlers_test ?_) (by intro q; cases q)
    have LT : PySem.W.Looks (model X.prog X.w) sB.heap (typeOf (.ref a)) cls := fun A Q E s k q => wpAny_typeOf_ref (k _ _ heB) (by rw [hzB.1]; exact q)
    have LM := PySem.W.exm_one (M := model X.prog X.w) JB.kIn LT hm1
    have look : ∀ {Q E : Value → Shared → Prop}, Q (.ref (G.cadr c1)) sB → wpAny (model X.prog X.w) (X.A.mark (some (.ref a))) (eval (.Name x np) X.env) Q E sB := fun {Q E} q => by
      obtain ⟨hg, hdb, hm | ⟨hm, hv, hnn⟩⟩ := hc
      · exact ld_glob (X := X.suite a ((a, oB) :: (X.pn ++ pins))) SB hg hm q hdb
      · exact ld_blt (X := X.suite a ((a, oB) :: (X.pn ++ pins))) SB hg hm hv q hnn hdb
    refine look (LM.here ?_)
    cases b with
    | false =>
      show wpAny _ X.A (handleBy (.ref a) X.env hds2) _ _ _
      exact ih ⟨ρ, τ, S, c, fs, hcl, rp, st, xo, xd, po⟩
    | true =>
      have po' : PostO G Ω D ρ Hc (wipeO nm (exU fs u (nmT nm τ) S)) := po
      cases hn with
      | none =>
        refine codeAny_handlers_suite ?_
        refine HandSPX.lands_againZ fl fun h9 fl9 up9 => ?_
        have J9 : Inv X pins τ₀ Hc { sB with heap := h9 } := J.landed nb fl9.1 (up.trans up9) os ag
        obtain ⟨o9, v9, he9, hz9, hd9⟩ := fl9.there
        have S9 := J9.suite he9 hd9 na nL nF
        have done : LUS G a cls d none u D τ₀ Hc := by
          refine ⟨ρ, τ, S, c, fs, hcl, ⟨rp, st, xo, xd, fun i z => by cases z⟩, ?_⟩
          have p2 : PostO G Ω D ρ Hc (wipeO none (exU fs u τ S)) := po'
          cases q : exU fs u τ S with
          | nx τ2 S2 => rw [q] at p2; exact p2
          | rt w S2 => rw [q] at p2; exact p2
          | bk τ2 S2 => rw [q] at p2; exact p2
          | ct τ2 S2 => rw [q] at p2; exact p2
          | exc c2 f2 τ2 S2 => exact absurd q (exU_noexc _ _ _)
          | stuck => rw [q] at p2; exact p2
        refine wpAny_mono ((hsu a o9 cls d (X.pn ++ pins) hz9 ⟨_, hd9⟩).run [] _ _ Hc D S9 done) (fun f s6 hsp => ?_) (fun _ _ z => False.elim z)
        cases f with
        | next =>
          obtain ⟨σ6, H6, S6, q6⟩ := hsp
          exact ⟨_, _, S6.unsuite okX, q6⟩
        | brk =>
          obtain ⟨σ6, H6, S6, q6⟩ := hsp
          exact ⟨_, _, S6.unsuite okX, q6⟩
        | cont =>
          obtain ⟨σ6, H6, S6, q6⟩ := hsp
          exact ⟨_, _, S6.unsuite okX, q6⟩
        | ret v =>
          obtain ⟨v6, σ6, H6, S6, r6, q6⟩ := hsp
          exact ⟨_, _, _, S6.unsuite okX, r6, q6⟩
      | @some i n hi hl =>
        refine codeAny_handlers_suite_as ?_
        refine HandSPX.lands_againZ fl fun h9 fl9 up9 => ?_
        have J9 : Inv X pins τ₀ Hc { sB with heap := h9 } := J.landed nb fl9.1 (up.trans up9) os ag
        obtain ⟨o9, v9, he9, hz9, hd9⟩ := fl9.there
        have S9 := J9.suite he9 hd9 na nL nF
        have hlen : i < τ.length := by
          have h1 := st.1
          have h2 := J.len
          have h3 := (List.getElem?_eq_some_iff.mp hi).1
          omega
        refine store_ok (X := X.suite a ((a, o9) :: (X.pn ++ pins))) (v := .ref a) S9 nd hi (.inl hl) rfl (fun s5 S5 => ?_) (.inr hl)
        have D2 : LUS G a cls d (some i) u { nx := fun σ' H' => D.nx (σ'.set i none) H', rt := D.rt, bk := fun _ _ => False, ct := fun _ _ => False } (τ₀.set i (some (.ref a))) Hc := by
          refine ⟨ρ, τ.set i none, S, c, fs, hcl, ⟨rp, ⟨by rw [List.length_set, List.length_set, st.1], fun j w hj => ?_⟩, xo, xd, fun j z => ?_⟩, ?_⟩
          · by_cases e : i = j
            · subst e
              rw [List.getElem?_set_self hlen] at hj
              cases hj
            · rw [List.getElem?_set_ne e] at hj
              obtain ⟨v, h1, h2⟩ := st.2 _ _ hj
              exact ⟨v, by rw [List.getElem?_set_ne e]; exact h1, h2⟩
          · cases z
            rw [List.getElem?_set_self (by rw [← st.1]; exact hlen)]
          · have p2 : PostO G Ω D ρ Hc (wipeO (some i) (exU fs u (τ.set i none) S)) := po'
            cases q : exU fs u (τ.set i none) S with
            | nx τ2 S2 =>
              rw [q] at p2
              exact fun ρ' H' σ' e1 r1 s1 => p2 ρ' H' _ e1 r1 (RSt.drop s1)
            | rt w S2 => rw [q] at p2; exact p2
            | bk τ2 S2 => exact absurd q (exU_nobk _ _ _).1
            | ct τ2 S2 => exact absurd q (exU_nobk _ _ _).2
            | exc c2 f2 τ2 S2 => exact absurd q (exU_noexc _ _ _)
            | stuck => rw [q] at p2; exact p2
        refine wpAny_mono ((hsu a o9 cls d (X.pn ++ pins) hz9 ⟨_, hd9⟩).run [] s5 _ Hc _ S5 D2) (fun f s6 hsp => ?_) (fun _ _ z => False.elim z)
        have end_ : ∀ {σ6 : L2.St} {H6 : Hp} {Q : Shared → Prop}, Inv (X.suite a ((a, o9) :: (X.pn ++ pins))) [] σ6 H6 s6 → (∀ s7, Inv X pins (σ6.set i none) H6 s7 → Q s7) →
            wpAny (model X.prog X.w) X.A (do bindName X.env n .none; unbindBehindTheSuite X.env n pos') (fun _ s7 => Q s7) X.xe s6 := fun {σ6 H6 Q} S6 hq => gone_ok (S6.unsuite okX) nd hi hl hq
        cases f with
        | next =>
          obtain ⟨σ6, H6, S6, q6⟩ := hsp
          exact end_ S6 fun s7 J7 => ⟨_, _, J7, q6⟩
        | brk =>
          obtain ⟨σ6, H6, S6, q6⟩ := hsp
          exact False.elim q6
        | cont =>
          obtain ⟨σ6, H6, S6, q6⟩ := hsp
          exact False.elim q6
        | ret v =>
          obtain ⟨v6, σ6, H6, S6, r6, q6⟩ := hsp
          exact end_ S6 fun s7 J7 => ⟨_, _, _, J7, r6, q6⟩
/-- a try, its suite any reading -/
theorem tr_at (ok : GOk G) (hK : X.K = G.K) {body : List Stmt} {hd : ExceptHandler} {hds : List ExceptHandler} {hs : Hs} {tb : WX → TS} {pos : Pos} (hst : X.stack = X.env :: X.outer) (hfr : X.env.frame = some X.env.locals) (nd : X.N.Nodup) (tk : Takes X Ω)
    (hb : ∀ (W : WX) (pn : List (Addr × Obj)) (xe : Value → Shared → Prop), Takes (X.tr pn xe) W → PassesOwn (model X.prog X.w) X.A X.env xe → PSs (X.tr pn xe) body (tb W)) (hh : HdOk G X hs (hd :: hds)) :
    PS X (.Try body (hd :: hds) [] [] pos) (fun D σ H => tb (wT G Ω D hs) D σ H) := by
  refine ⟨fun pins s σ H D I start => ?_⟩
  have okX := I.ok
  have hA : X.A.frames = some (X.env :: X.outer) := by rw [okX.frames, hst]
  refine wpAny_Try_except ?_
  refine wpAny_mono ((hb (wT G Ω D hs) (X.pn ++ pins) (fun e s₁ => wpAny (model X.prog X.w) X.A (noteFrame e X.env) (fun _ s₂ => wpAny (model X.prog X.w) X.A (setFlight e none) (fun _ s₃ =>
    wpAny (model X.prog X.w) X.A (handleBy e X.env (hd :: hds)) (SP X pins D) X.xe s₃) X.xe s₂) X.xe s₁) (fun u s2 xx => ?_) PassesOwn.looking).run [] s σ H D (I.toTry _) start) (fun f s2 hsp => ?_) (fun e s2 he => he)
  · obtain ⟨a, B, sI, p2, σ2, H2, cls, d, rfl, J2, nb, up, sky, na, os, ag, w⟩ := xx
    have J : Inv X pins σ2 H2 sI := J2.ofTry okX
    have sky' : Sky B (X.env :: X.outer) a (Zc cls d) X.env.locals s2.heap := by rw [← hst]; exact sky
    show wpAny (model X.prog X.w) X.A (noteFrame (.ref a) X.env) _ _ _
    refine Sky.land Zc.steady hA hfr sky' fun h3 fl3 up3 => ?_
    exact clauses (sB := { s2 with heap := h3 }) ok hK hst hfr nd tk J nb (up.trans up3) fl3 na os ag hh w
  · cases f with
    | next =>
      obtain ⟨σ2, H2, J2, q⟩ := hsp
      exact wpAny_execs_nil ⟨σ2, H2, J2.ofTry okX, q⟩
    | brk =>
      obtain ⟨σ2, H2, J2, q⟩ := hsp
      exact ⟨σ2, H2, J2.ofTry okX, q⟩
    | cont =>
      obtain ⟨σ2, H2, J2, q⟩ := hsp
      exact ⟨σ2, H2, J2.ofTry okX, q⟩
    | ret v =>
      obtain ⟨y, σ2, H2, J2, r, q⟩ := hsp
      exact ⟨y, σ2, H2, J2.ofTry okX, r, q⟩
theorem snd_tr (ok : GOk G) (hK : X.K = G.K) {F : Ora} {body : List Stmt} {hd : ExceptHandler} {hds : List ExceptHandler} {ib : Sms} {hs : Hs} {pos : Pos} (hst : X.stack = X.env :: X.outer) (hfr : X.env.frame = some X.env.locals) (nd : X.N.Nodup) (tk : Takes X Ω) (hF : F.sub = G.sub)
    (hb : ∀ (W : WX) (pn : List (Addr × Obj)) (xe : Value → Shared → Prop), Takes (X.tr pn xe) W → PassesOwn (model X.prog X.w) X.A X.env xe → PSs (X.tr pn xe) body (LS G W (exB F ib))) (hh : HdOk G X hs (hd :: hds)) :
    PS X (.Try body (hd :: hds) [] [] pos) (LS G Ω (exS F (.tr ib hs))) := by
  refine (tr_at ok hK hst hfr nd tk hb hh).via fun D σ H ⟨ρ, τ, S, rp, st, po⟩ => ?_
  refine ⟨ρ, τ, S, rp, st, ?_⟩
  unfold exS at po
  rw [hF] at po
  cases q : exB F ib τ S with
  | nx τ2 S2 => rw [q] at po; exact po
  | rt w S2 => rw [q] at po; exact po
  | bk τ2 S2 => rw [q] at po; exact po
  | ct τ2 S2 => rw [q] at po; exact po
  | exc c fs τ2 S2 =>
    rw [q] at po
    exact fun ρ2 H2 σ2 d e2 rp2 st2 x => ⟨ρ2, τ2, S2, c, fs, rfl, rp2, st2, x.1, x.2, PostO.from e2 po⟩
  | stuck => rw [q] at po; exact po
end
end Rf

set_option Elab.async false
set_option maxRecDepth 100000
set_option maxHeartbeats 2000000
/-! RfLam: lambdas that are made and called in one def. -/
namespace Rf
open PySem PySem.Spec PyProof.Rows L2
/-! ### the tables -/
section
variable {G : GC} {ρ : List Addr} {H : Hp} {S : Store} {P : Addr} {ps ps' : Array Value}
theorem Rp.tbl (h : Rp G ρ H S) (hP : H P = some (.tbl ps)) (hn : P ∉ ρ) (t : TabsN G.T ρ (upd H P (.tbl ps'))) : Rp G ρ (upd H P (.tbl ps')) S :=
  ⟨t, h.len, h.nd, h.dom, fun n b e => by
    obtain ⟨c, e1, r⟩ := h.cell n b e
    exact ⟨c, e1, r.up (Up.off hP (fun _ z => by cases z) (fun _ _ z => by cases z)) (upd_ne fun z => hn (by rw [← z]; exact List.mem_iff_getElem?.mpr ⟨n, e⟩))⟩⟩
theorem Ext.tbl (hP : H P = some (.tbl ps)) : Ext G ρ H ρ (upd H P (.tbl ps')) :=
  have ne : ∀ b u, H b = some u → (∀ qs, u ≠ .tbl qs) → b ≠ P := fun b u q n z => by rw [z, hP] at q; exact n _ (Option.some.inj q).symm
  ⟨fun _ _ h => h, fun _ h => .inl h, fun x vs q => by rw [upd_ne (ne x _ q fun _ z => by cases z)]; exact q, fun x o vs q => by rw [upd_ne (ne x _ q fun _ z => by cases z)]; exact q, fun x u q _ nb => by rw [upd_ne (ne x u q nb)]; exact q, fun x qs q => by
    by_cases z : x = P
    · exact ⟨ps', by rw [z, upd_same]⟩
    · exact ⟨qs, by rw [upd_ne z]; exact q⟩⟩
theorem upd_comm {a b : Addr} {o u : HO} (h : a ≠ b) : upd (upd H a o) b u = upd (upd H b u) a o := by
  funext x
  by_cases e1 : x = a
  · subst e1; rw [upd_ne h, upd_same, upd_same]
  · by_cases e2 : x = b
    · subst e2; rw [upd_same, upd_ne e1, upd_same]
    · rw [upd_ne e2, upd_ne e1, upd_ne e1, upd_ne e2]
end
/-- the object of a lambda made -/
abbrev lamObj (q : Str) (params : Arguments) (body : Expr) (scope : Scope) (cl : List (Str × Addr)) (dV doc pm : Value) (c' : Addr) (ctv : Value) : Obj := PySem.W.kdv_obj "<lambda>" q params (.expr body) scope cl dV doc pm c' ctv
def topE : HO := .ext fun _ => True
theorem frz_ok {P : Program} {w : World} {H : Hp} {h : Heap} {a : Addr} {o : Obj} (e : h.get? a = some o) : ObjOk P w H h a (.frz o topE) := ⟨e, True.intro, ⟨o, e⟩, fun _ _ _ _ => True.intro⟩
/-- what the heap holds of a lambda's object -/
def LamKn (ρ : List Addr) (H : Hp) (f : Addr) (q : Str) (params : Arguments) (body : Expr) (scope : Scope) (cl : List (Str × Addr)) (dv : List Value) : Prop :=
  ∃ (dV doc pm ctv : Value) (c' : Addr), H f = some (.frz (lamObj q params body scope cl dV doc pm c' ctv) topE) ∧ c' ∉ ρ ∧ H c' = some (LamX.CodeO c' q) ∧
    ((dv = [] ∧ dV = .none) ∨ ∃ T : Addr, dV = .ref T ∧ H T = some (.frz (PySem.W.kdv_tup dv) topE))
theorem LamKn.mono {G : GC} {ρ ρ' : List Addr} {H H' : Hp} {f : Addr} {q : Str} {params : Arguments} {body : Expr} {scope : Scope} {cl : List (Str × Addr)} {dv : List Value} (k : LamKn ρ H f q params body scope cl dv) (e : Ext G ρ H ρ' H') : LamKn ρ' H' f q params body scope cl dv := by
  obtain ⟨dV, doc, pm, ctv, c', h1, h2, h3, h4⟩ := k
  obtain ⟨k1, k2⟩ := e.out h2 h3 (fun _ z => by cases z)
  refine ⟨dV, doc, pm, ctv, c', e.tpl _ _ _ h1, k1, k2, ?_⟩
  rcases h4 with h4 | ⟨T, h4, h5⟩
  · exact .inl h4
  · exact .inr ⟨T, h4, e.tpl _ _ _ h5⟩
/-- what the making of a lambda asks of its place -/
structure LamAt (G : GC) (X : Cx) (c P : Addr) : Prop where
  tb : LamX.TabB X.base X.mg c P
  code : X.env.code = .ref c
  mem : (P, X.env.qual ++ "<lambda>") ∈ G.T
  one : ∀ p ∈ G.T, p.1 = P → p.2 = X.env.qual ++ "<lambda>"
section
variable {G : GC} {X : Cx} {pins : List (Addr × Obj)} {σ : L2.St} {H : Hp} {s : Shared} {ρ : List Addr} {S : Store}
theorem lam_tail {c P : Addr} {params : Arguments} {body : Expr} {scope : Scope} {pos : Pos} {dV : Value} {E : Value → Shared → Prop} {Q : Value → Shared → Prop} (I : Inv X pins σ H s) (L : LamAt G X c P) (rp : Rp G ρ H S) (hfree : ∀ y ∈ scope.names, y.2 = .free → ∃ c, X.env.cells.lookup y.1 = some c)
    (h : ∀ (f c' : Addr) (doc pm ctv : Value) (H1 : Hp) (s' : Shared), Inv X pins σ H1 s' → Ext G ρ H ρ H1 → Rp G ρ H1 S → H1 f = some (.frz (lamObj (X.env.qual ++ "<lambda>") params body scope (cloFrom X.env.cells scope.names []) dV doc pm c' ctv) topE) → c' ∉ ρ → H1 c' = some (LamX.CodeO c' (X.env.qual ++ "<lambda>")) → Q (.ref f) s') :
    wpAny (model X.prog X.w) X.A (makeTail "<lambda>" (X.env.qual ++ "<lambda>") params (.expr body) scope X.env dV .none none pos pos.line) Q E s := by
  obtain ⟨hPρ, ps, hP, ht, ha⟩ := rp.tabs _ L.mem
  have bP : s.heap.BuiltinsAt X.mg P := L.tb.bm.keeps I.bk
  have hP' : s.heap.get? P = some { cls := .none, data := .fields ps } := I.hok P _ hP
  cases hc : codeAmong pos ps.toList with
  | none =>
    refine PySem.W.kdv_makeTail (mg := X.mg) (c := c) (P := P) (ps := ps) (closure_ok hfree) I.ok.glob (I.mod.glob.keeps I.bk) L.code (L.tb.code.keeps I.bk) hP' ht hc L.tb.gP bP fun c' ctv doc h' tk hx hge hlt hrec htb => ?_
    obtain ⟨c2, oc, vs, t, e2, hoc, hd, hv⟩ := hrec
    cases e2
    have hsz : s.heap.objs.size ≤ h'.objs.size := Nat.le_trans hge (Nat.le_of_lt hlt)
    have nC : H c' = none := I.hok.fresh hge
    have nPc : P ≠ c' := ne_of_none hP nC
    have nCρ : c' ∉ ρ := fun z => by obtain ⟨o, e, _⟩ := rp.in_some z; rw [nC] at e; cases e
    have I1 := LamX.inv_table (q := X.env.qual ++ "<lambda>") (t' := tk) (more := #[rawInt pos.line, rawInt pos.col, .ref c']) (h' := h') I hP hx htb hge ⟨oc, vs, t, hoc, hd, hv⟩
    have rpc : Rp G ρ (upd H c' (LamX.CodeO c' (X.env.qual ++ "<lambda>"))) S := rp.aside nC
    have ec : Ext G ρ H ρ (upd H c' (LamX.CodeO c' (X.env.qual ++ "<lambda>"))) := Ext.aside rp nC
    have hPc : upd H c' (LamX.CodeO c' (X.env.qual ++ "<lambda>")) P = some (.tbl ps) := by rw [upd_ne nPc]; exact hP
    have eL : (ps ++ #[rawInt pos.line, rawInt pos.col, .ref c']).toList = ps.toList ++ [rawInt pos.line, rawInt pos.col, .ref c'] := by simp
    have tn : TabsN G.T ρ (upd (upd H c' (LamX.CodeO c' (X.env.qual ++ "<lambda>"))) P (.tbl (ps ++ #[rawInt pos.line, rawInt pos.col, .ref c']))) := fun p hp => by
      obtain ⟨a0, ps2, a1, a2, a3⟩ := rpc.tabs p hp
      have keep : ∀ {x : Addr} {q2 : Str}, upd H c' (LamX.CodeO c' (X.env.qual ++ "<lambda>")) x = some (LamX.CodeO x q2) → upd (upd H c' (LamX.CodeO c' (X.env.qual ++ "<lambda>"))) P (.tbl (ps ++ #[rawInt pos.line, rawInt pos.col, .ref c'])) x = some (LamX.CodeO x q2) := fun {x q2} e => by
        rw [upd_ne fun z => ?_]
        · exact e
        · rw [z, hPc] at e; exact absurd (Option.some.inj e).symm (LamX.codeO_ne _)
      by_cases hb : p.1 = P
      · rw [hb] at a0 a1 ⊢
        have eq := L.one p hp hb
        rw [hPc] at a1
        cases a1
        refine ⟨a0, _, upd_same, by rw [eL]; exact PySem.TriplesOk_snoc _ _ _ _ ht, fun p' cv hcv => ?_⟩
        rw [eL] at hcv
        rcases LamX.among_app _ ht hcv with z | z
        · obtain ⟨c0, e1, e2, e3⟩ := a3 p' cv z
          exact ⟨c0, e1, e2, keep e3⟩
        · exact ⟨c', z, nCρ, keep (by rw [eq, upd_same])⟩
      · refine ⟨a0, ps2, by rw [upd_ne hb]; exact a1, a2, fun p' cv hcv => ?_⟩
        obtain ⟨c0, e1, e2, e3⟩ := a3 p' cv hcv
        exact ⟨c0, e1, e2, keep e3⟩
    have rpt := Rp.tbl rpc hPc hPρ tn
    have et := ec.trans (Ext.tbl (ps' := ps ++ #[rawInt pos.line, rawInt pos.col, .ref c']) hPc)
    rw [upd_comm nPc] at I1
    generalize hH1 : upd (upd H c' (LamX.CodeO c' (X.env.qual ++ "<lambda>"))) P (.tbl (ps ++ #[rawInt pos.line, rawInt pos.col, .ref c'])) = H1 at I1 rpt et
    have hcc : H1 c' = some (LamX.CodeO c' (X.env.qual ++ "<lambda>")) := by rw [← hH1, upd_ne (Ne.symm nPc), upd_same]
    have nF : H1 h'.objs.size = none := I1.hok.fresh (Nat.le_refl _)
    have nFc : c' ≠ h'.objs.size := Nat.ne_of_lt hlt
    have I2 := I1.laid (t' := tk) (a := h'.objs.size) (o := .frz (lamObj (X.env.qual ++ "<lambda>") params body scope (cloFrom X.env.cells scope.names []) dV doc ((X.mg "__name__").getD .none) c' ctv) topE)
      (h' := h'.push (lamObj (X.env.qual ++ "<lambda>") params body scope (cloFrom X.env.cells scope.names []) dV doc ((X.mg "__name__").getD .none) c' ctv)) (fun b o e => Heap.get?_push_of_some _ e) (Nat.le_refl _) (frz_ok (Heap.get?_push_size _ rfl))
    exact h _ c' doc _ ctv _ _ I2 (et.trans (Ext.aside rpt nF)) (rpt.aside nF) upd_same nCρ (by rw [upd_ne nFc]; exact hcc)
  | some cv =>
    obtain ⟨c', e, hcρ, hco⟩ := ha pos cv hc
    subst e
    refine PySem.W.kdv_makeTailHit (mg := X.mg) (c := c) (P := P) (ps := ps) (closure_ok hfree) I.ok.glob (I.mod.glob.keeps I.bk) L.code (L.tb.code.keeps I.bk) hP' ht hc bP fun ctv doc h' tk hx hsz => ?_
    have nF : H h'.objs.size = none := I.hok.fresh hsz
    have nFc : c' ≠ h'.objs.size := fun z => by rw [z, nF] at hco; cases hco
    have I2 := I.laid (t' := tk) (a := h'.objs.size) (o := .frz (lamObj (X.env.qual ++ "<lambda>") params body scope (cloFrom X.env.cells scope.names []) dV doc ((X.mg "__name__").getD .none) c' ctv) topE)
      (h' := h'.push (lamObj (X.env.qual ++ "<lambda>") params body scope (cloFrom X.env.cells scope.names []) dV doc ((X.mg "__name__").getD .none) c' ctv)) (fun b o e => Heap.get?_push_of_some _ (hx b o e)) hsz (frz_ok (Heap.get?_push_size _ rfl))
    exact h _ c' doc _ ctv _ _ I2 (Ext.aside rp nF) (rp.aside nF) upd_same hcρ (by rw [upd_ne nFc]; exact hco)
/-- the parameters: none, or one with a whole number as its default -/
inductive LamP : Arguments → List Str → Prop
  | zero : LamP ⟨[], [], none, [], [], none, []⟩ []
  | one {a : Str} {an : Option Expr} {ap : Pos} {i : Int} {k : Nat} {p : Pos} : LamP ⟨[], [⟨a, an, ap⟩], none, [], [], none, [.Constant (.int i) k p]⟩ [a]
/-- a lambda is made -/
theorem lam_make {c P : Addr} {params : Arguments} {xs : List Str} {body : Expr} {scope : Scope} {pos : Pos} {E : Value → Shared → Prop} {Q : Value → Shared → Prop} (hp : LamP params xs) (I : Inv X pins σ H s) (L : LamAt G X c P) (rp : Rp G ρ H S) (hfree : ∀ y ∈ scope.names, y.2 = .free → ∃ c, X.env.cells.lookup y.1 = some c)
    (h : ∀ (f : Addr) (dv : List Value) (H1 : Hp) (s' : Shared), dv.length = xs.length → Inv X pins σ H1 s' → Ext G ρ H ρ H1 → Rp G ρ H1 S → LamKn ρ H1 f (X.env.qual ++ "<lambda>") params body scope (cloFrom X.env.cells scope.names []) dv → Q (.ref f) s') :
    wpAny (model X.prog X.w) X.A (eval (.Lambda params body scope pos) X.env) Q E s := by
  cases hp with
  | zero =>
    refine PySem.W.kla_eval rfl ?_
    rw [makeFunction_eq]
    simp only [List.zip_nil_right, List.filterMap_nil, List.isEmpty_nil, if_true, pure_bind]
    refine lam_tail I L rp hfree fun f c' doc pm ctv H1 s' I1 e1 rp1 k1 k2 k3 => ?_
    exact h f [] H1 s' rfl I1 e1 rp1 ⟨_, doc, pm, ctv, c', k1, k2, k3, .inl ⟨rfl, rfl⟩⟩
  | @one a an ap i k p =>
    rw [arm_eval_Lambda, show defaultsOf ⟨[], [⟨a, an, ap⟩], none, [], [], none, [.Constant (.int i) k p]⟩ X.env = ([eval (.Constant (.int i) k p) X.env], []) from rfl]
    show wpAny _ _ (do let dv ← evalAll [eval (.Constant (.int i) k p) X.env]; let kdv ← holding dv (evalAllOpt []); makeFunction "<lambda>" (X.env.qual ++ "<lambda>") _ (.expr body) scope X.env dv kdv [] pos pos.line) Q E s
    refine wpAny_bind (wpAny_bind (wpAny_Constant_int (wpAny_bind (wpAny_holding (wpAny_pure (wpAny_pure (wpAny_bind (wpAny_holding (wpAny_pure ?_)))))))))
    rw [makeFunction_eq]
    simp only [List.zip_nil_right, List.filterMap_nil, List.isEmpty_nil, List.isEmpty_cons, Bool.false_eq_true, if_false, if_true, pure_bind]
    refine wpAny_bind (wpAny_newTextTuple ?_)
    have nT : H s.heap.objs.size = none := I.hok.fresh (Nat.le_refl _)
    have I1 := I.laid (t' := s.toks + 1) (a := s.heap.objs.size) (o := .frz (PySem.W.kdv_tup [.int i s.toks]) topE) (h' := s.heap.push (PySem.W.kdv_tup [.int i s.toks])) (fun b o e => Heap.get?_push_of_some _ e) (Nat.le_refl _) (frz_ok (Heap.get?_push_size _ rfl))
    refine lam_tail I1 L (rp.aside nT) hfree fun f c' doc pm ctv H1 s' I2 e2 rp2 k1 k2 k3 => ?_
    exact h f [.int i s.toks] H1 s' rfl I2 ((Ext.aside rp nT).trans e2) rp2 ⟨_, doc, pm, ctv, c', k1, k2, k3, .inr ⟨_, rfl, e2.tpl _ _ _ upd_same⟩⟩
end
/-! ### its names -/
/-- captured ones, globals, its own parameter, that is no name of the def -/
structure LamN (N : List Str) (sc scope : Scope) (xs : List Str) : Prop where
  kind : scope.kind = .function
  co : scope.isCoroutine = false
  gen : scope.isGenerator = false
  own : ∀ y ∈ scope.names, y.2 ≠ .cell
  loc : ∀ y, scope.names.lookup y = some .local → y ∉ N
  par : ∀ x ∈ xs, scope.names.lookup x = some .local
  free : ∀ y ∈ scope.names, y.2 = .free → sc.names.lookup y.1 = some .cell ∨ sc.names.lookup y.1 = some .free
theorem LamN.has {X : Cx} {scope : Scope} {xs : List Str} (L : LamN X.N X.env.scope scope xs) (ok : X.Ok) : ∀ y ∈ scope.names, y.2 = .free → ∃ c, X.env.cells.lookup y.1 = some c := fun y hy e => by
  rcases L.free y hy e with k | k
  · exact ok.has _ (.inl k)
  · exact ok.has _ (.inr k)
section
variable {X : Cx} {pins : List (Addr × Obj)} {σ : L2.St} {H : Hp} {s : Shared}
/-- the lambda's body, entered -/
theorem lam_start {E : XK} {scope : Scope} {xs : List Str} {f c' : Addr} {h₁ : Heap} {tk : Nat} {m : Str → Option Value} (I : Inv X pins σ H s) (L : LamN X.N X.env.scope scope xs) (hd : X.A.handled = none)
    (hns : h₁.Ns s.heap.objs.size m) (kp : ∀ b o, s.heap.get? b = some o → h₁.get? b = some o) :
    Inv (LamX.lamCx X X.A X.stack s H E scope f c') [] σ H { s with heap := h₁, toks := tk } := by
  have e0 := I.env0
  have hfree := L.has I.ok
  have cm : ∀ {y c}, (cloFrom X.env.cells scope.names []).lookup y = some c → X.env.cells.lookup y = some c := fun {y c} e => by
    rcases cloFrom_mem (PySem.mem_of_lookup e) with hm | ⟨h1, h2⟩
    · cases hm
    · obtain ⟨c1, hc⟩ := hfree _ h1 rfl
      have hc : X.env.cells.lookup y = some c1 := hc
      have e2 : c = c1 := by
        rw [h2, hc] <;> rfl
      rw [e2]
      exact hc
  have look : ∀ {y}, scope.names.lookup y = some .free → ∃ c, (cloFrom X.env.cells scope.names []).lookup y = some c := fun {y} hl => by
    have hy : (y, NameKind.free) ∈ scope.names := PySem.mem_of_lookup hl
    exact mem_lookup (cloFrom_has (cells := X.env.cells) (acc := []) hy)
  have cellK : ∀ {c : Addr} {v : Option Value}, s.heap.IsCell c v → h₁.IsCell c v := fun {c v} ⟨o, ho, hd⟩ => ⟨o, kp _ _ ho, hd⟩
  have noA : ∀ b : Addr, b ∉ (LamX.lamCx X X.A X.stack s H E scope f c').ex := fun b z => absurd (show b ∈ ([] : List Addr) from z) (by simp)
  refine ⟨⟨e0.mod, L.kind, rfl, rfl, Nat.le_refl _, fun y z c e1 e2 => I.ok.inj y z c (cm e1) (cm e2), fun y hy => ?_, fun y c z _ => ?_, fun _ => hd, Around.frames_deeper e0.frames, .inr ⟨rfl, rfl⟩, fun b z => absurd z (noA b), e0.bs, e0.bsz, fun b _ _ => noA b,
      fun b z => absurd z (noA b), e0.funs, e0.frf⟩,
    rfl, e0.bare, Un.kept kp, ⟨_, hns, fun i y v e1 e2 e3 => ?_⟩, fun y c e => ?_, e0.hok.fresh (Nat.le_refl _), fun y c e => ?_, fun q hq => absurd (show q ∈ ([] : List (Addr × Obj)) ++ [] from hq) (by simp), e0.hok.kept kp, I.len⟩
  · have hy : scope.names.lookup y = some .cell ∨ scope.names.lookup y = some .free := hy
    rcases hy with hy | hy
    · exact absurd rfl (L.own _ (PySem.mem_of_lookup hy))
    · exact look hy
  · have z : false = true := z
    cases z
  · have e3 : Vis scope y := e3
    rcases e3 with k | k | k
    · exact absurd (List.mem_iff_getElem?.mpr ⟨i, e1⟩) (L.loc y k)
    · exact absurd rfl (L.own _ (PySem.mem_of_lookup k))
    · obtain ⟨m, hn, hl⟩ := I.loc
      have hvis : Vis X.env.scope y := (L.free _ (PySem.mem_of_lookup k) rfl).elim (fun k => .inr (.inl k)) (fun k => .inr (.inr k))
      obtain ⟨w', r, q⟩ := hl i y v e1 e2 hvis
      obtain ⟨c2, h2⟩ := look k
      refine ⟨w', r, .inr ⟨.inr k, c2, h2, ?_⟩⟩
      have c1 := cm h2
      rcases q with ⟨k', _⟩ | ⟨_, c3, e', z⟩
      · have k' : X.env.scope.names.lookup y = some .local := k'
        rcases L.free _ (PySem.mem_of_lookup k) rfl with k2 | k2 <;> rw [show X.env.scope.names.lookup y = _ from k2] at k' <;> cases k'
      · rw [c1] at e'
        cases e'
        exact cellK z
  · obtain ⟨w', z⟩ := I.cell y c (cm e)
    exact ⟨w', cellK z⟩
  · exact I.freeC y c (cm e)
theorem lam_bind {q : Str} {params : Arguments} {xs : List Str} {body : Expr} {scope : Scope} {cl : List (Str × Addr)} {dv : List Value} {dV doc pm cv ctv : Value} (hp : LamP params xs) (hl : dv.length = xs.length) (hd : (dv = [] ∧ dV = .none) ∨ ∃ T : Addr, dV = .ref T ∧ s.heap.get? T = some (PySem.W.kdv_tup dv))
    {M : Model} {A : Around} {E : Value → Shared → Prop} {Q : List (Str × Value) → Shared → Prop} (h : Q (xs.zip dv) s) : wpAny M A (bindArgs (PySem.W.kdv_fn "<lambda>" q params (.expr body) scope cl dV doc pm cv ctv) ⟨[], []⟩) Q E s := by
  have two : ∀ {T : Addr}, s.heap.get? T = some (PySem.W.kdv_tup dv) → (∃ k, bindArgs (PySem.W.kdv_fn "<lambda>" q params (.expr body) scope cl (.ref T) doc pm cv ctv) ⟨[], []⟩ = seqItems? (.ref T) >>= k ∧ k (some dv.toArray) = pure (xs.zip dv)) →
      wpAny M A (bindArgs (PySem.W.kdv_fn "<lambda>" q params (.expr body) scope cl (.ref T) doc pm cv ctv) ⟨[], []⟩) Q E s := fun {T} hT ⟨k, e1, e2⟩ => by
    rw [e1]
    exact wpAny_bind (wpAny_seqItems hT rfl (by rw [e2]; exact wpAny_pure h))
  cases hp with
  | zero =>
    cases dv with
    | cons _ _ => cases hl
    | nil =>
      rcases hd with ⟨_, rfl⟩ | ⟨T, rfl, hT⟩
      · rw [show bindArgs (PySem.W.kdv_fn "<lambda>" q ⟨[], [], none, [], [], none, []⟩ (.expr body) scope cl .none doc pm cv ctv) ⟨[], []⟩ = pure ([].zip []) from rfl]
        exact wpAny_pure h
      · exact two hT ⟨_, rfl, rfl⟩
  | @one a an ap i k p =>
    match dv, hl with
    | [v], _ =>
      rcases hd with ⟨e, _⟩ | ⟨T, rfl, hT⟩
      · cases e
      · have e : (a == a) = true := by simp
        refine two hT ⟨_, rfl, ?_⟩
        simp [List.lookup, PySem.W.kdv_fn, e]
/-- the lambda is called, in the def that made it -/
theorem lam_call {W : WX} {E : XK} {params : Arguments} {xs : List Str} {body : Expr} {scope : Scope} {dv : List Value} {k : Nat} {f : Addr} {ρ : List Addr} {tb : TE} {Q : VK} (hp : LamP params xs) (hl : dv.length = xs.length) (I : Inv X pins σ H s) (L : LamN X.N X.env.scope scope xs) (hr : Room (k + 1) X.A)
    (kn : LamKn ρ H f (X.env.qual ++ "<lambda>") params body scope (cloFrom X.env.cells scope.names []) dv) (tk : Takes X W) (hW : ∀ cls d H', E cls d H' → W cls d σ H')
    (hbody : ∀ (s : Shared) (H : Hp) (f c' : Addr), Room k (X.A.deeper (LamX.lamEnv X scope s.heap.objs.size f c')) → PE (LamX.lamCx X X.A X.stack s H E scope f c') body tb) (ht : tb σ H Q) :
    wpAny (model X.prog X.w) X.A (call (.ref f) []) (EP X pins σ Q) X.xe s := by
  obtain ⟨dV, doc, pm, ctv, c', h1, _, h3, h4⟩ := kn
  have of1 := (I.hok _ _ h1).1
  obtain ⟨⟨oc, vs, t, hoc, hdc, hvc⟩, _, _⟩ := I.hok c' _ h3
  have hd : (dv = [] ∧ dV = .none) ∨ ∃ T : Addr, dV = .ref T ∧ s.heap.get? T = some (PySem.W.kdv_tup dv) := by
    rcases h4 with h4 | ⟨T, h4, h5⟩
    · exact .inl h4
    · exact .inr ⟨T, h4, (I.hok _ _ h5).1⟩
  have rc : codeAny (model X.prog X.w) X.A (.call (.ref f) ⟨[], []⟩) (CR (L2.CX X.prog X.w) X.stack X.prog X.w H s Q E) s := by
    refine PySem.W.kla_callFunE hr.depth of1 rfl L.co L.gen rfl ⟨c', oc, vs, t, rfl, hoc, hdc, hvc⟩ (lam_bind hp hl hd ?_)
    have hkind : ∀ y ∈ xs.zip dv, scope.names.lookup y.1 = some .local := fun y hy => L.par _ (List.of_mem_zip hy).1
    refine wpAny_newFunctionEnv (fun y hy => L.own y hy) hkind (fun h₁ hns hsb => ⟨I.nolimit.fresh _ hsb, ?_⟩) L.kind
    show codeAny _ _ (.expr body (LamX.lamEnv X scope s.heap.objs.size f c')) _ _
    have kp : ∀ b o, s.heap.get? b = some o → h₁.get? b = some o := fun b o e => hsb.extBut b o (Nat.ne_of_lt (Heap.lt_size e)) (Heap.get?_push_of_some _ e)
    have J : Inv (LamX.lamCx X X.A X.stack s H E scope f c') [] σ H { s with heap := h₁, toks := s.toks + (xs.zip dv).length } := lam_start I L hr.hd hns kp
    refine PySem.W.kla_codeExpr (wpAny_mono ((hbody s H f c' (hr.deeper _)).run [] _ _ H Q J ht) (fun v s' hq => ?_) fun e s' hq => hq)
    obtain ⟨w', H', J', rv, q⟩ := hq
    exact ⟨w', H', J'.os, J'.bare, J'.base, J'.hok, rv, q⟩
  refine wpAny_call (codeAny_mono rc fun r s' hq => ?_)
  cases r with
  | error e => exact tk e s' (XE.of_call I (fun cls d H' h => hW cls d H' h) hq)
  | ok fl =>
    cases fl with
    | ret u => exact I.after hq
    | next => exact False.elim hq
    | brk => exact False.elim hq
    | cont => exact False.elim hq
end
end Rf

set_option Elab.async false
set_option maxRecDepth 100000
set_option maxHeartbeats 2000000
/-! RfLam2: for c in (lambda: e, ..): try: l.append(c()) except .. -/
namespace Rf
open PySem PySem.Spec PyProof.Rows L2
/-- a lambda's text, the term of its body -/
structure LD where
  params : Arguments
  body : Expr
  scope : Scope
  pos : Pos
  e : E
def LD.xs (d : LD) : List Str := d.params.args.map (·.arg)
def LD.txt (d : LD) : Expr := .Lambda d.params d.body d.scope d.pos
def esOf : List LD → Es
  | [] => .nil
  | d :: r => .cons d.e (esOf r)
/-- what is known of a lambda's object -/
def Kn (X : Cx) (ρ : List Addr) (H : Hp) (f : Addr) (d : LD) : Prop := ∃ dv : List Value, dv.length = d.xs.length ∧ LamKn ρ H f (X.env.qual ++ "<lambda>") d.params d.body d.scope (cloFrom X.env.cells d.scope.names []) dv
theorem Kn.mono {G : GC} {X : Cx} {ρ ρ' : List Addr} {H H' : Hp} {f : Addr} {d : LD} (k : Kn X ρ H f d) (e : Ext G ρ H ρ' H') : Kn X ρ' H' f d := by
  obtain ⟨dv, h1, h2⟩ := k
  exact ⟨dv, h1, h2.mono e⟩
/-- its wish in the def that made it -/
def wL (Ω : WX) (σ : L2.St) : WX := fun cls d _ H => Ω cls d σ H
/-- a lambda that may be called at X -/
structure LdOk (G : GC) (Ω : WX) (X : Cx) (F : Ora) (d : LD) : Prop where
  p : LamP d.params d.xs
  n : LamN X.N X.env.scope d.scope d.xs
  b : ∀ (σ : L2.St) (s : Shared) (H : Hp) (f c' : Addr), Room 4 (X.A.deeper (LamX.lamEnv X d.scope s.heap.objs.size f c')) → Takes (LamX.lamCx X X.A X.stack s H (WE Ω σ) d.scope f c') (wL Ω σ) → PE (LamX.lamCx X X.A X.stack s H (WE Ω σ) d.scope f c') d.body (LE G (wL Ω σ) (evE F d.e))
inductive Kns (X : Cx) (ρ : List Addr) (H : Hp) : List Addr → List LD → Prop
  | nil : Kns X ρ H [] []
  | cons {f : Addr} {fs : List Addr} {d : LD} {ds : List LD} : Kn X ρ H f d → Kns X ρ H fs ds → Kns X ρ H (f :: fs) (d :: ds)
theorem Kns.mono {G : GC} {X : Cx} {ρ ρ' : List Addr} {H H' : Hp} {fs : List Addr} {ds : List LD} (k : Kns X ρ H fs ds) (e : Ext G ρ H ρ' H') : Kns X ρ' H' fs ds := by
  induction k with
  | nil => exact .nil
  | cons h _ ih => exact .cons (h.mono e) ih
theorem Kns.get {X : Cx} {ρ : List Addr} {H : Hp} : ∀ {fs : List Addr} {ds : List LD} (_ : Kns X ρ H fs ds) (i : Nat) {f : Addr}, fs[i]? = some f → ∃ d, ds[i]? = some d ∧ Kn X ρ H f d
  | _, _, .nil, i, f, h => by simp at h
  | _, _, .cons k _, 0, f, h => by simp at h; subst h; exact ⟨_, rfl, k⟩
  | _, _, .cons _ ks, i + 1, f, h => by
    obtain ⟨d, h1, h2⟩ := ks.get i (by simpa using h)
    exact ⟨d, by simpa using h1, h2⟩
theorem Kns.length {X : Cx} {ρ : List Addr} {H : Hp} {fs : List Addr} {ds : List LD} (k : Kns X ρ H fs ds) : fs.length = ds.length := by
  induction k with
  | nil => rfl
  | cons _ _ ih => rw [List.length_cons, List.length_cons, ih]
theorem RSt.hide {G : GC} {ρ : List Addr} {H : Hp} {τ : Tau} {σ : L2.St} {i : Nat} {x : Option V} (h : RSt G ρ H τ σ) : RSt G ρ H (τ.set i none) (σ.set i x) := ⟨by rw [List.length_set, List.length_set, h.1], fun j w hj => by
  by_cases e : i = j
  · subst e
    by_cases hl : i < τ.length
    · rw [List.getElem?_set_self hl] at hj; cases hj
    · rw [List.getElem?_eq_none (by rw [List.length_set]; omega)] at hj; cases hj
  · rw [List.getElem?_set_ne e] at hj
    obtain ⟨v, h1, h2⟩ := h.2 _ _ hj
    exact ⟨v, by rw [List.getElem?_set_ne e]; exact h1, h2⟩⟩
section
variable {G : GC} {X : Cx} {Ω : WX} {F : Ora} {ds : List LD}
/-! ### the tuple of lambdas -/
def tLam1 (G : GC) (X : Cx) (d : LD) : TE := fun σ H Q => ∃ ρ S, Rp G ρ H S ∧ ∀ f H1, Ext G ρ H ρ H1 → Rp G ρ H1 S → Kn X ρ H1 f d → Q (.ref f) H1
def tLams (G : GC) (X : Cx) (ds : List LD) : TA := fun σ H Q => ∃ ρ S, Rp G ρ H S ∧ ∀ fs H1, Ext G ρ H ρ H1 → Rp G ρ H1 S → Kns X ρ H1 fs ds → Q (fs.map V.ref) H1
theorem pe_lam {c P : Addr} (L : LamAt G X c P) {d : LD} (hp : LamP d.params d.xs) (hn : LamN X.N X.env.scope d.scope d.xs) : PE X d.txt (tLam1 G X d) := by
  refine ⟨fun pins s σ H Q I ⟨ρ, S, rp, h⟩ => ?_⟩
  exact lam_make hp I L rp (hn.has I.ok) fun f dv H1 s' hl I1 e1 rp1 k => ⟨.ref f, H1, I1, rfl, h f H1 e1 rp1 ⟨dv, hl, k⟩⟩
theorem pa_lams {c P : Addr} (L : LamAt G X c P) : ∀ {ds : List LD}, (∀ d ∈ ds, LamP d.params d.xs ∧ LamN X.N X.env.scope d.scope d.xs) → PA X (ds.map LD.txt) (tLams G X ds)
  | [], _ => pa_nil.via fun σ H Q ⟨ρ, S, rp, h⟩ => h [] H Ext.refl rp .nil
  | d :: ds, hd => (pa_cons (pe_lam L (hd d List.mem_cons_self).1 (hd d List.mem_cons_self).2) (pa_lams L fun d' h' => hd d' (List.mem_cons_of_mem _ h')) rfl).via fun σ H Q ⟨ρ, S, rp, h⟩ =>
    ⟨ρ, S, rp, fun f H1 e1 rp1 k1 => ⟨ρ, S, rp1, fun fs H2 e2 rp2 k2 => h (f :: fs) H2 (e1.trans e2) rp2 (.cons (k1.mono e2) k2)⟩⟩
/-! ### c() -/
def LamE (G : GC) (Ω : WX) (X : Cx) (F : Ora) (ds : List LD) (ic : Nat) (e : E) : TE := fun σ H Q => ∃ f ρ d, d ∈ ds ∧ d.e = e ∧ σ[ic]? = some (some (.ref f)) ∧ Kn X ρ H f d ∧ LE G Ω (evE F e) σ H Q
theorem pe_lamc {ic : Nat} {x : Str} {p1 p2 : Pos} {e : E} (tk : Takes X Ω) (hr : Room 5 X.A) (hds : ∀ d ∈ ds, LdOk G Ω X F d) (hN : X.N[ic]? = some x) (hv : Vis X.env.scope x) (hd : (x == ("__debug__" : Str)) = false) (hcd : (x == ("__classdict__" : Str)) = false) :
    PE X (.Call (.Name x p1) [] [] p2) (LamE G Ω X F ds ic e) := by
  refine ⟨fun pins s σ H Q I ⟨f, ρ, d, hm, he, hs, ⟨dv, hl, kn⟩, ht⟩ => ?_⟩
  refine wpAny_Call_Name_kw (thn ((pe_var (pos := p1) (i := ic) hN hv hd hcd).run pins s σ H (fun v H1 => v = .ref f ∧ H1 = H) I ⟨.ref f, hs, rfl, rfl⟩) fun u s1 ⟨v, H1, I1, r1, q1⟩ => ?_)
  obtain ⟨ev, eH⟩ := q1
  subst ev; subst eH
  obtain rfl : u = Value.ref f := r1
  have of1 : ∃ dV doc pm ctv c', s1.heap.get? f = some (lamObj (X.env.qual ++ "<lambda>") d.params d.body d.scope (cloFrom X.env.cells d.scope.names []) dV doc pm c' ctv) := by
    obtain ⟨dV, doc, pm, ctv, c', h1, _⟩ := kn
    exact ⟨dV, doc, pm, ctv, c', (I1.hok _ _ h1).1⟩
  obtain ⟨dV, doc, pm, ctv, c', of1⟩ := of1
  refine PySem.W.callWith_F0 ⟨_, _, _, _, of1⟩ ?_
  have D := hds d hm
  refine lam_call (E := WE Ω σ) (tb := LE G (wL Ω σ) (evE F d.e)) D.p hl I1 D.n hr kn tk (fun _ _ _ h => h) (fun s2 H2 f2 c2 hr2 => D.b σ s2 H2 f2 c2 hr2 ?_) (by rw [he]; exact ht)
  exact takes_of rfl rfl rfl rfl
/-! ### l.append(c()) -/
def LamA (G : GC) (Ω : WX) (X : Cx) (F : Ora) (ds : List LD) (ic il : Nat) (e : E) : TS := fun D σ H => ∃ f ρ τ S d, d ∈ ds ∧ d.e = e ∧ σ[ic]? = some (some (.ref f)) ∧ Kn X ρ H f d ∧ Rp G ρ H S ∧ RSt G ρ H τ σ ∧ PostO G Ω D ρ H ((evE F (.bm .append (.var il) (.cons e .nil)) τ S).out τ (fun _ S => .nx τ S))
theorem ps_lama {ic il : Nat} {x y : Str} {p1 p2 p3 ap cp pos : Pos} {e : E} (g : GX G Ω X) (hr : Room 5 X.A) (hds : ∀ d ∈ ds, LdOk G Ω X F d) (hN : X.N[ic]? = some x) (hv : Vis X.env.scope x) (hd : (x == ("__debug__" : Str)) = false) (hcd : (x == ("__classdict__" : Str)) = false)
    (hN2 : X.N[il]? = some y) (hv2 : Vis X.env.scope y) (hd2 : (y == ("__debug__" : Str)) = false) (hcd2 : (y == ("__classdict__" : Str)) = false) (hline : (ap.endLine == cp.line) = true) :
    PS X (.Expr (.Call (.Attribute (.Name y p1) "append" ap) [.Call (.Name x p2) [] [] p3] [] cp) pos) (LamA G Ω X F ds ic il e) := by
  have call : PE X (.Call (.Attribute (.Name y p1) "append" ap) [.Call (.Name x p2) [] [] p3] [] cp) fun σ H Q => ∃ f ρ τ S d, d ∈ ds ∧ d.e = e ∧ σ[ic]? = some (some (.ref f)) ∧ Kn X ρ H f d ∧ Rp G ρ H S ∧ RSt G ρ H τ σ ∧
      Post G (R G) (WE Ω σ) ρ H Q (evE F (.bm .append (.var il) (.cons e .nil)) τ S) := by
    refine ⟨fun pins s σ H Q I ⟨f, ρ, τ, S, d, hm, he, hs, kn, rp, st, po⟩ => ?_⟩
    unfold evE at po
    unfold evE at po
    have hw : ∃ w, τ[il]? = some (some w) := by
      cases q : τ[il]? with
      | none => rw [q] at po; exact po.elim
      | some o =>
        cases o with
        | none => rw [q] at po; exact po.elim
        | some w => exact ⟨w, rfl⟩
    obtain ⟨w, hw⟩ := hw
    rw [hw] at po
    dsimp only [Res.bind] at po
    obtain ⟨v, hv1, rv⟩ := st.2 _ _ hw
    have run := thn ((pe_var (X := X) (pos := p1) hN2 hv2 hd2 hcd2).run pins s σ H (fun y H1 => y = v ∧ H1 = H) I ⟨v, hv1, rfl, rfl⟩) fun vu s1 ⟨y1, H1, I1, r1, q1⟩ => show MethodOn X.prog X.w X.A (mNm .append) cp vu (backTo cp (starEach [.Call (.Name x p2) [] [] p3] X.env)) (EP X pins σ Q) X.xe s1 from by
      obtain ⟨rfl, rfl⟩ := q1
      split at po
      · rename_i hk
        obtain ⟨pa', sl, ty⟩ := mFacts hk
        obtain ⟨t1, t2⟩ := mIs g.K I1 r1 rp rv hk
        refine ⟨_, _, pa', sl, ty, t1, t2, ?_⟩
        have po' := Post.bind (rel2 := Rs G) (q := evEs F (.cons e .nil) τ S) (k := fun ws S => bmW S .append w ws) po
        unfold evEs at po'
        have pr := (pa_cons (pe_lamc (e := e) (p1 := p2) (p2 := p3) g.tk hr hds hN hv hd hcd) pa_nil rfl).run cp pins s1 σ H1 (fun us H2 => ∃ ρ2 ws S2, Ext G ρ H1 ρ2 H2 ∧ Rp G ρ2 H2 S2 ∧ Rs G ρ2 H2 ws us ∧ Post G (R G) (WE Ω σ) ρ2 H2 Q (bmW S2 .append w ws)) I1
          ⟨f, ρ, d, hm, he, hs, kn, ρ, τ, S, rp, st, by
            refine (po'.bind (rel2 := R G)).imp fun z H2 ⟨ρ2, w2, S2, e2, rp2, r2, p2⟩ => ?_
            unfold evEs at p2
            obtain ⟨ρ3, ws, S3, e3, rp3, r3, p3⟩ := p2 ρ2 H2 [z] Ext.refl rp2 (.cons r2 .nil)
            exact ⟨ρ3, ws, S3, e3, rp3, r3, p3⟩⟩
        refine Calls.callWith_builtin (by rfl) (Calls.evalArgs_plain (thn pr fun us s2 ⟨vs, H2, I2, r2, ρ2, ws, S2, e2, rp2, rs2, po2⟩ => ?_))
        exact bmW_snd (X := X) .append g.units g.K I2 r1 r2 rp2 (rv.mono e2) rs2 po2
      · exact po.elim
    exact wpAny_Call_method_late (by rfl) (by rfl) hline rfl run
  refine (ps_expr call (by rfl)).via fun D σ H ⟨f, ρ, τ, S, d, hm, he, hs, kn, rp, st, po⟩ => ?_
  exact ⟨f, ρ, τ, S, d, hm, he, hs, kn, rp, st, (po.bind st (rel := R G)).imp fun y H1 ⟨ρ1, w1, S2, e1, rp1, r1, po1⟩ => po1 _ _ _ Ext.refl rp1 (st.mono e1)⟩
/-! ### the loop -/
theorem out_nx {α : Type} {r : Res α} {τ τ' : Tau} {S' : Store} {k : α → Store → Out} (h : r.out τ k = .nx τ' S') : ∃ a S, r = .ok a S ∧ k a S = .nx τ' S' := by
  cases r with
  | ok a S => exact ⟨a, S, rfl, h⟩
  | exc c fs S => cases h
  | stuck => cases h
theorem exU_len {fs : List (Nat × W)} {u : Su} {τ τ' : Tau} {S S' : Store} (h : exU fs u τ S = .nx τ' S') : τ'.length = τ.length := by
  cases u with
  | asg i u =>
    unfold exU at h
    obtain ⟨a, S1, _, h2⟩ := out_nx h
    cases h2
    rw [List.length_set]
  | app i u =>
    rw [exU_app] at h
    split at h
    · split at h
      · obtain ⟨a, S1, _, h2⟩ := out_nx h
        obtain ⟨a, S2, _, h3⟩ := out_nx h2
        cases h3
        rfl
      · cases h
    · cases h
  | ret u =>
    unfold exU at h
    obtain ⟨a, S1, _, h2⟩ := out_nx h
    cases h2
  | pas => unfold exU at h; cases h; rfl
theorem nmT_len (nm : Option Nat) (τ : Tau) : (nmT nm τ).length = τ.length := by
  cases nm with
  | none => rfl
  | some i => show (τ.set i none).length = _; rw [List.length_set]
theorem exH_len {sub : Nat → Nat → Option Bool} : ∀ {hs : Hs} {c : Nat} {fs : List (Nat × W)} {τ τ' : Tau} {S S' : Store}, exH sub hs c fs τ S = .nx τ' S' → τ'.length = τ.length
  | .nil, c, fs, τ, τ', S, S', h => by unfold exH at h; cases h
  | .cons c' nm u r, c, fs, τ, τ', S, S', h => by
    unfold exH at h
    split at h
    · cases q : exU fs u (nmT nm τ) S with
      | nx τ2 S2 =>
        rw [q] at h
        have h' : Out.nx (nmT nm τ2) S2 = .nx τ' S' := h
        cases h'
        rw [nmT_len, exU_len q, nmT_len]
      | _ => rw [q] at h; cases h
    · exact exH_len h
    · cases h
theorem exL_post {D D' : Ends} {ρ : List Addr} {H : Hp} {ic il : Nat} {hs : Hs} {e : E} {r : Es} {τ : Tau} {S : Store} (hF : F.sub = G.sub) (po : PostO G Ω D ρ H (exL F ic il hs (.cons e r) τ S))
    (hn : ∀ τ2 S2 ρ2 H2 σ2, τ2.length = τ.length → Ext G ρ H ρ2 H2 → Rp G ρ2 H2 S2 → RSt G ρ2 H2 τ2 σ2 → PostO G Ω D ρ2 H2 (exL F ic il hs r τ2 S2) → D'.nx σ2 H2) :
    PostO G (wT G Ω D' hs) D' ρ H ((evE F (.bm .append (.var il) (.cons e .nil)) (τ.set ic none) S).out (τ.set ic none) (fun _ S => .nx (τ.set ic none) S)) := by
  unfold exL exL1 at po
  cases q : (evE F (.bm .append (.var il) (.cons e .nil)) (τ.set ic none) S).out (τ.set ic none) (fun _ S => .nx (τ.set ic none) S) with
  | nx τ2 S2 =>
    rw [q] at po
    obtain ⟨_, _, _, q2⟩ := out_nx q
    cases q2
    exact fun ρ2 H2 σ2 e2 rp2 st2 => hn _ S2 ρ2 H2 σ2 (List.length_set ..) e2 rp2 st2 (PostO.from e2 po)
  | rt w S2 => rw [q] at po; exact po.elim
  | bk τ2 S2 => rw [q] at po; exact po.elim
  | ct τ2 S2 => rw [q] at po; exact po.elim
  | stuck => rw [q] at po; exact po.elim
  | exc c fs τ2 S2 =>
    rw [q] at po
    refine fun ρ2 H2 σ2 d e2 rp2 st2 x => ⟨ρ2, τ2, S2, c, fs, rfl, rp2, st2, x.1, x.2, ?_⟩
    rw [← hF]
    dsimp only at po
    cases q2 : exH F.sub hs c fs τ2 S2 with
    | nx τ3 S3 =>
      rw [q2] at po
      have lt : τ2 = τ.set ic none := by
        cases q3 : evE F (.bm .append (.var il) (.cons e .nil)) (τ.set ic none) S with
        | ok a S => rw [q3] at q; cases q
        | stuck => rw [q3] at q; cases q
        | exc c fs S => rw [q3] at q; cases q; rfl
      exact fun ρ3 H3 σ3 e3 rp3 st3 => hn τ3 S3 ρ3 H3 σ3 (by rw [exH_len q2, lt, List.length_set]) (e2.trans e3) rp3 st3 (PostO.from (e2.trans e3) po)
    | rt w S2 => rw [q2] at po; exact po.elim
    | bk τ2 S2 => rw [q2] at po; exact po.elim
    | ct τ2 S2 => rw [q2] at po; exact po.elim
    | stuck => rw [q2] at po; exact po.elim
    | exc _ _ _ _ => rw [q2] at po; exact po.elim
theorem snd_lfr (ok : GOk G) (g : GX G Ω X) (hc : X.calm = true) (hst : X.stack = X.env :: X.outer) (hfr : X.env.frame = some X.env.locals) (hF : F.sub = G.sub) {c P : Addr} (L : LamAt G X c P) {ic il : Nat} {x y : Str} {hs : Hs} {h0 : ExceptHandler} {hds : List ExceptHandler} {px tp p1 p2 p3 ap cp epos tpos pos : Pos} {k : Nat}
    (hl : ds.length ≤ 100) (hdl : ∀ d ∈ ds, LamP d.params d.xs ∧ LamN X.N X.env.scope d.scope d.xs) (hdo : ∀ (W : WX) (pn : List (Addr × Obj)) (xe : Value → Shared → Prop), Takes (X.tr pn xe) W → PassesOwn (model X.prog X.w) X.A X.env xe → ∀ d ∈ ds, LdOk G W (X.tr pn xe) F d) (hr : Room 5 X.A)
    (hN : X.N[ic]? = some x) (hx : Loc X.env.scope x) (hfx : X.fn x = true ∨ X.env.scope.names.lookup x = some .local) (hv : Vis X.env.scope x) (hd : (x == ("__debug__" : Str)) = false) (hcd : (x == ("__classdict__" : Str)) = false)
    (hN2 : X.N[il]? = some y) (hv2 : Vis X.env.scope y) (hd2 : (y == ("__debug__" : Str)) = false) (hcd2 : (y == ("__classdict__" : Str)) = false) (hline : (ap.endLine == cp.line) = true) (hh : HdOk G X hs (h0 :: hds)) :
    PS X (.For (.Name x px) (.Tuple (ds.map LD.txt) k tp) [.Try [.Expr (.Call (.Attribute (.Name y p1) "append" ap) [.Call (.Name x p2) [] [] p3] [] cp) epos] (h0 :: hds) [] [] tpos] [] pos) (LS G Ω (exS F (.lfr ic il (esOf ds) hs))) := by
  have body : PS X (.Try [.Expr (.Call (.Attribute (.Name y p1) "append" ap) [.Call (.Name x p2) [] [] p3] [] cp) epos] (h0 :: hds) [] [] tpos) (fun D σ H => ∃ e, LamA G (wT G Ω D hs) X F ds ic il e D σ H) := by
    refine tr_at (tb := fun W D σ H => ∃ e, LamA G W X F ds ic il e D σ H) ok g.K hst hfr g.nd g.tk (fun W pn xe tk po => pss_one ⟨fun pins s σ H D I ⟨e, h⟩ => ?_⟩) hh
    exact (ps_lama (X := X.tr pn xe) (ds := ds) (e := e) ⟨g.K, g.w, tk, po, g.units, g.nd⟩ hr (hdo W pn xe tk po) hN hv hd hcd hN2 hv2 hd2 hcd2 hline).run pins s σ H D I h
  refine ⟨fun pins s σ H D I ⟨ρ, τ, S, rp, st, po⟩ => (ps_for g.po hc (pi_tup (pe_tup (pa_lams L hdl))) (pg_name g.nd hN hx hfx) (pss_one body)).run pins s σ H D I ?_⟩
  have hsl := I.len
  unfold exS at po
  refine ⟨ρ, S, rp, fun fs H1 e1 rp1 kn => ⟨?_, fun p hp => ⟨p, rfl, ⟨_, SqT.of upd_same⟩, ?_⟩⟩⟩
  · rw [List.length_map, kn.length, sizeLine_eq]; omega
  have e2 := Ext.aside (G := G) (o := HO.tup (fs.map V.ref)) rp1 hp
  have rp2 := rp1.aside (o := HO.tup (fs.map V.ref)) hp
  have hT : upd H1 p (.tup (fs.map V.ref)) p = some (.tup (fs.map V.ref)) := upd_same
  have kn2 := kn.mono e2
  have e12 := e1.trans e2
  generalize upd H1 p (.tup (fs.map V.ref)) = H2 at e2 rp2 hT kn2 e12
  refine ⟨fun i m σ' H' => ∃ ρi τi Si, Ext G ρ H2 ρi H' ∧ Rp G ρi H' Si ∧ RSt G ρi H' τi σ' ∧ σ'.length = σ.length ∧ PostO G Ω D ρi H' (exL F ic il hs (esOf (ds.drop i)) τi Si) ∧ m + i = ds.length, ⟨ds.length, ρ, τ, S, Ext.refl, rp2, st.mono e12, rfl, PostO.from e12 po, rfl⟩, ?_⟩
  rintro i m σ' H' ⟨ρi, τi, Si, ei, rpi, sti, hlen, pi, hm⟩
  have hTi := ei.tup _ _ hT
  cases hdr : ds.drop i with
  | nil =>
    rw [hdr] at pi
    refine .inl ⟨⟨_, SqT.of hTi, ?_⟩, pi _ _ _ Ext.refl rpi sti⟩
    rw [List.length_map, kn.length]
    have := congrArg List.length hdr
    rw [List.length_drop, List.length_nil] at this
    omega
  | cons d r =>
    have hil : i < ds.length := by
      have := congrArg List.length hdr
      rw [List.length_drop, List.length_cons] at this
      omega
    have hfl : i < fs.length := by rw [kn.length]; exact hil
    obtain ⟨f, hf⟩ : ∃ f, fs[i]? = some f := ⟨_, List.getElem?_eq_getElem hfl⟩
    obtain ⟨d', hd1, hk⟩ := kn2.get i hf
    have hd2 : ds[i]? = some d := by
      have := congrArg (fun l => l[0]?) hdr
      simpa using this
    have hr2 : ds.drop (i + 1) = r := by
      rw [← List.drop_drop, hdr]; rfl
    rw [hd2] at hd1
    cases hd1
    have hgo : (fs.map V.ref)[i]? = some (.ref f) := by rw [List.getElem?_map, hf]; rfl
    rw [hdr] at pi
    refine .inr ⟨⟨_, _, SqT.of hTi, hgo⟩, fun σ2 H3 => ∃ ρ3 τ3 S3, Ext G ρ H2 ρ3 H3 ∧ Rp G ρ3 H3 S3 ∧ RSt G ρ3 H3 τ3 σ2 ∧ σ2.length = σ.length ∧ PostO G Ω D ρ3 H3 (exL F ic il hs (esOf r) τ3 S3), fun σ2 H3 ⟨ρ3, τ3, S3, a1, a2, a3, a4, a5⟩ => ⟨m - 1, by omega, ρ3, τ3, S3, a1, a2, a3, a4, by rw [hr2]; exact a5, by omega⟩, fun z H3 ⟨hy, hyz⟩ => ?_⟩
    subst hy
    have hz : z = .ref f := by
      have q := hyz _ (SqT.of hTi)
      rw [hgo] at q
      exact (Option.some.inj q).symm
    subst hz
    have hic : ic < σ'.length := by
      have := (List.getElem?_eq_some_iff.mp hN).1
      omega
    refine ⟨d.e, f, ρi, τi.set ic none, Si, d, List.mem_iff_getElem?.mpr ⟨i, hd2⟩, rfl, List.getElem?_set_self hic, hk.mono ei, rpi, sti.hide, ?_⟩
    exact exL_post hF pi fun τ2 S2 ρ2 H4 σ2 l4 e4 rp4 st4 p4 => ⟨ρ2, τ2, S2, ei.trans e4, rp4, st4, by rw [← st4.1, l4, sti.1]; exact hlen, p4⟩
end
end Rf

set_option Elab.async false
set_option maxRecDepth 100000
/-! RfDc: dict comprehensions . -/
namespace Rf
open PySem PySem.Spec PyProof.Rows L2
/-- d[k] = v by a comprehension, k a tuple -/
theorem d_dictSetT {X : Cx} {pins : List (Addr × Obj)} {σ : L2.St} {H : Hp} {s : Shared} {E : Value → Shared → Prop} {D b : Addr} {kvs : List (List Key × V)} {k : List Key} {v : V} {r : Value} {Q : Unit → Shared → Prop} (hu : X.A.units + 1 < cLine) (I : Inv X pins σ H s) (hD : H D = some (.dT kvs)) (hz : kvs.length < sizeLine)
    (hb : H b = some (.tup (k.map kV))) (rv : RelV v r) (h : ∀ s', Inv X pins σ (upd H D (.dT (putK kvs k v))) s' → Q () s') : wpAny (model X.prog X.w) X.A (dictSet D (.ref b) r) Q E s := by
  obtain ⟨z, hd, xs, rel, dd⟩ := dt_of I.hok hD
  have hzx : xs.length ≤ sizeLine := by rw [← Paired.length rel]; exact z
  have hl : (putK kvs k v).length ≤ sizeLine := by have := length_putK kvs k v; omega
  refine wpAny_dictSet_heap (hsz := hzx) (show (tupleKind (mixKind X.prog X.w)).room X.A from Nat.lt_of_succ_lt hu) (key_of I.hok hb) dd fun h' dd' hs => h _ ?_
  obtain ⟨q, es, ep, hq, k2, k3, k4, _, k5⟩ := dd'
  refine d_write I (by rw [hD]; exact True.intro) hs ⟨q, hq⟩ ⟨hl, hd, _, (rel.put k hb rv).keeps fun c ys ec => ?_, q, es, ep, hq, k2, k3, k4, k5⟩
  rw [upd_ne (ne_of ec hD (fun z => nomatch z))]
  exact ec
/-- d[y] = z by a comprehension; o': what then stands at D -/
inductive DSet (H : Hp) (D : Addr) (y z : V) : HO → Prop
  | k {kvs : List (Key × V)} {k : Key} : y = kV k → H D = some (.dK kvs) → kvs.length < sizeLine → DSet H D y z (.dK (putK kvs k z))
  | t {kvs : List (List Key × V)} {k : List Key} {b : Addr} : y = .ref b → H b = some (.tup (k.map kV)) → H D = some (.dT kvs) → kvs.length < sizeLine → DSet H D y z (.dT (putK kvs k z))
  | e {k : List Key} {b : Addr} : y = .ref b → H b = some (.tup (k.map kV)) → H D = some (.dK []) → DSet H D y z (.dT (putK [] k z))
theorem dset_snd {X : Cx} {pins : List (Addr × Obj)} {σ : L2.St} {H : Hp} {s : Shared} {E : Value → Shared → Prop} {D : Addr} {y z : V} {u r : Value} {o' : HO} {Q : Unit → Shared → Prop} (hu : X.A.units + 1 < cLine) (I : Inv X pins σ H s) (h : DSet H D y z o') (ry : RelV y u) (rz : RelV z r)
    (q : ∀ s', Inv X pins σ (upd H D o') s' → Q () s') : wpAny (model X.prog X.w) X.A (dictSet D u r) Q E s := by
  cases h with
  | k e1 e2 e3 => subst e1; exact d_dictSet I e2 e3 ry rz q
  | t e1 e2 e3 e4 => subst e1; cases ry; exact d_dictSetT hu I e3 e4 e2 rz q
  | @e k b e1 e2 e3 =>
    subst e1; cases ry
    have J := retype I e3
    have ne : b ≠ D := ne_of e2 e3 (by intro z; cases z)
    refine d_dictSetT hu J upd_same (by show 0 < sizeLine; rw [sizeLine_eq]; omega) (by rw [upd_ne ne]; exact e2) rz fun s' I' => q s' ?_
    rw [upd_upd] at I'
    exact I'
section
variable {X : Cx}
/-- {k: v for target in iter if ..}: D the new dict -/
def tDcX (wi : TI) (g : TG) (tt : TT) (tk tv : TE) (vs : List Nat) : TE := fun σ H Q => wi σ H fun J H1 => ∀ D, H1 D = none → ∃ W : Nat → Nat → Hp → Prop, (∃ m0, W 0 m0 (upd H1 D (.dK []))) ∧ ∀ i m Hi, W i m Hi →
  (J.stop i Hi ∧ Q (.ref D) Hi) ∨ (J.go i Hi ∧ ∃ Nx : Hp → Prop, (∀ H', Nx H' → ∃ m', m' < m ∧ W (i + 1) m' H') ∧ ∀ x H', J.yld i Hi x H' → g x (L2.wipe σ vs) H' fun σ2 H2 => L2.wipe σ2 vs = L2.wipe σ vs ∧ tt σ2 H2 fun b H3 =>
    if b = true then tk σ2 H3 fun y H4 => tv σ2 H4 fun z H5 => ∃ o', DSet H5 D y z o' ∧ Nx (upd H5 D o') else Nx H3)
theorem dc_coreX {pins : List (Addr × Obj)} {s : Shared} {σ : L2.St} {H : Hp} {Q : VK} {kE vE tE iE : Expr} {iF : List Expr} {scp : Scope} {ow : List (Str × Nat)} {pos pos' : Pos} {wI : TI} {g : TG} {tT : TT} {tK tV : TE} {us : Option (Value → Sem Unit)} {Qz : Value → Shared → Prop}
    (hu : X.A.units + 1 < cLine) (hCe : X.calm = true) (hN : X.N.Nodup) (N : Inv X pins σ H s) (hIe : PI X tE iE wI) (blk : BlkOk X.N X.env.scope scp ow)
    (hGe : ∀ (s : Shared) (H : Hp) (Ca : Addr) (cl : List (Str × Addr)) (fq : List Addr), PG (X.blk s H scp (compEnvC scp cl Ca X.env) fq) tE g) (hTe : ∀ (s : Shared) (H : Hp) (Ca : Addr) (cl : List (Str × Addr)) (fq : List Addr), PTs (X.blk s H scp (compEnvC scp cl Ca X.env) fq) iF tT)
    (hKe : ∀ (s : Shared) (H : Hp) (Ca : Addr) (cl : List (Str × Addr)) (fq : List Addr), PE (X.blk s H scp (compEnvC scp cl Ca X.env) fq) kE tK)
    (hVe : ∀ (s : Shared) (H : Hp) (Ca : Addr) (cl : List (Str × Addr)) (fq : List Addr), PE (X.blk s H scp (compEnvC scp cl Ca X.env) fq) vE tV) (hSe : ∀ xx, foldedSetIterable iE X.env xx = pure xx)
    (h : tDcX wI g tT tK tV (ow.map (·.2)) σ H Q)
    (hRR : ∀ Da Ca s' mm H', Inv X pins σ H' s' → Q (.ref Da) H' → s'.heap.Ns Ca mm → FpOk X pins H' Ca → compPost (model X.prog X.w) X.A X.xe us Qz (.ref Da) Ca (.ok .next) s') :
    wpAny (model X.prog X.w) X.A (comprehension (.DictComp kE vE [⟨tE, iE, iF, 0⟩] scp pos) scp X.env pos' newDict false (eval iE X.env) us) Qz X.xe s := by
  have hfree : ∀ y ∈ scp.names, y.2 = .free → ∃ c, X.env.cells.lookup y.1 = some c := fun y hy ee => by
    rcases blk.free y hy ee with k | k
    · exact N.ok.has _ (.inl k)
    · exact N.ok.has _ (.inr k)
  refine wpAny_comprehension_free (use := us) rfl hSe (closure_ok hfree) blk.kind (fun y hy ee => by rw [blk.uniq y hy, ee])
    (thn (hIe.run pins s σ H _ N h) fun xv s1 hx => thn hx fun iv st2_ h2 => ?_)
  obtain ⟨it, fq, tnx, Jt, Hp2, ee, N2, T, st2, f2, qw⟩ := h2
  subst ee
  refine wpAny_newObj_type (newEnv_comp ?_)
  generalize hDa : st2_.heap.objs.size = Da
  have hDn : Hp2 Da = none := N2.hok.fresh (Nat.le_of_eq hDa)
  obtain ⟨W, ⟨m0, w0⟩, turn⟩ := qw Da hDn
  -- the new list
  generalize hs3 : ({ st2_ with heap := st2_.heap.push { cls := .type "dict", data := .dict #[] } } : Shared) = st3_
  have N3 : Inv X pins σ (upd Hp2 Da (.dK [])) st3_ := by
    rw [← hs3]
    refine N2.laid (t' := st2_.toks) (fun bb ob ee => Heap.get?_push_of_some _ ee) (Nat.le_of_eq hDa) ?_
    rw [← hDa]
    exact dk_empty st2_.heap N2.big
  have h3 : st3_.heap = st2_.heap.push { cls := .type "dict", data := .dict #[] } := by rw [← hs3]
  have siz : ∀ bb ∈ fq, bb < st2_.heap.objs.size := fun bb hbb => by
    obtain ⟨ob, ee, _⟩ := T.obj _ _ st2 bb hbb
    exact Heap.lt_size ee
  have f3 : ∀ bb ∈ fq, FpOk X pins (upd Hp2 Da (.dK [])) bb ∧ bb < st3_.heap.objs.size := fun bb hbb => by
    have hlt := siz bb hbb
    refine ⟨⟨?_, (f2 bb hbb).2⟩, by rw [h3, Heap.size_push]; exact Nat.lt_succ_of_lt hlt⟩
    rw [upd_ne (by rw [← hDa]; exact Nat.ne_of_lt hlt)]
    exact (f2 bb hbb).1
  have st3 : tnx 0 st3_.heap := T.keep _ _ _ st2 fun bb _ ob ee => by rw [h3]; exact Heap.get?_push_of_some _ ee
  have N4 := block_start N3 blk hN f3
  have pg := hGe st3_ (upd Hp2 Da (.dK [])) st3_.heap.objs.size (cellsFrom (st3_.heap.objs.size + 1) scp.names (cloFrom X.env.cells scp.names [])) fq
  have pt := hTe st3_ (upd Hp2 Da (.dK [])) st3_.heap.objs.size (cellsFrom (st3_.heap.objs.size + 1) scp.names (cloFrom X.env.cells scp.names [])) fq
  have pk := hKe st3_ (upd Hp2 Da (.dK [])) st3_.heap.objs.size (cellsFrom (st3_.heap.objs.size + 1) scp.names (cloFrom X.env.cells scp.names [])) fq
  have pe := hVe st3_ (upd Hp2 Da (.dK [])) st3_.heap.objs.size (cellsFrom (st3_.heap.objs.size + 1) scp.names (cloFrom X.env.cells scp.names [])) fq
  show codeAny _ _ (.compStart (.DictComp kE vE [⟨tE, iE, iF, 0⟩] scp pos) 0 (.ref it) (.ref Da) (compEnvC scp (cellsFrom (st3_.heap.objs.size + 1) scp.names (cloFrom X.env.cells scp.names [])) st3_.heap.objs.size X.env)) (compPost (model X.prog X.w) X.A X.xe us Qz (.ref Da) st3_.heap.objs.size) { st3_ with heap := pushCells (st3_.heap.push { cls := .type "dict", data := .dict #[] }) scp.names }
  have nfp : ∀ bb ∈ fq, (upd Hp2 Da (.dK [])) bb = none := fun bb hbb => (f3 bb hbb).1.1
  generalize hce : compEnvC scp (cellsFrom (st3_.heap.objs.size + 1) scp.names (cloFrom X.env.cells scp.names [])) st3_.heap.objs.size X.env = cen at N4 pg pt pk pe ⊢
  have cLo : cen.locals = st3_.heap.objs.size := by subst hce; rfl
  generalize hH3 : upd Hp2 Da (.dK []) = Hp3 at N3 N4 pg pt pk pe w0 nfp f3
  generalize hs4 : ({ st3_ with heap := pushCells (st3_.heap.push { cls := .type "dict", data := .dict #[] }) scp.names } : Shared) = st4_ at N4 ⊢
  have st4 : tnx 0 st4_.heap := T.keep _ _ _ st3 fun bb _ ob ee => by rw [← hs4]; exact pushCells_keeps _ _ _ _ (Heap.get?_push_of_some _ ee)
  have stay_ : ∀ {σ' : L2.St} {H' : Hp} {s' : Shared}, Inv (X.blk st3_ Hp3 scp cen fq) [] σ' H' s' → (∀ bb ∈ fq, H' bb = none) → ∀ bb ∈ fq, FpOk (X.blk st3_ Hp3 scp cen fq) [] H' bb := fun {σ' H' s'} I' hnn bb hbb =>
    ⟨hnn bb hbb, (I'.ok.exf bb hbb).1, I'.ok.exfs bb hbb, .inl hbb, fun xx c ee => (I'.ok.exf bb hbb).2 xx c ee, fun p hp => absurd (show p ∈ ([] : List (Addr × Obj)) ++ [] from hp) (by simp)⟩
  have loop : codeAny (model X.prog X.w) X.A (.compLoop (.DictComp kE vE [⟨tE, iE, iF, 0⟩] scp pos) 0 (.ref it) (.ref Da) cen) (compPost (model X.prog X.w) X.A X.xe us Qz (.ref Da) st3_.heap.objs.size) st4_ := by
    refine compLoop_anyD (fun nn s' => ∃ ii H', Inv (X.blk st3_ Hp3 scp cen fq) [] (L2.wipe σ (ow.map (·.2))) H' s' ∧ tnx ii s'.heap ∧ (∀ bb ∈ fq, H' bb = none) ∧ W ii nn H') ?_ m0 ⟨0, Hp3, N4, st4, nfp, w0⟩
    rintro nn st5_ ⟨ii, Hp5, N5, st5, n5, w5⟩
    rcases turn ii nn Hp5 w5 with ⟨stop, qq⟩ | ⟨go, Nx, hNx, step⟩
    · have td := T.done (X.blk st3_ Hp3 scp cen fq) rfl rfl rfl hCe ii [] st5_ _ Hp5 (fun _ _ => False) N5 (stay_ N5 n5) st5 stop
      refine thnF td fun r st6_ ⟨hr, N6⟩ => ?_
      subst hr
      -- back in the def's context
      have N7 : Inv X pins σ Hp5 st6_ := N3.call' (ch := fq) N6.os N6.base N6.hok N6.bare fun bb hbb => ⟨(f3 bb hbb).1.2.2.2.1, (f3 bb hbb).1.2.1, (f3 bb hbb).1.2.2.2.2.1, (f3 bb hbb).1.2.2.2.2.2⟩
      have nC : Hp5 st3_.heap.objs.size = none := by
        have z : Hp5 cen.locals = none := N6.free
        rw [cLo] at z
        exact z
      obtain ⟨mm, hnn, _⟩ := N6.loc
      have hnn : st6_.heap.Ns cen.locals mm := hnn
      rw [cLo] at hnn
      exact hRR Da st3_.heap.objs.size st6_ mm Hp5 N7 qq hnn (N3.fpOk (Nat.le_refl _) nC)
    · have ti := T.item (X.blk st3_ Hp3 scp cen fq) rfl rfl rfl hCe ii [] st5_ _ Hp5 (fun _ _ => False) N5 (stay_ N5 n5) st5 go
      refine thnF ti fun r st6_ ⟨u, hr, h6⟩ => ?_
      subst hr
      refine thnF h6 fun _ st7_ ⟨xx, Hp7, N7, r7, y7, st7, n7⟩ => ?_
      have I7' := N7.pinned (stay_ N7 n7) (T.obj _ _ st7)
      refine thnF (pg.run _ st7_ _ Hp7 xx u _ I7' r7 (step xx Hp7 y7)) fun _ st8_ ⟨σ8, Hp8, N8, hw8, q8⟩ => ?_
      refine thnF (pt.run _ st8_ σ8 Hp8 _ N8 q8) fun bb st9_ ⟨Hp9, N9, q9⟩ => ?_
      -- the turn's end
      have turnEnd : ∀ {s' : Shared} {H' : Hp}, Inv (X.blk st3_ Hp3 scp cen fq) ([] ++ pinsAt fq st7_.heap) σ8 H' s' → Nx H' → ∃ mm, mm < nn ∧ ∃ ii H', Inv (X.blk st3_ Hp3 scp cen fq) [] (L2.wipe σ (ow.map (·.2))) H' s' ∧ tnx ii s'.heap ∧ (∀ bb ∈ fq, H' bb = none) ∧ W ii mm H' := fun {s' H'} I' nx => by
        obtain ⟨m', hm, w'⟩ := hNx H' nx
        have pin' : ∀ bb ∈ fq, ∀ ob, st7_.heap.get? bb = some ob → s'.heap.get? bb = some ob ∧ H' bb = none := fun bb hbb ob ee =>
          let z := I'.pin (bb, ob) (List.mem_append_right _ (List.mem_append_right _ (mem_pinsAt hbb ee)))
          ⟨z.1, z.2.1⟩
        have hl : (L2.wipe σ (ow.map (·.2))).length = σ8.length := by rw [← hw8, wipe_length]
        refine ⟨m', hm, ii + 1, H', (I'.unpinned (pins := [])).weak hl (fun j v ee => ?_), T.keep _ _ _ st7 fun bb hbb ob ee => (pin' bb hbb ob ee).1, fun bb hbb => ?_, w'⟩
        · rw [← hw8] at ee
          exact (wipe_some ee).1
        · obtain ⟨ob, ee, _⟩ := T.obj _ _ st7 bb hbb
          exact (pin' bb hbb ob ee).2
      cases bb with
      | false =>
        simp only [Bool.false_eq_true, if_false] at q9 ⊢
        exact turnEnd N9 q9
      | true =>
        simp only [if_true] at q9 ⊢
        refine thnF (pk.run _ st9_ σ8 Hp9 _ N9 q9) fun z st10_ ⟨yk, Hp10, N10, r10, q10⟩ => ?_
        refine thnF (pe.run _ st10_ σ8 Hp10 _ N10 q10) fun z2 st11_ ⟨yv, Hp11, N11, r11, o2, ins, nx⟩ => ?_
        exact dset_snd (X := X.blk st3_ Hp3 scp cen fq) hu N11 ins r10 r11 fun st12_ N12 => turnEnd N12 nx
  exact codeAny_compStart_dict loop (T.self X.A 0 _ _ _ st4 loop)
theorem pe_dcX {kx vx tg iter : Expr} {ifs : List Expr} {scope : Scope} {own : List (Str × Nat)} {pos : Pos} {wi : TI} {g : TG} {tt : TT} {tk tv : TE} (hu : X.A.units + 1 < cLine) (hc : X.calm = true) (hN : X.N.Nodup) (hi : PI X tg iter wi) (blk : BlkOk X.N X.env.scope scope own)
    (hg : ∀ (s : Shared) (H : Hp) (Ca : Addr) (cl : List (Str × Addr)) (fq : List Addr), PG (X.blk s H scope (compEnvC scope cl Ca X.env) fq) tg g) (ht : ∀ (s : Shared) (H : Hp) (Ca : Addr) (cl : List (Str × Addr)) (fq : List Addr), PTs (X.blk s H scope (compEnvC scope cl Ca X.env) fq) ifs tt)
    (hk : ∀ (s : Shared) (H : Hp) (Ca : Addr) (cl : List (Str × Addr)) (fq : List Addr), PE (X.blk s H scope (compEnvC scope cl Ca X.env) fq) kx tk)
    (he : ∀ (s : Shared) (H : Hp) (Ca : Addr) (cl : List (Str × Addr)) (fq : List Addr), PE (X.blk s H scope (compEnvC scope cl Ca X.env) fq) vx tv) (hs : ∀ x, foldedSetIterable iter X.env x = pure x) :
    PE X (.DictComp kx vx [⟨tg, iter, ifs, 0⟩] scope pos) (tDcX wi g tt tk tv (own.map (·.2))) := by
  refine ⟨fun pins s σ H Q Jn h => ?_⟩
  rw [arm_eval_DictComp]
  refine dc_coreX hu hc hN Jn hi blk hg ht hk he hs h fun Da Ca s' m H' I' q hn f => ⟨m, hn, fun h2 sb => ?_⟩
  obtain ⟨e0, e1, e2, e3, e4, e5⟩ := f
  exact ⟨.ref Da, H', I'.turned (t' := s'.toks) (fun c o hb e => (sb.2 c hb).trans e) e0 e1 e3 e4 e5, rfl, q⟩
/-- name = {..}, one on one line -/
theorem ps_setDcX {i : Nat} {y : Str} {py : Pos} {kx vx tg iter : Expr} {ifs : List Expr} {scope : Scope} {own : List (Str × Nat)} {pos spos : Pos} {wi : TI} {g : TG} {tt : TT} {tk tv : TE} (hu : X.A.units + 1 < cLine) (hc : X.calm = true) (hN : X.N.Nodup) (hy : X.N[i]? = some y) (hyl : X.env.scope.names.lookup y = some .local)
    (hsw : swapsWith (.DictComp kx vx [⟨tg, iter, ifs, 0⟩] scope pos) (some (.Name y py)) spos.line X.env = pure true) (hi : PI X tg iter wi) (blk : BlkOk X.N X.env.scope scope own)
    (hg : ∀ (s : Shared) (H : Hp) (Ca : Addr) (cl : List (Str × Addr)) (fq : List Addr), PG (X.blk s H scope (compEnvC scope cl Ca X.env) fq) tg g) (ht : ∀ (s : Shared) (H : Hp) (Ca : Addr) (cl : List (Str × Addr)) (fq : List Addr), PTs (X.blk s H scope (compEnvC scope cl Ca X.env) fq) ifs tt)
    (hk : ∀ (s : Shared) (H : Hp) (Ca : Addr) (cl : List (Str × Addr)) (fq : List Addr), PE (X.blk s H scope (compEnvC scope cl Ca X.env) fq) kx tk)
    (he : ∀ (s : Shared) (H : Hp) (Ca : Addr) (cl : List (Str × Addr)) (fq : List Addr), PE (X.blk s H scope (compEnvC scope cl Ca X.env) fq) vx tv) (hs : ∀ x, foldedSetIterable iter X.env x = pure x) :
    PS X (.Assign [.Name y py] (.DictComp kx vx [⟨tg, iter, ifs, 0⟩] scope pos) spos) (tAsg (tDcX wi g tt tk tv (own.map (·.2))) (gName i)) := by
  refine ⟨fun pins s σ H Dn Jn h => ?_⟩
  rw [exec_Assign_Name_used _ _ _ _ hsw]
  refine wpAny_bind (wpAny_standAt (wpAny_bind ?_))
  show wpAny _ X.A (do let _ ← comprehension (.DictComp kx vx [⟨tg, iter, ifs, 0⟩] scope pos) scope X.env (firstIterPos [⟨tg, iter, ifs, 0⟩] pos) newDict false (eval iter X.env) (some (assign (.Name y py) X.env))) _ _ s
  have h : tDcX wi g tt tk tv (own.map (·.2)) σ H (fun x H1 => gName i x σ H1 Dn.nx) := h
  refine wpAny_bind (thn (dc_coreX (Qz := fun _ s' => SP X pins Dn .next s') hu hc hN Jn hi blk hg ht hk he hs h fun L Ca s' m H' I' q hn f => ?_) fun _ s' hq => wpAny_pure (wpAny_pure hq))
  show wpAny _ _ (assign (.Name y py) X.env (.ref L)) _ _ _
  refine wpAny_assign_Name (store_ok2 (v := V.ref L) I' hN hy (.inl hyl) rfl (fun s9 I9 ⟨c, sb, ha⟩ => ?_) (.inr hyl))
  obtain ⟨e0, e1, e2, e3, e4, e5⟩ := f
  have far : Ca ≠ c := by
    rcases ha with z | z
    · rw [z]; exact e1
    · exact fun e => e4 y c z e.symm
  refine ⟨m, hn.sameBut sb far, fun h9 sb9 => ?_⟩
  exact ⟨_, H', I9.turned (t' := s9.toks) (fun c2 o hb e => (sb9.2 c2 hb).trans e) e0 e1 e3 e4 e5, q⟩
end
end Rf

set_option Elab.async false
set_option maxRecDepth 100000
set_option maxHeartbeats 1000000
/-! RfDc2: dict comprehensions of the evaluator. -/
namespace Rf
open PySem PySem.Spec PyProof.Rows L2
theorem mapO_app {α β : Type} {f : α → Option β} : ∀ {xs ys : List α} {zs : List β}, mapO f (xs ++ ys) = some zs → ∃ as bs, mapO f xs = some as ∧ mapO f ys = some bs ∧ zs = as ++ bs
  | [], ys, zs, h => ⟨[], zs, rfl, h, rfl⟩
  | x :: xs, ys, zs, h => by
    rw [List.cons_append] at h
    unfold mapO at h
    cases q : f x with
    | none => rw [q] at h; cases h
    | some y =>
      rw [q] at h
      obtain ⟨us, e1, e2⟩ := Option.map_eq_some_iff.mp h
      obtain ⟨as, bs, h1, h2, h3⟩ := mapO_app e1
      subst h3; subst e2
      refine ⟨y :: as, bs, ?_, h2, rfl⟩
      unfold mapO
      rw [q, h1]; rfl
theorem mapO_snoc {α β : Type} {f : α → Option β} : ∀ {xs : List α} {as : List β} {x : α} {y : β}, mapO f xs = some as → f x = some y → mapO f (xs ++ [x]) = some (as ++ [y])
  | [], as, x, y, h, e => by
    cases h
    rw [List.nil_append]
    unfold mapO
    rw [e]; rfl
  | z :: xs, as, x, y, h, e => by
    unfold mapO at h
    cases q : f z with
    | none => rw [q] at h; cases h
    | some w =>
      rw [q] at h
      obtain ⟨us, e1, e2⟩ := Option.map_eq_some_iff.mp h
      subst e2
      rw [List.cons_append]
      unfold mapO
      rw [q, mapO_snoc e1 e]; rfl
theorem merge_snoc {κ : Type} [DecidableEq κ] (kvs : List (κ × W)) (q : κ × W) : mergeD [] (kvs ++ [q]) = dput (mergeD [] kvs) q.1 q.2 := by
  unfold mergeD
  rw [List.foldl_append]; rfl
theorem merge_len {κ : Type} [DecidableEq κ] : ∀ (more kvs : List (κ × W)), (mergeD kvs more).length ≤ kvs.length + more.length
  | [], kvs => Nat.le_refl _
  | q :: r, kvs => by
    have h1 := merge_len r (dput kvs q.1 q.2)
    have h2 := dput_len (kvs := kvs) (k := q.1) (w := q.2)
    show (mergeD (dput kvs q.1 q.2) r).length ≤ _
    rw [List.length_cons]; omega
abbrev kf (p : W × W) : Option (DKey × W) := (keyOf p.1).map fun k => (k, p.2)
abbrev tf (p : W × W) : Option (List DKey × W) := (tkeyOf p.1).map fun k => (k, p.2)
theorem key_tkey {w : W} {k : List DKey} (h : tkeyOf w = some k) : keyOf w = none := by
  unfold tkeyOf at h
  split at h
  · rfl
  · cases h
/-- what stands at D when the entries acc have been put -/
def DicP (G : GC) (tup : Bool) (ρ : List Addr) (H : Hp) (D : Addr) (acc : List (W × W)) : Prop := match tup with
  | false => ∃ kvs vs, mapO kf acc = some kvs ∧ H D = some (.dK vs) ∧ RK G ρ H (mergeD [] kvs) vs
  | true => (acc = [] ∧ H D = some (.dK [])) ∨ (acc ≠ [] ∧ ∃ kvs vs, mapO tf acc = some kvs ∧ H D = some (.dT vs) ∧ RK G ρ H (mergeD [] kvs) vs)
def keyB (tup : Bool) (p : W × W) : Prop := match tup with
  | false => ∃ k, keyOf p.1 = some k
  | true => ∃ k, tkeyOf p.1 = some k
section
variable {G : GC} {ρ ρ' : List Addr} {H H' : Hp} {D : Addr} {acc : List (W × W)} {tup : Bool}
theorem DicP.ex (h : DicP G tup ρ H D acc) : ∃ o, H D = some o ∧ (∀ xs, o ≠ .tup xs) ∧ (∀ q u, o ≠ .frz q u) ∧ (∀ ps, o ≠ .tbl ps) ∧ ∀ φ, o ≠ .ext φ := by
  cases tup with
  | false => obtain ⟨kvs, vs, _, e, _⟩ := h; exact ⟨_, e, fun xs z => (by cases z), fun q u z => (by cases z), fun q z => (by cases z), fun q z => (by cases z)⟩
  | true =>
    rcases h with ⟨_, e⟩ | ⟨_, kvs, vs, _, e, _⟩
    · exact ⟨_, e, fun xs z => (by cases z), fun q u z => (by cases z), fun q z => (by cases z), fun q z => (by cases z)⟩
    · exact ⟨_, e, fun xs z => (by cases z), fun q u z => (by cases z), fun q z => (by cases z), fun q z => (by cases z)⟩
theorem DicP.mono (h : DicP G tup ρ H D acc) (e : Ext G ρ H ρ' H') (hD : D ∉ ρ) : DicP G tup ρ' H' D acc := by
  cases tup with
  | false => obtain ⟨kvs, vs, h1, h2, h3⟩ := h; exact ⟨kvs, vs, h1, e.keep _ _ h2 hD (fun _ z => by cases z), h3.mono e⟩
  | true =>
    rcases h with ⟨h0, h2⟩ | ⟨h0, kvs, vs, h1, h2, h3⟩
    · exact .inl ⟨h0, e.keep _ _ h2 hD (fun _ z => by cases z)⟩
    · exact .inr ⟨h0, kvs, vs, h1, e.keep _ _ h2 hD (fun _ z => by cases z), h3.mono e⟩
theorem DicP.step {p : W × W} {y z : V} (h : DicP G tup ρ H D acc) (hk : keyB tup p) (ry : R G ρ H p.1 y) (rz : R G ρ H p.2 z) (hl : acc.length < lim) : ∃ o', DSet H D y z o' ∧ DicP G tup ρ (upd H D o') D (acc ++ [p]) := by
  obtain ⟨o, ho, nt, nf, _⟩ := h.ex
  have up : ∀ o', Up ρ H ρ (upd H D o') := fun o' => Up.off ho nt nf
  cases tup with
  | false =>
    obtain ⟨kvs, vs, h1, h2, h3⟩ := h
    obtain ⟨k, hk⟩ := hk
    have e : kf p = some (k, p.2) := by unfold kf; rw [hk]; rfl
    refine ⟨_, .k (key_snd ry hk) h2 ?_, kvs ++ [(k, p.2)], _, mapO_snoc h1 e, upd_same, ?_⟩
    · rw [← h3.length]
      have := merge_len kvs ([] : List (DKey × W))
      have h4 := (mapO_some h1).1
      rw [List.length_nil] at this
      exact lim_line' (by omega)
    · rw [merge_snoc]
      exact (h3.put k rz).up (up _)
  | true =>
    obtain ⟨k, hk⟩ := hk
    have e : tf p = some (k, p.2) := by unfold tf; rw [hk]; rfl
    obtain ⟨b, hb1, hb2⟩ := tkey_snd ry hk
    have ne : acc ++ [p] ≠ [] := by simp
    rcases h with ⟨h0, h2⟩ | ⟨h0, kvs, vs, h1, h2, h3⟩
    · subst h0
      refine ⟨_, .e hb1 hb2 h2, .inr ⟨ne, [(k, p.2)], _, mapO_snoc (as := []) rfl e, upd_same, ?_⟩⟩
      have r0 : RK G ρ H ([] : List (List DKey × W)) ([] : List (List Key × V)) := .nil
      exact (r0.put k rz).up (up _)
    · refine ⟨_, .t hb1 hb2 h2 ?_, .inr ⟨ne, kvs ++ [(k, p.2)], _, mapO_snoc h1 e, upd_same, ?_⟩⟩
      · rw [← h3.length]
        have := merge_len kvs ([] : List (List DKey × W))
        have h4 := (mapO_some h1).1
        rw [List.length_nil] at this
        exact lim_line' (by omega)
      · rw [merge_snoc]
        exact (h3.put k rz).up (up _)
/-- the kind of the keys -/
theorem dicOf_kind {ps : List (W × W)} {c : Cell} (h : dicOf ps = some c) : ∃ tup, (∀ p ∈ ps, keyB tup p) ∧ ∀ {ρ : List Addr} {H : Hp} {D : Addr}, DicP G tup ρ H D ps → (tup = true → ps ≠ []) ∧ CellR G ρ H D c := by
  unfold dicOf at h
  split at h
  · rename_i kvs hk
    cases h
    refine ⟨false, fun p hp => ?_, fun {ρ H D} hd => ⟨fun z => (by cases z), ?_⟩⟩
    · obtain ⟨i, hi⟩ := List.mem_iff_getElem?.mp hp
      obtain ⟨y, e, _⟩ := (mapO_some hk).2 i p hi
      obtain ⟨k, e1, _⟩ := Option.map_eq_some_iff.mp e
      exact ⟨k, e1⟩
    · obtain ⟨kvs', vs, h1, h2, h3⟩ := hd
      rw [show mapO kf ps = some kvs from hk] at h1
      cases h1
      exact ⟨vs, h2, h3⟩
  · rename_i hk
    obtain ⟨kvs, e1, e2⟩ := Option.map_eq_some_iff.mp h
    subst e2
    have ne : ps ≠ [] := fun z => by subst z; cases hk
    refine ⟨true, fun p hp => ?_, fun {ρ H D} hd => ⟨fun _ => ne, ?_⟩⟩
    · obtain ⟨i, hi⟩ := List.mem_iff_getElem?.mp hp
      obtain ⟨y, e, _⟩ := (mapO_some e1).2 i p hi
      obtain ⟨k, e1, _⟩ := Option.map_eq_some_iff.mp e
      exact ⟨k, e1⟩
    · rcases hd with ⟨h0, _⟩ | ⟨_, kvs', vs, h1, h2, h3⟩
      · exact absurd h0 ne
      · rw [show mapO tf ps = some kvs from e1] at h1
        cases h1
        exact ⟨vs, h2, h3⟩
theorem DicP.nil {tup : Bool} (h : H D = some (.dK [])) : DicP G tup ρ H D [] := by
  cases tup with
  | false => exact ⟨[], [], rfl, h, .nil⟩
  | true => exact .inl ⟨rfl, h⟩
end
/-- one turn -/
def dcStep (F : Ora) (ik iv : E) (ig : Tg) (fs : Ts) (own : List Nat) (τ : Tau) (x : W) (S : Store) : Res (Option (W × W)) := (evG F ig x (wipeT τ own) S).bind fun τ' S => (evTs F fs τ' S).bind fun b S => match b with
  | true => (evE F ik τ' S).bind fun y S => (evE F iv τ' S).bind fun z S => .ok (some (y, z)) S
  | false => .ok none S
theorem dcStep_ok {F : Ora} {ik iv : E} {ig : Tg} {fs : Ts} {own : List Nat} {τ : Tau} {x : W} {S S' : Store} {o : Option (W × W)} (h : dcStep F ik iv ig fs own τ x S = .ok o S') :
    ∃ τ2 S2 k S3, evG F ig x (wipeT τ own) S = .ok τ2 S2 ∧ evTs F fs τ2 S2 = .ok k S3 ∧ ((k = false ∧ o = none ∧ S' = S3) ∨ (k = true ∧ ∃ y S4 z, evE F ik τ2 S3 = .ok y S4 ∧ evE F iv τ2 S4 = .ok z S' ∧ o = some (y, z))) := by
  unfold dcStep at h
  obtain ⟨τ2, S2, h1, h⟩ := bind_ok h
  obtain ⟨k, S3, h2, h⟩ := bind_ok h
  refine ⟨τ2, S2, k, S3, h1, h2, ?_⟩
  cases k with
  | false => cases h; exact .inl ⟨rfl, rfl, rfl⟩
  | true =>
    obtain ⟨y, S4, h3, h⟩ := bind_ok h
    obtain ⟨z, S5, h4, h⟩ := bind_ok h
    cases h
    exact .inr ⟨rfl, y, S4, z, h3, h4, rfl⟩
section
variable {G : GC} {X : Cx} {Ω : WX} (g : GX G Ω X) {F : Ora} {pos : Pos}
include g
theorem dc_read {own : List (Str × Nat)} {ik iv : E} {ig : Tg} {ii : Rf.It} {fs : Ts} {σ : L2.St} {H : Hp} {Q : VK} (h : LE G Ω (evE F (.dc ik iv ig ii fs (own.map (·.2)))) σ H Q) :
    tDcX (LI G Ω X.K (evI F ii)) (LG G (OwnP (own.map (·.2))) (evG F ig)) (LT G W0 (evTs F fs)) (LE G W0 (evE F ik)) (LE G W0 (evE F iv)) (own.map (·.2)) σ H Q := by
  have hK := g.K
  obtain ⟨ρ, τ, S, rp, st, po⟩ := h
  unfold evE at po
  refine Lf.imp (Lf.bind rp st po) fun jt H1 ⟨ρ1, J, S1, e1, rp1, st1, hJ, po1⟩ D hD => ?_
  change Post G (R G) (WE Ω σ) ρ1 H1 Q (if J.len S1 ≤ lim then (compJ J (dcStep F ik iv ig fs (own.map (·.2)) τ) (J.len S1) 0 S1).bind fun ps S => (match dicOf ps with | some c => .ok (.loc S.n) (S.push c) | none => .stuck) else .stuck) at po1
  rw [hK] at hJ
  generalize hst : dcStep F ik iv ig fs (own.map (·.2)) τ = step at po1
  split at po1
  · rename_i hlim
    have hD1 : D ∉ ρ1 := fun z => by obtain ⟨o, q, _⟩ := rp1.in_some z; rw [hD] at q; cases q
    have fin : ∃ ps S' c, compJ J step (J.len S1) 0 S1 = .ok ps S' ∧ dicOf ps = some c ∧ Post G (R G) (WE Ω σ) ρ1 H1 Q (.ok (.loc S'.n) (S'.push c)) := by
      cases e : compJ J step (J.len S1) 0 S1 with
      | ok ps S' =>
        rw [e] at po1
        change Post G (R G) (WE Ω σ) ρ1 H1 Q (match dicOf ps with | some c => .ok (.loc S'.n) (S'.push c) | none => .stuck) at po1
        cases q : dicOf ps with
        | none => rw [q] at po1; exact po1.elim
        | some c => rw [q] at po1; exact ⟨ps, S', c, rfl, q, po1⟩
      | exc c fs S' => exact absurd e (compJ_noexc _ _ _)
      | stuck => rw [e] at po1; exact po1.elim
    obtain ⟨psAll, SAll, c, hrun, hdic, hpost⟩ := fin
    obtain ⟨tup, hkeys, hend⟩ := dicOf_kind (G := G) hdic
    let Wd : Nat → Nat → Hp → Prop := fun i m H => ∃ ρi Si acc, Ext G ρ1 H1 ρi H ∧ Rp G ρi H Si ∧ D ∉ ρi ∧ DicP G tup ρi H D acc ∧ acc.length ≤ i ∧ i + m ≤ lim ∧ ∃ ys, compJ J step m i Si = .ok ys SAll ∧ psAll = acc ++ ys
    refine ⟨Wd, ⟨J.len S1, ρ1, S1, [], Ext.aside rp1 hD, rp1.aside hD, hD1, DicP.nil upd_same, Nat.le_refl _, by omega, psAll, hrun, rfl⟩, fun i m H2 ⟨ρi, Si, acc, ei, rpi, hDi, hdp, hle, hlm, ys, hc, hps⟩ => ?_⟩
    have hJi := hJ.mono ei
    cases m with
    | zero =>
      unfold compJ at hc
      split at hc
      · rename_i hat
        obtain ⟨q1, q2⟩ := Res.ok.inj hc
        subst q1; subst q2
        rw [List.append_nil] at hps
        subst hps
        refine .inl ⟨hJi.stop rpi hat, ?_⟩
        obtain ⟨o, ho, nt, nf, nb⟩ := hdp.ex
        have u2 : Up ρi H2 (ρi ++ [D]) H2 := ⟨fun n a e => by rw [List.getElem?_append_left (List.getElem?_eq_some_iff.mp e).1]; exact e, fun _ _ h => h, fun _ _ _ h => h⟩
        have cr := (hend hdp).2
        have rp' := rpi.adopt (c := c) (o' := o) hDi ho nt nf nb (by rw [upd_self ho]; exact cr.up u2 rfl)
        have ex := ei.adopt (o := o) hD
        rw [upd_self ho] at rp' ex
        exact hpost _ _ _ ex rp' (.loc rpi.push_at)
      · cases hc
    | succ m =>
      unfold compJ at hc
      split at hc
      · rename_i x hat
        obtain ⟨hgo, hy⟩ := hJi.item rpi hat
        refine .inr ⟨hgo, Wd (i + 1) m, fun H' h => ⟨m, Nat.lt_succ_self _, h⟩, fun v H3 hyl => ?_⟩
        obtain ⟨e3, rp3, r3⟩ := hy v H3 hyl
        have hdp3 := hdp.mono e3 hDi
        have hD3 : D ∉ ρi := hDi
        have st3 := (st1.mono (ei.trans e3)).wipe (own.map (·.2))
        cases hstep : step x Si with
        | exc c fs S2 => rw [hstep] at hc; cases hc
        | stuck => rw [hstep] at hc; cases hc
        | ok o S9 =>
        rw [hstep] at hc
        rw [← hst] at hstep
        obtain ⟨τ2, S2, k, S3, hg1, ht1, hk⟩ := dcStep_ok hstep
        refine ⟨ρi, _, Si, x, rp3, st3, r3, ?_⟩
        rw [hg1]
        intro ρ4 H4 σ4 e4 rp4 ⟨st4, p4⟩
        refine ⟨(show L2.wipe σ4 (own.map (·.2)) = L2.wipe (L2.wipe σ (own.map (·.2))) (own.map (·.2)) from p4).trans (wipe_idem _ _), ρ4, τ2, S2, rp4, st4, ?_⟩
        obtain ⟨od, hod, _, _, nb, _⟩ := hdp3.ex
        obtain ⟨hD4, hD4v⟩ := e4.out hD3 hod nb
        have hdp4 := hdp3.mono e4 hD3
        rw [ht1]
        intro ρ5 H5 k' e5 rp5 hk'
        cases hk'
        obtain ⟨hD5, hD5v⟩ := e5.out hD4 hD4v nb
        have hdp5 := hdp4.mono e5 hD4
        have all5 := ((ei.trans e3).trans e4).trans e5
        rcases hk with ⟨k0, o0, s0⟩ | ⟨k0, y, S4, z, he1, he2, o0⟩
        · subst k0; subst o0; subst s0
          rw [if_neg (by decide)]
          exact ⟨ρ5, S9, acc, all5, rp5, hD5, hdp5, by omega, by omega, ys, hc, hps⟩
        · subst k0; subst o0
          rw [if_pos rfl]
          refine ⟨ρ5, τ2, S3, rp5, st4.mono e5, ?_⟩
          rw [he1]
          intro ρ6 H6 yv e6 rp6 r6
          obtain ⟨hD6, hD6v⟩ := e6.out hD5 hD5v nb
          refine ⟨ρ6, τ2, S4, rp6, (st4.mono e5).mono e6, ?_⟩
          rw [he2]
          intro ρ7 H7 zv e7 rp7 r7
          obtain ⟨hD7, hD7v⟩ := e7.out hD6 hD6v nb
          have hdp7 := (hdp5.mono e6 hD5).mono e7 hD6
          dsimp only at hc
          cases hc2 : compJ J step m (i + 1) S9 with
          | exc c fs S5 => rw [hc2] at hc; cases hc
          | stuck => rw [hc2] at hc; cases hc
          | ok ys2 S5 =>
            rw [hc2] at hc
            obtain ⟨q1, q2⟩ := Res.ok.inj hc
            subst q1; subst q2
            have hp : keyB tup (y, z) := hkeys _ (by rw [hps]; simp)
            obtain ⟨o', hs, hdp8⟩ := hdp7.step (p := (y, z)) hp (r6.mono e7) r7 (by omega)
            obtain ⟨od7, hod7, nt7, nf7, nb7⟩ := hdp7.ex
            refine ⟨o', hs, ρ7, S9, acc ++ [(y, z)], ((all5.trans e6).trans e7).off hD, rp7.off hD7 hod7 nt7 nf7 nb7, hD7, hdp8, ?_, by omega, ys2, hc2, ?_⟩
            · rw [List.length_append, List.length_singleton]; omega
            · rw [hps, List.append_assoc]; rfl
      · cases hc
  · exact po1.elim
end
section
variable {G : GC} {X : Cx} {Ω : WX} (g : GX G Ω X) {F : Ora} {pos spos : Pos} (hc : X.calm = true) {kx vx tg iter : Expr} {ifs : List Expr} {scope : Scope} {own : List (Str × Nat)} {ik iv : E} {ig : Tg} {ii : Rf.It} {fs : Ts} (hi : PI X tg iter (LI G Ω X.K (evI F ii))) (ok : BlkOk X.N X.env.scope scope own)
    (hg : ∀ (s : Shared) (H : Hp) (C : Addr) (cl : List (Str × Addr)) (fp : List Addr), PG (X.blk s H scope (compEnvC scope cl C X.env) fp) tg (LG G (OwnP (own.map (·.2))) (evG F ig)))
    (ht : ∀ (s : Shared) (H : Hp) (C : Addr) (cl : List (Str × Addr)) (fp : List Addr), PTs (X.blk s H scope (compEnvC scope cl C X.env) fp) ifs (LT G W0 (evTs F fs)))
    (hk : ∀ (s : Shared) (H : Hp) (C : Addr) (cl : List (Str × Addr)) (fp : List Addr), PE (X.blk s H scope (compEnvC scope cl C X.env) fp) kx (LE G W0 (evE F ik)))
    (he : ∀ (s : Shared) (H : Hp) (C : Addr) (cl : List (Str × Addr)) (fp : List Addr), PE (X.blk s H scope (compEnvC scope cl C X.env) fp) vx (LE G W0 (evE F iv))) (hs : ∀ x, foldedSetIterable iter X.env x = pure x)
include g hc hi ok hg ht hk he hs
theorem snd_dc : PE X (.DictComp kx vx [⟨tg, iter, ifs, 0⟩] scope pos) (LE G Ω (evE F (.dc ik iv ig ii fs (own.map (·.2))))) :=
  (pe_dcX (by have := g.units; omega) hc g.nd hi ok hg ht hk he hs).via fun σ H Q h => dc_read g h
theorem snd_setDc {i : Nat} {y : Str} {py : Pos} (hy : X.N[i]? = some y) (hyl : X.env.scope.names.lookup y = some .local) (hsw : swapsWith (.DictComp kx vx [⟨tg, iter, ifs, 0⟩] scope pos) (some (.Name y py)) spos.line X.env = pure true) :
    PS X (.Assign [.Name y py] (.DictComp kx vx [⟨tg, iter, ifs, 0⟩] scope pos) spos) (LS G Ω (exS F (.asg (.nm i) (.dc ik iv ig ii fs (own.map (·.2)))))) :=
  (ps_setDcX (by have := g.units; omega) hc g.nd hy hyl hsw hi ok hg ht hk he hs).via fun D σ H ⟨ρ, τ, S, rp, st, po⟩ => by
    unfold exS at po
    refine dc_read g ⟨ρ, τ, S, rp, st, (po.bind st (rel := R G)).imp fun x H1 ⟨ρ1, w, S1, e1, rp1, r1, po1⟩ => ?_⟩
    unfold evG at po1
    exact po1 _ _ _ Ext.refl rp1 ((st.mono e1).put r1)
end
end Rf

set_option Elab.async false
set_option maxRecDepth 100000
set_option maxHeartbeats 1000000
/-! RfItm: for .. in d.items(). -/
namespace Rf
open PySem PySem.Spec PyProof.Rows L2
/-- a name, or a field of a name: reading it changes nothing -/
def pureE : E → Bool
  | .var _ => true
  | .fld (.var _) _ => true
  | _ => false
theorem pureE_ok {F : Ora} {e : E} (h : pureE e = true) {τ : Tau} {S S1 : Store} {w : W} (he : evE F e τ S = .ok w S1) : S1 = S ∧ ∀ {l : Nat} {kvs : List (DKey × W)}, S.get l = some (.dic kvs) → evE F e τ (S.upd l (.lck kvs)) = .ok w (S.upd l (.lck kvs)) := by
  unfold pureE at h
  split at h
  · unfold evE at he ⊢
    split at he
    · cases he
      exact ⟨rfl, fun {l kvs} _ => rfl⟩
    · cases he
  · rename_i i f
    unfold evE evE at he
    cases q : τ[i]? with
    | none => rw [q] at he; cases he
    | some o =>
      cases o with
      | none => rw [q] at he; cases he
      | some x =>
        rw [q] at he
        change Res.of (fldW F.fok S x f) S = .ok w S1 at he
        cases hf : fldW F.fok S x f with
        | none => rw [hf] at he; cases he
        | some y =>
          rw [hf] at he
          obtain ⟨e1, e2⟩ := Res.ok.inj he
          subst e1; subst e2
          refine ⟨rfl, fun {l kvs} hl => ?_⟩
          unfold evE evE
          rw [q]
          change Res.of (fldW F.fok (S.upd l (.lck kvs)) x f) (S.upd l (.lck kvs)) = _
          have e : fldW F.fok (S.upd l (.lck kvs)) x f = some y := by
            unfold fldW at hf ⊢
            split at hf
            · rename_i a
              split at hf
              · rename_i c fs hc
                have ne : a ≠ l := fun z => by rw [z, hl] at hc; cases hc
                rw [Store.get_upd_ne ne, hc]
                exact hf
              · cases hf
            · cases hf
          rw [e]; rfl
  · cases h
theorem pureE_noexc {F : Ora} {e : E} (h : pureE e = true) {τ : Tau} {S S1 : Store} {c : Nat} {fs : List (Nat × W)} : evE F e τ S ≠ .exc c fs S1 := fun q => by
  cases e with
  | var i => unfold evE at q; split at q <;> cases q
  | fld o f =>
    cases o with
    | var i =>
      unfold evE evE at q
      cases q2 : τ[i]? with
      | none => rw [q2] at q; cases q
      | some o =>
        cases o with
        | none => rw [q2] at q; cases q
        | some x =>
          rw [q2] at q
          change Res.of (fldW F.fok S x f) S = _ at q
          cases q3 : fldW F.fok S x f with
          | none => rw [q3] at q; cases q
          | some y => rw [q3] at q; cases q
    | _ => cases h
  | _ => cases h
section
variable {G : GC} {ρ ρ' : List Addr} {H H' : Hp} {S : Store} {l : Nat} {d : Addr} {kvs : List (DKey × W)} {vs : List (Key × V)} {o : Obj}
/-- a dict is let go again -/
theorem unlock_up (h : H' d = some (.frz o (.dK vs))) : Up ρ' H' ρ' (upd H' d (.dK vs)) := ⟨fun _ _ q => q, fun a us q => by
    rw [upd_ne fun z => by rw [z, h] at q; cases q]; exact q, fun a ob us q => by
    rw [upd_ne fun z => by rw [z, h] at q; cases q]; exact q⟩
theorem unlock_rp (rp : Rp G ρ' H' S) (hl : ρ'[l]? = some d) (h : H' d = some (.frz o (.dK vs))) (rk : RK G ρ' H' kvs vs) : Rp G ρ' (upd H' d (.dK vs)) (S.upd l (.dic kvs)) := by
  have up := unlock_up (ρ' := ρ') h
  have hlt : l < S.n := by rw [← rp.len]; exact (List.getElem?_eq_some_iff.mp hl).1
  refine ⟨rp.tabs.off h ⟨fun _ z => (by cases z), fun _ z => (by cases z)⟩, rp.len, rp.nd, fun m hm => ?_, fun m b e => ?_⟩
  · have hm' : S.n ≤ m := hm
    rw [Store.get_upd_ne (by omega)]
    exact rp.dom m hm'
  · by_cases hb : m = l
    · subst hb
      rw [hl] at e; cases e
      exact ⟨_, Store.get_upd_same, vs, upd_same, rk.up up⟩
    · obtain ⟨c2, e1, r2⟩ := rp.cell m b e
      refine ⟨c2, by rw [Store.get_upd_ne hb]; exact e1, r2.up up (upd_ne fun z => hb ?_)⟩
      subst z
      exact nd_ix rp.nd e hl
theorem unlock_ext (h0 : H d = some (.dK vs)) (hd : d ∈ ρ) (e : Ext G ρ (upd H d (.frz o (.dK vs))) ρ' H') : Ext G ρ H ρ' (upd H' d (.dK vs)) := by
  have ne : ∀ a u, H a = some u → u ≠ .dK vs → a ≠ d := fun a u q n z => by rw [z, h0] at q; exact n (Option.some.inj q).symm
  refine ⟨e.pre, fun a ha => ?_, fun a us q => ?_, fun a ob u q => ?_, fun a u q hn nb => ?_, fun a ps q => ?_⟩
  · rcases e.new a ha with z | z
    · exact .inl z
    · by_cases hx : a = d
      · exact .inl (hx ▸ hd)
      · rw [upd_ne hx] at z; exact .inr z
  · have n := ne a _ q (fun z => by cases z)
    rw [upd_ne n]
    exact e.tup a us (by rw [upd_ne n]; exact q)
  · have n := ne a _ q (fun z => by cases z)
    rw [upd_ne n]
    exact e.tpl a ob u (by rw [upd_ne n]; exact q)
  · have n : a ≠ d := fun z => hn (z ▸ hd)
    rw [upd_ne n]
    exact e.keep a u (by rw [upd_ne n]; exact q) hn nb
  · have n := ne a _ q (fun z => by cases z)
    rw [upd_ne n]
    exact e.tab a ps (by rw [upd_ne n]; exact q)
theorem RSt.up {τ : Tau} {σ : L2.St} (u : Up ρ H ρ' H') (h : RSt G ρ H τ σ) : RSt G ρ' H' τ σ := ⟨h.1, fun i w q => by
  obtain ⟨v, h1, h2⟩ := h.2 i w q
  exact ⟨v, h1, h2.up u⟩⟩
end
section
variable {G : GC} {X : Cx} {Ω : WX} (g : GX G Ω X) {F : Ora} {pos : Pos}
include g
theorem snd_frI {elts : List Expr} {kk : Nat} {tpos ap cp : Pos} {ye : Expr} {e : E} {body : List Stmt} {ig : Tg} {ib : Sms} (hc : X.calm = true) (he : PE X ye (LE G Ω (evE F e))) (hp : pureE e = true) (hpo : plainO ye = true) (hline : (ap.endLine == cp.line) = true)
    (hg : PG X (.Tuple elts kk tpos) (LG G AnyP (evG F ig))) (hb : PSs X body (LS G Ω (exB F ib))) :
    PS X (.For (.Tuple elts kk tpos) (.Call (.Attribute ye "items" ap) [] [] cp) body [] pos) (LS G Ω (exS F (.fr ig (.items e) ib))) := by
  refine (ps_lock (ps_for g.po hc (pi_items he (base_plain hpo) hline) hg hb (fun x => rfl))).via fun D σ H ⟨ρ, τ, S, rp, st, po⟩ => ?_
  unfold exS at po
  have hI : ∃ l kvs, evE F e τ S = .ok (.loc l) S ∧ S.get l = some (.dic kvs) ∧ PostO G Ω D ρ H (openO (.items l kvs) (loopJ (.items l kvs) (fun x τ S => (evG F ig x τ S).noX.out τ fun τ S => exB F ib τ S) ((Ju.items l kvs).len S) 0 τ (S.upd l (.lck kvs)))) := by
    unfold evI at po
    cases q : evE F e τ S with
    | stuck => rw [q] at po; exact po.elim
    | exc c fs S1 =>
      exact absurd q (pureE_noexc hp)
    | ok w S1 =>
      obtain ⟨rfl, _⟩ := pureE_ok hp q
      rw [q] at po
      cases w with
      | loc l =>
        change PostO G Ω D ρ H ((match S1.get l with | some (.dic kvs) => Res.ok (Ju.items l kvs) S1 | _ => .stuck).out τ _) at po
        split at po
        · exact ⟨l, _, rfl, by assumption, po⟩
        · exact po.elim
      | _ => exact po.elim
  obtain ⟨l, kvs, hev, hl, po⟩ := hI
  obtain ⟨_, hlock⟩ := pureE_ok hp hev
  have hlt : l < S.n := by
    rcases Nat.lt_or_ge l S.n with z | z
    · exact z
    · rw [rp.dom l z] at hl; cases hl
  obtain ⟨d, hld⟩ : ∃ d, ρ[l]? = some d := ⟨_, List.getElem?_eq_getElem (by rw [rp.len]; exact hlt)⟩
  obtain ⟨c, hc1, vs, hd, rk⟩ : ∃ c, S.get l = some c ∧ ∃ vs, H d = some (.dK vs) ∧ RK G ρ H kvs vs := by
    obtain ⟨c, e1, e2⟩ := rp.cell l d hld
    rw [hl] at e1; cases e1
    obtain ⟨vs, k1, k2⟩ := e2
    exact ⟨_, hl, vs, k1, k2⟩
  have hdm : d ∈ ρ := List.mem_iff_getElem?.mpr ⟨l, hld⟩
  have hfz : ∀ q u, H d ≠ some (.frz q u) := fun q u z => by rw [hd] at z; cases z
  refine ⟨d, .dK vs, hd, trivial, fun od => ?_⟩
  have ex0 := Ext.write (G := G) (o := .frz od (.dK vs)) rp hld hfz
  have rp0 : Rp G ρ (upd H d (.frz od (.dK vs))) (S.upd l (.lck kvs)) := Rp.write rp hld hfz ⟨od, vs, upd_same, rk.mono ex0⟩
  refine ⟨ρ, τ, S.upd l (.lck kvs), rp0, st.mono ex0, ?_⟩
  rw [hlock hl]
  intro ρ1 H1 v e1 rp1 r1
  obtain ⟨a, rfl, ha⟩ := r1.loc_inv
  have had : a = d := by
    have := e1.pre _ _ hld
    rw [ha] at this; exact Option.some.inj this
  subst had
  have hfr := e1.tpl _ _ _ (show upd H a (.frz od (.dK vs)) a = some (.frz od (.dK vs)) from upd_same)
  refine ⟨a, od, vs, rfl, hfr, ?_⟩
  refine fr_loop (G := G) (n0 := (Ju.items l kvs).len S) (S1 := S.upd l (.lck kvs)) (τ := τ) (step := fun x τ S => (evG F ig x τ S).noX.out τ fun τ S => exB F ib τ S) (.its (l := l) hfr ((rk.mono ex0).mono e1)) rp1 ((st.mono ex0).mono e1) ?_ (fun x τ S => rfl)
  have back : ∀ {ρ' : List Addr} {H' : Hp} {S' : Store}, Ext G ρ1 H1 ρ' H' → Rp G ρ' H' S' → H' a = some (.frz od (.dK vs)) ∧ Ext G ρ H ρ' (upd H' a (.dK vs)) ∧ Rp G ρ' (upd H' a (.dK vs)) (S'.upd l (.dic kvs)) ∧ Up ρ' H' ρ' (upd H' a (.dK vs)) := fun {ρ' H' S'} e2 rp2 => by
    have h2 := e2.tpl _ _ _ hfr
    have e12 := e1.trans e2
    exact ⟨h2, unlock_ext hd hdm e12, unlock_rp rp2 (e12.pre _ _ hld) h2 ((rk.mono ex0).mono e12), unlock_up h2⟩
  generalize loopJ (.items l kvs) (fun x τ S => (evG F ig x τ S).noX.out τ fun τ S => exB F ib τ S) ((Ju.items l kvs).len S) 0 τ (S.upd l (.lck kvs)) = o at po ⊢
  cases o with
  | nx τ2 S2 =>
    intro ρ' H' σ' e2 rp2 st2
    obtain ⟨b1, b2, b3, b4⟩ := back e2 rp2
    exact ⟨b1, po _ _ _ b2 b3 (st2.up b4)⟩
  | rt w S2 =>
    intro ρ' H' v e2 rp2 r2
    obtain ⟨b1, b2, b3, b4⟩ := back e2 rp2
    exact ⟨b1, po _ _ _ b2 b3 (r2.up b4)⟩
  | bk τ2 S2 =>
    intro ρ' H' σ' e2 rp2 st2
    obtain ⟨b1, b2, b3, b4⟩ := back e2 rp2
    exact ⟨b1, po _ _ _ b2 b3 (st2.up b4)⟩
  | ct τ2 S2 =>
    intro ρ' H' σ' e2 rp2 st2
    obtain ⟨b1, b2, b3, b4⟩ := back e2 rp2
    exact ⟨b1, po _ _ _ b2 b3 (st2.up b4)⟩
  | exc c fs τ2 S2 => exact po.elim
  | stuck => exact po.elim
end
end Rf

set_option Elab.async false
set_option maxRecDepth 100000
/-! RfFd: an attribute among several targets. -/
namespace Rf
open PySem PySem.Spec PyProof.Rows L2
section
variable {G : GC} {X : Cx} {Ω : WX} (g : GX G Ω X) {F : Ora} {pos : Pos} {P : L2.St → L2.St → Prop}
include g
theorem snd_gfd (ok : GOk G) (hr : ∀ σ, P σ σ) {o : Expr} {f : Nat} {eo : E} (ho : PE X o (LE G Ω (evE F eo))) (hF : F.fok = G.fok) : PG X (.Attribute o (G.fnm f) pos) (LG G P (evG F (.fd eo f))) := by
  refine ⟨fun pins s σ H v u Q I r ⟨ρ, τ, S, w, rp, st, rw', po⟩ => ?_⟩
  unfold evG at po
  show wpAny _ _ (do
    let ov ← holding [u] (eval o X.env)
    standAt pos.atName
    holding [u, ov] (setAttr ov (G.fnm f) u)
    release [u, ov] []) _ _ _
  refine wpAny_bind (wpAny_holding (thn (ho.run pins s σ H _ I ⟨ρ, τ, S, rp, st, (po.bindN (rel2 := R G)).noX⟩) fun ov s1 ⟨x, H1, I1, rx, ρ1, z, S1, e1, rp1, r1, po1⟩ => ?_))
  refine wpAny_bind (wpAny_standAt (wpAny_bind (wpAny_holding ?_)))
  split at po1
  · rename_i S' hset
    unfold setF at hset
    split at hset
    · split at hset
      · rename_i c fs hcell
        split at hset
        · rename_i hk
          cases hset
          obtain ⟨hk1, hk2⟩ := hk
          rw [hF] at hk1
          obtain ⟨k1, k2, k3⟩ := ok.cls _ _ hk1
          obtain ⟨a, rfl, ha, dx, vs, k4, k5⟩ := rp1.cellAt r1 hcell
          have hfz : ∀ q u, H1 a ≠ some (.frz q u) := fun q u z => by rw [k4] at z; cases z
          obtain rfl : ov = Value.ref a := rx
          refine setattr_ok I1 k4 (by rw [g.K]; exact k2) (by rw [g.K]; exact k3) (by rw [← k5.length]; omega) r fun s3 I3 => ?_
          have ex := Ext.write (G := G) (o := .ins (G.cadr c) dx (putF (G.fnm f) v vs)) rp1 ha hfz
          exact wpAny_release (po1 _ _ _ ex (Rp.write rp1 ha hfz ⟨dx, _, upd_same, (k5.put ok k1 (rw'.mono e1)).mono ex⟩) ⟨(st.mono e1).mono ex, hr _⟩ |> fun q => ⟨σ, _, I3, q⟩)
        · cases hset
      · cases hset
    · cases hset
  · exact po1.elim
end
end Rf

set_option Elab.async false
set_option maxRecDepth 100000
/-! RfChk: whether a text is what a term says. -/
namespace Rf
open PySem PySem.Spec PyProof.Rows L2
inductive GI where
  | fn (k : Nat) | cls (c : Nat) | blt | val (k : Nat) | exc (c : Nat) (fs : List Nat)
  deriving DecidableEq
structure Ck where
  N : List Str
  gl : List (Str × GI)
  fnm : Nat → Str
  mnm : Nat → Str
  /-- whether lambdas are made here -/
  lam : Bool := false
abbrev Own := Option (List (Str × NameKind))
def nmOk (x : Str) : Bool := (x != ("__debug__" : Str)) && (x != ("__classdict__" : Str)) && (x != ("__name__" : Str))
def glB (C : Ck) (sc : Scope) (x : Str) (i : GI) : Bool := decide (sc.names.lookup x = some .globalImplicit) && decide (C.gl.lookup x = some i) && nmOk x
def visB (C : Ck) (sc : Scope) (x : Str) (i : Nat) : Bool := decide (C.N[i]? = some x) && (decide (sc.names.lookup x = some .local) || decide (sc.names.lookup x = some .cell) || decide (sc.names.lookup x = some .free)) && nmOk x
def locB (C : Ck) (sc : Scope) (own : Own) (x : Str) (i : Nat) : Bool := decide (C.N[i]? = some x) && (decide (sc.names.lookup x = some .local) || (decide (sc.names.lookup x = some .cell) && (match own with
  | none => true
  | some ns => decide (ns.lookup x = some .cell))))
def bName : B → Str
  | .len => "len" | .int => "int" | .abs => "abs" | .min2 => "min" | .max2 => "max" | .minL => "min" | .maxL => "max" | .sum => "sum" | .any => "any" | .all => "all" | .sorted => "sorted"
  | .tuple => "tuple" | .list => "list" | .set => "set" | .set0 => "set" | .dict => "dict" | .isi => "isinstance" | .str => "str"
def tName (t : String) : Option Str := if t = "int" then some "int" else if t = "str" then some "str" else if t = "bool" then some "bool" else if t = "tuple" then some "tuple" else if t = "list" then some "list" else if t = "dict" then some "dict" else none
/-- what a test reads as any value -/
def plainT : Expr → Bool
  | .UnaryOp .Not _ _ => false
  | .BoolOp _ _ _ => false
  | .IfExp _ _ _ _ => false
  | .Compare _ _ _ _ => false
  | _ => true
def plainI : Expr → Bool
  | .Slice _ _ _ _ => false
  | _ => true
def noSet : Expr → Bool
  | .Set _ _ _ => false
  | _ => true
/-- targets of a comprehension: own names alone -/
def relC (scope sc : Scope) : Scope := relS scope sc
mutual
def okE (C : Ck) (own : Own) (sc : Scope) : E → Expr → Bool
  | .var i, e => match e with
    | .Name x _ => visB C sc x i
    | _ => false
  | .int i, e => match e with
    | .Constant (.int j) _ _ => decide (i = j)
    | _ => false
  | .bl b, e => match e with
    | .Constant (.bool c) _ _ => decide (b = c)
    | _ => false
  | .non, e => match e with
    | .Constant .none _ _ => true
    | _ => false
  | .str z, e => match e with
    | .Constant (.str y) _ _ => decide (z = y)
    | _ => false
  | .glb k, e => match e with
    | .Name x _ => glB C sc x (.val k)
    | _ => false
  | .ty t, e => match e with
    | .Name x _ => decide (tName t = some x) && glB C sc x .blt
    | _ => false
  | .bin o a b, e => match e with
    | .BinOp x p y _ => decide (o = p) && okE C own sc a x && okE C own sc b y
    | _ => false
  | .un o a, e => match e with
    | .UnaryOp p x _ => decide (o = p) && okE C own sc a x
    | _ => false
  | .tst t, e => match t, e with
    | .not (.val a), .UnaryOp .Not x _ => okE C own sc a x
    | _, _ => false
  | .and a b, e => match e with
    | .BoolOp .And (x :: y :: r) p => okE C own sc a x && (match r with
      | [] => okE C own sc b y
      | z :: r' => okE C own sc b (.BoolOp .And (y :: z :: r') p))
    | _ => false
  | .or a b, e => match e with
    | .BoolOp .Or (x :: y :: r) p => okE C own sc a x && (match r with
      | [] => okE C own sc b y
      | z :: r' => okE C own sc b (.BoolOp .Or (y :: z :: r') p))
    | _ => false
  | .cmp o a b, e => match e with
    | .Compare x [p] [y] _ => decide (o = p) && okE C own sc a x && okE C own sc b y && !behindInMarks p y
    | _ => false
  | .chn o o' a b c, e => match e with
    | .Compare x [p, p'] [y, z] _ => decide (o = p) && decide (o' = p') && okE C own sc a x && okE C own sc b y && okE C own sc c z && !lastMarks [p, p'] [y, z]
    | _ => false
  | .ite t a b, e => match e with
    | .IfExp c x y _ => okT C own sc t c && okE C own sc a x && okE C own sc b y
    | _ => false
  | .tup es, e => match e with
    | .Tuple xs _ _ => okEs C own sc es xs
    | _ => false
  | .tpp es, e => match e with
    | .Tuple xs _ _ => okEs C own sc es xs
    | _ => false
  | .lst es, e => match e with
    | .List xs _ => okEs C own sc es xs
    | _ => false
  | .dct ps, e => match ps, e with
    | .nil, .Dict [] [] _ => true
    | .cons k v r, .Dict keys vals _ => decide (keys.length ≤ 15) && okPs C own sc (.cons k v r) keys vals
    | _, _ => false
  | .lc y g i f ow, e => match e with
    | .ListComp x [⟨tg, it, ifs, 0⟩] scope _ => noSet it && okI C own sc i tg it && blkC C.N sc scope (ow.map fun j => (C.N.getD j "", j)) && okG C (some scope.names) (relC scope sc) (some ow) g tg && okTs C (some scope.names) (relC scope sc) f ifs && okE C (some scope.names) (relC scope sc) y x
    | _ => false
  | .dc y z g i f ow, e => match e with
    | .DictComp x w [⟨tg, it, ifs, 0⟩] scope _ => noSet it && okI C own sc i tg it && blkC C.N sc scope (ow.map fun j => (C.N.getD j "", j)) && okG C (some scope.names) (relC scope sc) (some ow) g tg && okTs C (some scope.names) (relC scope sc) f ifs && okE C (some scope.names) (relC scope sc) y x && okE C (some scope.names) (relC scope sc) z w
    | _ => false
  | .ix a i, e => match e with
    | .Subscript x y _ => plainI y && okE C own sc a x && okE C own sc i y
    | _ => false
  | .sl a lo hi, e => match e with
    | .Subscript x (.Slice l h none _) _ => okE C own sc a x && okO C own sc lo l && okO C own sc hi h
    | _ => false
  | .rev a, e => match e with
    | .Subscript x (.Slice none none (some (.UnaryOp .USub (.Constant (.int 1) _ _) _)) _) _ => okE C own sc a x
    | _ => false
  | .call k es pm, e => match pm, e with
    | [], .Call (.Name x _) xs [] _ => glB C sc x (.fn k) && okEs C own sc es xs
    | _, _ => false
  | .mk c es, e => match e with
    | .Call (.Name x _) xs [] _ => glB C sc x (.cls c) && okEs C own sc es xs
    | _ => false
  | .bi b es, e => match e with
    | .Call (.Name x _) xs [] _ => decide (x = bName b) && glB C sc x .blt && !xs.isEmpty && okEs C own sc es xs
    | _ => false
  | .bm m o es, e => match e with
    | .Call (.Attribute y n ap) xs [] cp => decide (n = mNm m) && plainO y && (ap.endLine == cp.line) && decide (xs.length < 20) && okE C own sc o y && okEs C own sc es xs
    | _ => false
  | .om m o es, e => match e with
    | .Call (.Attribute y n ap) xs [] cp => decide (n = C.mnm m) && plainO y && (ap.endLine == cp.line) && decide (xs.length < 20) && okE C own sc o y && okEs C own sc es xs
    | _ => false
  | .fld o f, e => match e with
    | .Attribute y n _ => decide (n = C.fnm f) && plainO y && okE C own sc o y
    | _ => false
  | .lset a, e => match e with
    | .Call (.Name x _) [.Call (.Name y _) [z] [] _] [] _ => decide (x = ("len" : Str)) && decide (y = ("set" : Str)) && glB C sc x .blt && glB C sc y .blt && plainE z && okE C own sc a z
    | _ => false
  | .rg b es, e => match e with
    | .Call (.Name x _) [.Call (.Name y _) xs [] _] [] _ => decide (x = if b then "tuple" else "list") && decide (y = ("range" : Str)) && glB C sc x .blt && glB C sc y .blt && okEs C own sc es xs && (decide (xs.length = 1) || decide (xs.length = 2))
    | _ => false
def okT (C : Ck) (own : Own) (sc : Scope) : T → Expr → Bool
  | .val a, e => match a, e with
    | .cmp o a b, .Compare x [p] [y] _ => decide (o = p) && okE C own sc a x && okE C own sc b y && !behindInMarks p y
    | .chn o o' a b c, .Compare x [p, p'] [y, z] _ => decide (o = p) && decide (o' = p') && okE C own sc a x && okE C own sc b y && okE C own sc c z && !lastMarks [p, p'] [y, z]
    | a, e => plainT e && okE C own sc a e
  | .not t, e => match e with
    | .UnaryOp .Not x _ => okT C own sc t x
    | _ => false
  | .and a b, e => match e with
    | .BoolOp .And (x :: y :: r) p => okT C own sc a x && (match r with
      | [] => okT C own sc b y
      | z :: r' => okT C own sc b (.BoolOp .And (y :: z :: r') p))
    | _ => false
  | .or a b, e => match e with
    | .BoolOp .Or (x :: y :: r) p => okT C own sc a x && (match r with
      | [] => okT C own sc b y
      | z :: r' => okT C own sc b (.BoolOp .Or (y :: z :: r') p))
    | _ => false
def okEs (C : Ck) (own : Own) (sc : Scope) : Es → List Expr → Bool
  | .nil, xs => xs.isEmpty
  | .cons e r, xs => match xs with
    | x :: ys => plainE x && okE C own sc e x && okEs C own sc r ys
    | [] => false
def okPs (C : Ck) (own : Own) (sc : Scope) : Ps → List (Option Expr) → List Expr → Bool
  | .nil, ks, vs => ks.isEmpty && vs.isEmpty
  | .cons k v r, ks, vs => match ks, vs with
    | some x :: ks', y :: vs' => okE C own sc k x && okE C own sc v y && okPs C own sc r ks' vs'
    | _, _ => false
def okO (C : Ck) (own : Own) (sc : Scope) : Es → Option Expr → Bool
  | .nil, x => x.isNone
  | .cons e r, x => match r, x with
    | .nil, some y => okE C own sc e y
    | _, _ => false
def okTs (C : Ck) (own : Own) (sc : Scope) : Ts → List Expr → Bool
  | .nil, xs => xs.isEmpty
  | .cons t r, xs => match r, xs with
    | .nil, [x] => okT C own sc t x
    | _, _ => false
def okI (C : Ck) (own : Own) (sc : Scope) : It → Expr → Expr → Bool
  | .seq e, _, x => okE C own sc e x
  | .rng es, _, x => match x with
    | .Call (.Name y _) xs [] _ => decide (y = ("range" : Str)) && glB C sc y .blt && okEs C own sc es xs && (decide (xs.length = 1) || decide (xs.length = 2))
    | _ => false
  | .enum e, tg, x => match tg, x with
    | .Tuple _ _ _, .Call (.Name y _) [z] [] _ => decide (y = ("enumerate" : Str)) && glB C sc y .blt && plainE z && okE C own sc e z
    | _, _ => false
  | .zip es, tg, x => match es, tg, x with
    | .cons a (.cons b .nil), .Tuple _ _ _, .Call (.Name y _) [z, w] [] _ => decide (y = ("zip" : Str)) && glB C sc y .blt && plainE z && plainE w && okE C own sc a z && okE C own sc b w
    | _, _, _ => false
  | .items _, _, _ => false
def okG (C : Ck) (own : Own) (sc : Scope) (lim : Option (List Nat)) : Tg → Expr → Bool
  | .nm i, e => match e with
    | .Name x _ => locB C sc own x i && (match lim with
      | none => true
      | some l => l.contains i)
    | _ => false
  | .tp ts, e => match e with
    | .Tuple xs _ _ => okGs C own sc lim ts xs
    | _ => false
  | .sub o i, e => match e with
    | .Subscript x y _ => lim.isNone && plainI y && okE C own sc o x && okE C own sc i y
    | _ => false
  | .fd o f, e => match e with
    | .Attribute y n _ => lim.isNone && decide (n = C.fnm f) && okE C own sc o y
    | _ => false
def okGs (C : Ck) (own : Own) (sc : Scope) (lim : Option (List Nat)) : Tgs → List Expr → Bool
  | .nil, xs => xs.isEmpty
  | .cons t r, xs => match xs with
    | x :: ys => plainE x && okG C own sc lim t x && okGs C own sc lim r ys
    | [] => false
end
end Rf

set_option Elab.async false
set_option maxRecDepth 100000
/-! RfFit: a text that is what a term says does what the term does: expressions. -/
namespace Rf
open PySem PySem.Spec PyProof.Rows L2
/-- a place like another one, but for what is wished and what is walked -/
structure Lk (X X' : Cx) : Prop where
  prog : X'.prog = X.prog
  w : X'.w = X.w
  K : X'.K = X.K
  mg : X'.mg = X.mg
  base : X'.base = X.base
  A : X'.A = X.A
theorem Lk.trans {X Y Z : Cx} (a : Lk X Y) (b : Lk Y Z) : Lk X Z := ⟨b.prog.trans a.prog, b.w.trans a.w, b.K.trans a.K, b.mg.trans a.mg, b.base.trans a.base, b.A.trans a.A⟩
/-- an exception class that may be raised: with one field, or with none -/
inductive MkX (G : GC) (X : Cx) (c : Nat) : List Nat → Prop
  | one {f : Nat} : f < G.nf → XfC G.K (G.cadr c) → PySem.W.findIn G.K (.ref (G.cadr c)) (G.fnm f) = some none →
      (∀ X' : Cx, Lk X X' → ∀ (pins : List (Addr × Obj)) (s : Shared) (σ : L2.St) (H : Hp) (Q : XK) (u : Value) (v : V) (E : Value → Shared → Prop), Inv X' pins σ H s → RelV v u → (∀ d, H d = none → Q (.ref (G.cadr c)) (some d) (upd H d (.xd [(G.fnm f, v)]))) →
        wpAny (model X'.prog X'.w) X'.A (call (.ref (G.cadr c)) [u]) (MkP X' pins σ Q) E s) → MkX G X c [f]
  | zero : (∀ X' : Cx, Lk X X' → ∀ (pins : List (Addr × Obj)) (s : Shared) (σ : L2.St) (H : Hp) (Q : XK) (us : List Value) (vs : List V) (E : Value → Shared → Prop), Inv X' pins σ H s → Vals vs us → vs.length ≤ 5 → Q (.ref (G.cadr c)) none H →
        wpAny (model X'.prog X'.w) X'.A (call (.ref (G.cadr c)) us) (MkP X' pins σ Q) E s) → MkX G X c []
theorem MkX.lk {G : GC} {X Y : Cx} {c : Nat} {fs : List Nat} (m : MkX G X c fs) (l : Lk X Y) : MkX G Y c fs := by
  cases m with
  | one h1 h2 h3 h4 => exact .one h1 h2 h3 fun X' l' => h4 X' (l.trans l')
  | zero h1 => exact .zero fun X' l' => h1 X' (l.trans l')
def GlOk (G : GC) (F : Ora) (X : Cx) (x : Str) : GI → Prop
  | .fn k => X.mg x = some (.ref (G.fadr k)) ∧ PySem.W.keepIn X.K (.ref (G.fadr k)) = true ∧ ∀ n, CallOk G X (F.call k) (G.fadr k) n
  | .cls c => X.mg x = some (.ref (G.cadr c)) ∧ ∃ f, Mk X.K (G.cadr c) f ∧ ∀ n, CallOk G X (F.init c) f n
  | .blt => X.mg x = none
  | .val k => ∃ u v, X.mg x = some u ∧ RelV v u ∧ ∀ ρ H, R G ρ H (F.glb k) v
  | .exc c fs => X.mg x = some (.ref (G.cadr c)) ∧ PySem.W.keepIn X.K (.ref (G.cadr c)) = true ∧ MkX G X c fs
structure Fit (C : Ck) (G : GC) (F : Ora) (Ω : WX) (own : Own) (sc : Scope) (X : Cx) : Prop where
  g : GX G Ω X
  ok : GOk G
  calm : X.calm = true
  N : X.N = C.N
  sc : X.env.scope = sc
  fn : ∀ x, (match own with | none => True | some ns => ns.lookup x = some .cell) → X.fn x = true
  gl : ∀ x i, C.gl.lookup x = some i → GlOk G F X x i
  meth : ∀ c m f, F.meth c m = some f → Cls X.K (G.cadr c) ∧ Meth X.K (G.cadr c) (G.mnm m) (G.fadr f) ∧ (∀ i, G.fok c i = true → G.fnm i ≠ G.mnm m) ∧ ∀ n, CallOk G X (F.call f) (G.fadr f) n
  fok : F.fok = G.fok
  sub : F.sub = G.sub
  fnm : C.fnm = G.fnm
  mnm : C.mnm = G.mnm
  fr : own = none → X.stack = X.env :: X.outer ∧ X.env.frame = some X.env.locals
  lam : own = none → C.lam = true → (∃ c P, LamAt G X c P) ∧ Room 5 X.A ∧ ∀ Y : Cx, Y.prog = X.prog → Y.w = X.w → Y.K = X.K → Y.mg = X.mg → Y.base = X.base → (∃ env, Y.A = X.A.deeper env) →
    (∀ x i, C.gl.lookup x = some i → GlOk G F Y x i) ∧ ∀ c m f, F.meth c m = some f → Cls Y.K (G.cadr c) ∧ Meth Y.K (G.cadr c) (G.mnm m) (G.fadr f) ∧ (∀ i, G.fok c i = true → G.fnm i ≠ G.mnm m) ∧ ∀ n, CallOk G Y (F.call f) (G.fadr f) n
theorem CallOk.lk {G : GC} {X Y : Cx} {d : List W → Store → Res W} {f : Addr} {n : Nat} (l : Lk X Y) (c : CallOk G X d f n) : CallOk G Y d f n := ⟨by
  rcases c.ex with h | ⟨lv, fd, ps, ds, dvs, dws, h1, h2, h3, h⟩
  · exact .inl h
  · refine .inr ⟨lv, fd, ps, ds, dvs, dws, ?_, ?_, ?_, h⟩
    · rw [l.prog, l.w, l.K, l.mg, l.base]; exact h1
    · rw [l.A]; exact h2
    · rw [l.K]; exact h3⟩
theorem GlOk.lk {G : GC} {F : Ora} {X Y : Cx} {x : Str} {i : GI} (l : Lk X Y) (q : GlOk G F X x i) : GlOk G F Y x i := by
  cases i with
  | fn k => exact ⟨by rw [l.mg]; exact q.1, by rw [l.K]; exact q.2.1, fun n => (q.2.2 n).lk l⟩
  | cls c => obtain ⟨h1, f', h2, h3⟩ := q; exact ⟨by rw [l.mg]; exact h1, f', by rw [l.K]; exact h2, fun n => (h3 n).lk l⟩
  | blt => show Y.mg x = none; rw [l.mg]; exact q
  | val k => obtain ⟨u, v, h1, h2⟩ := q; exact ⟨u, v, by rw [l.mg]; exact h1, h2⟩
  | exc c fs => exact ⟨by rw [l.mg]; exact q.1, by rw [l.K]; exact q.2.1, q.2.2.lk l⟩
theorem Fit.to {C : Ck} {G : GC} {F : Ora} {Ω Ω' : WX} {own own' : Own} {sc sc' : Scope} {X Y : Cx} (f : Fit C G F Ω own sc X) (l : Lk X Y) (hc : Y.calm = true) (hN : Y.N = X.N) (hsc : Y.env.scope = sc') (hfn : ∀ x, (match own' with | none => True | some ns => ns.lookup x = some .cell) → Y.fn x = true)
    (tk : Takes Y Ω') (po : PassesOwn (model Y.prog Y.w) Y.A Y.env Y.xe) (hfr : own' = none → Y.stack = Y.env :: Y.outer ∧ Y.env.frame = some Y.env.locals) (hle : own' = none → own = none ∧ Y.env = X.env) : Fit C G F Ω' own' sc' Y where
  g := ⟨l.K.trans f.g.K, l.w.trans f.g.w, tk, po, by rw [l.A]; exact f.g.units, by rw [hN]; exact f.g.nd⟩
  ok := f.ok
  calm := hc
  N := hN.trans f.N
  sc := hsc
  fn := hfn
  gl := fun x i h => (f.gl x i h).lk l
  meth := fun c m k h => by
    obtain ⟨h1, h2, hn, h3⟩ := f.meth c m k h
    exact ⟨by rw [l.K]; exact h1, by rw [l.K]; exact h2, hn, fun n => (h3 n).lk l⟩
  fok := f.fok
  sub := f.sub
  fnm := f.fnm
  mnm := f.mnm
  fr := hfr
  lam := fun h hl => by
    obtain ⟨h0, he⟩ := hle h
    obtain ⟨⟨c, P, L⟩, hr, hy⟩ := f.lam h0 hl
    refine ⟨⟨c, P, ⟨by rw [l.base, l.mg]; exact L.tb, by rw [he]; exact L.code, by rw [he]; exact L.mem, by rw [he]; exact L.one⟩⟩, by rw [l.A]; exact hr, fun Z z1 z2 z3 z4 z5 z6 => ?_⟩
    exact hy Z (z1.trans l.prog) (z2.trans l.w) (z3.trans l.K) (z4.trans l.mg) (z5.trans l.base) (by rw [← l.A]; exact z6)
theorem takes_W0 {X : Cx} : Takes X W0 := fun _ _ ⟨_, _, _, _, _, _, _, _, _, _, _, _, _, _, _, _, w⟩ => w.elim
theorem Fit.blk {C : Ck} {G : GC} {F : Ora} {Ω : WX} {own : Own} {sc : Scope} {X : Cx} (f : Fit C G F Ω own sc X) (scope : Scope) (s : Shared) (H : Hp) (cl : List (Str × Addr)) (a : Addr) (fp : List Addr) :
    Fit C G F W0 (some scope.names) (relC scope sc) (X.blk s H scope (compEnvC scope cl a X.env) fp) :=
  f.to ⟨rfl, rfl, rfl, rfl, rfl, rfl⟩ f.calm rfl (by rw [← f.sc]; rfl) (fun x h => by show (scope.names.lookup x == some .cell) = true; rw [show scope.names.lookup x = some .cell from h]; rfl) takes_W0 PassesOwn.never (fun h => by cases h) (fun h => by cases h)
theorem Fit.nox {C : Ck} {G : GC} {F : Ora} {Ω : WX} {own : Own} {sc : Scope} {X : Cx} (f : Fit C G F Ω own sc X) : Fit C G F W0 own sc X.nox :=
  f.to ⟨rfl, rfl, rfl, rfl, rfl, rfl⟩ f.calm rfl f.sc f.fn takes_W0 PassesOwn.never f.fr (fun h => ⟨h, rfl⟩)
theorem Fit.tr {C : Ck} {G : GC} {F : Ora} {Ω W' : WX} {own : Own} {sc : Scope} {X : Cx} (f : Fit C G F Ω own sc X) {pn : List (Addr × Obj)} {xe : Value → Shared → Prop} (tk : Takes (X.tr pn xe) W') (po : PassesOwn (model X.prog X.w) X.A X.env xe) : Fit C G F W' own sc (X.tr pn xe) :=
  f.to ⟨rfl, rfl, rfl, rfl, rfl, rfl⟩ f.calm rfl f.sc f.fn tk po f.fr (fun h => ⟨h, rfl⟩)
theorem noSet_ok {e : Expr} {env : Env} (h : noSet e = true) : ∀ x, foldedSetIterable e env x = pure x := fun x => by
  cases e <;> first | rfl | cases h
theorem plainI_ok {e : Expr} (h : plainI e = true) : PlainIx e := fun o i => by
  cases e <;> first | rfl | cases h
theorem plainT_ok {e : Expr} {env : Env} (h : plainT e = true) : ∀ whole, isTrue e env whole = (do let v ← whole; standAt e.pos; holding [v] (truthy v)) := fun w => by
  cases e with
  | UnaryOp op x p => cases op <;> first | rfl | cases h
  | BoolOp _ _ _ => cases h
  | IfExp _ _ _ _ => cases h
  | Compare _ _ _ _ => cases h
  | _ => rfl
theorem bName_ok (b : B) : bootBuiltins (bName b) = some (biV b) := by
  cases b <;> decide +kernel
theorem tName_ok {t : String} {x : Str} (h : tName t = some x) : bootBuiltins x = some (.type t) := by
  unfold tName at h
  split at h
  · cases h; subst ‹t = _›; exact boot_int
  · split at h
    · cases h; subst ‹t = _›; exact boot_str
    · split at h
      · cases h; subst ‹t = _›; exact boot_bool
      · split at h
        · cases h; subst ‹t = _›; exact boot_tuple
        · split at h
          · cases h; subst ‹t = _›; exact boot_list
          · split at h
            · cases h; subst ‹t = _›; exact boot_dict
            · cases h
section
variable {C : Ck} {G : GC} {F : Ora} {Ω : WX} {own : Own} {sc : Scope} {X : Cx}
theorem nmOk_ok {x : Str} (h : nmOk x = true) : (x == ("__debug__" : Str)) = false ∧ (x == ("__classdict__" : Str)) = false ∧ x ≠ "__name__" := by
  unfold nmOk at h
  simp only [Bool.and_eq_true, bne_iff_ne] at h
  exact ⟨beq_eq_false_iff_ne.mpr h.1.1, beq_eq_false_iff_ne.mpr h.1.2, h.2⟩
theorem Fit.glob (f : Fit C G F Ω own sc X) {x : Str} {i : GI} (h : glB C sc x i = true) : Gl X x ∧ GlOk G F X x i ∧ (x == ("__debug__" : Str)) = false ∧ x ≠ "__name__" := by
  unfold glB at h
  simp only [Bool.and_eq_true, decide_eq_true_eq] at h
  obtain ⟨k1, k2, k3⟩ := nmOk_ok h.2
  exact ⟨by show X.env.scope.names.lookup x = _; rw [f.sc]; exact h.1.1, f.gl x i h.1.2, k1, k3⟩
theorem Fit.vis (f : Fit C G F Ω own sc X) {x : Str} {i : Nat} (h : visB C sc x i = true) : X.N[i]? = some x ∧ Vis X.env.scope x ∧ (x == ("__debug__" : Str)) = false ∧ (x == ("__classdict__" : Str)) = false := by
  unfold visB at h
  simp only [Bool.and_eq_true, Bool.or_eq_true, decide_eq_true_eq] at h
  obtain ⟨k1, k2, k3⟩ := nmOk_ok h.2
  refine ⟨by rw [f.N]; exact h.1.1, ?_, k1, k2⟩
  rw [f.sc]
  rcases h.1.2 with (q | q) | q
  · exact .inl q
  · exact .inr (.inl q)
  · exact .inr (.inr q)
theorem Fit.loc (f : Fit C G F Ω own sc X) {x : Str} {i : Nat} (h : locB C sc own x i = true) : X.N[i]? = some x ∧ Loc X.env.scope x ∧ (X.fn x = true ∨ X.env.scope.names.lookup x = some .local) := by
  unfold locB at h
  simp only [Bool.and_eq_true, Bool.or_eq_true, decide_eq_true_eq] at h
  refine ⟨by rw [f.N]; exact h.1, ?_⟩
  rw [f.sc]
  rcases h.2 with q | ⟨q, r⟩
  · exact ⟨.inl q, .inr q⟩
  · refine ⟨.inr q, .inl (f.fn x ?_)⟩
    cases own with
    | none => trivial
    | some ns => simpa using r
theorem okEs_plain : ∀ {es : Es} {xs : List Expr}, okEs C own sc es xs = true → xs.all plainE = true ∧ xs.length = es.len
  | .nil, xs, h => by
    unfold okEs at h
    cases xs with
    | nil => exact ⟨rfl, rfl⟩
    | cons _ _ => cases h
  | .cons e r, xs, h => by
    unfold okEs at h
    cases xs with
    | nil => cases h
    | cons y ys =>
      simp only [Bool.and_eq_true] at h
      obtain ⟨h1, h2⟩ := okEs_plain h.2
      exact ⟨by rw [List.all_cons, h.1.1, h1]; rfl, by rw [List.length_cons, h2]; rfl⟩
theorem okGs_len : ∀ {ts : Tgs} {xs : List Expr} {lim : Option (List Nat)}, okGs C own sc lim ts xs = true → ∀ {ws : List W} {τ : Tau} {S : Store}, ws.length ≠ xs.length → ∀ τ' S', evGs F ts ws τ S ≠ .ok τ' S'
  | .nil, xs, lim, h, ws, τ, S, hn, τ', S' => by
    unfold okGs at h
    cases xs with
    | cons _ _ => cases h
    | nil =>
      cases ws with
      | nil => exact absurd rfl hn
      | cons _ _ => unfold evGs; intro q; cases q
  | .cons t r, xs, lim, h, ws, τ, S, hn, τ', S' => by
    unfold okGs at h
    cases xs with
    | nil => cases h
    | cons y ys =>
      simp only [Bool.and_eq_true] at h
      cases ws with
      | nil => unfold evGs; intro q; cases q
      | cons w ws =>
        unfold evGs
        intro q
        obtain ⟨τ2, S2, _, q2⟩ := bind_ok q
        exact okGs_len h.2 (fun z => hn (by rw [List.length_cons, List.length_cons, z])) _ _ q2
theorem okGs_each : ∀ {ts : Tgs} {xs : List Expr} {lim : Option (List Nat)} {env : Env}, okGs C own sc lim ts xs = true → (assignEach xs env).length = xs.length ∧ (assignEach xs env).findIdx? (·.1) = none
  | .nil, xs, lim, env, h => by
    unfold okGs at h
    cases xs with
    | cons _ _ => cases h
    | nil => exact ⟨rfl, rfl⟩
  | .cons t r, xs, lim, env, h => by
    unfold okGs at h
    cases xs with
    | nil => cases h
    | cons y ys =>
      simp only [Bool.and_eq_true] at h
      obtain ⟨k1, k2⟩ := okGs_each (env := env) h.2
      have e : assignEach (y :: ys) env = (false, assign y env) :: assignEach ys env := by
        have := h.1.1
        cases y <;> first | rfl | cases this
      rw [e]
      refine ⟨by rw [List.length_cons, List.length_cons, k1], ?_⟩
      rw [List.findIdx?_cons]
      simp [k2]
theorem assign_one {y : Expr} {ys : List Expr} {env : Env} (h : plainE y = true) : (assignEach (y :: ys) env).map (·.2) = assign y env :: (assignEach ys env).map (·.2) := by
  cases y <;> first | rfl | cases h
end
end Rf

set_option Elab.async false
set_option maxRecDepth 100000
set_option maxHeartbeats 1000000
/-! RfFit2: expressions whose text is what their term says. -/
namespace Rf
open PySem PySem.Spec PyProof.Rows L2
variable {C : Ck} {G : GC} {F : Ora}
theorem own_nodup_get {own : List Nat} {N : List Str} : (own.map fun j => (N.getD j "", j)).map (·.2) = own := by
  rw [List.map_map]; exact List.map_id' _
theorem ownP_trans (own : List Nat) : ∀ a b c : L2.St, OwnP own a b → OwnP own b c → OwnP own a c := fun a b c h1 h2 => Eq.trans h2 h1
theorem okPs_all {own : Own} {sc : Scope} : ∀ {ir : Ps} {ks : List (Option Expr)} {vs : List Expr}, okPs C own sc ir ks vs = true → ks.all (·.isSome) = true ∧ ks.length = vs.length ∧ (ir ≠ .nil → ks ≠ [])
  | .nil, ks, vs, h => by
    unfold okPs at h
    cases ks with
    | cons _ _ => cases h
    | nil => cases vs with
      | cons _ _ => cases h
      | nil => exact ⟨rfl, rfl, fun z => absurd rfl z⟩
  | .cons k v r, ks, vs, h => by
    unfold okPs at h
    split at h
    · simp only [Bool.and_eq_true] at h
      obtain ⟨h1, h2, _⟩ := okPs_all h.2
      exact ⟨by rw [List.all_cons, h1]; rfl, by rw [List.length_cons, List.length_cons, h2], fun _ z => by cases z⟩
    · cases h
mutual
theorem okE_snd : ∀ (ir : E) {own : Own} {sc : Scope} {Ω : WX} {X : Cx} {e : Expr}, Fit C G F Ω own sc X → okE C own sc ir e = true → PE X e (LE G Ω (evE F ir))
  | .var i, own, sc, Ω, X, e, f, h => by
    unfold okE at h
    split at h
    · obtain ⟨h1, h2, h3, h4⟩ := f.vis h
      exact snd_var f.g h1 h2 h3 h4
    · cases h
  | .int i, own, sc, Ω, X, e, f, h => by
    unfold okE at h
    split at h
    · cases of_decide_eq_true h; exact snd_int f.g
    · cases h
  | .bl b, own, sc, Ω, X, e, f, h => by
    unfold okE at h
    split at h
    · cases of_decide_eq_true h; exact snd_bl f.g
    · cases h
  | .non, own, sc, Ω, X, e, f, h => by
    unfold okE at h
    split at h
    · exact snd_non f.g
    · cases h
  | .str z, own, sc, Ω, X, e, f, h => by
    unfold okE at h
    split at h
    · cases of_decide_eq_true h; exact snd_str f.g
    · cases h
  | .glb k, own, sc, Ω, X, e, f, h => by
    unfold okE at h
    split at h
    · obtain ⟨h1, ⟨u, v, h2, h3, h4⟩, h5, _⟩ := f.glob h
      exact snd_glb f.g h1 h2 h3 h4 h5
    · cases h
  | .ty t, own, sc, Ω, X, e, f, h => by
    unfold okE at h
    split at h
    · rw [Bool.and_eq_true, decide_eq_true_eq] at h
      obtain ⟨h1, h2, h3, h4⟩ := f.glob h.2
      exact snd_ty f.g h1 h2 (tName_ok h.1) h4 h3
    · cases h
  | .bin o a b, own, sc, Ω, X, e, f, h => by
    unfold okE at h
    split at h
    · simp only [Bool.and_eq_true, decide_eq_true_eq] at h
      cases h.1.1
      exact snd_bin f.g (okE_snd a f h.1.2) (okE_snd b f h.2)
    · cases h
  | .un o a, own, sc, Ω, X, e, f, h => by
    unfold okE at h
    split at h
    · simp only [Bool.and_eq_true, decide_eq_true_eq] at h
      cases h.1
      exact snd_un f.g (okE_snd a f h.2)
    · cases h
  | .tst (.not (.val a)), own, sc, Ω, X, e, f, h => by
    unfold okE at h
    split at h
    · rename_i q
      cases q
      exact snd_notV f.g (okE_snd a f h)
    · cases h
  | .tst (.val _), own, sc, Ω, X, e, f, h => by unfold okE at h; cases h
  | .tst (.and _ _), own, sc, Ω, X, e, f, h => by unfold okE at h; cases h
  | .tst (.or _ _), own, sc, Ω, X, e, f, h => by unfold okE at h; cases h
  | .tst (.not (.not _)), own, sc, Ω, X, e, f, h => by unfold okE at h; cases h
  | .tst (.not (.and _ _)), own, sc, Ω, X, e, f, h => by unfold okE at h; cases h
  | .tst (.not (.or _ _)), own, sc, Ω, X, e, f, h => by unfold okE at h; cases h
  | .and a b, own, sc, Ω, X, e, f, h => by
    unfold okE at h
    split at h
    · simp only [Bool.and_eq_true] at h
      refine snd_and f.g (okE_snd a f h.1) ?_
      split at h
      · exact pe_one (okE_snd b f h.2)
      · exact okE_snd b f h.2
    · cases h
  | .or a b, own, sc, Ω, X, e, f, h => by
    unfold okE at h
    split at h
    · simp only [Bool.and_eq_true] at h
      refine snd_or f.g (okE_snd a f h.1) ?_
      split at h
      · exact pe_one (okE_snd b f h.2)
      · exact okE_snd b f h.2
    · cases h
  | .cmp o a b, own, sc, Ω, X, e, f, h => by
    unfold okE at h
    split at h
    · simp only [Bool.and_eq_true, decide_eq_true_eq, Bool.not_eq_true'] at h
      cases h.1.1.1
      exact snd_cmp f.g (okE_snd a f h.1.1.2) (okE_snd b f h.1.2) h.2
    · cases h
  | .chn o o' a b c, own, sc, Ω, X, e, f, h => by
    unfold okE at h
    split at h
    · simp only [Bool.and_eq_true, decide_eq_true_eq, Bool.not_eq_true'] at h
      cases h.1.1.1.1.1; cases h.1.1.1.1.2
      exact snd_chn f.g (okE_snd a f h.1.1.1.2) (okE_snd b f h.1.1.2) (okE_snd c f h.1.2) h.2
    · cases h
  | .ite t a b, own, sc, Ω, X, e, f, h => by
    unfold okE at h
    split at h
    · simp only [Bool.and_eq_true] at h
      exact snd_ite f.g (okT_snd t f h.1.1) (okE_snd a f h.1.2) (okE_snd b f h.2)
    · cases h
  | .tup es, own, sc, Ω, X, e, f, h => by
    unfold okE at h
    split at h
    · exact snd_tup f.g (okEs_snd es f h)
    · cases h
  | .tpp es, own, sc, Ω, X, e, f, h => by
    unfold okE at h
    split at h
    · exact snd_tpp f.g (okEs_snd es f h)
    · cases h
  | .lst es, own, sc, Ω, X, e, f, h => by
    unfold okE at h
    split at h
    · exact snd_lst f.g (okEs_snd es f h)
    · cases h
  | .dct .nil, own, sc, Ω, X, e, f, h => by
    unfold okE at h
    split at h
    · exact snd_dct0 f.g
    · rename_i q; cases q
    · cases h
  | .dct (.cons k v r), own, sc, Ω, X, e, f, h => by
    unfold okE at h
    split at h
    · rename_i q; cases q
    · rename_i q
      cases q
      simp only [Bool.and_eq_true, decide_eq_true_eq] at h
      obtain ⟨h1, h2⟩ := h
      obtain ⟨k1, k2, k3⟩ := okPs_all h2
      exact snd_dctN f.g (okPs_snd (.cons k v r) f h2) k1 k2 (k3 (fun z => by cases z)) h1
    · cases h
  | .lc y gg i ff ow, own, sc, Ω, X, e, f, h => by
    unfold okE at h
    split at h
    · simp only [Bool.and_eq_true] at h
      rename_i x tg it ifs scope pos
      obtain ⟨⟨⟨⟨⟨h1, h2⟩, h3⟩, h4⟩, h5⟩, h6⟩ := h
      have blk : BlkOk X.N X.env.scope scope (ow.map fun j => (C.N.getD j "", j)) := by
        rw [f.N, f.sc]; exact blkOk_by h3
      have r := snd_lc f.g f.calm (ie := y) (ig := gg) (ii := i) (fs := ff) (pos := pos) (elt := x) (okI_snd i f h2) blk
        (fun s H a cl fp => by rw [own_nodup_get]; exact okG_snd gg (some ow) (ownP_trans ow) (fun _ => rfl) (fun j hj σ v => wipe_put ow σ j (some v) (hj ow rfl)) (fun z => by cases z) (f.blk scope s H cl a fp) h4)
        (fun s H a cl fp => okTs_snd ff (f.blk scope s H cl a fp) h5) (fun s H a cl fp => okE_snd y (f.blk scope s H cl a fp) h6) (noSet_ok h1)
      rw [own_nodup_get] at r
      exact r
    · cases h
  | .dc y z gg i ff ow, own, sc, Ω, X, e, f, h => by
    unfold okE at h
    split at h
    · simp only [Bool.and_eq_true] at h
      rename_i x w tg it ifs scope pos
      obtain ⟨⟨⟨⟨⟨⟨h1, h2⟩, h3⟩, h4⟩, h5⟩, h6⟩, h7⟩ := h
      have blk : BlkOk X.N X.env.scope scope (ow.map fun j => (C.N.getD j "", j)) := by
        rw [f.N, f.sc]; exact blkOk_by h3
      have r := snd_dc f.g f.calm (ik := y) (iv := z) (ig := gg) (ii := i) (fs := ff) (pos := pos) (kx := x) (vx := w) (okI_snd i f h2) blk
        (fun s H a cl fp => by rw [own_nodup_get]; exact okG_snd gg (some ow) (ownP_trans ow) (fun _ => rfl) (fun j hj σ v => wipe_put ow σ j (some v) (hj ow rfl)) (fun z => by cases z) (f.blk scope s H cl a fp) h4)
        (fun s H a cl fp => okTs_snd ff (f.blk scope s H cl a fp) h5) (fun s H a cl fp => okE_snd y (f.blk scope s H cl a fp) h6) (fun s H a cl fp => okE_snd z (f.blk scope s H cl a fp) h7) (noSet_ok h1)
      rw [own_nodup_get] at r
      exact r
    · cases h
  | .ix a i, own, sc, Ω, X, e, f, h => by
    unfold okE at h
    split at h
    · simp only [Bool.and_eq_true] at h
      exact snd_ix f.g (okE_snd a f h.1.2) (okE_snd i f h.2) (plainI_ok h.1.1)
    · cases h
  | .sl a lo hi, own, sc, Ω, X, e, f, h => by
    unfold okE at h
    split at h
    · simp only [Bool.and_eq_true] at h
      exact snd_sl f.g (okE_snd a f h.1.1) (okO_snd lo f h.1.2) (okO_snd hi f h.2)
    · cases h
  | .rev a, own, sc, Ω, X, e, f, h => by
    unfold okE at h
    split at h
    · exact snd_rev f.g (okE_snd a f h)
    · cases h
  | .call k es pm, own, sc, Ω, X, e, f, h => by
    unfold okE at h
    split at h
    · simp only [Bool.and_eq_true] at h
      obtain ⟨h1, ⟨h2, h3, h3'⟩, h4, _⟩ := f.glob h.1
      obtain ⟨h5, h6⟩ := okEs_plain h.2
      exact snd_call f.g h5 h6 (okEs_snd es f h.2) h1 h4 h2 h3 (h3' _)
    · cases h
  | .mk c es, own, sc, Ω, X, e, f, h => by
    unfold okE at h
    split at h
    · simp only [Bool.and_eq_true] at h
      obtain ⟨h1, ⟨h2, f', h3, h3'⟩, h4, _⟩ := f.glob h.1
      obtain ⟨h5, h6⟩ := okEs_plain h.2
      exact snd_mk f.g h5 h6 (okEs_snd es f h.2) h1 h4 h2 h3 (h3' _)
    · cases h
  | .bi b es, own, sc, Ω, X, e, f, h => by
    unfold okE at h
    split at h
    · simp only [Bool.and_eq_true, decide_eq_true_eq, Bool.not_eq_true'] at h
      obtain ⟨h1, h2, h4, h5⟩ := f.glob h.1.1.2
      obtain ⟨h6, h7⟩ := okEs_plain h.2
      refine snd_bi f.g h6 h7 (okEs_snd es f h.2) (fun z => ?_) h1 h4 h2 (by rw [h.1.1.1]; exact bName_ok b) h5 (fun _ => f.calm)
      rw [z] at h; exact absurd h.1.2 (by decide)
    · cases h
  | .bm m o es, own, sc, Ω, X, e, f, h => by
    unfold okE at h
    split at h
    · simp only [Bool.and_eq_true, decide_eq_true_eq] at h
      obtain ⟨⟨⟨⟨⟨h1, h2⟩, h3⟩, h4⟩, h5⟩, h6⟩ := h
      subst h1
      obtain ⟨h7, h8⟩ := okEs_plain h6
      exact snd_bm f.g (okE_snd o f h5) (okEs_snd es f h6) h7 h2 h8 h4 h3
    · cases h
  | .om m o es, own, sc, Ω, X, e, f, h => by
    unfold okE at h
    split at h
    · simp only [Bool.and_eq_true, decide_eq_true_eq] at h
      obtain ⟨⟨⟨⟨⟨h1, h2⟩, h3⟩, h4⟩, h5⟩, h6⟩ := h
      rw [f.mnm] at h1
      subst h1
      obtain ⟨h7, h8⟩ := okEs_plain h6
      exact snd_om f.g f.ok (okE_snd o f h5) (okEs_snd es f h6) h7 h2 h8 h4 h3 f.fok fun c k q => ⟨(f.meth c m k q).1, (f.meth c m k q).2.1, (f.meth c m k q).2.2.1, (f.meth c m k q).2.2.2 _⟩
    · cases h
  | .fld o k, own, sc, Ω, X, e, f, h => by
    unfold okE at h
    split at h
    · simp only [Bool.and_eq_true, decide_eq_true_eq] at h
      obtain ⟨⟨h1, h2⟩, h3⟩ := h
      rw [f.fnm] at h1
      subst h1
      exact snd_fld f.g f.ok (okE_snd o f h3) h2 f.fok
    · cases h
  | .lset a, own, sc, Ω, X, e, f, h => by
    unfold okE at h
    split at h
    · simp only [Bool.and_eq_true, decide_eq_true_eq] at h
      obtain ⟨⟨⟨⟨⟨h1, h2⟩, h3⟩, h4⟩, h5⟩, h6⟩ := h
      subst h1 h2
      obtain ⟨g1, g2, _, _⟩ := f.glob h3
      obtain ⟨g3, g4, _, _⟩ := f.glob h4
      exact snd_lset f.g f.calm g1 g2 g3 g4 (okE_snd a f h6) (star_plain h5)
    · cases h
  | .rg b (.cons a .nil), own, sc, Ω, X, e, f, h => by
    unfold okE at h
    split at h
    · simp only [Bool.and_eq_true, decide_eq_true_eq] at h
      obtain ⟨⟨⟨⟨⟨h1, h2⟩, h3⟩, h4⟩, h5⟩, h6⟩ := h
      subst h2
      obtain ⟨g1, g2, _, _⟩ := f.glob h3
      obtain ⟨g3, g4, _, _⟩ := f.glob h4
      obtain ⟨h7, h8⟩ := okEs_plain h5
      rename_i xs _ _
      obtain ⟨z, rfl⟩ := List.length_eq_one_iff.mp h8
      unfold okEs at h5
      simp only [Bool.and_eq_true] at h5
      cases b with
      | true => rw [if_pos rfl] at h1; subst h1; exact snd_trg1 f.g f.calm g3 g4 g1 g2 (okE_snd a f h5.1.2) h5.1.1
      | false => rw [if_neg (by decide)] at h1; subst h1; exact snd_lrg1 f.g f.calm g3 g4 g1 g2 (okE_snd a f h5.1.2) h5.1.1
    · cases h
  | .rg b (.cons a (.cons c .nil)), own, sc, Ω, X, e, f, h => by
    unfold okE at h
    split at h
    · simp only [Bool.and_eq_true, decide_eq_true_eq] at h
      obtain ⟨⟨⟨⟨⟨h1, h2⟩, h3⟩, h4⟩, h5⟩, h6⟩ := h
      subst h2
      obtain ⟨g1, g2, _, _⟩ := f.glob h3
      obtain ⟨g3, g4, _, _⟩ := f.glob h4
      obtain ⟨h7, h8⟩ := okEs_plain h5
      obtain ⟨z, w, rfl⟩ := two_of h8
      unfold okEs at h5
      simp only [Bool.and_eq_true] at h5
      obtain ⟨k1, k2⟩ := h5
      unfold okEs at k2
      simp only [Bool.and_eq_true] at k2
      cases b with
      | true => rw [if_pos rfl] at h1; subst h1; exact snd_trg2 f.g f.calm g3 g4 g1 g2 (okE_snd a f k1.2) (okE_snd c f k2.1.2) k1.1 k2.1.1
      | false => rw [if_neg (by decide)] at h1; subst h1; exact snd_lrg2 f.g f.calm g3 g4 g1 g2 (okE_snd a f k1.2) (okE_snd c f k2.1.2) k1.1 k2.1.1
    · cases h
  | .rg b .nil, own, sc, Ω, X, e, f, h => by
    unfold okE at h
    split at h
    · simp only [Bool.and_eq_true] at h
      obtain ⟨h7, h8⟩ := okEs_plain h.1.2
      simp [h8, Es.len] at h
    · cases h
  | .rg b (.cons _ (.cons _ (.cons _ r))), own, sc, Ω, X, e, f, h => by
    unfold okE at h
    split at h
    · simp only [Bool.and_eq_true] at h
      obtain ⟨h7, h8⟩ := okEs_plain h.1.2
      simp [h8, Es.len] at h
    · cases h
theorem okT_snd : ∀ (ir : T) {own : Own} {sc : Scope} {Ω : WX} {X : Cx} {e : Expr}, Fit C G F Ω own sc X → okT C own sc ir e = true → PT X e (LT G Ω (evT F ir))
  | .val (.cmp o a b), own, sc, Ω, X, e, f, h => by
    unfold okT at h
    split at h
    · rename_i q
      cases q
      simp only [Bool.and_eq_true, decide_eq_true_eq, Bool.not_eq_true'] at h
      cases h.1.1.1
      exact snd_cmpT f.g (okE_snd a f h.1.1.2) (okE_snd b f h.1.2) h.2
    · rename_i q; cases q
    · simp only [Bool.and_eq_true] at h
      exact snd_val f.g (okE_snd (.cmp o a b) f h.2) (plainT_ok h.1)
  | .val (.chn o o' a b c), own, sc, Ω, X, e, f, h => by
    unfold okT at h
    split at h
    · rename_i q; cases q
    · rename_i q
      cases q
      simp only [Bool.and_eq_true, decide_eq_true_eq, Bool.not_eq_true'] at h
      cases h.1.1.1.1.1; cases h.1.1.1.1.2
      exact snd_chnT f.g (okE_snd a f h.1.1.1.2) (okE_snd b f h.1.1.2) (okE_snd c f h.1.2) h.2
    · simp only [Bool.and_eq_true] at h
      exact snd_val f.g (okE_snd (.chn o o' a b c) f h.2) (plainT_ok h.1)
  | .val (.var i), own, sc, Ω, X, e, f, h => by
    unfold okT at h
    simp only [Bool.and_eq_true] at h
    exact snd_val f.g (okE_snd (.var i) f h.2) (plainT_ok h.1)
  | .val (.int i), own, sc, Ω, X, e, f, h => by
    unfold okT at h
    simp only [Bool.and_eq_true] at h
    exact snd_val f.g (okE_snd (.int i) f h.2) (plainT_ok h.1)
  | .val (.bl b), own, sc, Ω, X, e, f, h => by
    unfold okT at h
    simp only [Bool.and_eq_true] at h
    exact snd_val f.g (okE_snd (.bl b) f h.2) (plainT_ok h.1)
  | .val (.non), own, sc, Ω, X, e, f, h => by
    unfold okT at h
    simp only [Bool.and_eq_true] at h
    exact snd_val f.g (okE_snd (.non) f h.2) (plainT_ok h.1)
  | .val (.str z), own, sc, Ω, X, e, f, h => by
    unfold okT at h
    simp only [Bool.and_eq_true] at h
    exact snd_val f.g (okE_snd (.str z) f h.2) (plainT_ok h.1)
  | .val (.glb k), own, sc, Ω, X, e, f, h => by
    unfold okT at h
    simp only [Bool.and_eq_true] at h
    exact snd_val f.g (okE_snd (.glb k) f h.2) (plainT_ok h.1)
  | .val (.ty t), own, sc, Ω, X, e, f, h => by
    unfold okT at h
    simp only [Bool.and_eq_true] at h
    exact snd_val f.g (okE_snd (.ty t) f h.2) (plainT_ok h.1)
  | .val (.bin o a b), own, sc, Ω, X, e, f, h => by
    unfold okT at h
    simp only [Bool.and_eq_true] at h
    exact snd_val f.g (okE_snd (.bin o a b) f h.2) (plainT_ok h.1)
  | .val (.un o a), own, sc, Ω, X, e, f, h => by
    unfold okT at h
    simp only [Bool.and_eq_true] at h
    exact snd_val f.g (okE_snd (.un o a) f h.2) (plainT_ok h.1)
  | .val (.tst t), own, sc, Ω, X, e, f, h => by
    unfold okT at h
    simp only [Bool.and_eq_true] at h
    exact snd_val f.g (okE_snd (.tst t) f h.2) (plainT_ok h.1)
  | .val (.and a b), own, sc, Ω, X, e, f, h => by
    unfold okT at h
    simp only [Bool.and_eq_true] at h
    exact snd_val f.g (okE_snd (.and a b) f h.2) (plainT_ok h.1)
  | .val (.or a b), own, sc, Ω, X, e, f, h => by
    unfold okT at h
    simp only [Bool.and_eq_true] at h
    exact snd_val f.g (okE_snd (.or a b) f h.2) (plainT_ok h.1)
  | .val (.ite t a b), own, sc, Ω, X, e, f, h => by
    unfold okT at h
    simp only [Bool.and_eq_true] at h
    exact snd_val f.g (okE_snd (.ite t a b) f h.2) (plainT_ok h.1)
  | .val (.tup es), own, sc, Ω, X, e, f, h => by
    unfold okT at h
    simp only [Bool.and_eq_true] at h
    exact snd_val f.g (okE_snd (.tup es) f h.2) (plainT_ok h.1)
  | .val (.tpp es), own, sc, Ω, X, e, f, h => by
    unfold okT at h
    simp only [Bool.and_eq_true] at h
    exact snd_val f.g (okE_snd (.tpp es) f h.2) (plainT_ok h.1)
  | .val (.lst es), own, sc, Ω, X, e, f, h => by
    unfold okT at h
    simp only [Bool.and_eq_true] at h
    exact snd_val f.g (okE_snd (.lst es) f h.2) (plainT_ok h.1)
  | .val (.dct ps), own, sc, Ω, X, e, f, h => by
    unfold okT at h
    simp only [Bool.and_eq_true] at h
    exact snd_val f.g (okE_snd (.dct ps) f h.2) (plainT_ok h.1)
  | .val (.lc y g i ff ow), own, sc, Ω, X, e, f, h => by
    unfold okT at h
    simp only [Bool.and_eq_true] at h
    exact snd_val f.g (okE_snd (.lc y g i ff ow) f h.2) (plainT_ok h.1)
  | .val (.dc k v g i ff ow), own, sc, Ω, X, e, f, h => by
    unfold okT at h
    simp only [Bool.and_eq_true] at h
    exact snd_val f.g (okE_snd (.dc k v g i ff ow) f h.2) (plainT_ok h.1)
  | .val (.ix a i), own, sc, Ω, X, e, f, h => by
    unfold okT at h
    simp only [Bool.and_eq_true] at h
    exact snd_val f.g (okE_snd (.ix a i) f h.2) (plainT_ok h.1)
  | .val (.sl a lo hi), own, sc, Ω, X, e, f, h => by
    unfold okT at h
    simp only [Bool.and_eq_true] at h
    exact snd_val f.g (okE_snd (.sl a lo hi) f h.2) (plainT_ok h.1)
  | .val (.rev a), own, sc, Ω, X, e, f, h => by
    unfold okT at h
    simp only [Bool.and_eq_true] at h
    exact snd_val f.g (okE_snd (.rev a) f h.2) (plainT_ok h.1)
  | .val (.call k es pm), own, sc, Ω, X, e, f, h => by
    unfold okT at h
    simp only [Bool.and_eq_true] at h
    exact snd_val f.g (okE_snd (.call k es pm) f h.2) (plainT_ok h.1)
  | .val (.mk c es), own, sc, Ω, X, e, f, h => by
    unfold okT at h
    simp only [Bool.and_eq_true] at h
    exact snd_val f.g (okE_snd (.mk c es) f h.2) (plainT_ok h.1)
  | .val (.bi b es), own, sc, Ω, X, e, f, h => by
    unfold okT at h
    simp only [Bool.and_eq_true] at h
    exact snd_val f.g (okE_snd (.bi b es) f h.2) (plainT_ok h.1)
  | .val (.bm m o es), own, sc, Ω, X, e, f, h => by
    unfold okT at h
    simp only [Bool.and_eq_true] at h
    exact snd_val f.g (okE_snd (.bm m o es) f h.2) (plainT_ok h.1)
  | .val (.om m o es), own, sc, Ω, X, e, f, h => by
    unfold okT at h
    simp only [Bool.and_eq_true] at h
    exact snd_val f.g (okE_snd (.om m o es) f h.2) (plainT_ok h.1)
  | .val (.fld o k), own, sc, Ω, X, e, f, h => by
    unfold okT at h
    simp only [Bool.and_eq_true] at h
    exact snd_val f.g (okE_snd (.fld o k) f h.2) (plainT_ok h.1)
  | .val (.lset a), own, sc, Ω, X, e, f, h => by
    unfold okT at h
    simp only [Bool.and_eq_true] at h
    exact snd_val f.g (okE_snd (.lset a) f h.2) (plainT_ok h.1)
  | .val (.rg b es), own, sc, Ω, X, e, f, h => by
    unfold okT at h
    simp only [Bool.and_eq_true] at h
    exact snd_val f.g (okE_snd (.rg b es) f h.2) (plainT_ok h.1)
  | .not t, own, sc, Ω, X, e, f, h => by
    unfold okT at h
    split at h
    · exact snd_not f.g (okT_snd t f h)
    · cases h
  | .and a b, own, sc, Ω, X, e, f, h => by
    unfold okT at h
    split at h
    · simp only [Bool.and_eq_true] at h
      refine (snd_andT f.g (okT_snd a f h.1) ?_).pt
      split at h
      · exact pw_and1 (okT_snd b f h.2)
      · exact okT_pw b f h.2
    · cases h
  | .or a b, own, sc, Ω, X, e, f, h => by
    unfold okT at h
    split at h
    · simp only [Bool.and_eq_true] at h
      refine (snd_orT f.g (okT_snd a f h.1) ?_).pt
      split at h
      · exact pw_or1 (okT_snd b f h.2)
      · exact okT_pw b f h.2
    · cases h
/-- a chain of and, or -/
theorem okT_pw : ∀ (ir : T) {own : Own} {sc : Scope} {Ω : WX} {X : Cx} {o : BoolOp} {x y : Expr} {r : List Expr} {p : Pos}, Fit C G F Ω own sc X → okT C own sc ir (.BoolOp o (x :: y :: r) p) = true → PW X (.BoolOp o (x :: y :: r) p) (LT G Ω (evT F ir))
  | .val a, own, sc, Ω, X, o, x, y, r, p, f, h => by
    exfalso
    unfold okT at h
    split at h
    · rename_i q; cases q
    · rename_i q; cases q
    · cases h
  | .not t, own, sc, Ω, X, o, x, y, r, p, f, h => by unfold okT at h; cases h
  | .and a b, own, sc, Ω, X, o, x, y, r, p, f, h => by
    unfold okT at h
    split at h
    · rename_i q
      cases q
      simp only [Bool.and_eq_true] at h
      refine snd_andT f.g (okT_snd a f h.1) ?_
      split at h
      · exact pw_and1 (okT_snd b f h.2)
      · exact okT_pw b f h.2
    · cases h
  | .or a b, own, sc, Ω, X, o, x, y, r, p, f, h => by
    unfold okT at h
    split at h
    · rename_i q
      cases q
      simp only [Bool.and_eq_true] at h
      refine snd_orT f.g (okT_snd a f h.1) ?_
      split at h
      · exact pw_or1 (okT_snd b f h.2)
      · exact okT_pw b f h.2
    · cases h
theorem okEs_snd : ∀ (ir : Es) {own : Own} {sc : Scope} {Ω : WX} {X : Cx} {es : List Expr}, Fit C G F Ω own sc X → okEs C own sc ir es = true → PA X es (LA G Ω (evEs F ir))
  | .nil, own, sc, Ω, X, es, f, h => by
    unfold okEs at h
    cases es with
    | nil => exact snd_nil f.g
    | cons _ _ => cases h
  | .cons e r, own, sc, Ω, X, es, f, h => by
    unfold okEs at h
    cases es with
    | nil => cases h
    | cons y ys =>
      simp only [Bool.and_eq_true] at h
      exact snd_cons f.g (okE_snd e f h.1.2) (okEs_snd r f h.2) (star_plain h.1.1)
theorem okPs_snd : ∀ (ir : Ps) {own : Own} {sc : Scope} {Ω : WX} {X : Cx} {pos : Pos} {ks : List (Option Expr)} {vs : List Expr}, Fit C G F Ω own sc X → okPs C own sc ir ks vs = true → PPs X pos ks vs (trsOf G Ω F ir)
  | .nil, own, sc, Ω, X, pos, ks, vs, f, h => by
    unfold okPs at h
    cases ks with
    | cons _ _ => cases h
    | nil => cases vs with
      | cons _ _ => cases h
      | nil => exact pps_nil
  | .cons k v r, own, sc, Ω, X, pos, ks, vs, f, h => by
    unfold okPs at h
    split at h
    · simp only [Bool.and_eq_true] at h
      exact pps_cons (okE_snd k f h.1.1) (okE_snd v f h.1.2) (okPs_snd r f h.2)
    · cases h
theorem okO_snd : ∀ (ir : Es) {own : Own} {sc : Scope} {Ω : WX} {X : Cx} {e : Option Expr}, Fit C G F Ω own sc X → okO C own sc ir e = true → PO X e (Lf G Ω oq (evP F ir))
  | .nil, own, sc, Ω, X, e, f, h => by
    unfold okO at h
    cases e with
    | none => exact snd_po0 f.g
    | some _ => cases h
  | .cons a .nil, own, sc, Ω, X, e, f, h => by
    unfold okO at h
    cases e with
    | none => cases h
    | some y => exact snd_po1 f.g (okE_snd a f h)
  | .cons a (.cons b r), own, sc, Ω, X, e, f, h => by unfold okO at h; cases h
theorem okTs_snd : ∀ (ir : Ts) {own : Own} {sc : Scope} {Ω : WX} {X : Cx} {es : List Expr}, Fit C G F Ω own sc X → okTs C own sc ir es = true → PTs X es (LT G Ω (evTs F ir))
  | .nil, own, sc, Ω, X, es, f, h => by
    unfold okTs at h
    cases es with
    | nil => exact snd_ts0 f.g
    | cons _ _ => cases h
  | .cons t .nil, own, sc, Ω, X, es, f, h => by
    unfold okTs at h
    split at h
    · exact snd_ts1 f.g (okT_snd t f h)
    · cases h
  | .cons t (.cons b r), own, sc, Ω, X, es, f, h => by unfold okTs at h; cases h
theorem okI_snd : ∀ (ir : Rf.It) {own : Own} {sc : Scope} {Ω : WX} {X : Cx} {tg e : Expr}, Fit C G F Ω own sc X → okI C own sc ir tg e = true → PI X tg e (LI G Ω X.K (evI F ir))
  | .seq a, own, sc, Ω, X, tg, e, f, h => by unfold okI at h; exact snd_iseq f.g (okE_snd a f h)
  | .rng es, own, sc, Ω, X, tg, e, f, h => by
    unfold okI at h
    split at h
    · simp only [Bool.and_eq_true, Bool.or_eq_true, decide_eq_true_eq] at h
      obtain ⟨⟨⟨h1, h2⟩, h3⟩, h4⟩ := h
      subst h1
      obtain ⟨g1, g2, _, _⟩ := f.glob h2
      obtain ⟨h7, h8⟩ := okEs_plain h3
      exact snd_irng f.g g1 g2 (okEs_snd es f h3) h7 h8 h4
    · cases h
  | .enum a, own, sc, Ω, X, tg, e, f, h => by
    unfold okI at h
    split at h
    · simp only [Bool.and_eq_true, decide_eq_true_eq] at h
      obtain ⟨⟨⟨h1, h2⟩, h3⟩, h4⟩ := h
      subst h1
      obtain ⟨g1, g2, _, _⟩ := f.glob h2
      exact snd_ienum f.g g1 g2 (okE_snd a f h4) h3
    · cases h
  | .zip (.cons a (.cons b .nil)), own, sc, Ω, X, tg, e, f, h => by
    unfold okI at h
    split at h
    · rename_i q
      simp only [Bool.and_eq_true, decide_eq_true_eq] at h
      obtain ⟨⟨⟨⟨⟨h1, h2⟩, h3⟩, h4⟩, h5⟩, h6⟩ := h
      subst h1
      obtain ⟨g1, g2, _, _⟩ := f.glob h2
      cases q
      exact snd_izip f.g g1 g2 (okE_snd a f h5) (okE_snd b f h6) h3 h4
    · cases h
  | .zip .nil, own, sc, Ω, X, tg, e, f, h => by unfold okI at h; cases h
  | .zip (.cons _ .nil), own, sc, Ω, X, tg, e, f, h => by unfold okI at h; cases h
  | .zip (.cons _ (.cons _ (.cons _ _))), own, sc, Ω, X, tg, e, f, h => by unfold okI at h; cases h
  | .items _, own, sc, Ω, X, tg, e, f, h => by unfold okI at h; cases h
theorem okG_snd : ∀ (ir : Tg) {own : Own} {sc : Scope} {Ω : WX} {X : Cx} {e : Expr} (lim : Option (List Nat)) {P : L2.St → L2.St → Prop} (hT : ∀ a b c, P a b → P b c → P a c) (hr : ∀ a, P a a) (hl : ∀ i, (∀ l, lim = some l → i ∈ l) → ∀ σ v, P σ (σ.set i (some v)))
    (hn : lim = none → ∀ a b, P a b), Fit C G F Ω own sc X → okG C own sc lim ir e = true → PG X e (LG G P (evG F ir))
  | .nm i, own, sc, Ω, X, e, lim, P, hT, hr, hl, hn, f, h => by
    unfold okG at h
    split at h
    · simp only [Bool.and_eq_true] at h
      obtain ⟨h1, h2, h3⟩ := f.loc h.1
      refine snd_gnm f.g h1 h2 h3 (hl i fun l e => ?_)
      subst e
      simpa using h.2
    · cases h
  | .tp ts, own, sc, Ω, X, e, lim, P, hT, hr, hl, hn, f, h => by
    unfold okG at h
    split at h
    · rename_i xs _ _
      obtain ⟨k1, k2⟩ := okGs_each (env := X.env) h
      exact snd_gtp f.g f.calm (okGs_snd ts lim hT hr hl hn f h) k1 k2 (okGs_len h)
    · cases h
  | .sub o i, own, sc, Ω, X, e, lim, P, hT, hr, hl, hn, f, h => by
    unfold okG at h
    split at h
    · simp only [Bool.and_eq_true] at h
      obtain ⟨⟨⟨h1, h2⟩, h3⟩, h4⟩ := h
      refine snd_gsub f.g hr (okE_snd o f h3) (okE_snd i f h4) fun v => ?_
      rename_i y _
      cases y <;> first | rfl | cases h2
    · cases h
  | .fd o k, own, sc, Ω, X, e, lim, P, hT, hr, hl, hn, f, h => by
    unfold okG at h
    split at h
    · simp only [Bool.and_eq_true, decide_eq_true_eq] at h
      obtain ⟨⟨h1, h2⟩, h3⟩ := h
      rw [f.fnm] at h2
      subst h2
      exact snd_gfd f.g f.ok hr (okE_snd o f h3) f.fok
    · cases h
theorem okGs_snd : ∀ (ir : Tgs) {own : Own} {sc : Scope} {Ω : WX} {X : Cx} {es : List Expr} (lim : Option (List Nat)) {P : L2.St → L2.St → Prop} (hT : ∀ a b c, P a b → P b c → P a c) (hr : ∀ a, P a a) (hl : ∀ i, (∀ l, lim = some l → i ∈ l) → ∀ σ v, P σ (σ.set i (some v)))
    (hn : lim = none → ∀ a b, P a b), Fit C G F Ω own sc X → okGs C own sc lim ir es = true → PGs X es (LGs G P (evGs F ir))
  | .nil, own, sc, Ω, X, es, lim, P, hT, hr, hl, hn, f, h => by
    unfold okGs at h
    cases es with
    | nil => exact snd_gs0 f.g hr
    | cons _ _ => cases h
  | .cons t r, own, sc, Ω, X, es, lim, P, hT, hr, hl, hn, f, h => by
    unfold okGs at h
    cases es with
    | nil => cases h
    | cons y ys =>
      simp only [Bool.and_eq_true] at h
      exact snd_gs1 f.g hT (okG_snd t lim hT hr hl hn f h.1.2) (okGs_snd r lim hT hr hl hn f h.2) (assign_one h.1.1)
end
end Rf

set_option Elab.async false
set_option maxRecDepth 100000
set_option maxHeartbeats 1000000
/-! RfLam3: lambdas checked are sound. -/
namespace Rf
open PySem PySem.Spec PyProof.Rows L2
def lamPB : Arguments → Bool
  | ⟨[], [], none, [], [], none, []⟩ => true
  | ⟨[], [_], none, [], [], none, [.Constant (.int _) _ _]⟩ => true
  | _ => false
theorem lamPB_ok {p : Arguments} (h : lamPB p = true) : LamP p (p.args.map (·.arg)) := by
  unfold lamPB at h
  split at h
  · exact .zero
  · rename_i a _ _ _
    obtain ⟨a, an, ap⟩ := a
    exact .one
  · cases h
def lamNB (N : List Str) (sc scope : Scope) (xs : List Str) : Bool :=
  decide (scope.kind = .function) && !scope.isCoroutine && !scope.isGenerator && scope.names.all (fun y => !decide (y.2 = .cell) && (!decide (y.2 = .local) || !N.contains y.1) && (!decide (y.2 = .free) || decide (sc.names.lookup y.1 = some .cell) || decide (sc.names.lookup y.1 = some .free))) && xs.all fun x => decide (scope.names.lookup x = some .local)
theorem lamNB_ok {N : List Str} {sc scope : Scope} {xs : List Str} (h : lamNB N sc scope xs = true) : LamN N sc scope xs := by
  unfold lamNB at h
  simp only [Bool.and_eq_true, Bool.or_eq_true, Bool.not_eq_true', decide_eq_true_eq, decide_eq_false_iff_not, List.all_eq_true] at h
  obtain ⟨⟨⟨⟨h1, h2⟩, h3⟩, h4⟩, h5⟩ := h
  refine ⟨h1, h2, h3, fun y hy => (h4 y hy).1.1, fun y hy hm => ?_, h5, fun y hy e => ?_⟩
  · rcases (h4 _ (PySem.mem_of_lookup hy)).1.2 with z | z
    · exact absurd rfl z
    · rw [List.contains_eq_mem] at z
      exact absurd hm (by simpa using z)
  · rcases (h4 y hy).2 with (z | z) | z
    · exact absurd e z
    · exact .inl z
    · exact .inr z
def okLs (C : Ck) (sc : Scope) : Es → List Expr → Bool
  | .nil, xs => xs.isEmpty
  | .cons e r, xs => match xs with
    | .Lambda params body scope _ :: ys => lamPB params && lamNB C.N sc scope (params.args.map (·.arg)) && okE { C with lam := false } (some []) scope e body && okLs C sc r ys
    | _ => false
theorem okLs_ds {C : Ck} {sc : Scope} : ∀ {es : Es} {xs : List Expr}, okLs C sc es xs = true → ∃ ds : List LD, xs = ds.map LD.txt ∧ es = esOf ds ∧ ∀ d ∈ ds, LamP d.params d.xs ∧ LamN C.N sc d.scope d.xs ∧ okE { C with lam := false } (some []) d.scope d.e d.body = true
  | .nil, xs, h => by
    unfold okLs at h
    cases xs with
    | nil => exact ⟨[], rfl, rfl, fun d hd => by cases hd⟩
    | cons _ _ => cases h
  | .cons e r, xs, h => by
    unfold okLs at h
    split at h
    · rename_i params body scope pos ys
      simp only [Bool.and_eq_true] at h
      obtain ⟨ds, h1, h2, h3⟩ := okLs_ds h.2
      refine ⟨⟨params, body, scope, pos, e⟩ :: ds, by rw [h1]; rfl, by rw [h2]; rfl, fun d hd => ?_⟩
      rcases List.mem_cons.mp hd with rfl | hd
      · exact ⟨lamPB_ok h.1.1.1, lamNB_ok h.1.1.2, h.1.2⟩
      · exact h3 d hd
    · cases h
section
variable {C : Ck} {G : GC} {F : Ora} {Ω : WX} {sc : Scope} {X : Cx}
/-- the place of a lambda's body -/
theorem Fit.lamb (f : Fit C G F Ω none sc X) (hl : C.lam = true) {d : LD} {σ : L2.St} {W : WX} {pn : List (Addr × Obj)} {xe : Value → Shared → Prop} {s : Shared} {H : Hp} {fa c' : Addr} (hr : Room 4 (X.A.deeper (LamX.lamEnv (X.tr pn xe) d.scope s.heap.objs.size fa c')))
    (tk : Takes (LamX.lamCx (X.tr pn xe) X.A X.stack s H (WE W σ) d.scope fa c') (wL W σ)) : Fit { C with lam := false } G F (wL W σ) (some []) d.scope (LamX.lamCx (X.tr pn xe) X.A X.stack s H (WE W σ) d.scope fa c') := by
  obtain ⟨_, _, hy⟩ := f.lam rfl hl
  obtain ⟨y1, y2⟩ := hy (LamX.lamCx (X.tr pn xe) X.A X.stack s H (WE W σ) d.scope fa c') rfl rfl rfl rfl rfl ⟨_, rfl⟩
  refine ⟨⟨f.g.K, f.g.w, tk, passes_of rfl, ?_, f.g.nd⟩, f.ok, rfl, f.N, rfl, fun x h => (by cases h), y1, y2, f.fok, f.sub, f.fnm, f.mnm, fun h => (by cases h), fun h => (by cases h)⟩
  have := hr.un
  show (X.A.deeper (LamX.lamEnv (X.tr pn xe) d.scope s.heap.objs.size fa c')).units + 80 < cLine
  omega
end
end Rf

set_option Elab.async false
set_option maxRecDepth 100000
set_option maxHeartbeats 1000000
/-! RfRse: raise; suites that are what their term says. -/
namespace Rf
open PySem PySem.Spec PyProof.Rows L2
theorem len_one {α : Type} {l : List α} (h : l.length = 1) : ∃ a, l = [a] := List.length_eq_one_iff.mp h
section
variable {G : GC} {X : Cx} {Ω : WX} (g : GX G Ω X) {F : Ora} {pos p2 p : Pos} {x : Str}
include g
theorem snd_rse (hc : X.calm = true) {c : Nat} {fs : List Nat} {es : List Expr} {ies : Es} (hg : Gl X x) (hdb : (x == ("__debug__" : Str)) = false) (hm : X.mg x = some (.ref (G.cadr c))) (hk : PySem.W.keepIn X.K (.ref (G.cadr c)) = true) (m : MkX G X c fs)
    (ha : PA X es (LA G Ω (evEs F ies))) (hp : es.all plainE = true) (hl : es.length = ies.len) (hn : es.length ≤ 5) (h1 : fs = [] ∨ es.length = fs.length) : PS X (.Raise (some (.Call (.Name x p) es [] pos)) none p2) (LS G Ω (exS F (.rse c fs ies))) := by
  have mk : PMk X (.Call (.Name x p) es [] pos) fun σ H Q => LA G Ω (evEs F ies) σ H fun vs H1 => vs.length = es.length ∧ ((fs = [] → Q (.ref (G.cadr c)) none H1) ∧ ∀ f v, fs = [f] → vs = [v] → ∀ d, H1 d = none → Q (.ref (G.cadr c)) (some d) (upd H1 d (.xd [(G.fnm f, v)]))) := by
    intro pins s σ H Q I h
    refine wpAny_Call_Name_kw (ld_glob I hg hm ?_ hdb)
    have fin : ∀ {us : List Value} {vs : List V} {H1 : Hp} {s1 : Shared}, Inv X pins σ H1 s1 → Vals vs us → vs.length = es.length → ((fs = [] → Q (.ref (G.cadr c)) none H1) ∧ ∀ f v, fs = [f] → vs = [v] → ∀ d, H1 d = none → Q (.ref (G.cadr c)) (some d) (upd H1 d (.xd [(G.fnm f, v)]))) →
        wpAny (model X.prog X.w) X.A (call (.ref (G.cadr c)) us) (MkP X pins σ Q) X.xe s1 := fun {us vs H1 s1} I1 r hlen q => by
      cases m with
      | @one f k1 k2 k3 k4 =>
        have e1 : vs.length = 1 := by
          rcases h1 with z | z
          · cases z
          · rw [hlen, z]; rfl
        obtain ⟨v, rfl⟩ := len_one e1
        cases r with
        | cons rv rr =>
          cases rr
          exact k4 X ⟨rfl, rfl, rfl, rfl, rfl, rfl⟩ pins s1 σ H1 Q _ v X.xe I1 rv (q.2 f v rfl rfl)
      | zero k => exact k X ⟨rfl, rfl, rfl, rfl, rfl, rfl⟩ pins s1 σ H1 Q us vs X.xe I1 r (by omega) (q.1 rfl)
    cases es with
    | nil =>
      refine PySem.W.callWith_K0 I.kIn hk ?_
      have q := ha.run pos pins s σ H _ I h
      have q2 : wpAny (model X.prog X.w) X.A (pure [] : Sem (List Value)) (AP X pins σ _) X.xe s := q
      cases ies with
      | cons _ _ => cases hl
      | nil =>
        obtain ⟨ρ, τ, S, rp, st, po⟩ := h
        unfold evEs at po
        obtain ⟨e1, e2⟩ := po _ _ _ Ext.refl rp .nil
        exact fin (us := []) (vs := []) I .nil e1 e2
    | cons e es =>
      rw [List.all_cons, Bool.and_eq_true] at hp
      refine PySem.W.callWith_K (h₀ := X.base) I.ok.mod.kin hk (thn (ha.run pos pins s σ H _ I h) fun us s1 ⟨vs, H1, I1, r, q1, q2⟩ => ⟨I1.kIn, ?_⟩) (star_plain hp.1) (stars_plain hp.2)
      exact fin I1 r q1 q2
  refine (show PS X _ _ from ps_raise hc g.tk mk).via fun D σ H ⟨ρ, τ, S, rp, st, po⟩ => ⟨ρ, τ, S, rp, st, ?_⟩
  unfold exS at po
  cases hd : evEs F ies τ S with
  | exc c2 f2 S2 =>
    rw [hd] at po
    exact fun ρ1 H1 d e1 rp1 xx => po _ _ _ _ e1 rp1 (st.mono e1) xx
  | stuck => rw [hd] at po; exact po.elim
  | ok ws S1 =>
    rw [hd] at po
    have po : PostO G Ω D ρ H (.exc c (fs.zip ws) τ S1) := po
    have hw := (evEs_len hd).trans hl.symm
    intro ρ1 H1 vs e1 rp1 rs
    refine ⟨rs.length.symm.trans hw, fun z => ?_, fun f v z1 z2 d hd0 => ?_⟩
    · subst z
      exact po _ _ _ _ e1 rp1 (st.mono e1) ⟨.inl rfl, .inl rfl⟩
    · subst z1; subst z2
      cases rs with
      | cons rv rr =>
        cases rr
        cases m with
        | one k1 k2 k3 k4 =>
          have e2 := Ext.aside (G := G) (o := HO.xd [(G.fnm f, v)]) rp1 hd0
          have dn : d ∉ ρ1 := fun z => by obtain ⟨o, q, _⟩ := rp1.in_some z; rw [hd0] at q; cases q
          refine po _ _ _ _ (e1.trans e2) (rp1.aside hd0) ((st.mono e1).mono e2) ⟨.inr ⟨k2, fun q hq => ?_⟩, .inr ⟨d, _, rfl, upd_same, dn, .cons k1 (rv.mono e2) .nil⟩⟩
          rw [List.zip_cons_cons, List.zip_nil_left] at hq
          rw [List.mem_singleton.mp hq]
          exact k3
end
/-! ### suites -/
mutual
def okU (C : Ck) (sc : Scope) (nm : Option Nat) : U → Expr → Bool
  | .non, e => match e with
    | .Constant .none _ _ => true
    | _ => false
  | .bl b, e => match e with
    | .Constant (.bool c) _ _ => decide (b = c)
    | _ => false
  | .int i, e => match e with
    | .Constant (.int j) _ _ => decide (i = j)
    | _ => false
  | .str z, e => match e with
    | .Constant (.str y) _ _ => decide (z = y)
    | _ => false
  | .var i, e => match e with
    | .Name x _ => visB C sc x i
    | _ => false
  | .fld f, e => match nm, e with
    | some i, .Attribute (.Name x _) n _ => decide (n = C.fnm f) && visB C sc x i
    | _, _ => false
  | .tup us, e => match e with
    | .Tuple xs _ _ => okUs C sc nm us xs
    | _ => false
  | .lst us, e => match e with
    | .List xs _ => okUs C sc nm us xs
    | _ => false
def okUs (C : Ck) (sc : Scope) (nm : Option Nat) : Us → List Expr → Bool
  | .nil, xs => xs.isEmpty
  | .cons u r, xs => match xs with
    | x :: ys => plainE x && okU C sc nm u x && okUs C sc nm r ys
    | [] => false
end
def compB : Expr → Bool
  | .ListComp _ _ _ _ => true
  | .SetComp _ _ _ _ => true
  | .DictComp _ _ _ _ _ => true
  | _ => false
def okSu (C : Ck) (sc : Scope) (nm : Option Nat) : Su → Stmt → Bool
  | .asg i u, st => match st with
    | .Assign [.Name z _] e _ => !compB e && locB C sc none z i && okU C sc nm u e
    | _ => false
  | .app i u, st => match st with
    | .Expr (.Call (.Attribute (.Name x _) n ap) [e] [] cp) _ => decide (n = ("append" : Str)) && (ap.endLine == cp.line) && plainE e && visB C sc x i && okU C sc nm u e
    | _ => false
  | .ret u, st => match st with
    | .Return (some e) _ => okU C sc nm u e
    | _ => false
  | .pas, st => match st with
    | .Pass _ => true
    | _ => false
def okH (C : Ck) (sc : Scope) : Hs → List ExceptHandler → Bool
  | .nil, hs => hs.isEmpty
  | .cons c nm u r, hs => match hs with
    | .ExceptHandler (some (.Name x _)) nmS [b] _ :: hs' => (match C.gl.lookup x with
        | some (.exc c' fs) => decide (c' = c) && glB C sc x (.exc c' fs)
        | _ => false) && (match nm, nmS with
        | none, none => true
        | some i, some n => decide (C.N[i]? = some n) && decide (sc.names.lookup n = some .local)
        | _, _ => false) && okSu C sc nm u b && okH C sc r hs'
    | _ => false
section
variable {C : Ck} {G : GC} {F : Ora} {Ω : WX} {sc : Scope} {X : Cx} {a : Addr} {oe : Obj} {cls : Value} {d : Option Addr} {pn : List (Addr × Obj)} {nm : Option Nat}
mutual
theorem okU_snd (f : Fit C G F Ω none sc X) (hz : Zc cls d oe) (hf : ∃ vs, oe.data = .fields vs) : ∀ (u : U) {e : Expr}, okU C sc nm u e = true → PE (X.suite a ((a, oe) :: pn)) e (LUe G a cls d nm u)
  | .non, e, h => by
    unfold okU at h
    split at h
    · exact u_con (pe_non (X := X.suite a ((a, oe) :: pn))) (fun _ _ => .non) fun _ _ _ => by unfold evU; rfl
    · cases h
  | .bl b, e, h => by
    unfold okU at h
    split at h
    · cases of_decide_eq_true h
      exact u_con (pe_bl (X := X.suite a ((a, oe) :: pn))) (fun _ _ => .bl) fun _ _ _ => by unfold evU; rfl
    · cases h
  | .int i, e, h => by
    unfold okU at h
    split at h
    · cases of_decide_eq_true h
      exact u_con (pe_int (X := X.suite a ((a, oe) :: pn))) (fun _ _ => .int) fun _ _ _ => by unfold evU; rfl
    · cases h
  | .str z, e, h => by
    unfold okU at h
    split at h
    · cases of_decide_eq_true h
      exact u_con (pe_str (X := X.suite a ((a, oe) :: pn))) (fun _ _ => .str) fun _ _ _ => by unfold evU; rfl
    · cases h
  | .var i, e, h => by
    unfold okU at h
    split at h
    · obtain ⟨h1, h2, h3, h4⟩ := f.vis h
      exact u_var h1 h2 h3 h4
    · cases h
  | .fld k, e, h => by
    unfold okU at h
    split at h
    · simp only [Bool.and_eq_true, decide_eq_true_eq] at h
      obtain ⟨hn, hv⟩ := h
      obtain ⟨h1, h2, h3, h4⟩ := f.vis hv
      rw [f.fnm] at hn
      subst hn
      exact u_fld f.g.K f.ok h1 h2 h3 h4 hz hf
    · cases h
  | .tup us, e, h => by
    unfold okU at h
    split at h
    · exact u_tup (okUs_snd f hz hf us h)
    · cases h
  | .lst us, e, h => by
    unfold okU at h
    split at h
    · exact u_lst (okUs_snd f hz hf us h)
    · cases h
theorem okUs_snd (f : Fit C G F Ω none sc X) (hz : Zc cls d oe) (hf : ∃ vs, oe.data = .fields vs) : ∀ (us : Us) {es : List Expr}, okUs C sc nm us es = true → PA (X.suite a ((a, oe) :: pn)) es (LUs G a cls d nm us)
  | .nil, es, h => by
    unfold okUs at h
    cases es with
    | nil => exact u_nil
    | cons _ _ => cases h
  | .cons u r, es, h => by
    unfold okUs at h
    cases es with
    | nil => cases h
    | cons y ys =>
      simp only [Bool.and_eq_true] at h
      exact u_cons (okU_snd f hz hf u h.1.2) (okUs_snd f hz hf r h.2) (star_plain h.1.1)
end
theorem okSu_snd (f : Fit C G F Ω none sc X) (hk : sc.kind = .function) (hz : Zc cls d oe) (hf : ∃ vs, oe.data = .fields vs) : ∀ (u : Su) {st : Stmt}, okSu C sc nm u st = true → PS (X.suite a ((a, oe) :: pn)) st (LUS G a cls d nm u)
  | .asg i u, st, h => by
    dsimp only [okSu] at h
    split at h
    · rename_i z pz e pos
      simp only [Bool.and_eq_true, Bool.not_eq_true'] at h
      obtain ⟨⟨h1, h2⟩, h3⟩ := h
      obtain ⟨k1, k2, k3⟩ := f.loc h2
      refine us_asg f.g.nd k1 k2 k3 (okU_snd f hz hf u h3) ?_ ?_ rfl
      · show swapsWith e (some (.Name z pz)) pos.line X.env = pure false
        cases e <;> first | rfl | cases h1
      · cases e <;> rfl
    · cases h
  | .app i u, st, h => by
    dsimp only [okSu] at h
    split at h
    · simp only [Bool.and_eq_true, decide_eq_true_eq] at h
      obtain ⟨⟨⟨⟨h1, h2⟩, h3⟩, h4⟩, h5⟩ := h
      obtain ⟨k1, k2, k3, k4⟩ := f.vis h4
      subst h1
      exact us_app f.g.K f.g.units k1 k2 k3 k4 (okU_snd f hz hf u h5) h3 h2
    · cases h
  | .ret u, st, h => by
    dsimp only [okSu] at h
    split at h
    · exact us_ret (okU_snd f hz hf u h)
    · cases h
  | .pas, st, h => by
    dsimp only [okSu] at h
    split at h
    · exact us_pas
    · cases h
theorem okH_snd (f : Fit C G F Ω none sc X) (hk : sc.kind = .function) : ∀ (hs : Hs) {hds : List ExceptHandler}, okH C sc hs hds = true → HdOk G X hs hds
  | .nil, hds, h => by
    unfold okH at h
    cases hds with
    | nil => exact .nil
    | cons _ _ => cases h
  | .cons c nm u r, hds, h => by
    unfold okH at h
    split at h
    · rename_i x px nmS b pb hds' 
      simp only [Bool.and_eq_true] at h
      obtain ⟨⟨⟨h1, h2⟩, h3⟩, h4⟩ := h
      refine .cons ?_ ?_ (fun a oe cls d pn hz hf => pss_one (okSu_snd f hk hz hf u h3)) (okH_snd f hk r h4)
      · split at h1
        · simp only [Bool.and_eq_true, decide_eq_true_eq] at h1
          obtain ⟨e1, e2⟩ := h1
          subst e1
          obtain ⟨k1, k2, k3, k4⟩ := f.glob e2
          exact ⟨k1, k3, .inl k2.1⟩
        · cases h1
      · split at h2
        · exact .none
        · simp only [Bool.and_eq_true, decide_eq_true_eq] at h2
          exact .some (by rw [f.N]; exact h2.1) (by show X.env.scope.names.lookup _ = _; rw [f.sc]; exact h2.2)
        · cases h2
    · cases h
end
end Rf

set_option Elab.async false
set_option maxRecDepth 100000
set_option maxHeartbeats 1000000
/-! RfFit3: statements whose text is what their term says. -/
namespace Rf
open PySem PySem.Spec PyProof.Rows L2
def isComp : Expr → Bool
  | .ListComp _ _ _ _ => true
  | .SetComp _ _ _ _ => true
  | .DictComp _ _ _ _ _ => true
  | _ => false
def isTupE : Expr → Bool
  | .Tuple _ _ _ => true
  | .List _ _ => true
  | _ => false
/-- whether a name takes a comprehension's place on one line -/
def swB (sc : Scope) (e : Expr) (t : Str) (p : Pos) : Bool := match e with
  | .ListComp _ _ s q => decide (sc.names.lookup t = some .local) && (p.line == q.line) && !(s.names.any fun (n, k) => n == t && (k == .local || k == .cell))
  | .SetComp _ _ s q => decide (sc.names.lookup t = some .local) && (p.line == q.line) && !(s.names.any fun (n, k) => n == t && (k == .local || k == .cell))
  | .DictComp _ _ _ s q => decide (sc.names.lookup t = some .local) && (p.line == q.line) && !(s.names.any fun (n, k) => n == t && (k == .local || k == .cell))
  | _ => false
theorem kindOf_dec (env : Env) (t : Str) : (env.kindOf t == some .local) = decide (env.scope.names.lookup t = some .local) := by
  show (env.scope.names.lookup t == some .local) = _
  cases h : env.scope.names.lookup t with
  | none => rfl
  | some k => cases k <;> rfl
theorem swB_ok {sc : Scope} {e : Expr} {t : Str} {p : Pos} {l : Nat} {env : Env} (hk : env.scope.kind = .function) (hs : env.scope = sc) : swapsWith e (some (.Name t p)) l env = pure (swB sc e t p) := by
  have hb : (env.blockKind == ScopeKind.function) = true := by unfold Env.blockKind; rw [hk]; rfl
  subst hs
  cases e <;> first
    | rfl
    | (unfold swapsWith swB
       simp only [hb, kindOf_dec, Expr.pos, Bool.true_and])
theorem sw_attr {e o : Expr} {n : Str} {p : Pos} {l : Nat} {env : Env} : swapsWith e (some (.Attribute o n p)) l env = pure false := by
  cases e <;> rfl
theorem sw_other {e t : Expr} {l : Nat} {env : Env} (h : ∀ x p, t ≠ .Name x p) : swapsWith e (some t) l env = pure false := by
  cases t with
  | Name x p => exact absurd rfl (h x p)
  | _ => cases e <;> rfl
theorem sw_none {e : Expr} {l : Nat} {env : Env} (h : isComp e = false) : swapsWith e none l env = pure false := by
  cases e <;> first | rfl | cases h
theorem ss_none {t e : Expr} {env : Env} (h : (isTupE t && isTupE e) = false) : swappedStores [t] e env = pure none := by
  cases t <;> cases e <;> first | rfl | cases h
/-- a target that is no local name -/
def offN (sc : Scope) : Expr → Bool
  | .Name x _ => !decide (sc.names.lookup x = some .local)
  | _ => true
theorem ss_off {sc : Scope} {ts vs : List Expr} {kt k2 : Nat} {pt pt2 : Pos} {env : Env} (hs : env.scope = sc) (h : ts.any (offN sc) = true) : swappedStores [.Tuple ts kt pt] (.Tuple vs k2 pt2) env = pure none := by
  have few : ∀ (line : Nat) (ts : List Expr), ts.any (offN sc) = true → (ts.filterMap fun
      | .Name id pos => if (env.kindOf id == some .local && pos.line == line) = true then some id else none
      | _ => none).length < ts.length := by
    intro line ts
    have le : ∀ ts : List Expr, (ts.filterMap fun
      | .Name id pos => if (env.kindOf id == some .local && pos.line == line) = true then some id else none
      | _ => none).length ≤ ts.length := fun ts => List.length_filterMap_le _ _
    have el : ∀ t : Expr, offN sc t = true → (match t with
        | .Name id pos => if (env.kindOf id == some .local && pos.line == line) = true then some id else none
        | _ => none) = (none : Option Str) := by
      intro t
      cases t with
      | Name x p =>
        intro q'
        show (if (env.kindOf x == some .local && p.line == line) = true then some x else none) = none
        rw [kindOf_dec, hs]
        have q'' : (!decide (sc.names.lookup x = some .local)) = true := q'
        rw [Bool.not_eq_true'] at q''
        rw [q'', Bool.false_and]; rfl
      | _ => intro _; rfl
    induction ts with
    | nil => intro q; cases q
    | cons t r ih =>
      intro q
      rw [List.any_cons, Bool.or_eq_true] at q
      rcases q with q | q
      · have e := el t q
        rw [List.filterMap_cons]
        have l1 := le r
        split
        · exact Nat.lt_succ_of_le l1
        · rename_i b hb
          exact absurd (hb.symm.trans e) (by intro z; cases z)
      · have i1 := ih q
        rw [List.filterMap_cons]
        split
        · rw [List.length_cons]; omega
        · rw [List.length_cons, List.length_cons]; omega
  unfold swappedStores
  dsimp only
  split
  · rfl
  · split
    · rfl
    · split
      · rfl
      · rename_i q
        exfalso
        have l1 := few ((ts.head?.map (·.pos.line)).getD 0) ts h
        apply q
        rw [Bool.or_eq_true]
        exact .inl (bne_iff_ne.mpr (Nat.ne_of_lt l1))
theorem ss_fold {ts vs : List Expr} {kt k2 : Nat} {pt pt2 : Pos} {env : Env} (h : vs.all (foldedForSure 8) = true) : swappedStores [.Tuple ts kt pt] (.Tuple vs k2 pt2) env = pure none := by
  unfold swappedStores
  dsimp only
  split
  · rfl
  · split
    · rfl
    · split
      · rfl
      · simp only [h, if_true]
def plain2 (a b : Expr) : Bool := plainE a && plainE b && !([a, b].all (foldedForSure 8)) && !([a, b].all (constantsAlone 8))
theorem ss_two {x y : Str} {px py pt : Pos} {a b : Expr} {kt k2 : Nat} {pt2 : Pos} {env : Env} (hk : env.scope.kind = .function) (hx : env.scope.names.lookup x = some .local) (hy : env.scope.names.lookup y = some .local) (hl : (py.line == px.line) = true) (hn : x ≠ y) (hp : plain2 a b = true) :
    swappedStores [.Tuple [.Name x px, .Name y py] kt pt] (.Tuple [a, b] k2 pt2) env = pure (some [x, y]) := by
  have hb : (env.blockKind != ScopeKind.function) = false := by unfold Env.blockKind; rw [hk]; rfl
  have kx : (env.kindOf x == some .local) = true := by rw [kindOf_dec, hx]; rfl
  have ky : (env.kindOf y == some .local) = true := by rw [kindOf_dec, hy]; rfl
  unfold plain2 at hp
  simp only [Bool.and_eq_true, Bool.not_eq_true'] at hp
  obtain ⟨⟨⟨p1, p2⟩, p3⟩, p4⟩ := hp
  have st1 : ∀ e : Expr, plainE e = true → (match e with | .Starred .. => true | _ => false) = false := fun e h => by
    cases e <;> first | rfl | cases h
  have star : ([a, b].any fun | .Starred .. => true | _ => false) = false := by
    rw [List.any_cons, List.any_cons, List.any_nil, st1 a p1, st1 b p2]; rfl
  have e1 : (y == x) = false := beq_eq_false_iff_ne.mpr (Ne.symm hn)
  have ed : [x, y].eraseDups = [x, y] := by
    have : (x == y) = false := beq_eq_false_iff_ne.mpr hn
    simp [List.eraseDups, List.eraseDupsBy, List.eraseDupsBy.loop, e1]
  unfold swappedStores
  simp only [List.length_cons, List.length_nil, hb, star, List.head?_cons, Option.map_some, Option.getD_some, Expr.pos, List.filterMap_cons, List.filterMap_nil, kx, ky, hl, beq_self_eq_true, Bool.and_self, if_true, p3, p4, ed]
  rw [if_neg (by decide)]
  split
  · rename_i h
    exact (Bool.false_ne_true (star.symm.trans h)).elim
  · rw [if_neg (by decide), if_neg (by decide), if_neg (by decide)]
theorem ss_three {x y z : Str} {px py pz pt : Pos} {a b c : Expr} {kt k2 : Nat} {pt2 : Pos} {env : Env} (hk : env.scope.kind = .function) (hx : env.scope.names.lookup x = some .local) (hy : env.scope.names.lookup y = some .local) (hz : env.scope.names.lookup z = some .local) (hl : (py.line == px.line) = true) (hl2 : (pz.line == px.line) = true) (h1 : x ≠ y) (h2 : x ≠ z) (h3 : y ≠ z)
    (p1 : plainE a = true) (p2 : plainE b = true) (p5 : plainE c = true) (p3 : [a, b, c].all (foldedForSure 8) = false) (p4 : [a, b, c].all (constantsAlone 8) = false) :
    swappedStores [.Tuple [.Name x px, .Name y py, .Name z pz] kt pt] (.Tuple [a, b, c] k2 pt2) env = pure (some [x, y, z]) := by
  have hb : (env.blockKind != ScopeKind.function) = false := by unfold Env.blockKind; rw [hk]; rfl
  have kx : (env.kindOf x == some .local) = true := by rw [kindOf_dec, hx]; rfl
  have ky : (env.kindOf y == some .local) = true := by rw [kindOf_dec, hy]; rfl
  have kz : (env.kindOf z == some .local) = true := by rw [kindOf_dec, hz]; rfl
  have st1 : ∀ e : Expr, plainE e = true → (match e with | .Starred .. => true | _ => false) = false := fun e h => by
    cases e <;> first | rfl | cases h
  have star : ([a, b, c].any fun | .Starred .. => true | _ => false) = false := by
    rw [List.any_cons, List.any_cons, List.any_cons, List.any_nil, st1 a p1, st1 b p2, st1 c p5]; rfl
  have ed : [x, y, z].eraseDups = [x, y, z] := by
    have e1 : (y == x) = false := beq_eq_false_iff_ne.mpr (Ne.symm h1)
    have e2 : (z == x) = false := beq_eq_false_iff_ne.mpr (Ne.symm h2)
    have e3 : (z == y) = false := beq_eq_false_iff_ne.mpr (Ne.symm h3)
    simp [List.eraseDups, List.eraseDupsBy, List.eraseDupsBy.loop, e1, e2, e3]
  unfold swappedStores
  simp only [List.length_cons, List.length_nil, hb, star, List.head?_cons, Option.map_some, Option.getD_some, Expr.pos, List.filterMap_cons, List.filterMap_nil, kx, ky, kz, hl, hl2, beq_self_eq_true, Bool.and_self, if_true, p3, p4, ed]
  rw [if_neg (by decide)]
  split
  · rename_i h
    exact (Bool.false_ne_true (star.symm.trans h)).elim
  · rw [if_neg (by decide), if_neg (by decide), if_neg (by decide)]
/-- tuples on both sides that are laid and taken apart -/
def offT (sc : Scope) (t e : Expr) : Bool := match t, e with
  | .Tuple ts _ _, .Tuple vs _ _ => ts.any (offN sc) || vs.all (foldedForSure 8)
  | _, _ => false
theorem ss_any {sc : Scope} {t e : Expr} {env : Env} (hs : env.scope = sc) (h : (!(isTupE t && isTupE e) || offT sc t e) = true) : swappedStores [t] e env = pure none := by
  rw [Bool.or_eq_true, Bool.not_eq_true'] at h
  rcases h with h | h
  · exact ss_none h
  · unfold offT at h
    split at h
    · rw [Bool.or_eq_true] at h
      rcases h with h | h
      · exact ss_off hs h
      · exact ss_fold h
    · cases h
/-! ### statements -/
mutual
def okS (C : Ck) (sc : Scope) : Sm → Stmt → Bool
  | .asg t e, st => match t, e, st with
    | .fd o f, e, .Assign [.Attribute y n _] x _ => decide (n = C.fnm f) && okE C none sc o y && okE C none sc e x
    | .nm i, .lc y g it ff ow, .Assign [.Name z pz] (.ListComp x [⟨tg, iter, ifs, 0⟩] scope p2) _ =>
      if swB sc (.ListComp x [⟨tg, iter, ifs, 0⟩] scope p2) z pz = true then
        decide (C.N[i]? = some z) && decide (sc.names.lookup z = some .local) && noSet iter && okI C none sc it tg iter && blkC C.N sc scope (ow.map fun j => (C.N.getD j "", j)) && okG C (some scope.names) (relC scope sc) (some ow) g tg && okTs C (some scope.names) (relC scope sc) ff ifs && okE C (some scope.names) (relC scope sc) y x
      else okG C none sc none (.nm i) (.Name z pz) && okE C none sc (.lc y g it ff ow) (.ListComp x [⟨tg, iter, ifs, 0⟩] scope p2)
    | .nm i, .dc y y2 g it ff ow, .Assign [.Name z pz] (.DictComp x x2 [⟨tg, iter, ifs, 0⟩] scope p2) _ =>
      if swB sc (.DictComp x x2 [⟨tg, iter, ifs, 0⟩] scope p2) z pz = true then
        decide (C.N[i]? = some z) && decide (sc.names.lookup z = some .local) && noSet iter && okI C none sc it tg iter && blkC C.N sc scope (ow.map fun j => (C.N.getD j "", j)) && okG C (some scope.names) (relC scope sc) (some ow) g tg && okTs C (some scope.names) (relC scope sc) ff ifs && okE C (some scope.names) (relC scope sc) y x && okE C (some scope.names) (relC scope sc) y2 x2
      else okG C none sc none (.nm i) (.Name z pz) && okE C none sc (.dc y y2 g it ff ow) (.DictComp x x2 [⟨tg, iter, ifs, 0⟩] scope p2)
    | t, e, .Assign [tg] x _ => (match tg with
      | .Name z pz => !(swB sc x z pz)
      | _ => true) && (!(isTupE tg && isTupE x) || offT sc tg x) && plainE tg && okG C none sc none t tg && okE C none sc e x
    | _, _, _ => false
  | .par is es, st => match is, st with
    | [i, j], .Assign [.Tuple [.Name x px, .Name y py] _ _] (.Tuple [a, b] _ _) _ => decide (i ≠ j) && decide (C.N[i]? = some x) && decide (C.N[j]? = some y) && decide (sc.names.lookup x = some .local) && decide (sc.names.lookup y = some .local) && (py.line == px.line) && decide (x ≠ y) && plain2 a b && okEs C none sc es [a, b]
    | [i, j, l], .Assign [.Tuple [.Name x px, .Name y py, .Name z pz] _ _] (.Tuple [a, b, c] _ _) _ => decide (i ≠ j) && decide (i ≠ l) && decide (j ≠ l) && decide (C.N[i]? = some x) && decide (C.N[j]? = some y) && decide (C.N[l]? = some z) && decide (sc.names.lookup x = some .local) && decide (sc.names.lookup y = some .local) && decide (sc.names.lookup z = some .local) && (py.line == px.line) && (pz.line == px.line) && decide (x ≠ y) && decide (x ≠ z) && decide (y ≠ z) && !([a, b, c].all (foldedForSure 8)) && !([a, b, c].all (constantsAlone 8)) && okEs C none sc es [a, b, c]
    | _, _ => false
  | .aug i o e, st => match st with
    | .AugAssign (.Name x _) p v _ => decide (o = p) && locB C sc none x i && okE C none sc e v
    | _ => false
  | .augS o i p e, st => match st with
    | .AugAssign (.Subscript y z _) q v _ => decide (p = q) && plainI z && okE C none sc o y && okE C none sc i z && okE C none sc e v
    | _ => false
  | .augF o f p e, st => match st with
    | .AugAssign (.Attribute y n _) q v _ => decide (p = q) && decide (n = C.fnm f) && okE C none sc o y && okE C none sc e v
    | _ => false
  | .ex e, st => match st with
    | .Expr x _ => !(isComp x) && okE C none sc e x
    | _ => false
  | .ret e, st => match st with
    | .Return (some x) _ => okE C none sc e x
    | _ => false
  | .retN, st => match st with
    | .Return none _ => true
    | _ => false
  | .ifs t a b, st => match st with
    | .If c x y _ => okT C none sc t c && okB C sc a x && okB C sc b y
    | _ => false
  | .fr g i b, st => match i, st with
    | .items e, .For (.Tuple elts kk tp) (.Call (.Attribute ye nm ap) [] [] cp) x [] _ => pureE e && plainO ye && (ap.endLine == cp.line) && decide (nm = ("items" : Str)) && okE C none sc e ye && okG C none sc none g (.Tuple elts kk tp) && okB C sc b x
    | i, .For tg it x [] _ => noSet it && okI C none sc i tg it && okG C none sc none g tg && okB C sc b x
    | _, _ => false
  | .whl t b, st => match st with
    | .While c x [] _ => okT C none sc t c && okB C sc b x
    | _ => false
  | .rse c fs es, st => match st with
    | .Raise (some (.Call (.Name x _) xs [] _)) none _ => glB C sc x (.exc c fs) && decide (xs.length ≤ 5) && (fs.isEmpty || decide (xs.length = fs.length)) && okEs C none sc es xs
    | _ => false
  | .stk, _ => true
  | .pas, st => match st with
    | .Pass _ => true
    | .Expr (.Constant (.str _) _ _) _ => true
    | _ => false
  | .brk, st => match st with
    | .Break _ => true
    | _ => false
  | .cnt, st => match st with
    | .Continue _ => true
    | _ => false
  | .del o i, st => match st with
    | .Delete [.Subscript y z _] _ => okE C none sc o y && okE C none sc i z
    | _ => false
  | .tr b hs, st => match st with
    | .Try x (h :: hs') [] [] _ => okB C sc b x && okH C sc hs (h :: hs')
    | _ => false
  | .trN b, st => match st with
    | .Try x (_ :: _) [] [] _ => okB C sc b x
    | _ => false
  | .lfr ic il es hs, st => match st with
    | .For (.Name x _) (.Tuple lams _ _) [.Try [.Expr (.Call (.Attribute (.Name y _) n ap) [.Call (.Name x2 _) [] [] _] [] cp) _] (h0 :: hds) [] [] _] [] _ =>
      C.lam && decide (n = ("append" : Str)) && decide (x2 = x) && (ap.endLine == cp.line) && locB C sc none x ic && visB C sc x ic && visB C sc y il && okH C sc hs (h0 :: hds) && okLs C sc es lams && decide (lams.length ≤ 100)
    | _ => false
def okB (C : Ck) (sc : Scope) : Sms → List Stmt → Bool
  | .nil, xs => xs.isEmpty
  | .cons s r, xs => match xs with
    | x :: ys => okS C sc s x && okB C sc r ys
    | [] => false
end
end Rf

set_option Elab.async false
set_option maxRecDepth 100000
set_option maxHeartbeats 1000000
/-! RfFit4: statements checked are sound. -/
namespace Rf
open PySem PySem.Spec PyProof.Rows L2
variable {C : Ck} {G : GC} {F : Ora}
theorem fit_asg {Ω : WX} {sc : Scope} {X : Cx} (f : Fit C G F Ω none sc X) (hk : sc.kind = .function) {t : Tg} {e : E} {tg x : Expr} {pos : Pos} (h1 : (match tg with | .Name z pz => !(swB sc x z pz) | _ => true) = true) (h2 : (!(isTupE tg && isTupE x) || offT sc tg x) = true) (h3 : plainE tg = true) (h4 : okG C none sc none t tg = true) (h5 : okE C none sc e x = true) :
    PS X (.Assign [tg] x pos) (LS G Ω (exS F (.asg t e))) := by
  have hk' : X.env.scope.kind = .function := by rw [f.sc]; exact hk
  refine snd_asg f.g (okE_snd e f h5) (okG_snd t none (fun _ _ _ _ _ => trivial) (fun _ => trivial) (fun _ _ _ _ => trivial) (fun _ _ _ => trivial) f h4) ?_ (ss_any f.sc h2) (assign_one h3)
  show swapsWith x (some tg) pos.line X.env = pure false
  cases tg with
  | Name z pz =>
    rw [swB_ok hk' f.sc]
    simp only [Bool.not_eq_true'] at h1
    rw [h1]
  | _ => exact sw_other fun _ _ q => by cases q
mutual
theorem okS_snd : ∀ (ir : Sm) {Ω : WX} {sc : Scope} {X : Cx} {st : Stmt}, Fit C G F Ω none sc X → sc.kind = .function → okS C sc ir st = true → PS X st (LS G Ω (exS F ir))
  | .asg t e, Ω, sc, X, st, f, hk, h => by
    have hk' : X.env.scope.kind = .function := by rw [f.sc]; exact hk
    unfold okS at h
    split at h
    · simp only [Bool.and_eq_true, decide_eq_true_eq] at h
      obtain ⟨⟨h1, h2⟩, h3⟩ := h
      rw [f.fnm] at h1
      subst h1
      exact snd_fdA f.g f.ok (okE_snd _ f h2) (okE_snd _ f h3) sw_attr f.fok
    · split at h
      · rename_i i y g it ff ow z pz x tg iter ifs scope p2 pos hsw
        simp only [Bool.and_eq_true, decide_eq_true_eq] at h
        obtain ⟨⟨⟨⟨⟨⟨⟨h1, h2⟩, h3⟩, h4⟩, h5⟩, h6⟩, h7⟩, h8⟩ := h
        have blk : BlkOk X.N X.env.scope scope (ow.map fun j => (C.N.getD j "", j)) := by
          rw [f.N, f.sc]; exact blkOk_by h5
        have r := snd_setLc f.g f.calm (i := i) (y := z) (py := pz) (pos := pos) (p2 := p2) (ie := y) (ig := g) (ii := it) (fs := ff) (elt := x) (by rw [f.N]; exact h1) (by rw [f.sc]; exact h2) (by rw [swB_ok hk' f.sc, hsw]) (okI_snd it f h4) blk
          (fun s H a cl fp => by rw [own_nodup_get]; exact okG_snd g (some ow) (ownP_trans ow) (fun _ => rfl) (fun j hj σ v => wipe_put ow σ j (some v) (hj ow rfl)) (fun z => by cases z) (f.blk scope s H cl a fp) h6)
          (fun s H a cl fp => okTs_snd ff (f.blk scope s H cl a fp) h7) (fun s H a cl fp => okE_snd y (f.blk scope s H cl a fp) h8) (noSet_ok h3)
        rw [own_nodup_get] at r
        exact r
      · rename_i i y g it ff ow z pz x tg iter ifs scope p2 pos hsw
        simp only [Bool.and_eq_true] at h
        exact fit_asg f hk (by simpa using hsw) rfl rfl h.1 h.2
    · split at h
      · rename_i i y y2 g it ff ow z pz x x2 tg iter ifs scope p2 pos hsw
        simp only [Bool.and_eq_true, decide_eq_true_eq] at h
        obtain ⟨⟨⟨⟨⟨⟨⟨⟨h1, h2⟩, h3⟩, h4⟩, h5⟩, h6⟩, h7⟩, h8⟩, h9⟩ := h
        have blk : BlkOk X.N X.env.scope scope (ow.map fun j => (C.N.getD j "", j)) := by
          rw [f.N, f.sc]; exact blkOk_by h5
        have r := snd_setDc f.g f.calm (i := i) (y := z) (py := pz) (spos := pos) (pos := p2) (ik := y) (iv := y2) (ig := g) (ii := it) (fs := ff) (kx := x) (vx := x2) (okI_snd it f h4) blk
          (fun s H a cl fp => by rw [own_nodup_get]; exact okG_snd g (some ow) (ownP_trans ow) (fun _ => rfl) (fun j hj σ v => wipe_put ow σ j (some v) (hj ow rfl)) (fun z => by cases z) (f.blk scope s H cl a fp) h6)
          (fun s H a cl fp => okTs_snd ff (f.blk scope s H cl a fp) h7) (fun s H a cl fp => okE_snd y (f.blk scope s H cl a fp) h8) (fun s H a cl fp => okE_snd y2 (f.blk scope s H cl a fp) h9) (noSet_ok h3) (by rw [f.N]; exact h1) (by rw [f.sc]; exact h2) (by rw [swB_ok hk' f.sc, hsw])
        rw [own_nodup_get] at r
        exact r
      · rename_i i y y2 g it ff ow z pz x x2 tg iter ifs scope p2 pos hsw
        simp only [Bool.and_eq_true] at h
        exact fit_asg f hk (by simpa using hsw) rfl rfl h.1 h.2
    · rw [Bool.and_eq_true, Bool.and_eq_true, Bool.and_eq_true, Bool.and_eq_true] at h
      obtain ⟨⟨⟨⟨h1, h2⟩, h3⟩, h4⟩, h5⟩ := h
      exact fit_asg f hk h1 h2 h3 h4 h5
    · cases h
  | .par is es, Ω, sc, X, st, f, hk, h => by
    have hk' : X.env.scope.kind = .function := by rw [f.sc]; exact hk
    unfold okS at h
    split at h
    · simp only [Bool.and_eq_true, decide_eq_true_eq] at h
      obtain ⟨⟨⟨⟨⟨⟨⟨⟨h1, h2⟩, h3⟩, h4⟩, h5⟩, h6⟩, h7⟩, h8⟩, h9⟩ := h
      rw [← f.N] at h2 h3
      rw [← f.sc] at h4 h5
      exact snd_par2 f.g f.calm h2 h3 h1 h4 h5 (okEs_snd es f h9) (ss_two hk' h4 h5 h6 h7 h8) (okEs_plain h9).2.symm
    · simp only [Bool.and_eq_true, decide_eq_true_eq, Bool.not_eq_true'] at h
      obtain ⟨⟨⟨⟨⟨⟨⟨⟨⟨⟨⟨⟨⟨⟨⟨⟨h1, h2⟩, h3⟩, h4⟩, h5⟩, h6⟩, h7⟩, h8⟩, h9⟩, h10⟩, h11⟩, h12⟩, h13⟩, h14⟩, h15⟩, h16⟩, h17⟩ := h
      rw [← f.N] at h4 h5 h6
      rw [← f.sc] at h7 h8 h9
      obtain ⟨pl, ln⟩ := okEs_plain h17
      simp only [List.all_cons, List.all_nil, Bool.and_eq_true] at pl
      exact snd_par3 f.g f.calm h4 h5 h6 h1 h2 h3 h7 h8 h9 (okEs_snd es f h17) (ss_three hk' h7 h8 h9 h10 h11 h12 h13 h14 pl.1 pl.2.1 pl.2.2.1 h15 h16) ln.symm
    · cases h
  | .aug i o e, Ω, sc, X, st, f, hk, h => by
    unfold okS at h
    split at h
    · simp only [Bool.and_eq_true, decide_eq_true_eq] at h
      cases h.1.1
      obtain ⟨h1, h2, h3⟩ := f.loc h.1.2
      exact snd_aug f.g h1 h2 h3 (okE_snd e f h.2)
    · cases h
  | .augS o i p e, Ω, sc, X, st, f, hk, h => by
    unfold okS at h
    split at h
    · simp only [Bool.and_eq_true, decide_eq_true_eq] at h
      obtain ⟨⟨⟨⟨h1, h2⟩, h3⟩, h4⟩, h5⟩ := h
      subst h1
      refine snd_augS f.g (okE_snd o f h3) (okE_snd i f h4) (okE_snd e f h5) fun ov iv new => ?_
      rename_i y z _ _ _
      cases z <;> first | rfl | cases h2
    · cases h
  | .augF o k p e, Ω, sc, X, st, f, hk, h => by
    unfold okS at h
    split at h
    · simp only [Bool.and_eq_true, decide_eq_true_eq] at h
      obtain ⟨⟨⟨h1, h2⟩, h3⟩, h4⟩ := h
      rw [f.fnm] at h2
      subst h1; subst h2
      exact snd_augF f.g f.ok (okE_snd o f h3) (okE_snd e f h4) f.fok
    · cases h
  | .ex e, Ω, sc, X, st, f, hk, h => by
    unfold okS at h
    split at h
    · simp only [Bool.and_eq_true, Bool.not_eq_true'] at h
      exact snd_ex f.g (okE_snd e f h.2) (sw_none h.1)
    · cases h
  | .ret e, Ω, sc, X, st, f, hk, h => by
    unfold okS at h
    split at h
    · exact snd_ret f.g (okE_snd e f h)
    · cases h
  | .retN, Ω, sc, X, st, f, hk, h => by
    unfold okS at h
    split at h
    · exact snd_retN f.g
    · cases h
  | .ifs t a b, Ω, sc, X, st, f, hk, h => by
    unfold okS at h
    split at h
    · simp only [Bool.and_eq_true] at h
      exact snd_ifs f.g (okT_snd t f h.1.1) (okB_snd a f hk h.1.2) (okB_snd b f hk h.2)
    · cases h
  | .fr g i b, Ω, sc, X, st, f, hk, h => by
    unfold okS at h
    split at h
    · simp only [Bool.and_eq_true, decide_eq_true_eq] at h
      obtain ⟨⟨⟨⟨⟨⟨h1, h2⟩, h3⟩, h4⟩, h5⟩, h6⟩, h7⟩ := h
      subst h4
      exact snd_frI f.g f.calm (okE_snd _ f h5) h1 h2 h3 (okG_snd g none (fun _ _ _ _ _ => trivial) (fun _ => trivial) (fun _ _ _ _ => trivial) (fun _ _ _ => trivial) f h6) (okB_snd b f hk h7)
    · simp only [Bool.and_eq_true] at h
      obtain ⟨⟨⟨h1, h2⟩, h3⟩, h4⟩ := h
      refine snd_fr f.g f.calm (okI_snd i f h2) (okG_snd g none (fun _ _ _ _ _ => trivial) (fun _ => trivial) (fun _ _ _ _ => trivial) (fun _ _ _ => trivial) f h3) (okB_snd b f hk h4) (noSet_ok h1) fun e q => ?_
      subst q
      unfold okI at h2; cases h2
    · cases h
  | .whl t b, Ω, sc, X, st, f, hk, h => by
    unfold okS at h
    split at h
    · simp only [Bool.and_eq_true] at h
      exact snd_whl f.g (okT_snd t f h.1) (okB_snd b f hk h.2)
    · cases h
  | .rse c fs es, Ω, sc, X, st, f, hk, h => by
    unfold okS at h
    split at h
    · simp only [Bool.and_eq_true, Bool.or_eq_true, decide_eq_true_eq] at h
      obtain ⟨⟨⟨h1, h2⟩, h3⟩, h4⟩ := h
      obtain ⟨k1, ⟨k2, k3, k4⟩, k5, k6⟩ := f.glob h1
      obtain ⟨pl, ln⟩ := okEs_plain h4
      refine snd_rse f.g f.calm k1 k5 k2 k3 k4 (okEs_snd es f h4) pl ln h2 ?_
      rcases h3 with h3 | h3
      · exact .inl (List.isEmpty_iff.mp h3)
      · exact .inr h3
    · cases h
  | .stk, Ω, sc, X, st, f, hk, h => snd_never f.g fun τ S => by unfold exS; rfl
  | .pas, Ω, sc, X, st, f, hk, h => by
    unfold okS at h
    split at h
    · exact snd_pas f.g
    · exact snd_doc f.g
    · cases h
  | .brk, Ω, sc, X, st, f, hk, h => by
    unfold okS at h
    split at h
    · exact snd_brk f.g
    · cases h
  | .cnt, Ω, sc, X, st, f, hk, h => by
    unfold okS at h
    split at h
    · exact snd_cnt f.g
    · cases h
  | .del o i, Ω, sc, X, st, f, hk, h => by
    unfold okS at h
    split at h
    · simp only [Bool.and_eq_true] at h
      exact snd_del f.g (okE_snd o f h.1) (okE_snd i f h.2)
    · cases h
  | .tr b hs, Ω, sc, X, st, f, hk, h => by
    unfold okS at h
    split at h
    · simp only [Bool.and_eq_true] at h
      exact snd_tr f.ok f.g.K (f.fr rfl).1 (f.fr rfl).2 f.g.nd f.g.tk f.sub (fun W pn xe tk po => okB_snd b (f.tr tk po) hk h.1) (okH_snd f hk hs h.2)
    · cases h
  | .trN b, Ω, sc, X, st, f, hk, h => by
    unfold okS at h
    split at h
    · exact snd_trN (okB_snd b f.nox hk h)
    · cases h
  | .lfr ic il es hs, Ω, sc, X, st, f, hk, h => by
    unfold okS at h
    split at h
    · rename_i x _ lams _ _ y _ n ap x2 _ _ cp _ h0 hds _ _
      simp only [Bool.and_eq_true, decide_eq_true_eq] at h
      obtain ⟨⟨⟨⟨⟨⟨⟨⟨⟨hl, hn⟩, hx2⟩, hline⟩, hloc⟩, hvx⟩, hvy⟩, hhs⟩, hls⟩, hlen⟩ := h
      subst hn hx2
      obtain ⟨ds, e1, e2, hds⟩ := okLs_ds hls
      subst e1 e2
      obtain ⟨⟨c, P, L⟩, hr, _⟩ := f.lam rfl hl
      obtain ⟨a1, a2, a3⟩ := f.loc hloc
      obtain ⟨_, b2, b3, b4⟩ := f.vis hvx
      obtain ⟨c1, c2, c3, c4⟩ := f.vis hvy
      refine snd_lfr f.ok f.g f.calm (f.fr rfl).1 (f.fr rfl).2 f.sub L (by rw [List.length_map] at hlen; exact hlen) (fun d hd => ⟨(hds d hd).1, by rw [f.N, f.sc]; exact (hds d hd).2.1⟩) (fun W pn xe tk po d hd => ?_) hr a1 a2 a3 b2 b3 b4 c1 c2 c3 c4 hline (okH_snd f hk hs hhs)
      exact ⟨(hds d hd).1, by show LamN X.N X.env.scope d.scope d.xs; rw [f.N, f.sc]; exact (hds d hd).2.1, fun σ s H fa c' hr4 tk4 => okE_snd d.e (f.lamb hl hr4 tk4) (hds d hd).2.2⟩
    · cases h
theorem okB_snd : ∀ (ir : Sms) {Ω : WX} {sc : Scope} {X : Cx} {st : List Stmt}, Fit C G F Ω none sc X → sc.kind = .function → okB C sc ir st = true → PSs X st (LS G Ω (exB F ir))
  | .nil, Ω, sc, X, st, f, hk, h => by
    unfold okB at h
    cases st with
    | nil => exact snd_b0 f.g
    | cons _ _ => cases h
  | .cons s r, Ω, sc, X, st, f, hk, h => by
    unfold okB at h
    cases st with
    | nil => cases h
    | cons y ys =>
      simp only [Bool.and_eq_true] at h
      exact snd_b1 f.g (okS_snd s f hk h.1) (okB_snd r f hk h.2)
end
end Rf

set_option Elab.async false
set_option maxRecDepth 100000
/-! RfFn: each def of a program of terms keeps its promise. -/
namespace Rf
open PySem PySem.Spec PyProof.Rows L2
/-- a def of the text -/
structure FI where
  name : Str
  qual : Str
  params : Arguments
  body : List Stmt
  scope : Scope
  N : List Str
  ps : List Str
  lam : Bool := false
/-- what is seen of the text alone -/
structure Txt (P : Prg) (fi : Nat → FI) (nf : Nat) (gl : List (Str × GI)) (fnm mnm : Nat → Str) : Prop where
  okb : ∀ k, k < nf → okB ⟨(fi k).N, gl, fnm, mnm, (fi k).lam⟩ (fi k).scope (P.fns k).body (fi k).body = true
  fs : ∀ k, k < nf → FnScope (fi k).N (fi k).ps (fi k).scope
  np : ∀ k, k < nf → (P.fns k).np = (fi k).ps.length
  nn : ∀ k, k < nf → (P.fns k).nn = (fi k).N.length
/-- what stands behind the top -/
structure Top (prog : Program) (base : Heap) (P : Prg) (G : GC) (mg : Str → Option Value) (fi : Nat → FI) (nf : Nat) (gl : List (Str × GI)) : Prop where
  ok : GOk G
  fok : P.fok = G.fok
  sub : P.sub = G.sub
  fn : ∀ k, k < nf → ∃ (fd : FuncData) (dvs : List V) (kws : List (Str × V)), FunD G.K (fi k).name (fi k).qual (fi k).params (fi k).body (fi k).scope dvs kws (G.fadr k) fd ∧ (∀ ρ H, Rs G ρ H (P.fns k).dfl dvs) ∧
    ∀ n, n ≤ (fi k).ps.length → (fi k).ps.length ≤ n + (P.fns k).dfl.length → ∃ ds, Vals (dvs.drop (n + (P.fns k).dfl.length - (fi k).ps.length)) ds ∧ Binds G.K fd (fi k).ps ds
  gl : ∀ x i, gl.lookup x = some i → match i with
    | .fn k => k < nf ∧ mg x = some (.ref (G.fadr k))
    | .cls c => mg x = some (.ref (G.cadr c)) ∧ ∃ f, P.inits c = some f ∧ f < nf ∧ Mk G.K (G.cadr c) (G.fadr f)
    | .blt => mg x = none
    | .val k => ∃ u v, mg x = some u ∧ RelV v u ∧ ∀ ρ H, R G ρ H (P.glb k) v
    | .exc c fs => mg x = some (.ref (G.cadr c)) ∧ PySem.W.keepIn G.K (.ref (G.cadr c)) = true ∧ ∀ X : Cx, X.prog = prog → X.w = G.w → X.K = G.K → X.mg = mg → X.base = base → Room 5 X.A → MkX G X c fs
  meth : ∀ c m f, P.meth c m = some f → f < nf ∧ Cls G.K (G.cadr c) ∧ Meth G.K (G.cadr c) (G.mnm m) (G.fadr f) ∧ ∀ i, G.fok c i = true → G.fnm i ≠ G.mnm m
  lam : ∀ k, k < nf → (fi k).lam = true → ∃ c P, (∀ (fd : FuncData) (dvs : List V) (kws : List (Str × V)), FunD G.K (fi k).name (fi k).qual (fi k).params (fi k).body (fi k).scope dvs kws (G.fadr k) fd → fd.code = .ref c) ∧ LamX.TabB base mg c P ∧ (P, (fi k).qual ++ ".<locals>." ++ "<lambda>") ∈ G.T ∧ ∀ p ∈ G.T, p.1 = P → p.2 = (fi k).qual ++ ".<locals>." ++ "<lambda>"
theorem FunD.okC {P : Program} {w : World} {K : PySem.W.Frag} {mg : Str → Option Value} {base : Heap} {x qual : Str} {params : Arguments} {body : List Stmt} {scope : Scope} {dvs : List V} {kws : List (Str × V)} {f : Addr} {fd : FuncData} {CX : CXT} {N ps : List Str} {k : Nat} {sp : Sp} (F : FunD K x qual params body scope dvs kws f fd) (S : FnScope N ps scope) (len : ∀ vs H Q E, sp vs H Q E → vs.length = ps.length)
    (hbody : ∀ (cdv : Value) (_ : fd.code = cdv) (A : Around) (outer : List Env) (s : Shared) (H : Hp) (vs : List V) (Q : VK) (E : XK), Room k (A.deeper (envOfC qual scope s.heap.objs.size f cdv)) → sp vs H Q E →
      ∃ t, PSs (cxOf CX P w K mg base N qual scope f cdv A outer s H E) body t ∧ t { nx := fun _ H' => Q .non H', rt := Q } (L2.start N vs) H) : FnOk P w K mg base CX (k + 1) f fd ps sp := by
  obtain ⟨oc, od, dV, kV, doc, pm, an, cdv, ct, osl, rfl, lk, hcd, _, _⟩ := F.ex
  exact fn_of lk hcd S len fun A outer s H vs Q E hr hsp => hbody cdv rfl A outer s H vs Q E hr hsp
section
variable {P : Prg} {fi : Nat → FI} {nf : Nat} {gl : List (Str × GI)} {G : GC} {mg : Str → Option Value} {prog : Program} {base : Heap}
theorem argsW_full {f : Fn} {ws : List W} (h : ws.length = f.np) : argsW f ws = some ws := by
  unfold argsW
  rw [if_pos ⟨by omega, by omega⟩, h, Nat.add_sub_cancel_left, List.drop_length, List.append_nil]
/-- calls as the terms' evaluator sees them -/
def oraD (P : Prg) (d : Nat → List W → Store → Res W) : Ora := ⟨d, fun c us S => match P.inits c with
    | some f => d f us S
    | none => .stuck, P.meth, P.glb, P.fok, P.lf, P.sub⟩
def stepD (P : Prg) (d : Nat → List W → Store → Res W) (k : Nat) (ws : List W) (S : Store) : Res W := runF P (oraD P d) k ws S
/-- defaults are put in, calls with other numbers of values are stuck -/
structure Dep (P : Prg) (nf : Nat) (d : Nat → List W → Store → Res W) : Prop where
  dfl : ∀ (k : Nat) (ws : List W) (S : Store), k < nf → ws.length ≤ (P.fns k).np → (P.fns k).np ≤ ws.length + (P.fns k).dfl.length → d k (ws ++ (P.fns k).dfl.drop (ws.length + (P.fns k).dfl.length - (P.fns k).np)) S = d k ws S
  few : ∀ (k : Nat) (ws : List W) (S : Store), k < nf → ¬ (ws.length ≤ (P.fns k).np ∧ (P.fns k).np ≤ ws.length + (P.fns k).dfl.length) → d k ws S = .stuck
/-- all defs keep what d tells -/
structure Good (prog : Program) (base : Heap) (P : Prg) (G : GC) (mg : Str → Option Value) (fi : Nat → FI) (nf : Nat) (n : Nat) (d : Nat → List W → Store → Res W) : Prop where
  dep : Dep P nf d
  ok : ∀ (k : Nat), k < nf → ∀ (fd : FuncData) (dvs : List V) (kws : List (Str × V)), FunD G.K (fi k).name (fi k).qual (fi k).params (fi k).body (fi k).scope dvs kws (G.fadr k) fd →
    FnOk prog G.w G.K mg base (L2.CX prog G.w) (3 * n + 4) (G.fadr k) fd (fi k).ps (spI G (d k) (fi k).ps.length)
theorem good_zero : Good prog base P G mg fi nf 0 fun _ _ _ => .stuck :=
  ⟨⟨fun _ _ _ _ _ _ => rfl, fun _ _ _ _ _ => rfl⟩, fun k hk fd dvs kws F => ⟨fun vs H Q E h => h.1, fun A outer s H args us vs Q E _ _ _ _ h => by
      obtain ⟨_, ρ, S, ws, _, _, po⟩ := h
      exact po.elim⟩⟩
theorem dep_step {d : Nat → List W → Store → Res W} : Dep P nf (stepD P d) := ⟨fun k ws S _ h1 h2 => by
    have hl : (ws ++ (P.fns k).dfl.drop (ws.length + (P.fns k).dfl.length - (P.fns k).np)).length = (P.fns k).np := by
      rw [List.length_append, List.length_drop]; omega
    have e : argsW (P.fns k) ws = some (ws ++ (P.fns k).dfl.drop (ws.length + (P.fns k).dfl.length - (P.fns k).np)) := by
      unfold argsW; rw [if_pos ⟨h1, h2⟩]
    unfold stepD runF
    dsimp only
    rw [argsW_full hl, e], fun k ws S _ h => by
    unfold stepD runF argsW
    dsimp only
    rw [if_neg h]⟩
theorem good_step (T : Txt P fi nf gl G.fnm G.mnm) (B : Top prog base P G mg fi nf gl) {n : Nat} {d : Nat → List W → Store → Res W} (ih : Good prog base P G mg fi nf n d) : Good prog base P G mg fi nf (n + 1) (stepD P d) := by
    refine ⟨dep_step, fun k hk fd dvs kws F => ?_⟩
    refine FunD.okC F (T.fs k hk) (fun vs H Q E h => h.1) (k := 3 * n + 6) fun cdv hcdv A outer s H vs Q E hr h => ⟨LS G (fun cls d _ H' => E cls d H') (exB (oraD P d) (P.fns k).body), ?_, ?_⟩
    · -- the body
      have call : ∀ Y : Cx, Y.prog = prog → Y.w = G.w → Y.K = G.K → Y.mg = mg → Y.base = base → Room (3 * n + 5) Y.A → ∀ j, j < nf → ∀ m, CallOk G Y (d j) (G.fadr j) m := fun Y y1 y2 y3 y4 y5 y6 j hj m => ⟨by
        by_cases hm : m ≤ (P.fns j).np ∧ (P.fns j).np ≤ m + (P.fns j).dfl.length
        · obtain ⟨fdj, dvj, kwj, Fj, rj, bj⟩ := B.fn j hj
          rw [← T.np j hj] at bj
          obtain ⟨ds, v1, v2⟩ := bj m hm.1 hm.2
          refine .inr ⟨3 * n + 4, fdj, (fi j).ps, ds, _, (P.fns j).dfl.drop (m + (P.fns j).dfl.length - (P.fns j).np), by rw [y1, y2, y3, y4, y5]; exact ih.ok j hj fdj dvj kwj Fj, y6, by rw [y3]; exact v2, v1, fun ρ H => (rj ρ H).drop _, ?_, fun ws S hw => ?_⟩
          · have e := (rj [] (fun _ => none)).length
            rw [List.length_drop, ← T.np j hj]
            omega
          · subst hw
            exact ih.dep.dfl j ws S hj hm.1 hm.2
        · exact .inl fun ws S hw => ih.dep.few j ws S hj (by rw [hw]; exact hm)⟩
      have glk : ∀ Y : Cx, Y.prog = prog → Y.w = G.w → Y.K = G.K → Y.mg = mg → Y.base = base → Room (3 * n + 5) Y.A → (∀ x i, gl.lookup x = some i → GlOk G (oraD P d) Y x i) ∧
          ∀ c m f, (oraD P d).meth c m = some f → Cls Y.K (G.cadr c) ∧ Meth Y.K (G.cadr c) (G.mnm m) (G.fadr f) ∧ (∀ i, G.fok c i = true → G.fnm i ≠ G.mnm m) ∧ ∀ m', CallOk G Y ((oraD P d).call f) (G.fadr f) m' := fun Y y1 y2 y3 y4 y5 y6 => by
        refine ⟨fun x i hx => ?_, fun c m f hf => ?_⟩
        · have q := B.gl x i hx
          cases i with
          | fn j =>
            obtain ⟨fdj, dvj, kwj, Fj, _⟩ := B.fn j q.1
            exact ⟨by rw [y4]; exact q.2, by rw [y3]; exact Fj.kp, fun m => call Y y1 y2 y3 y4 y5 y6 j q.1 m⟩
          | cls c =>
            obtain ⟨q1, f, q2, q3, q4⟩ := q
            refine ⟨by rw [y4]; exact q1, G.fadr f, by rw [y3]; exact q4, fun m => ?_⟩
            have e : (oraD P d).init c = d f := by
              funext us S
              show (match P.inits c with | some f => d f us S | none => .stuck) = _
              rw [q2]
            rw [e]
            exact call Y y1 y2 y3 y4 y5 y6 f q3 m
          | blt => show Y.mg x = none; rw [y4]; exact q
          | val j => obtain ⟨u, v, q1, q2⟩ := q; exact ⟨u, v, by rw [y4]; exact q1, q2⟩
          | exc c fs => exact ⟨by rw [y4]; exact q.1, by rw [y3]; exact q.2.1, q.2.2 Y y1 y2 y3 y4 y5 (y6.mono (by omega))⟩
        · obtain ⟨q1, q2, q3, q4⟩ := B.meth c m f hf
          exact ⟨by rw [y3]; exact q2, by rw [y3]; exact q3, q4, fun m' => call Y y1 y2 y3 y4 y5 y6 f q1 m'⟩
      obtain ⟨gl1, gl2⟩ := glk (cxOf (L2.CX prog G.w) prog G.w G.K mg base (fi k).N (fi k).qual (fi k).scope (G.fadr k) cdv A outer s H E) rfl rfl rfl rfl rfl (hr.mono (by omega))
      have fit : Fit ⟨(fi k).N, gl, G.fnm, G.mnm, (fi k).lam⟩ G (oraD P d) (fun cls d _ H' => E cls d H') none (fi k).scope (cxOf (L2.CX prog G.w) prog G.w G.K mg base (fi k).N (fi k).qual (fi k).scope (G.fadr k) cdv A outer s H E) := by
        refine ⟨⟨rfl, rfl, takes_of rfl rfl rfl rfl, passes_of rfl, ?_, (T.fs k hk).nd⟩, B.ok, rfl, rfl, rfl, fun _ _ => rfl, gl1, gl2, B.fok, B.sub, rfl, rfl, fun _ => ⟨rfl, rfl⟩, fun _ hlam => ?_⟩
        · have := hr.un
          show (A.deeper (envOfC (fi k).qual (fi k).scope s.heap.objs.size (G.fadr k) cdv)).units + 80 < cLine
          omega
        · obtain ⟨c, Pt, h1, h2, h3, h4⟩ := B.lam k hk hlam
          refine ⟨⟨c, Pt, ⟨h2, ?_, h3, h4⟩⟩, hr.mono (by omega), fun Y y1 y2 y3 y4 y5 ⟨env, y6⟩ => glk Y y1 y2 y3 y4 y5 ?_⟩
          · show cdv = .ref c
            rw [← hcdv]
            exact h1 fd dvs kws F
          · rw [y6]
            exact hr.deeper _
      exact okB_snd _ fit (T.fs k hk).kind (T.okb k hk)
    · -- its start
      obtain ⟨hl, ρ, S, ws, rp, rs, po⟩ := h
      unfold stepD runF at po
      dsimp only at po
      have hw : ws.length = (P.fns k).np := by rw [rs.length, hl, T.np k hk]
      rw [argsW_full hw] at po
      refine ⟨ρ, ws.map some ++ List.replicate ((P.fns k).nn - (P.fns k).np) none, S, rp, ?_, ?_⟩
      · have hv : vs.length = (P.fns k).np := by rw [hl, T.np k hk]
        constructor
        · unfold L2.start
          rw [List.length_append, List.length_append, List.length_map, List.length_map, List.length_replicate, List.length_replicate, hw, hv, T.nn k hk]
        · intro i w hi
          by_cases hlt : i < ws.length
          · rw [List.getElem?_append_left (by rw [List.length_map]; exact hlt), List.getElem?_map] at hi
            obtain ⟨w', h1, h2⟩ := Option.map_eq_some_iff.mp hi
            cases h2
            obtain ⟨v, h3, h4⟩ := rs.get h1
            refine ⟨v, ?_, h4⟩
            unfold L2.start
            rw [List.getElem?_append_left (by rw [List.length_map, ← rs.length]; exact hlt), List.getElem?_map, h3]
            rfl
          · rw [List.getElem?_append_right (by rw [List.length_map]; omega), List.getElem?_replicate] at hi
            split at hi <;> cases hi
      · dsimp only at po
        cases e : exB (oraD P d) (P.fns k).body (ws.map some ++ List.replicate ((P.fns k).nn - (P.fns k).np) none) S with
        | nx τ S1 => rw [e] at po; exact fun ρ' H' σ' ex rp' _ => po _ _ _ ex rp' .non
        | rt w S1 => rw [e] at po; exact fun ρ' H' v ex rp' r => po _ _ _ ex rp' r
        | bk τ S1 => rw [e] at po; exact po.elim
        | ct τ S1 => rw [e] at po; exact po.elim
        | exc c fs τ S1 => rw [e] at po; exact fun ρ' H' σ' d ex rp' _ x => po _ _ _ ex rp' x
        | stuck => rw [e] at po; exact po.elim
theorem fn_snd (T : Txt P fi nf gl G.fnm G.mnm) (B : Top prog base P G mg fi nf gl) : ∀ n : Nat, Good prog base P G mg fi nf n (callN P n)
  | 0 => good_zero
  | n + 1 => good_step T B (fn_snd T B n)
end
end Rf

set_option Elab.async false
set_option maxRecDepth 100000
set_option maxHeartbeats 2000000
/-! RfExc: an exception class of the program whose __init__ says super().__init__(x), me.f = x. -/
namespace Rf
open PySem PySem.Spec PyProof.Rows L2
/-- what the written part says of such a class: C the class, fI its __init__, cda its code, cc the cell of __class__ -/
structure InitC (prog : Program) (K : PySem.W.Frag) (mg : Str → Option Value) (C fI : Addr) (me x f : Str) (scope : Scope) (body : List Stmt) : Prop where
  ox : OexC K C
  no : PySem.W.findIn K (.ref C) f = some none
  ini : PySem.W.findIn K (.ref C) "__init__" = some (some (.ref fI))
  tI : PySem.W.typeIn K (.ref fI) = some (.type "function")
  fn : ∃ (oc : Value) (od : Option Addr) (name qual : Str) (params : Arguments) (dV kV doc pm ct : Value) (an : Option Addr) (cda cc : Addr) (osl : Array (Option Value)),
    K.lookup fI = some ⟨oc, od, .func (PySem.W.ksFn name qual params body scope dV kV doc pm an (.ref cda) ct cc), osl⟩ ∧ PySem.W.codeIn K (.ref cda) qual = true ∧
    (∃ ar, (params.posonlyargs ++ params.args).head? = some ar ∧ ar.arg = me) ∧ (∀ us : List Value, us.length = 2 → bindArgs (PySem.W.ksFn name qual params body scope dV kV doc pm an (.ref cda) ct cc) ⟨us, []⟩ = pure ([me, x].zip us)) ∧
    (∃ (ccl : Value) (cdd : Option Addr) (ccs : Array (Option Value)) (vs : Array Value) (file : Str) (tf : Tok), K.lookup cda = some ⟨ccl, cdd, .fields vs, ccs⟩ ∧ vs[2]? = some (.str file tf) ∧ ((prog.main.file : Str) == file) = true) ∧
    ∃ (cl : Value) (cld : Option Addr) (csl : Array (Option Value)), K.lookup cc = some ⟨cl, cld, .cell (some (.ref C)), csl⟩
  sup : PySem.W.nsIn K mainGlobals "super" = some none
  top : (prog.main.scope.names.lookup ("super" : Str)).isSome = false
  along : PySem.W.ks_superIn K C C "__init__" = some (some (.builtin "ValueError.__init__"))
  sub : PySem.W.mroIn K C (.ref C) = some true
  isV : PySem.W.subIn K (.ref C) (.type "ValueError") = some true
  third : PySem.W.nsIn K cStatics "thirdparty.any" = some none
  ne : me ≠ x
  sk : scope.kind = .function
  sco : scope.isCoroutine = false
  sge : scope.isGenerator = false
  s1 : scope.names.lookup me = some .local
  s2 : scope.names.lookup x = some .local
  s3 : scope.names.lookup ("super" : Str) = some .globalImplicit
  s4 : scope.names.lookup ("__class__" : Str) = some .free
  s5 : ∀ y ∈ scope.names, y.2 ≠ .cell
  s6 : ∀ y ∈ scope.names, y.2 = .free → y.1 = "__class__"
  d1 : (me == ("__debug__" : Str)) = false ∧ (me == ("__classdict__" : Str)) = false
  d2 : (x == ("__debug__" : Str)) = false ∧ (x == ("__classdict__" : Str)) = false
/-- its promise -/
def spInit (C : Addr) (f : Str) : Sp := fun vs H Q _ => ∃ a v, vs = [.ref a, v] ∧ H a = some (exo a C none) ∧ ∀ dx, H dx = none → dx ≠ a → Q .non (upd (upd H dx (exd dx [(f, v)])) a (exo a C (some dx)))
section
variable {prog : Program} {w : World} {A : Around} {E : Value → Shared → Prop} {h : Heap} {g : Array GenState} {d : Drawn} {t : Nat} {os : OsState}
variable {nm q : Str} {C N : Addr} {bs bm : List Value} {sn : List Str} {sub : List Value} {ab : Bool} {col : Option Bool} {dd : Option Addr} {k0 k1 k2 k3 k5 : Option Value}
/-- ValueError.__init__ bound to e, called -/
theorem call_mw {u e t0 : Addr} {rest : List Value} {Q : Value → Shared → Prop} (hC : h.get? C = some (excClassObj nm q C N bs bm true sn sub ab col dd k0 k1 k2 k3 k5 "ValueError.__new__")) (he : h.get? e = some (HandSPX.excO C t0)) (hu : h.get? u = some (PySem.W.kxs_mw "ValueError.__init__" e)) (hrest : rest.length ≤ sizeLine)
    (hq : ∀ h' t1, (∀ b o, b ≠ e → h.get? b = some o → h'.get? b = some o) → h'.get? e = some (HandSPX.excO C t1) → Q .none ⟨h', g, d, t, os⟩) :
    wpAny (model prog w) A (call (.ref u) rest) Q E ⟨h, g, d, t, os⟩ := by
  refine wpAny_call (codeAny_of_tree ?_)
  show wpAny _ A.in1 (callAny (.ref u) ⟨rest, []⟩) _ _ _
  simp only [callAny]
  refine wpAny_bind (wpAny_load hu ?_)
  simp only [PySem.W.kxs_mw, show (Value.type "method-wrapper" == Value.type "method" || Value.type "method-wrapper" == Value.type "builtin_function_or_method" || Value.type "method-wrapper" == Value.type "method-wrapper") = true by decide, if_true]
  refine PySem.W.KFB.if_so (by decide) ?_
  refine wpAny_bind (PySem.W.check_bound_init F.excBase_ValueError.toExcCallFacts hC he rfl ?_)
  refine wpAny_bind (wpAny_pure (wpAny_pure ?_))
  refine ⟨Code.quiet_builtin _ (by decide +kernel), codeAny_builtin F.excBase_ValueError.initEntry ?_⟩
  rw [Around.under_plainId F.excBase_ValueError.init.plain _]
  wp_walk
  refine hq _ h.objs.size (fun b o hb ho => ?_) ?_
  · rw [Heap.get?_update_other _ _ (Ne.symm hb)]
    exact Heap.get?_push_of_some _ ho
  · rw [Heap.get?_update_self _ (Heap.get?_push_of_some _ he) rfl]
    rfl
end
/-- o.name(e): o read at its code's own place -/
theorem atMethod {M : Model} {A : Around} {c : Code} {E : Value → Shared → Prop} {s : Shared} {env : Env} {o : Expr} {name : Str} {apos pos : Pos} {x : Str} {p4 : Pos} {Q : Value → Shared → Prop} (hl : (apos.endLine == pos.line) = true)
    (h : PySem.wpAt M A c (attributeBase o name env (eval o env)) (fun ov s₁ => ∀ pl, wpAny M A (getMethod ov name pl) (fun fx s₂ => wpAny M A (callWith pos fx.1 fx.2 (backTo pos (starEach [.Name x p4] env)) []) Q E s₂) E s₁) E s) :
    PySem.wpAt M A c (eval (.Call (.Attribute o name apos) [.Name x p4] [] pos) env) Q E s := by
  rw [arm_eval_Call]
  have hpos : ∀ b, methodCallPos b o env apos pos = pure pos := fun b => by unfold methodCallPos; simp [hl]
  refine PySem.wpAt_bind (PySem.wpAt_mono h (fun ov s₁ h₁ => wpAt_of_wpAny (wpAny_bind (wpAny_standAt ?_))) fun _ _ x => x)
  unfold methodCall
  refine wpAny_bind (wpAny_holding ?_)
  have hf : methodCallForm ([Expr.Name x p4].length + ([] : List Keyword).length) (backTo pos (starEach [.Name x p4] env)) (backToKw pos (keywordEach [] env)) = true := by rfl
  rw [hf]
  refine wpAny_mono (h₁ _) (fun fx s₂ h₂ => ?_) fun _ _ z => z
  refine wpAny_bind (wpAny_of_eq (hpos true) ?_)
  exact h₂
/-- the place of its body -/
def inCx (P : Program) (w : World) (K : PySem.W.Frag) (mg : Str → Option Value) (base : Heap) (A : Around) (outer : List Env) (s : Shared) (H : Hp) (N : List Str) (env : Env) : Cx where
  prog := P
  w := w
  K := K
  mg := mg
  base := base
  A := A.deeper env
  N := N
  s_0 := s
  H_0 := H
  env := env
  outer := outer
  stack := env :: outer
  ex := []
  fn := fun _ => false
  calm := true
  pn := []
  xe := fun _ _ => False
section
variable {P : Program} {w : World} {K : PySem.W.Frag} {mg : Str → Option Value} {base : Heap} {C fI : Addr} {me x f : Str} {scope : Scope} {body : List Stmt}
theorem init_ok {CX : CXT} {fd : FuncData} {k : Nat} (T : InitC P K mg C fI me x f scope body) {p1 p2 p3 p4 p5 p6 p7 p8 p9 p10 : Pos} (hbody : body = [.Expr (.Call (.Attribute (.Call (.Name "super" p1) [] [] p2) "__init__" p3) [.Name x p4] [] p5) p6, .Assign [.Attribute (.Name me p7) f p8] (.Name x p9) p10]) (hl : (p3.endLine == p5.line) = true)
    (hfd : ∃ oc od osl, K.lookup fI = some ⟨oc, od, .func fd, osl⟩) : FnOk P w K mg base CX (k + 1) fI fd [me, x] (spInit C f) := by
  obtain ⟨oc, od, name, qual, params, dV, kV, doc, pm, ct, an, cda, cc, osl, lk, hcd, ⟨ar, har, hself⟩, hbind, ⟨ccl, cdd, ccs, vsC, file, tf, hcodeO, hvs, hfile⟩, cl, cld, csl, hcell⟩ := T.fn
  obtain ⟨oc', od', osl', lk'⟩ := hfd
  rw [lk] at lk'
  obtain rfl : fd = PySem.W.ksFn name qual params body scope dV kV doc pm an (.ref cda) ct cc := by
    injection lk' with e1
    injection e1 with e2 e3 e4
    injection e4 with e5
    exact e5.symm
  refine ⟨fun vs H Q E ⟨a, v, e, _⟩ => by rw [e]; rfl, fun A outer s H args us vs Q E hr e0 hb r ⟨a, v, ev, hexo, hq⟩ => ?_⟩
  subst ev
  cases r with
  | @cons _ u0 _ ur ra rr =>
  obtain rfl : u0 = Value.ref a := ra
  cases rr with
  | @cons _ u1 _ ur2 rv rr2 =>
  cases rr2
  have KX : K.In s.heap := e0.mod.kin.keeps fun b o e => (e0.bs b o e).1
  have lim : s.heap.NoLimit := e0.mod.nolimit.keeps fun b o e => (e0.bs b o e).1
  refine ks_codeAny_call_defAt (fd := PySem.W.ksFn name qual params body scope dV kV doc pm an (.ref cda) ct cc) (body := body) (binds := [(me, .ref a), (x, u1)]) hr.depth (KX _ _ lk) rfl lim (PySem.W.codeRec_of KX hcd) rfl hb T.s5 (fun y hy => ?_) (fun h₁ hns hk₁ => ?_) T.sco T.sge T.sk
  · rcases List.mem_cons.mp hy with e | hy
    · rw [e]; exact T.s1
    · rw [List.mem_singleton.mp hy]; exact T.s2
  -- the place
  generalize henv : callEnv (PySem.W.ksFn name qual params body scope dV kV doc pm an (.ref cda) ct cc) s.heap.objs.size fI = env
  have eEnv : env = PySem.W.ksEnv qual scope s.heap.objs.size fI (.ref cda) cc := by rw [← henv]; rfl
  have bcc := e0.mod.kin _ _ hcell
  have ccH : H cc = none := (e0.bs _ _ bcc).2
  have sC : env.scope = scope := by rw [eEnv]
  have lC : env.locals = s.heap.objs.size := by rw [eEnv]
  have cC : env.cells = [(("__class__" : Str), cc)] := by rw [eEnv]
  have hcells : ∀ y c, env.cells.lookup y = some c → y = "__class__" ∧ c = cc := fun y c e => by
    rw [cC, List.lookup_cons] at e
    split at e
    · rename_i hy
      exact ⟨eq_of_beq hy, (Option.some.inj e).symm⟩
    · cases e
  have noA : ∀ b : Addr, b ∉ (inCx P w K mg base A outer s H [me, x] env).ex := fun b z => absurd (show b ∈ ([] : List Addr) from z) (by simp)
  have I0 : Inv (inCx P w K mg base A outer s H [me, x] env) [] [some (.ref a), some v] H { s with heap := h₁, toks := s.toks + ([(me, Value.ref a), (x, u1)] : List (Str × Value)).length } := by
    refine ⟨⟨e0.mod, by show env.scope.kind = _; rw [sC]; exact T.sk, by show env.globals = _; rw [eEnv], by show env.builtins = _; rw [eEnv], by show _ ≤ env.locals; rw [lC]; exact Nat.le_refl _, fun y z c e1 e2 => ?_, fun y hy => ?_, fun y c z _ => ?_, fun _ => hr.hd, Around.frames_deeper e0.frames, .inr ⟨rfl, by show env.frame = some env.locals; rw [eEnv]⟩, fun b z => absurd z (noA b), e0.bs, e0.bsz, fun b _ _ => noA b,
      fun b z => absurd z (noA b), e0.funs, e0.frf⟩,
      rfl, e0.bare, Un.kept hk₁, ⟨_, by show h₁.Ns env.locals _; rw [lC]; exact hns, fun i y v' e1 e2 e3 => ?_⟩, fun y c e => ?_, by show H env.locals = none; rw [lC]; exact e0.hok.fresh (Nat.le_refl _), fun y c e => ?_, fun q hq => absurd (show q ∈ ([] : List (Addr × Obj)) ++ [] from hq) (by simp), e0.hok.kept hk₁, rfl⟩
    · exact (hcells y c e1).1.trans (hcells z c e2).1.symm
    · have hy : env.kindOf y = some .cell ∨ env.kindOf y = some .free := hy
      have hk : ∀ z, env.kindOf z = scope.names.lookup z := fun z => by rw [eEnv]; rfl
      rcases hy with hy | hy
      · rw [hk] at hy
        exact absurd rfl (T.s5 _ (PySem.mem_of_lookup hy))
      · rw [hk] at hy
        have e : y = ("__class__" : Str) := T.s6 _ (PySem.mem_of_lookup hy) rfl
        exact ⟨cc, by show env.cells.lookup y = _; rw [cC, e]; rfl⟩
    · cases (show false = true from z)
    · have kd : ∀ z, env.kindOf z = scope.names.lookup z := fun z => by rw [eEnv]; rfl
      have lk2 : ([(me, Value.ref a), (x, u1)] : List (Str × Value)).reverse.lookup me = some (.ref a) ∧ ([(me, Value.ref a), (x, u1)] : List (Str × Value)).reverse.lookup x = some u1 := by
        have n1 : (me == x) = false := beq_eq_false_iff_ne.mpr T.ne
        constructor
        · show List.lookup me [(x, u1), (me, Value.ref a)] = _
          rw [List.lookup_cons, n1, List.lookup_cons_self]
        · show List.lookup x [(x, u1), (me, Value.ref a)] = _
          rw [List.lookup_cons_self]
      cases i with
      | zero =>
        have e1 : me = y := Option.some.inj e1
        have e2 : V.ref a = v' := Option.some.inj (Option.some.inj e2)
        subst e1; subst e2
        exact ⟨.ref a, rfl, .inl ⟨(kd _).trans T.s1, lk2.1⟩⟩
      | succ i =>
        cases i with
        | zero =>
          have e1 : x = y := Option.some.inj e1
          have e2 : v = v' := Option.some.inj (Option.some.inj e2)
          subst e1; subst e2
          exact ⟨u1, rv, .inl ⟨(kd _).trans T.s2, lk2.2⟩⟩
        | succ i => cases (show none = some y from e1)
    · obtain ⟨_, e2⟩ := hcells y c e
      subst e2
      exact ⟨_, _, hk₁ _ _ (KX _ _ hcell), rfl⟩
    · obtain ⟨_, e2⟩ := hcells y c e
      rw [e2]; exact ccH
  generalize hs0 : ({ s with heap := h₁, toks := s.toks + ([(me, Value.ref a), (x, u1)] : List (Str × Value)).length } : Shared) = s0 at I0 ⊢
  -- its end
  have fin : ∀ {H' : Hp} {s' : Shared} {σ' : L2.St}, Inv (inCx P w K mg base A outer s H [me, x] env) [] σ' H' s' → Q .non H' → CE outer P w H s Q .none s' := fun {H' s' σ'} J q => ⟨.non, H', J.os, J.bare, J.base, J.hok, rfl, q⟩
  have kd : ∀ z, env.kindOf z = scope.names.lookup z := fun z => by rw [eEnv]; rfl
  have pvx : ∀ {p : Pos}, PE (inCx P w K mg base A outer s H [me, x] env) (.Name x p) (tVar 1) := fun {p} => pe_var (by rfl) (.inl (by show env.scope.names.lookup x = _; rw [sC]; exact T.s2)) T.d2.1 T.d2.2
  have pvs : ∀ {p : Pos}, PE (inCx P w K mg base A outer s H [me, x] env) (.Name me p) (tVar 0) := fun {p} => pe_var (by rfl) (.inl (by show env.scope.names.lookup me = _; rw [sC]; exact T.s1)) T.d1.1 T.d1.2
  rw [hbody]
  refine ks_wpAt_execs_cons (ks_wpAt_Expr_any (atMethod hl ?_) (by unfold interactive; rw [sC, T.sk]; rfl) rfl)
  have kS : env.kindOf "super" = some .globalImplicit := (kd _).trans T.s3
  have kC : env.kindOf "__class__" = some .free := (kd _).trans T.s4
  have kK : env.scope.kind = .function := by rw [sC]; exact T.sk
  refine ks_wpAt_super_base kS kC (by decide) (by rw [eEnv]) (I0.kIn _ _ lk) rfl har (by rw [eEnv]) (I0.kIn _ _ hcodeO) rfl hvs hfile T.top ?_
  have env_bl : env.builtins = builtinsNs ∧ env.globals = mainGlobals := by rw [eEnv]; exact ⟨rfl, rfl⟩
  obtain ⟨nmE, qE, NE, bsE, bmE, snE, subE, abE, colE, ddE, k0, k1, k2, k3, k5, hC, hbm⟩ := T.ox.cls
  have hmg : mg "super" = none := PySem.W.mg_none_of e0.mod.kin e0.mod.glob T.sup
  obtain ⟨mb, hb1, hb2⟩ := e0.mod.blt
  refine PySem.W.ks_loadName_global kK kS (Calls.loadGlobal_builtin (env := env) (by rw [env_bl.2]; exact e0.mod.glob.keeps I0.bk) hmg (by rw [env_bl.1]; exact hb1.keeps I0.bk) ((hb2 "super" (by decide)).trans (by kernel_rfl)) ⟨rfl, ?_⟩)
  refine wpAny_loadName_free kK kC (by rw [cC]; rfl) ⟨_, I0.kIn _ _ hcell, rfl⟩ ?_
  have hL : s0.heap.Ns env.locals fun y => ([(me, Value.ref a), (x, u1)] : List (Str × Value)).reverse.lookup y := by rw [← hs0, lC]; exact hns
  have hme : ([(me, Value.ref a), (x, u1)] : List (Str × Value)).reverse.lookup me = some (.ref a) := by
    have n1 : (me == x) = false := beq_eq_false_iff_ne.mpr T.ne
    show List.lookup me [(x, u1), (me, Value.ref a)] = _
    rw [List.lookup_cons, n1, List.lookup_cons_self]
  rw [hself]
  refine wpAny_loadName_local kK ((kd _).trans T.s1) hL hme ?_
  obtain ⟨t1, hobj⟩ := exo_at I0.hok hexo
  have mro : ∃ cd, PySem.W.clsIn K C = some cd ∧ PySem.W.alongIn K "__init__" ((cd.mro.dropWhile (· != .ref C)).drop 1) = some (some (.builtin "ValueError.__init__")) := by
    have z := T.along
    unfold PySem.W.ks_superIn at z
    exact Option.bind_eq_some_iff.mp z
  obtain ⟨cd, hcd1, hcd2⟩ := mro
  have hcls : ∃ oD cdD, s0.heap.get? C = some oD ∧ oD.data = .cls cdD := ⟨_, _, I0.kIn _ _ hC, rfl⟩
  obtain ⟨oD, cdD, hD1, hD2⟩ := hcls
  obtain ⟨hh, g, dr, tk, os⟩ := s0
  refine ks_wpAny_isType_cls hD1 hD2 ⟨rfl, ?_⟩
  refine ks_wpAny_call_super hD1 hD2 hobj rfl (fun c e => by cases e) (PySem.W.looks_mroIn I0.kIn T.sub) (fun h2 e2 k2 => ?_)
  intro pl
  have I2 : Inv (inCx P w K mg base A outer s H [me, x] env) [] [some (.ref a), some v] H ⟨h2, g, dr, tk, os⟩ := I0.kept (t' := tk) k2
  have inst : PySem.W.InstAt h2 a _ C none := ⟨k2 _ _ hobj, rfl, rfl, trivial⟩
  refine PySem.W.kxs_getMethod PySem.W.kxs_ValueError e2 (PySem.W.looks_opaque I2.kIn T.third) (l₀ := cd.mro) ?_ rfl I2.kIn hcd2 (inst.type.andThen (PySem.W.looks_subIn I2.kIn T.isV)) (PySem.W.ks_ne I2.kIn inst hcd1) (by decide) ?_
  · exact fun A Q E s k q => wpAny_bind ((PySem.W.looks_clsIn I2.kIn hcd1) A _ E s k (wpAny_pure q))
  have e3 : (h2.push (PySem.W.kxs_mw "ValueError.__init__" a)).get? h2.objs.size = some (PySem.W.kxs_mw "ValueError.__init__" a) := Heap.get?_push_size _ rfl
  have I3 : Inv (inCx P w K mg base A outer s H [me, x] env) [(h2.objs.size, PySem.W.kxs_mw "ValueError.__init__" a)] [some (.ref a), some v] H ⟨h2.push (PySem.W.kxs_mw "ValueError.__init__" a), g, dr, tk + 1, os⟩ := by
    have J := I2.kept (t' := tk + 1) (h' := h2.push (PySem.W.kxs_mw "ValueError.__init__" a)) fun b o q => Heap.get?_push_of_some _ q
    refine ⟨J.ok, J.os, J.bare, J.base, J.loc, J.cell, J.free, J.freeC, fun q hq => ?_, J.hok, J.len⟩
    have hq : q ∈ [(h2.objs.size, PySem.W.kxs_mw "ValueError.__init__" a)] := hq
    rw [List.mem_singleton.mp hq]
    refine ⟨e3, I2.hok.fresh (Nat.le_refl _), fun z => ?_, I2.nofs (Nat.le_refl _), fun c z => by cases z⟩
    have z : h2.objs.size = env.locals := z
    have l := I2.lt
    have l : env.locals < h2.objs.size := l
    rw [z] at l
    exact Nat.lt_irrefl _ l
  refine PySem.W.kxs_callWith (i := "ValueError.__init__") (x := a) (by rfl) (Calls.evalArgs_plain (wpAny_mono ((pa_cons (pvx (p := p4)) pa_nil).run p5 [(h2.objs.size, PySem.W.kxs_mw "ValueError.__init__" a)] _ [some (.ref a), some v] H (fun vs H1 => vs = [v] ∧ H1 = H) I3 ⟨v, rfl, rfl, rfl⟩) (fun us s5 ⟨vs, H1, I5, r5, ev, eH⟩ => ?_) fun _ _ z => False.elim z))
  subst ev; subst eH
  have pinned := (I5.pin (h2.objs.size, PySem.W.kxs_mw "ValueError.__init__" a) (List.mem_append_right _ List.mem_cons_self)).1
  have at_ : s5.heap.get? h2.objs.size = some (PySem.W.kxs_mw "ValueError.__init__" a) := pinned
  refine ⟨at_, ?_⟩
  obtain ⟨t5, hobj5⟩ := exo_at I5.hok hexo
  obtain ⟨h5, g5, d5, tk5, os5⟩ := s5
  have hl5 : us.length ≤ sizeLine := by rw [← Paired.length r5, sizeLine_eq]; simp
  refine call_mw (I5.kIn _ _ hC) hobj5 at_ hl5 fun h6 t6 k6 hx6 => ?_
  have J6 : Inv (inCx P w K mg base A outer s H1 [me, x] env) [] [some (.ref a), some v] H1 ⟨h6, g5, d5, tk5, os5⟩ := by
    have I5' : Inv (inCx P w K mg base A outer s H1 [me, x] env) [] [some (.ref a), some v] H1 ⟨h5, g5, d5, tk5, os5⟩ := ⟨I5.ok, I5.os, I5.bare, I5.base, I5.loc, I5.cell, I5.free, I5.freeC, fun q hq => absurd (show q ∈ ([] : List (Addr × Obj)) from hq) (by simp), I5.hok, I5.len⟩
    have J := I5'.write (t' := tk5) (x := a) (e := a) (o := exo a C none) (by rw [hexo]; exact True.intro) (.inl rfl) k6 ⟨_, hx6⟩ (exo_ok hx6)
    rw [upd_self hexo] at J
    exact J
  refine wpAt_of_wpAny ?_
  refine wpAny_mono ((pss_one (ps_ost (pos := p10) (pvs (p := p7)) (pvx (p := p9)))).run [] _ [some (.ref a), some v] H1 { nx := fun _ H' => Q .non H', rt := Q } J6 ⟨v, rfl, .ref a, rfl, a, C, rfl, T.ox, T.no, .inl ⟨hexo, hq⟩⟩) (fun fl s7 hsp => ?_) fun _ _ z => False.elim z
  cases fl with
  | next =>
    obtain ⟨σ7, H7, J7, q7⟩ := hsp
    exact fin J7 q7
  | ret u =>
    obtain ⟨v7, σ7, H7, J7, r7, q7⟩ := hsp
    exact ⟨v7, H7, J7.os, J7.bare, J7.base, J7.hok, r7, q7⟩
  | brk =>
    obtain ⟨_, _, _, q7⟩ := hsp
    exact False.elim q7
  | cont =>
    obtain ⟨_, _, _, q7⟩ := hsp
    exact False.elim q7
end
end Rf

set_option Elab.async false
set_option maxRecDepth 100000
set_option maxHeartbeats 2000000
/-! RfExc2: an exception is made: a class with one field, one with none. -/
namespace Rf
open PySem PySem.Spec PyProof.Rows L2
section
variable {G : GC} {X : Cx} {c f : Nat} {fI : Addr} {fd : FuncData} {ps : List Str} {k : Nat}
theorem mkx_one (hf : f < G.nf) (hK : X.K = G.K) (xf : XfC G.K (G.cadr c)) (T : OexC G.K (G.cadr c)) (no : PySem.W.findIn G.K (.ref (G.cadr c)) (G.fnm f) = some none)
    (iC : PySem.W.findIn G.K (.ref (G.cadr c)) "__init__" = some (some (.ref fI))) (tI : PySem.W.typeIn G.K (.ref fI) = some (.type "function"))
    (F1 : FnOk X.prog X.w X.K X.mg X.base CX0 k fI fd ps (spInit (G.cadr c) (G.fnm f))) (hps : ps.length = 2) (hr : Room (k + 1) X.A) (hb : Binds G.K fd ps []) : MkX G X c [f] := by
  refine .one hf xf no fun X' l pins s σ H Q u v E I ruv h => ?_
  have hK' : X'.K = G.K := l.K.trans hK
  rw [← hK'] at T iC tI hb
  rw [← l.prog, ← l.w, ← l.K, ← l.mg, ← l.base] at F1
  rw [← l.A] at hr
  generalize G.cadr c = C at *
  generalize G.fnm f = fn at *
  obtain ⟨nm, q, N, bs, bm, sn, sub, ab, col, dd, k0, k1, k2, k3, k5, hC, hbm⟩ := T.cls
  obtain ⟨hp, g, dr, tk, os⟩ := s
  have hsz : hp.objs.size ≤ hp.objs.size + 1 := Nat.le_succ _
  have hn : H (hp.objs.size + 1) = none := I.hok.fresh hsz
  have kk : ∀ b o, hp.get? b = some o → ((hp.push (PySem.W.kdv_tup [u])).push (PySem.HandSPX.excO C hp.objs.size)).get? b = some o := fun b o e => Heap.get?_push_of_some _ (Heap.get?_push_of_some _ e)
  have hget : ((hp.push (PySem.W.kdv_tup [u])).push (PySem.HandSPX.excO C hp.objs.size)).get? (hp.objs.size + 1) = some (PySem.HandSPX.excO C hp.objs.size) := by heap_get
  have I2 : Inv X' pins σ (upd H (hp.objs.size + 1) (exo (hp.objs.size + 1) C none)) ⟨(hp.push (PySem.W.kdv_tup [u])).push (PySem.HandSPX.excO C hp.objs.size), g, dr, tk, os⟩ :=
    I.laid (t' := tk) (a := hp.objs.size + 1) (o := exo (hp.objs.size + 1) C none) (h' := (hp.push (PySem.W.kdv_tup [u])).push (PySem.HandSPX.excO C hp.objs.size)) kk hsz (exo_ok hget)
  have r2 : Vals [V.ref (hp.objs.size + 1), v] [Value.ref (hp.objs.size + 1), u] := .cons rfl (.cons ruv .nil)
  have hl : [Value.ref (hp.objs.size + 1), u].length = ps.length := hps.symm
  have hus : [u].length ≤ sizeLine := by rw [sizeLine_eq]; simp
  have b := hb _ [Value.ref (hp.objs.size + 1), u] I2.kIn (by rw [List.append_nil]; exact hl)
  rw [List.append_nil] at b
  have hq : spInit C fn [V.ref (hp.objs.size + 1), v] (upd H (hp.objs.size + 1) (exo (hp.objs.size + 1) C none))
      (fun w H2 => w = .non ∧ ∃ d : Addr, H2 (hp.objs.size + 1) = some (exo (hp.objs.size + 1) C (some d)) ∧ H2 d = some (exd d [(fn, v)]) ∧ H d = none ∧ Q (.ref C) (some d) (upd (del H2 (hp.objs.size + 1)) d (.xd [(fn, v)]))) (fun _ _ _ => False) := by
    refine ⟨_, _, rfl, upd_same, fun dx e ne => ⟨rfl, dx, upd_same, ?_, ?_, ?_⟩⟩
    · rw [upd_ne ne, upd_same]
    · rw [upd_ne ne] at e; exact e
    · rw [upd_ne ne] at e
      have z := h dx e
      refine Eq.mp ?_ z
      congr 1
      funext y
      by_cases y1 : y = dx
      · rw [y1, upd_same, upd_same]
      · rw [upd_ne y1, upd_ne y1]
        by_cases y2 : y = hp.objs.size + 1
        · rw [y2, del_same]; exact hn
        · rw [del_ne y2, upd_ne y2, upd_ne y1, upd_ne y2]
  refine wpAny_call (PySem.HandSPX.call_own F.excBase_ValueError (fun Y => PySem.HandSPX.refsVE_contains Y bm hbm) (I.kIn _ _ hC) (PySem.W.looks_findIn I.kIn iC) (fun self => PySem.W.bind_fn I.kIn self tI) hus
    (codeAny_mono (F1.run _ X'.stack _ _ ⟨[Value.ref (hp.objs.size + 1), u], []⟩ [Value.ref (hp.objs.size + 1), u] _ _ (fun _ _ _ => False) (hr.make C [u] []) (I2.env0.make C [u] []) b r2 hq) fun r s' hq' => ?_))
  cases r with
  | error er => exact False.elim hq'
  | ok fl =>
    cases fl with
    | ret u =>
      obtain ⟨v, H2, os2, bare2, un2, hok2, rv, ev, d, ea, ed, hd1, q2⟩ := hq'
      subst ev
      obtain ⟨h2, g2, d2, t2, os'⟩ := s'
      exact ⟨rv, mk_end (raises_own T.exC T.tyC) I hsz kk un2 hok2 os2 bare2 ea ed hd1 q2⟩
    | next => exact False.elim hq'
    | brk => exact False.elim hq'
    | cont => exact False.elim hq'
theorem mkx_zero {B newId initId : String} {bmB : List Value} (F : ExcBaseFacts B newId initId bmB) (hK : X.K = G.K) (q : PySem.W.excIn G.K (G.cadr c) bmB newId = true) (exC : PySem.W.subIn G.K (.ref (G.cadr c)) (.type "BaseException") = some true) (tyC : PySem.W.typeIn G.K (.ref (G.cadr c)) = some (.type "type")) : MkX G X c [] := by
  refine .zero fun X' l pins s σ H Q us vs E I rv hl h => ?_
  have hK' : X'.K = G.K := l.K.trans hK
  rw [← hK'] at q exC tyC
  obtain ⟨bm, N, nm, qn, bs, hdct, sn, sub, ab, col, dd, k0, k1, k2, k3, k5, mN, hC, hN, hni, T⟩ := exc_obj I.kIn q
  refine wpAny_call_exc_subT F T hC hN hni (fun h' e hm => ?_) (by rw [← rv.length, sizeLine_eq]; omega)
  exact mk_of I hm (raises_own exC tyC) h (I.hok.gone hm.new)
end
end Rf

set_option Elab.async false
set_option maxRecDepth 100000
set_option maxHeartbeats 2000000
/-! RfTop: what stands behind the top, from the head's facts. -/
namespace Rf
open PySem PySem.Spec PyProof.Rows L2
/-! ### plain parameters -/
def plainAB (N : List Str) : Arguments → Bool
  | ⟨[], as, none, [], [], none, []⟩ => decide (as.map (·.arg) = N)
  | _ => false
theorem lookup_zip : ∀ {ns : List Str} {us : List Value}, ns.Nodup → us.length = ns.length → ns.filterMap (fun n => ((ns.zip us).lookup n).map (n, ·)) = ns.zip us := by
  intro ns us nd hl
  have key : ∀ (ms : List Str) (vs : List Value) (pre : List (Str × Value)), ms.Nodup → vs.length = ms.length → (∀ p ∈ pre, p.1 ∉ ms) → ms.filterMap (fun n => ((pre ++ ms.zip vs).lookup n).map (n, ·)) = ms.zip vs := by
    intro ms
    induction ms with
    | nil => intro vs pre _ _ _; rfl
    | cons m ms ih =>
      intro vs pre nd hl hp
      cases vs with
      | nil => cases hl
      | cons v vs =>
        obtain ⟨h1, h2⟩ := List.nodup_cons.mp nd
        have e : (pre ++ (m :: ms).zip (v :: vs)).lookup m = some v := by
          have pn : pre.lookup m = none := by
            rw [List.lookup_eq_none_iff]
            intro p hp2
            have := hp p hp2
            simp only [bne_iff_ne, ne_eq]
            intro z
            exact this (by rw [← z]; exact List.mem_cons_self)
          rw [List.lookup_append, pn]
          show (List.lookup m ((m, v) :: ms.zip vs)) = some v
          rw [List.lookup_cons_self]
        have e2 : ((pre ++ (m :: ms).zip (v :: vs)).lookup m).map (m, ·) = some (m, v) := by rw [e]; rfl
        rw [List.filterMap_cons]
        simp only [e2]
        show (m, v) :: _ = (m, v) :: ms.zip vs
        congr 1
        have q := ih vs (pre ++ [(m, v)]) h2 (Nat.succ.inj hl) fun p hp2 => by
          rcases List.mem_append.mp hp2 with z | z
          · exact fun y => hp p z (List.mem_cons_of_mem _ y)
          · rw [List.mem_singleton.mp z]; exact h1
        rw [List.append_assoc] at q
        exact q
  exact key ns us [] nd hl fun p hp => by cases hp
theorem zip_some {ns : List Str} {us : List Value} (nd : ns.Nodup) (hl : us.length = ns.length) {n : Str} (hn : n ∈ ns) : ((ns.zip us).lookup n).isNone = false := by
  have q := lookup_zip nd hl
  cases e : (ns.zip us).lookup n with
  | some v => rfl
  | none =>
    have : (ns.filterMap (fun n => ((ns.zip us).lookup n).map (n, ·))).length < ns.length := by
      clear q
      have key : ∀ ms : List Str, n ∈ ms → (ms.filterMap (fun n => ((ns.zip us).lookup n).map (n, ·))).length < ms.length := by
        intro ms
        induction ms with
        | nil => intro h; cases h
        | cons m ms ih =>
          intro h
          by_cases z : n = m
          · subst z
            have e2 : ((ns.zip us).lookup n).map (n, ·) = none := by rw [e]; rfl
            rw [List.filterMap_cons]
            simp only [e2]
            rw [List.length_cons]
            exact Nat.lt_succ_of_le (List.length_filterMap_le _ _)
          · have h2 := (List.mem_cons.mp h).resolve_left z
            have := ih h2
            cases e3 : ((ns.zip us).lookup m).map (m, ·) with
            | none => rw [List.filterMap_cons]; simp only [e3]; rw [List.length_cons]; omega
            | some y => rw [List.filterMap_cons]; simp only [e3]; rw [List.length_cons, List.length_cons]; omega
      exact key ns hn
    rw [q, List.length_zip, hl, Nat.min_self] at this
    omega
theorem bind_plain {fd : FuncData} {as : List Arg} {us : List Value} (hp : fd.params = ⟨[], as, none, [], [], none, []⟩) (hd : fd.defaults = .none) (nd : (as.map (·.arg)).Nodup) (hl : us.length = (as.map (·.arg)).length) : bindArgs fd ⟨us, []⟩ = pure ((as.map (·.arg)).zip us) := by
  have h1 := lookup_zip nd hl
  have h2 : ∀ l : List Str, (∀ n ∈ l, n ∈ as.map (·.arg)) → l.filter (fun n => (((as.map (·.arg)).zip us).lookup n).isNone) = [] := fun l h => List.filter_eq_nil_iff.mpr fun n hn => by rw [zip_some nd hl (h n hn)]; decide
  have h3 : (as.map (·.arg)).filter (fun n => (((as.map (·.arg)).zip us).lookup n).isNone) = [] := h2 _ fun _ h => h
  obtain ⟨n1, n2, n3, n4, n5, n6, n7, n8, n9, n10, n11, n12, n13, n14, n15⟩ := fd
  subst hp; subst hd
  unfold bindArgs
  simp [seqItems?, hl, h1, h3, List.take_of_length_le]
  rw [← List.filterMap_map] at *
  rw [show notAStandIn Value.none = (pure () : Sem Unit) from rfl, map_pure, h1]
/-! ### the exceptions -/
def oexB (K : PySem.W.Frag) (C : Addr) : Bool := (match K.lookup C with
    | some ⟨.type t, _, .cls ⟨_, _, .ref C' :: bm, _, _, hd, _, _, _, _, dl⟩, ⟨[_, _, _, _, some (.builtin b), _]⟩⟩ => decide (t = "type") && decide (C' = C) && PySem.HandSPX.refsVE bm && hd && !dl && decide (b = "ValueError.__new__")
    | _ => false) && decide (PySem.W.findIn K (.ref C) "__setattr__" = some (some (.builtin "object.__setattr__"))) && decide (PySem.W.subIn K (.ref C) (.type "BaseException") = some true) && decide (PySem.W.typeIn K (.ref C) = some (.type "type")) && PySem.W.keepIn K (.ref C)
theorem oexB_ok {K : PySem.W.Frag} {C : Addr} (h : oexB K C = true) : OexC K C := by
  unfold oexB at h
  simp only [Bool.and_eq_true, decide_eq_true_eq] at h
  obtain ⟨⟨⟨⟨h1, h2⟩, h3⟩, h4⟩, h5⟩ := h
  refine ⟨?_, h2, h3, h4, h5⟩
  split at h1
  · rename_i e
    simp only [Bool.and_eq_true, decide_eq_true_eq, Bool.not_eq_true'] at h1
    obtain ⟨⟨⟨⟨⟨e1, e2⟩, e3⟩, e4⟩, e5⟩, e6⟩ := h1
    subst e1 e2 e4 e5 e6
    exact ⟨_, _, _, _, _, _, _, _, _, _, _, _, _, _, _, e, e3⟩
  · cases h1
/-- an __init__ that says super().__init__(x), me.f = x -/
def initB (K : PySem.W.Frag) (file : Str) (C : Addr) (f : Str) : Bool := match PySem.W.findIn K (.ref C) "__init__" with
  | some (some (.ref fI)) => decide (PySem.W.typeIn K (.ref fI) = some (.type "function")) && (match K.lookup fI with
    | some ⟨_, _, .func ⟨_, qn, ⟨[], [a, b], none, [], [], none, []⟩, .stmts [.Expr (.Call (.Attribute (.Call (.Name s _) [] [] _) i p3) [.Name y _] [] p5) _, .Assign [.Attribute (.Name m _) g _] (.Name z _) _], sc, gl, [(cn, cc)], .none, _, _, _, _, .ref cda, _, bl⟩, _⟩ =>
      decide (s = ("super" : Str)) && decide (i = ("__init__" : Str)) && decide (y = b.arg) && decide (m = a.arg) && decide (g = f) && decide (z = b.arg) && (p3.endLine == p5.line) && decide (cn = ("__class__" : Str)) && decide (gl = mainGlobals) && decide (bl = builtinsNs) && decide (a.arg ≠ b.arg) &&
      PySem.W.codeIn K (.ref cda) qn && (match K.lookup cda with
        | some ⟨_, _, .fields vs, _⟩ => (match (vs[2]? : Option Value) with
          | some (.str fl _) => (file == fl)
          | _ => false)
        | _ => false) && (match K.lookup cc with
        | some ⟨_, _, .cell (some (.ref C')), _⟩ => decide (C' = C)
        | _ => false) &&
      decide (sc.kind = .function) && !sc.isCoroutine && !sc.isGenerator && decide (sc.names.lookup a.arg = some .local) && decide (sc.names.lookup b.arg = some .local) && decide (sc.names.lookup ("super" : Str) = some .globalImplicit) && decide (sc.names.lookup ("__class__" : Str) = some .free) &&
      sc.names.all (fun y => !decide (y.2 = .cell) && (!decide (y.2 = .free) || decide (y.1 = "__class__"))) && nmOk a.arg && nmOk b.arg
    | _ => false)
  | _ => false
def excB (K : PySem.W.Frag) (file : Str) (C : Addr) (f : Str) : Bool := oexB K C && initB K file C f && xfB K C && decide (PySem.W.findIn K (.ref C) f = some none) && decide (PySem.W.nsIn K mainGlobals "super" = some none) && decide (PySem.W.ks_superIn K C C "__init__" = some (some (.builtin "ValueError.__init__"))) &&
  decide (PySem.W.mroIn K C (.ref C) = some true) && decide (PySem.W.subIn K (.ref C) (.type "ValueError") = some true) && decide (PySem.W.nsIn K cStatics "thirdparty.any" = some none)
theorem excB_mk {G : GC} {X : Cx} {c f : Nat} (h : excB G.K X.prog.main.file (G.cadr c) (G.fnm f) = true) (hf : f < G.nf) (hK : X.K = G.K) (hr : Room 5 X.A) (ht : (X.prog.main.scope.names.lookup ("super" : Str)).isSome = false) : MkX G X c [f] := by
  unfold excB at h
  simp only [Bool.and_eq_true, decide_eq_true_eq] at h
  obtain ⟨⟨⟨⟨⟨⟨⟨⟨h1, h2⟩, h3⟩, h4⟩, h5⟩, h6⟩, h7⟩, h8⟩, h9⟩ := h
  have ox := oexB_ok h1
  unfold initB at h2
  split at h2
  · rename_i fI hi
    rw [Bool.and_eq_true, decide_eq_true_eq] at h2
    obtain ⟨hty, h2⟩ := h2
    split at h2
    · rename_i oc od nm qn a b s p1 p2 i p3 y p4 p5 p6 m p7 g p8 z p9 p10 sc gl cn cc kV doc pm an cda ct bl osl lk
      simp only [Bool.and_eq_true, decide_eq_true_eq, Bool.not_eq_true', List.all_eq_true, Bool.or_eq_true, decide_eq_false_iff_not] at h2
      obtain ⟨⟨⟨⟨⟨⟨⟨⟨⟨⟨⟨⟨⟨⟨⟨⟨⟨⟨⟨⟨⟨⟨⟨e1, e2⟩, e3⟩, e4⟩, e5⟩, e6⟩, e7⟩, e8⟩, e9⟩, e10⟩, e11⟩, e12⟩, e13⟩, e14⟩, s1⟩, s2⟩, s3⟩, s4⟩, s5⟩, s6⟩, s7⟩, s8⟩, s9⟩, s10⟩ := h2
      subst e1 e2 e3 e4 e5 e6 e8 e9 e10
      obtain ⟨n1, n2, _⟩ := nmOk_ok s9
      obtain ⟨n3, n4, _⟩ := nmOk_ok s10
      have T : InitC X.prog X.K X.mg (G.cadr c) fI a.arg b.arg (G.fnm f) sc [.Expr (.Call (.Attribute (.Call (.Name "super" p1) [] [] p2) "__init__" p3) [.Name b.arg p4] [] p5) p6, .Assign [.Attribute (.Name a.arg p7) (G.fnm f) p8] (.Name b.arg p9) p10] := by
        rw [hK]
        refine ⟨ox, h4, hi, hty, ⟨oc, od, nm, qn, ⟨[], [a, b], none, [], [], none, []⟩, .none, kV, doc, pm, ct, an, cda, cc, osl, lk, e12, ⟨a, rfl, rfl⟩, fun us hl => bind_plain (as := [a, b]) rfl rfl (by simp [e11]) hl, ?_, ?_⟩, h5, ht, h6, h7, h8, h9, e11, s1, s2, s3, s4, s5, s6, s7, fun y hy => (s8 y hy).1, fun y hy e => (s8 y hy).2.resolve_left (fun z => z e), ⟨n1, n2⟩, ⟨n3, n4⟩⟩
        · split at e13
          · rename_i q1
            split at e13
            · rename_i q2
              exact ⟨_, _, _, _, _, _, q1, q2, e13⟩
            · cases e13
          · cases e13
        · split at e14
          · rename_i q1
            rw [decide_eq_true_eq] at e14
            subst e14
            exact ⟨_, _, _, q1⟩
          · cases e14
      have F1 : FnOk X.prog X.w X.K X.mg X.base CX0 4 fI _ [a.arg, b.arg] (spInit (G.cadr c) (G.fnm f)) := init_ok (CX := CX0) (k := 3) T rfl e7 (by rw [hK]; exact ⟨_, _, _, lk⟩)
      exact mkx_one hf hK (xfB_ok h3) ox h4 hi hty F1 rfl hr (.all fun us hl => bind_plain (as := [a, b]) rfl rfl (by simp [e11]) hl)
    · cases h2
  · cases h2
end Rf

set_option Elab.async false
set_option maxRecDepth 100000
set_option maxHeartbeats 2000000
/-! RfTop2: a program told by tables; Top from the head's facts; the end of a law. -/
namespace Rf
open PySem PySem.Spec PyProof.Rows L2
structure Desc where
  fi : Nat → FI
  nf : Nat
  at_ : Nat → Str × Option Str
  cnm : Nat → Str
  fnml : List Str
  mnml : List Str
  gl : List (Str × GI)
  fns : Nat → Fn
  glb : Nat → W
  ini : List (Nat × Nat)
  met : List (Nat × Nat × Nat)
  fok : List (Nat × List Nat)
  sub : List (Nat × Nat × Bool)
  lamk : List Nat
  lf : Nat
namespace Desc
def metO (D : Desc) (c m : Nat) : Option Nat := (D.met.find? fun p => decide (p.1 = c) && decide (p.2.1 = m)).map (·.2.2)
def fokB (D : Desc) (c f : Nat) : Bool := match D.fok.lookup c with
  | some l => l.contains f
  | none => false
def subO (D : Desc) (c k : Nat) : Option Bool := (D.sub.find? fun p => decide (p.1 = c) && decide (p.2.1 = k)).map (·.2.2)
def prg (D : Desc) : Prg := ⟨D.fns, fun c => D.ini.lookup c, D.metO, D.glb, D.fokB, D.lf, D.subO⟩
def fnm (D : Desc) (i : Nat) : Str := D.fnml.getD i ""
def mnm (D : Desc) (i : Nat) : Str := D.mnml.getD i ""
def lamQ (D : Desc) (k : Nat) : Str := (D.fi k).qual ++ ".<locals>." ++ "<lambda>"
def G (D : Desc) (K : PySem.W.Frag) (w : World) : GC where
  K := K
  w := w
  cadr := fun c => He.ga K (D.cnm c)
  oadr := fun g => g
  fadr := fun k => He.fAd K (D.at_ k)
  fnm := D.fnm
  mnm := D.mnm
  nf := D.fnml.length
  fok := D.fokB
  sub := D.subO
  T := D.lamk.map fun k => ((He.cT K (D.at_ k)).2, D.lamQ k)
def faG (D : Desc) (p : Str × GI) : List He.Fa := match p.2 with
  | .fn _ => [.glo p.1]
  | .cls _ => [.glo p.1, .mkr p.1]
  | .blt => [.free p.1]
  | .val k => (match D.glb k with
    | .int i => [.int p.1 i]
    | .str z => [.str p.1 z]
    | _ => [])
  | .exc _ [] => [.glo p.1, .keep p.1, .exc p.1]
  | .exc _ (_ :: _) => [.glo p.1, .keep p.1]
def faM (D : Desc) (p : Nat × Nat × Nat) : List He.Fa := [.cls (D.cnm p.1), .meth (D.cnm p.1) (D.mnm p.2.1)]
def faF (D : Desc) (p : Nat × List Nat) : List He.Fa := .cls (D.cnm p.1) :: p.2.map fun f => .noat (D.cnm p.1) (D.fnm f)
def faS (D : Desc) (p : Nat × Nat × Bool) : List He.Fa := [.exm (D.cnm p.1) (D.cnm p.2.1) p.2.2]
def fa (D : Desc) : List He.Fa := D.gl.flatMap D.faG ++ D.met.flatMap D.faM ++ D.fok.flatMap D.faF ++ D.sub.flatMap D.faS
def dd (D : Desc) (k : Nat) : He.DefD := ⟨D.at_ k, (D.fi k).name, (D.fi k).qual, (D.fi k).params, (D.fi k).body, (D.fi k).scope, [], []⟩
def fn (D : Desc) : List He.DefD := (List.range D.nf).map D.dd
def tf (D : Desc) : List He.Defn := D.lamk.map D.at_
def exG (D : Desc) (file : Str) (K : PySem.W.Frag) (p : Str × GI) : Bool := match p.2 with
  | .exc c [f] => excB K file (He.ga K (D.cnm c)) (D.fnm f)
  | _ => true
def ex (D : Desc) (file : Str) (K : PySem.W.Frag) : Bool := D.gl.all (D.exG file K)
/-! the text's own checks -/
def fnScB (N P : List Str) (sc : Scope) : Bool := decide (sc.kind = .function) && !sc.isCoroutine && !sc.isGenerator && decide N.Nodup && decide (N.take P.length = P) && P.all (fun x => decide (sc.names.lookup x = some .local) || decide (sc.names.lookup x = some .cell)) && sc.names.all fun y => !decide (y.2 = .free)
theorem fnScB_ok {N P : List Str} {sc : Scope} (h : fnScB N P sc = true) : FnScope N P sc := by
  unfold fnScB at h
  simp only [Bool.and_eq_true, Bool.or_eq_true, Bool.not_eq_true', decide_eq_true_eq, decide_eq_false_iff_not, List.all_eq_true] at h
  obtain ⟨⟨⟨⟨⟨⟨h1, h2⟩, h3⟩, h4⟩, h5⟩, h6⟩, h7⟩ := h
  exact ⟨h1, h2, h3, h4, h5, h6, h7⟩
def kB (D : Desc) (k : Nat) : Bool := okB ⟨(D.fi k).N, D.gl, D.fnm, D.mnm, (D.fi k).lam⟩ (D.fi k).scope (D.fns k).body (D.fi k).body && fnScB (D.fi k).N (D.fi k).ps (D.fi k).scope && decide ((D.fns k).np = (D.fi k).ps.length) && decide ((D.fns k).nn = (D.fi k).N.length) && plainAB (D.fi k).ps (D.fi k).params && (D.fns k).dfl.isEmpty && (!(D.fi k).lam || D.lamk.contains k)
def gB (D : Desc) (p : Str × GI) : Bool := match p.2 with
  | .fn k => decide (k < D.nf) && decide (D.at_ k = (p.1, none))
  | .cls c => decide (D.cnm c = p.1) && (match D.ini.lookup c with
    | some f => decide (f < D.nf) && decide (D.at_ f = (p.1, some ("__init__" : Str)))
    | none => false)
  | .blt => true
  | .val k => (match D.glb k with
    | .int _ => true
    | .str _ => true
    | _ => false)
  | .exc c fs => decide (D.cnm c = p.1) && (match fs with
    | [] => true
    | [f] => decide (f < D.fnml.length)
    | _ => false)
def mB (D : Desc) (p : Nat × Nat × Nat) : Bool := decide (p.2.2 < D.nf) && decide (D.at_ p.2.2 = (D.cnm p.1, some (D.mnm p.2.1))) && ((D.fok.lookup p.1).getD []).all fun f => !decide (D.fnm f = D.mnm p.2.1)
def restB (D : Desc) : Bool := D.gl.all D.gB && D.met.all D.mB && D.fok.all (fun p => p.2.all fun f => decide (f < D.fnml.length)) && decide D.fnml.Nodup && (match D.lamk with
  | [] => true
  | [_] => true
  | _ => false)
end Desc
theorem lookup_mem2 {α β : Type} [BEq α] [LawfulBEq α] {l : List (α × β)} {x : α} {y : β} (h : l.lookup x = some y) : (x, y) ∈ l := by
  induction l with
  | nil => cases h
  | cons p l ih =>
    obtain ⟨a, b⟩ := p
    rw [List.lookup_cons] at h
    split at h
    · rename_i e
      cases h
      rw [eq_of_beq e]
      exact List.mem_cons_self
    · exact List.mem_cons_of_mem _ (ih h)
section
variable {D : Desc} {prog : Program} {base : Heap} {K : PySem.W.Frag} {w : World} {mg : Str → Option Value} {h : Heap} {file : Str}
theorem Desc.say (c : He.SaysX D.fa D.fn [] D.tf (D.ex file) w h K) {f : He.Fa} (hf : f ∈ D.fa) : f.ok K = true := He.SaysD.facts (He.SaysT.d c.t) hf
theorem Desc.sayG (c : He.SaysX D.fa D.fn [] D.tf (D.ex file) w h K) {p : Str × GI} (hp : p ∈ D.gl) {f : He.Fa} (hf : f ∈ D.faG p) : f.ok K = true :=
  D.say c (List.mem_append_left _ (List.mem_append_left _ (List.mem_append_left _ (List.mem_flatMap.mpr ⟨p, hp, hf⟩))))
theorem Desc.sayM (c : He.SaysX D.fa D.fn [] D.tf (D.ex file) w h K) {p : Nat × Nat × Nat} (hp : p ∈ D.met) {f : He.Fa} (hf : f ∈ D.faM p) : f.ok K = true :=
  D.say c (List.mem_append_left _ (List.mem_append_left _ (List.mem_append_right _ (List.mem_flatMap.mpr ⟨p, hp, hf⟩))))
theorem Desc.sayF (c : He.SaysX D.fa D.fn [] D.tf (D.ex file) w h K) {p : Nat × List Nat} (hp : p ∈ D.fok) {f : He.Fa} (hf : f ∈ D.faF p) : f.ok K = true :=
  D.say c (List.mem_append_left _ (List.mem_append_right _ (List.mem_flatMap.mpr ⟨p, hp, hf⟩)))
theorem Desc.sayS (c : He.SaysX D.fa D.fn [] D.tf (D.ex file) w h K) {p : Nat × Nat × Bool} (hp : p ∈ D.sub) {f : He.Fa} (hf : f ∈ D.faS p) : f.ok K = true :=
  D.say c (List.mem_append_right _ (List.mem_flatMap.mpr ⟨p, hp, hf⟩))
theorem Desc.funD (c : He.SaysX D.fa D.fn [] D.tf (D.ex file) w h K) {k : Nat} (hk : k < D.nf) : ∃ fd, FunD K (D.fi k).name (D.fi k).qual (D.fi k).params (D.fi k).body (D.fi k).scope [] [] ((D.G K w).fadr k) fd :=
  He.SaysD.defs (He.SaysT.d c.t) (d := D.dd k) (List.mem_map.mpr ⟨k, List.mem_range.mpr hk, rfl⟩)
theorem Desc.txt (hk : ∀ k, k < D.nf → D.kB k = true) : Txt D.prg D.fi D.nf D.gl (D.G K w).fnm (D.G K w).mnm := by
  have z : ∀ k, k < D.nf → _ := fun k hk' => by
    have q := hk k hk'
    unfold Desc.kB at q
    simp only [Bool.and_eq_true, decide_eq_true_eq] at q
    exact q
  exact ⟨fun k h => (z k h).1.1.1.1.1.1, fun k h => Desc.fnScB_ok (z k h).1.1.1.1.1.2, fun k h => (z k h).1.1.1.1.2, fun k h => (z k h).1.1.1.2⟩
theorem plainAB_ok {N : List Str} {p : Arguments} (h : plainAB N p = true) : ∃ as : List Arg, p = ⟨[], as, none, [], [], none, []⟩ ∧ as.map (·.arg) = N := by
  unfold plainAB at h
  split at h
  · exact ⟨_, rfl, of_decide_eq_true h⟩
  · cases h
theorem Desc.binds {k : Nat} {fd : FuncData} (hk : D.kB k = true) (F : FunD K (D.fi k).name (D.fi k).qual (D.fi k).params (D.fi k).body (D.fi k).scope [] [] ((D.G K w).fadr k) fd) : ∀ us : List Value, us.length = (D.fi k).ps.length → bindArgs fd ⟨us, []⟩ = pure ((D.fi k).ps.zip us) := by
  unfold Desc.kB at hk
  simp only [Bool.and_eq_true, decide_eq_true_eq] at hk
  obtain ⟨as, h1, h2⟩ := plainAB_ok hk.1.1.2
  have S := Desc.fnScB_ok hk.1.1.1.1.1.2
  have nd : (D.fi k).ps.Nodup := by rw [← S.pre]; exact S.nd.sublist (List.take_sublist _ _)
  obtain ⟨oc, od, dV, kV, doc, pm, an, cdv, ct, osl, rfl, lk, hcd, hD, _⟩ := F.ex
  have e : dV = .none := by
    rcases hD with ⟨_, e⟩ | ⟨e, _⟩
    · exact e
    · exact absurd rfl e
  subst e
  intro us hl
  have q := bind_plain (fd := PySem.W.fnOf (D.fi k).name (D.fi k).qual (D.fi k).params (D.fi k).body (D.fi k).scope .none kV doc pm an cdv ct) (as := as) (us := us) h1 rfl (by rw [h2]; exact nd) (by rw [h2]; exact hl)
  rw [h2] at q
  exact q
theorem Desc.gok (hr : D.restB = true) (c : He.SaysX D.fa D.fn [] D.tf (D.ex file) w h K) : GOk (D.G K w) := by
  unfold Desc.restB at hr
  simp only [Bool.and_eq_true, decide_eq_true_eq, List.all_eq_true, Bool.not_eq_true', decide_eq_false_iff_not] at hr
  obtain ⟨⟨⟨⟨h1, h2⟩, h3⟩, h4⟩, h6⟩ := hr
  refine ⟨fun i j hi hj e => ?_, fun k f hf => ?_, fun a b z hz => ?_⟩
  · have e : D.fnml.getD i "" = D.fnml.getD j "" := e
    have hi : i < D.fnml.length := hi
    have hj : j < D.fnml.length := hj
    rw [List.getD_eq_getElem?_getD, List.getD_eq_getElem?_getD, List.getElem?_eq_getElem hi, List.getElem?_eq_getElem hj] at e
    have e : D.fnml[i] = D.fnml[j] := e
    rcases Nat.lt_trichotomy i j with z | z | z
    · exact absurd e (List.pairwise_iff_getElem.mp h4 i j hi hj z)
    · exact z
    · exact absurd e.symm (List.pairwise_iff_getElem.mp h4 j i hj hi z)
  · have hf : D.fokB k f = true := hf
    unfold Desc.fokB at hf
    split at hf
    · rename_i l hl
      have hm := lookup_mem2 hl
      have hf' : f ∈ l := by rw [List.contains_eq_mem] at hf; simpa using hf
      have lt := h3 _ hm f hf'
      have d1 := D.sayF c hm (f := .cls (D.cnm k)) (by unfold Desc.faF; exact List.mem_cons_self)
      have d2 := D.sayF c hm (f := .noat (D.cnm k) (D.fnm f)) (by unfold Desc.faF; exact List.mem_cons_of_mem _ (List.mem_map.mpr ⟨f, hf', rfl⟩))
      exact ⟨lt, He.cls_ok d1, He.noat_ok d2⟩
    · cases hf
  · have hz : D.subO a b = some z := hz
    unfold Desc.subO at hz
    obtain ⟨p, e1, e2⟩ := Option.map_eq_some_iff.mp hz
    have hm := List.mem_of_find?_eq_some e1
    have hp := List.find?_some e1
    simp only [Bool.and_eq_true, decide_eq_true_eq] at hp
    have d1 := D.sayS c hm (f := .exm (D.cnm p.1) (D.cnm p.2.1) p.2.2) (by unfold Desc.faS; exact List.mem_cons_self)
    rw [hp.1, hp.2, e2] at d1
    exact He.exm_ok d1
theorem Desc.top (hk : ∀ k, k < D.nf → D.kB k = true) (hr : D.restB = true) (c : He.SaysX D.fa D.fn [] D.tf (D.ex prog.main.file) w h K) (X : K.In h) (N : h.Ns mainGlobals mg) (ht : (prog.main.scope.names.lookup ("super" : Str)).isSome = false)
    (tb : ∀ k ∈ D.lamk, LamX.TabB base mg (He.cT K (D.at_ k)).1 (He.cT K (D.at_ k)).2) : Top prog base D.prg (D.G K w) mg D.fi D.nf D.gl := by
  have gok := Desc.gok hr c
  unfold Desc.restB at hr
  simp only [Bool.and_eq_true, decide_eq_true_eq, List.all_eq_true, Bool.not_eq_true', decide_eq_false_iff_not] at hr
  obtain ⟨⟨⟨⟨h1, h2⟩, h3⟩, h4⟩, h6⟩ := hr
  refine ⟨gok, rfl, rfl, fun k hlt => ?_, fun x i hx => ?_, fun cc m f hf => ?_, fun k hlt hl => ?_⟩
  · obtain ⟨fd, F⟩ := D.funD c hlt
    have hd : (D.fns k).dfl = [] := by
      have q := hk k hlt
      unfold Desc.kB at q
      simp only [Bool.and_eq_true, decide_eq_true_eq] at q
      exact List.isEmpty_iff.mp q.1.2
    refine ⟨fd, [], [], F, fun ρ H => by show Rs _ ρ H (D.fns k).dfl []; rw [hd]; exact .nil, fun n hn1 hn2 => ⟨[], by rw [List.drop_nil]; exact .nil, .all (D.binds (hk k hlt) F)⟩⟩
  · have hm := lookup_mem2 hx
    have g := h1 _ hm
    unfold Desc.gB at g
    cases i with
    | fn k =>
      simp only [Bool.and_eq_true, decide_eq_true_eq] at g
      have d := D.sayG c hm (f := .glo x) (by unfold Desc.faG; exact List.mem_cons_self)
      refine ⟨g.1, ?_⟩
      show mg x = some (.ref (He.fAd K (D.at_ k)))
      rw [g.2]
      exact He.glo_ok X N d
    | cls k =>
      simp only [Bool.and_eq_true, decide_eq_true_eq] at g
      obtain ⟨g1, g2⟩ := g
      split at g2
      · rename_i f hf
        simp only [Bool.and_eq_true, decide_eq_true_eq] at g2
        have d1 := D.sayG c hm (f := .glo x) (by unfold Desc.faG; exact List.mem_cons_self)
        have d2 := D.sayG c hm (f := .mkr x) (by unfold Desc.faG; exact List.mem_cons_of_mem _ List.mem_cons_self)
        refine ⟨?_, f, hf, g2.1, ?_⟩
        · show mg x = some (.ref (He.ga K (D.cnm k)))
          rw [g1]
          exact He.glo_ok X N d1
        · show Mk K (He.ga K (D.cnm k)) (He.fAd K (D.at_ f))
          rw [g1, g2.2]
          exact He.mkr_ok d2
      · cases g2
    | blt => exact He.free_ok X N (D.sayG c hm (f := .free x) (by unfold Desc.faG; exact List.mem_cons_self))
    | val k =>
      dsimp only at g
      split at g
      · rename_i z hz
        obtain ⟨t, e⟩ := He.int_ok X N (D.sayG c hm (f := .int x z) (by unfold Desc.faG; dsimp only; rw [hz]; exact List.mem_cons_self))
        exact ⟨_, .int z, e, ⟨t, rfl⟩, fun ρ H => by show R _ ρ H (D.glb k) _; rw [hz]; exact .int⟩
      · rename_i z hz
        obtain ⟨t, e⟩ := He.str_ok X N (D.sayG c hm (f := .str x z) (by unfold Desc.faG; dsimp only; rw [hz]; exact List.mem_cons_self))
        exact ⟨_, .str z, e, ⟨t, rfl⟩, fun ρ H => by show R _ ρ H (D.glb k) _; rw [hz]; exact .str⟩
      · cases g
    | exc k fs =>
      simp only [Bool.and_eq_true, decide_eq_true_eq] at g
      obtain ⟨g1, g2⟩ := g
      have d1 : (He.Fa.glo x).ok K = true := D.sayG c hm (f := .glo x) (by unfold Desc.faG; cases fs <;> exact List.mem_cons_self)
      have d2 : (He.Fa.keep x).ok K = true := D.sayG c hm (f := .keep x) (by unfold Desc.faG; cases fs <;> exact List.mem_cons_of_mem _ List.mem_cons_self)
      refine ⟨by show mg x = some (.ref (He.ga K (D.cnm k))); rw [g1]; exact He.glo_ok X N d1, by show PySem.W.keepIn K (.ref (He.ga K (D.cnm k))) = true; rw [g1]; exact He.keep_ok d2, fun Y y1 y2 y3 y4 y5 hr => ?_⟩
      match fs, g2, hm with
      | [], _, hm =>
        have d3 := D.sayG c hm (f := .exc x) (by unfold Desc.faG; exact List.mem_cons_of_mem _ (List.mem_cons_of_mem _ List.mem_cons_self))
        obtain ⟨q1, q2, q3, q4⟩ := He.exc_ok d3
        refine mkx_zero F.excBase_ValueError y3 ?_ ?_ ?_
        · show PySem.W.excIn K (He.ga K (D.cnm k)) _ _ = true
          rw [g1]; exact q1
        · show PySem.W.subIn K (.ref (He.ga K (D.cnm k))) _ = _
          rw [g1]; exact q3
        · show PySem.W.typeIn K (.ref (He.ga K (D.cnm k))) = _
          rw [g1]; exact q4
      | [f], g2, hm =>
        have e := List.all_eq_true.mp (show D.gl.all (D.exG prog.main.file K) = true from c.more) _ hm
        unfold Desc.exG at e
        exact excB_mk (by rw [y1]; exact e) (of_decide_eq_true g2) y3 hr (by rw [y1]; exact ht)
      | _ :: _ :: _, g2, _ => cases g2
  · have hf : D.metO cc m = some f := hf
    unfold Desc.metO at hf
    obtain ⟨p, e1, e2⟩ := Option.map_eq_some_iff.mp hf
    have hm := List.mem_of_find?_eq_some e1
    have hp := List.find?_some e1
    simp only [Bool.and_eq_true, decide_eq_true_eq] at hp
    have g := h2 _ hm
    unfold Desc.mB at g
    simp only [Bool.and_eq_true, decide_eq_true_eq] at g
    have d1 := D.sayM c hm (f := .cls (D.cnm p.1)) (by unfold Desc.faM; exact List.mem_cons_self)
    have d2 := D.sayM c hm (f := .meth (D.cnm p.1) (D.mnm p.2.1)) (by unfold Desc.faM; exact List.mem_cons_of_mem _ List.mem_cons_self)
    obtain ⟨⟨g1, g2⟩, g3⟩ := g
    rw [e2, hp.1, hp.2] at g2
    rw [hp.1, hp.2] at d2 g3
    rw [hp.1] at d1
    refine ⟨by rw [← e2]; exact g1, He.cls_ok d1, ?_, fun i hi z => ?_⟩
    · show Meth K (He.ga K (D.cnm cc)) (D.mnm m) (He.fAd K (D.at_ f))
      rw [g2]
      exact He.meth_ok d2
    · have hi : D.fokB cc i = true := hi
      unfold Desc.fokB at hi
      split at hi
      · rename_i l hl
        rw [hl] at g3
        have hi' : i ∈ l := by rw [List.contains_eq_mem] at hi; simpa using hi
        have q := List.all_eq_true.mp g3 i hi'
        simp only [Bool.not_eq_true', decide_eq_false_iff_not] at q
        exact q z
      · cases hi
  · have hin : k ∈ D.lamk := by
      have q := hk k hlt
      unfold Desc.kB at q
      simp only [Bool.and_eq_true, decide_eq_true_eq, Bool.or_eq_true, Bool.not_eq_true'] at q
      rcases q.2 with z | z
      · rw [hl] at z; cases z
      · rw [List.contains_eq_mem] at z; simpa using z
    have one : ∀ j ∈ D.lamk, j = k := by
      match hq : D.lamk, h6 with
      | [], _ => intro j hj; cases hj
      | [a], _ =>
        intro j hj
        rw [hq] at hin
        rw [List.mem_singleton.mp hj, List.mem_singleton.mp hin]
      | _ :: _ :: _, z => cases z
    refine ⟨_, _, fun fd dvs kws F => ?_, tb k hin, List.mem_map.mpr ⟨k, hin, rfl⟩, fun p hp e => ?_⟩
    · obtain ⟨oc, od, dV, kV, doc, pm, an, cdv, ct, osl, rfl, lk, hcd, _, _⟩ := F.ex
      obtain ⟨cd, rfl⟩ := He.codeIn_ref hcd
      show Value.ref cd = .ref (He.codeOf K (D.at_ k))
      rw [He.codeOf_eq lk rfl]
    · obtain ⟨j, hj, rfl⟩ := List.mem_map.mp hp
      rw [one j hj]
      rfl
end
end Rf

set_option Elab.async false
set_option maxRecDepth 100000
/-! RfMemo: calls whose values are plain data may be worked apart, each from an empty store. -/
namespace Rf
open PySem PySem.Spec PyProof.Rows L2
/-! ### plain data -/
mutual
def plW : W → Bool
  | .non => true | .bl _ => true | .int _ => true | .str _ => true | .ty _ => true | .obj _ => true
  | .tup xs => plWs xs
  | .tpl xs => plWs xs
  | .loc _ => false
  | .err _ _ => false
def plWs : List W → Bool
  | [] => true
  | x :: xs => plW x && plWs xs
end
section
variable {G : GC} {ρ ρ' : List Addr} {H H' : Hp}
mutual
theorem R.pl : ∀ {w : W} {v : V}, plW w = true → R G ρ H w v → R G ρ' H w v
  | _, _, _, .non => .non
  | _, _, _, .bl => .bl
  | _, _, _, .int => .int
  | _, _, _, .str => .str
  | _, _, _, .ty => .ty
  | _, _, _, .obj => .obj
  | _, _, h, .loc _ => by unfold plW at h; cases h
  | _, _, h, .tup e r => .tup e (Rs.pl (by unfold plW at h; exact h) r)
  | _, _, h, .tpl e d r => .tpl e d (Rs.pl (by unfold plW at h; exact h) r)
theorem Rs.pl : ∀ {w : List W} {v : List V}, plWs w = true → Rs G ρ H w v → Rs G ρ' H w v
  | _, _, _, .nil => .nil
  | _, _, h, .cons r t => .cons (R.pl (by unfold plWs at h; exact (Bool.and_eq_true_iff.mp h).1) r) (Rs.pl (by unfold plWs at h; exact (Bool.and_eq_true_iff.mp h).2) t)
end
theorem RF.pl {fs : List (Nat × W)} {vs : List (Str × V)} (h : RF G ρ H fs vs) : (fs.all fun p => plW p.2) = true → RF G ρ' H fs vs := by
  induction h with
  | nil => exact fun _ => .nil
  | cons hk r _ ih =>
    intro h
    rw [List.all_cons, Bool.and_eq_true] at h
    exact .cons hk (r.pl h.1) (ih h.2)
/-- a set is no code object -/
theorem codeO_ne {w : World} {c : Addr} {q : Str} {S : Int → Bool} {n : Nat} : LamX.CodeO c q ≠ SetO w c S n := by
  intro e
  unfold LamX.CodeO SetO at e
  injection e with e
  let oc : Obj := { cls := .none, data := .fields #[.none, .str q 0] }
  let h : Heap := ⟨(Array.replicate c oc).push oc, {}⟩
  have hg : h.get? c = some oc := by
    unfold Heap.get?
    have : h.objs[c]? = some oc := by
      show ((Array.replicate c oc).push oc)[c]? = some oc
      have z : (Array.replicate c oc).size = c := Array.size_replicate
      rw [Array.getElem?_push, z, if_pos rfl]
    rw [this]
  have l : ∃ (o : Obj) (vs : Array Value) (t : Tok), h.get? c = some o ∧ o.data = .fields vs ∧ vs[1]? = some (.str q t) := ⟨oc, _, 0, hg, rfl, rfl⟩
  have r : SetR w h c S n := (congrFun e h).mp l
  obtain ⟨o, es, t, k, ho, _, hd, _⟩ := r
  rw [hg] at ho
  cases ho
  cases hd
/-- what is kept from one state to a later one, seen from no place at all -/
theorem Rp.keep {S S0 : Store} (rp : Rp G ρ H S) (e : Ext G [] H ρ' H') (rp' : Rp G ρ' H' S0) : Ext G ρ H ρ H' ∧ Rp G ρ H' S := by
  have cellk : ∀ (n : Nat) (a : Addr), ρ[n]? = some a → ∃ o, H a = some o ∧ H' a = some o ∧ (∀ q, o ≠ LamX.CodeO a q) ∧ ∀ ps, o ≠ .tbl ps := by
    intro n a ha
    obtain ⟨c, h1, h2⟩ := rp.cell n a ha
    have key : ∀ o, H a = some o → (∀ ps, o ≠ .tbl ps) → (∀ q, o ≠ LamX.CodeO a q) → ∃ o, H a = some o ∧ H' a = some o ∧ (∀ q, o ≠ LamX.CodeO a q) ∧ ∀ ps, o ≠ .tbl ps :=
      fun o h n m => ⟨o, h, e.keep a o h List.not_mem_nil n, m, n⟩
    cases c with
    | lst xs => obtain ⟨vs, h3, _⟩ := h2; exact key _ h3 (fun _ z => by cases z) (fun _ z => by cases z)
    | frz xs => obtain ⟨o, vs, h3, _⟩ := h2; exact key _ h3 (fun _ z => by cases z) (fun _ z => by cases z)
    | dic xs => obtain ⟨vs, h3, _⟩ := h2; exact key _ h3 (fun _ z => by cases z) (fun _ z => by cases z)
    | lck xs => obtain ⟨o, vs, h3, _⟩ := h2; exact key _ h3 (fun _ z => by cases z) (fun _ z => by cases z)
    | dct xs => obtain ⟨vs, h3, _⟩ := h2; exact key _ h3 (fun _ z => by cases z) (fun _ z => by cases z)
    | ins c xs => obtain ⟨o, vs, h3, _⟩ := h2; exact key _ h3 (fun _ z => by cases z) (fun _ z => by cases z)
    | set zs => exact key _ h2 (fun _ z => by cases z) (fun _ z => codeO_ne z.symm)
  have hn : ∀ c q, H' c = some (LamX.CodeO c q) → c ∉ ρ := fun c q h z => by
    obtain ⟨n, hn⟩ := List.mem_iff_getElem?.mp z
    obtain ⟨o, h1, h2, h3, _⟩ := cellk n c hn
    rw [h] at h2
    cases h2
    exact h3 q rfl
  have up : Up ρ H ρ H' := ⟨fun _ _ h => h, e.tup, fun a o vs h => e.tpl a o _ h⟩
  refine ⟨⟨fun _ _ h => h, fun _ h => .inl h, e.tup, e.tpl, fun a o h _ nb => e.keep a o h List.not_mem_nil nb, e.tab⟩, ⟨fun p hp => ?_, rp.len, rp.nd, rp.dom, fun n a ha => ?_⟩⟩
  · obtain ⟨h0, _⟩ := rp.tabs p hp
    obtain ⟨_, ps, h1, h2, h3⟩ := rp'.tabs p hp
    exact ⟨h0, ps, h1, h2, fun pos cv hc => by
      obtain ⟨c, e1, _, e3⟩ := h3 pos cv hc
      exact ⟨c, e1, hn c _ e3, e3⟩⟩
  · obtain ⟨c, h1, h2⟩ := rp.cell n a ha
    obtain ⟨o, k1, k2, _, _⟩ := cellk n a ha
    refine ⟨c, h1, h2.up up ?_⟩
    rw [k1, k2]
end
/-! ### what a call of plain values comes to -/
inductive PR where
  | ok (w : W) | exc (c : Nat) (fs : List (Nat × W))
def PR.at : PR → Store → Res W
  | .ok w, S => .ok w S
  | .exc c fs, S => .exc c fs S
def PR.pl : PR → Bool
  | .ok w => plW w
  | .exc _ fs => fs.all fun p => plW p.2
abbrev Memo := Nat → List W → Option PR
def memoD (M : Memo) (d : Nat → List W → Store → Res W) (k : Nat) (ws : List W) (S : Store) : Res W := match M k ws with
  | some r => r.at S
  | none => d k ws S
def MemoOk (M : Memo) (d : Nat → List W → Store → Res W) : Prop := ∀ k ws r, M k ws = some r → plWs ws = true ∧ r.pl = true ∧ ∃ S0, d k ws Store.empty = r.at S0
theorem empty_rp {G : GC} {ρ : List Addr} {H : Hp} (t : TabsN G.T ρ H) : Rp G [] H Store.empty :=
  ⟨fun p hp => by
    obtain ⟨_, ps, h1, h2, h3⟩ := t p hp
    exact ⟨List.not_mem_nil, ps, h1, h2, fun pos cv hc => by
      obtain ⟨c, e1, _, e3⟩ := h3 pos cv hc
      exact ⟨c, e1, List.not_mem_nil, e3⟩⟩, rfl, List.nodup_nil, fun n _ => Tr.get_leaf n, fun n a h => by simp at h⟩
section
variable {P : Prg} {fi : Nat → FI} {nf : Nat} {gl : List (Str × GI)} {G : GC} {mg : Str → Option Value} {prog : Program} {base : Heap}
theorem spI_memo {M : Memo} {d : Nat → List W → Store → Res W} (m : MemoOk M d) (k np : Nat) (vs : List V) (H : Hp) (Q : VK) (E : XK) (h : spI G (memoD M d k) np vs H Q E) : spI G (d k) np vs H Q E := by
  obtain ⟨hl, ρ, S, ws, rp, rs, po⟩ := h
  unfold memoD at po
  split at po
  · rename_i r hr
    obtain ⟨h1, h2, S0, h3⟩ := m k ws r hr
    refine ⟨hl, [], Store.empty, ws, empty_rp rp.tabs, rs.pl h1, ?_⟩
    rw [h3]
    cases r with
    | ok w =>
      intro ρ' H' v e rp' rv
      obtain ⟨e2, rp2⟩ := rp.keep e rp'
      exact po ρ H' v e2 rp2 (rv.pl h2)
    | exc c fs =>
      intro ρ' H' x e rp' rx
      obtain ⟨e2, rp2⟩ := rp.keep e rp'
      refine po ρ H' x e2 rp2 ⟨rx.1, ?_⟩
      rcases rx.2 with z | ⟨dx, us, q1, q2, q3, q4⟩
      · exact .inl z
      · refine .inr ⟨dx, us, q1, q2, fun hm => ?_, q4.pl h2⟩
        obtain ⟨n, hn⟩ := List.mem_iff_getElem?.mp hm
        obtain ⟨c', k1, k2⟩ := rp2.cell n dx hn
        cases c' with
        | set zs => have k2 : H' dx = some (SetO G.w dx (fun j => decide (j ∈ zs)) zs.length) := k2; rw [q2] at k2; cases k2
        | lst xs => obtain ⟨us, k3, _⟩ := k2; rw [q2] at k3; cases k3
        | frz xs => obtain ⟨_, us, k3, _⟩ := k2; rw [q2] at k3; cases k3
        | dic xs => obtain ⟨us, k3, _⟩ := k2; rw [q2] at k3; cases k3
        | lck xs => obtain ⟨_, us, k3, _⟩ := k2; rw [q2] at k3; cases k3
        | dct xs => obtain ⟨us, k3, _⟩ := k2; rw [q2] at k3; cases k3
        | ins _ xs => obtain ⟨_, us, k3, _⟩ := k2; rw [q2] at k3; cases k3
  · exact ⟨hl, ρ, S, ws, rp, rs, po⟩
theorem good_memo {m n : Nat} {M : Memo} {d e : Nat → List W → Store → Res W} (hd : ∀ k, k < nf → (P.fns k).dfl = []) (mo : MemoOk M e) (g0 : Good prog base P G mg fi nf m e) (hm : m ≤ n) (g : Good prog base P G mg fi nf n d) : Good prog base P G mg fi nf n (memoD M d) :=
  ⟨⟨fun k ws S hk h1 h2 => by rw [hd k hk, List.drop_nil, List.append_nil], fun k ws S hk h => by
    unfold memoD
    split
    · rename_i r hr
      obtain ⟨_, _, S0, h3⟩ := mo k ws r hr
      rw [g0.dep.few k ws Store.empty hk h] at h3
      cases r <;> cases h3
    · exact g.dep.few k ws S hk h⟩, fun k hk fd dvs kws F => by
    have F1 := (g.ok k hk fd dvs kws F)
    have F2 := (g0.ok k hk fd dvs kws F).mono (show 3 * m + 4 ≤ 3 * n + 4 by omega)
    refine ⟨fun vs H Q E h => h.1, fun A outer s H args us vs Q E hr he hb hv h => ?_⟩
    obtain ⟨hl, ρ, S, ws, rp, rs, po⟩ := h
    cases hc : M k ws with
    | none =>
      unfold memoD at po
      rw [hc] at po
      exact F1.run A outer s H args us vs Q E hr he hb hv ⟨hl, ρ, S, ws, rp, rs, po⟩
    | some r =>
      have po2 : Post G (R G) E ρ H Q (memoD M e k ws S) := by
        unfold memoD at po ⊢
        rw [hc] at po ⊢
        exact po
      exact F2.run A outer s H args us vs Q E hr he hb hv (spI_memo mo k _ vs H Q E ⟨hl, ρ, S, ws, rp, rs, po2⟩)⟩
end
/-! ### tables of such calls -/
mutual
def weq : W → W → Bool
  | .non, .non => true
  | .bl a, .bl b => a == b
  | .int a, .int b => decide (a = b)
  | .str a, .str b => decide (a = b)
  | .ty a, .ty b => decide (a = b)
  | .obj a, .obj b => Nat.beq a b
  | .tup xs, .tup ys => weqs xs ys
  | .tpl xs, .tpl ys => weqs xs ys
  | _, _ => false
def weqs : List W → List W → Bool
  | [], [] => true
  | x :: xs, y :: ys => weq x y && weqs xs ys
  | _, _ => false
end
mutual
theorem weq_ok : ∀ {x y : W}, weq x y = true → x = y
  | .non, y, h => by cases y <;> first | rfl | (unfold weq at h; cases h)
  | .bl a, y, h => by cases y <;> first | (unfold weq at h; rw [eq_of_beq h]) | (unfold weq at h; cases h)
  | .int a, y, h => by cases y <;> first | (unfold weq at h; rw [of_decide_eq_true h]) | (unfold weq at h; cases h)
  | .str a, y, h => by cases y <;> first | (unfold weq at h; rw [of_decide_eq_true h]) | (unfold weq at h; cases h)
  | .ty a, y, h => by cases y <;> first | (unfold weq at h; rw [of_decide_eq_true h]) | (unfold weq at h; cases h)
  | .obj a, y, h => by cases y <;> first | (unfold weq at h; rw [Nat.eq_of_beq_eq_true h]) | (unfold weq at h; cases h)
  | .tup xs, y, h => by cases y <;> first | (unfold weq at h; rw [weqs_ok h]) | (unfold weq at h; cases h)
  | .tpl xs, y, h => by cases y <;> first | (unfold weq at h; rw [weqs_ok h]) | (unfold weq at h; cases h)
  | .loc a, y, h => by cases y <;> (unfold weq at h; cases h)
  | .err a b, y, h => by cases y <;> (unfold weq at h; cases h)
theorem weqs_ok : ∀ {x y : List W}, weqs x y = true → x = y
  | [], y, h => by cases y <;> first | rfl | (unfold weqs at h; cases h)
  | x :: xs, y, h => by
    cases y with
    | nil => unfold weqs at h; cases h
    | cons z zs =>
      unfold weqs at h
      rw [Bool.and_eq_true] at h
      rw [weq_ok h.1, weqs_ok h.2]
end
def feqs : List (Nat × W) → List (Nat × W) → Bool
  | [], [] => true
  | x :: xs, y :: ys => Nat.beq x.1 y.1 && weq x.2 y.2 && feqs xs ys
  | _, _ => false
theorem feqs_ok : ∀ {x y : List (Nat × W)}, feqs x y = true → x = y
  | [], [], _ => rfl
  | (a, v) :: xs, (b, u) :: ys, h => by
    unfold feqs at h
    rw [Bool.and_eq_true, Bool.and_eq_true] at h
    have e1 : a = b := Nat.eq_of_beq_eq_true h.1.1
    have e2 : v = u := weq_ok h.1.2
    rw [e1, e2, feqs_ok h.2]
  | [], _ :: _, h => by unfold feqs at h; cases h
  | _ :: _, [], h => by unfold feqs at h; cases h
structure MRow where
  k : Nat
  ws : List W
  r : PR
def resB : Res W → PR → Bool
  | .ok w _, .ok w' => weq w w'
  | .exc c fs _, .exc c' fs' => Nat.beq c c' && feqs fs fs'
  | _, _ => false
def MRow.chk (d : Nat → List W → Store → Res W) (e : MRow) : Bool := plWs e.ws && e.r.pl && resB (d e.k e.ws Store.empty) e.r
def memoL : List MRow → Memo
  | [], _, _ => none
  | e :: l, k, ws => bif Nat.beq e.k k && weqs e.ws ws then some e.r else memoL l k ws
theorem memoL_ok {d : Nat → List W → Store → Res W} : ∀ {l : List MRow}, (∀ e ∈ l, e.chk d = true) → MemoOk (memoL l) d
  | [], _ => fun _ _ _ h => by cases h
  | e :: l, h => fun k ws r hr => by
    unfold memoL at hr
    cases hb : (Nat.beq e.k k && weqs e.ws ws) with
    | false => rw [hb] at hr; exact memoL_ok (fun x hx => h x (List.mem_cons_of_mem _ hx)) k ws r hr
    | true =>
      rw [hb] at hr
      cases hr
      rw [Bool.and_eq_true] at hb
      have q := h e List.mem_cons_self
      unfold MRow.chk at q
      rw [Bool.and_eq_true, Bool.and_eq_true] at q
      obtain ⟨⟨q1, q2⟩, q3⟩ := q
      rw [← Nat.eq_of_beq_eq_true hb.1, ← weqs_ok hb.2]
      refine ⟨q1, q2, ?_⟩
      cases e1 : d e.k e.ws Store.empty with
      | ok w S =>
        rw [e1] at q3
        cases e2 : e.r with
        | ok w' => rw [e2] at q3; unfold resB at q3; rw [weq_ok q3]; exact ⟨S, rfl⟩
        | exc c fs => rw [e2] at q3; cases q3
      | exc c fs S =>
        rw [e1] at q3
        cases e2 : e.r with
        | ok w' => rw [e2] at q3; cases q3
        | exc c' fs' =>
          rw [e2] at q3
          unfold resB at q3
          rw [Bool.and_eq_true] at q3
          rw [Nat.eq_of_beq_eq_true q3.1, feqs_ok q3.2]
          exact ⟨S, rfl⟩
      | stuck => rw [e1] at q3; cases e.r <;> cases q3
theorem memo_nil {d : Nat → List W → Store → Res W} : ∀ e ∈ ([] : List MRow), e.chk d = true := fun _ h => by cases h
theorem memo_cons {d : Nat → List W → Store → Res W} {e : MRow} {l : List MRow} (h : e.chk d = true) (t : ∀ e ∈ l, e.chk d = true) : ∀ x ∈ e :: l, x.chk d = true := fun x hx => by
  rcases List.mem_cons.mp hx with z | z
  · rw [z]; exact h
  · exact t x z
/-! ### of a program told by tables -/
def Desc.Solid (D : Desc) (n : Nat) (d : Nat → List W → Store → Res W) : Prop :=
  ∀ (prog : Program) (base : Heap) (G : GC) (mg : Str → Option Value), (∀ k, k < D.nf → D.kB k = true) → Txt D.prg D.fi D.nf D.gl G.fnm G.mnm → Top prog base D.prg G mg D.fi D.nf D.gl → Good prog base D.prg G mg D.fi D.nf n d
theorem Desc.Solid.zero {D : Desc} : D.Solid 0 fun _ _ _ => .stuck := fun _ _ _ _ _ _ _ => good_zero
theorem Desc.Solid.step {D : Desc} {n : Nat} {d : Nat → List W → Store → Res W} (h : D.Solid n d) : D.Solid (n + 1) (stepD D.prg d) := fun p b G m k T B => good_step T B (h p b G m k T B)
theorem Desc.Solid.memo {D : Desc} {n m : Nat} {M : Memo} {d e : Nat → List W → Store → Res W} (h : D.Solid n d) (h0 : D.Solid m e) (hm : m ≤ n) (mo : MemoOk M e) : D.Solid n (memoD M d) := fun p b G g k T B => good_memo (fun j hj => by
  have q := k j hj
  unfold Desc.kB at q
  simp only [Bool.and_eq_true] at q
  exact List.isEmpty_iff.mp q.1.2) mo (h0 p b G g k T B) hm (h p b G g k T B)
theorem Desc.Solid.callN {D : Desc} : ∀ n : Nat, D.Solid n (Rf.callN D.prg n)
  | 0 => .zero
  | n + 1 => (Desc.Solid.callN n).step
/-- many steps, tables asked at each -/
def iterD (P : Prg) (mm : (Nat → List W → Store → Res W) → Nat → List W → Store → Res W) : Nat → (Nat → List W → Store → Res W) → Nat → List W → Store → Res W
  | 0, d => d
  | n + 1, d => mm (stepD P (iterD P mm n d))
def Desc.Tab (D : Desc) (b : Nat) (mm : (Nat → List W → Store → Res W) → Nat → List W → Store → Res W) : Prop := ∀ n d, b ≤ n → D.Solid n d → D.Solid n (mm d)
theorem Desc.Tab.id {D : Desc} : D.Tab 0 fun d => d := fun _ _ _ h => h
theorem Desc.Tab.more {D : Desc} {b m : Nat} {mm : (Nat → List W → Store → Res W) → Nat → List W → Store → Res W} {M : Memo} {e : Nat → List W → Store → Res W} (t : D.Tab b mm) (hb : b ≤ m) (h0 : D.Solid m e) (mo : MemoOk M e) : D.Tab m fun d => memoD M (mm d) :=
  fun n d hn h => (t n d (Nat.le_trans hb hn) h).memo h0 hn mo
theorem Desc.Solid.iter {D : Desc} {b m : Nat} {mm : (Nat → List W → Store → Res W) → Nat → List W → Store → Res W} {d : Nat → List W → Store → Res W} (t : D.Tab b mm) (hb : b ≤ m) (h : D.Solid m d) : ∀ n : Nat, D.Solid (m + n) (iterD D.prg mm n d)
  | 0 => h
  | n + 1 => t _ _ (by omega) (Desc.Solid.iter t hb h n).step
end Rf

set_option Elab.async false
set_option maxRecDepth 100000
set_option maxHeartbeats 2000000
/-! RfEnd: the end of a law that is run, whatever the script. -/
namespace Rf
open PySem PySem.Spec PyProof.Rows L2
theorem Desc.law {D : Desc} {l : PySem.W.OpenLaw} {w : World} {K : PySem.W.Frag} {mg : Str → Option Value} {fa : Addr} {h : Heap} {n m k : Nat} {x : Str} {d : Nat → List W → Store → Res W} (hd : D.Solid n d) (hk : ∀ k, k < D.nf → D.kB k = true) (hr : D.restB = true) (c : He.SaysX D.fa D.fn [] D.tf (D.ex l.prog.main.file) w h K) (X : K.In h) (N : h.Ns mainGlobals mg)
    (ht : (l.prog.main.scope.names.lookup ("super" : Str)).isSome = false) (hlaw : mg ("law" : Str) = some (.ref fa)) (hg : D.gl.lookup ("law" : Str) = some (.fn k)) (hps : (D.fi k).ps = [x])
    (run : ∀ a : Nat, ∃ S, d k [.obj a] Store.empty = .ok (.bl true) S) : LamX.LawAtS l w K (L2.CX l.prog w) (3 * n + 4) m x mg fa h := by
  have T0 : Top l.prog h D.prg (D.G K w) mg D.fi D.nf D.gl → k < D.nf ∧ (D.G K w).fadr k = fa := fun B => by
    obtain ⟨q1, q2⟩ := B.gl _ _ hg
    rw [hlaw] at q2
    exact ⟨q1, by injection (Option.some.inj q2).symm⟩
  have hkn : k < D.nf ∧ (D.G K w).fadr k = fa := by
    have hm := lookup_mem2 hg
    have hr2 := hr
    unfold Desc.restB at hr2
    simp only [Bool.and_eq_true, List.all_eq_true] at hr2
    have g := hr2.1.1.1.1 _ hm
    unfold Desc.gB at g
    simp only [Bool.and_eq_true, decide_eq_true_eq] at g
    have d := D.sayG c hm (f := .glo "law") (by unfold Desc.faG; exact List.mem_cons_self)
    refine ⟨g.1, ?_⟩
    show He.fAd K (D.at_ k) = fa
    rw [g.2]
    have e := He.glo_ok X N d
    rw [hlaw] at e
    injection (Option.some.inj e).symm
  obtain ⟨hlt, hfa⟩ := hkn
  obtain ⟨fd, F⟩ := D.funD c hlt
  refine ⟨fd, D.lamk.map fun k => He.cT K (D.at_ k), spI (D.G K w) (d k) 1, fun p hp => ?_, fun p hp => ?_, fun p hp => ?_, fun s u => ?_, fun H a ns _ _ hT hS => ?_, fun base KB NB TB => ?_⟩
  · obtain ⟨j, hj, rfl⟩ := List.mem_map.mp hp
    exact c.empty (D.at_ j) (List.mem_map.mpr ⟨j, hj, rfl⟩)
  · obtain ⟨j, hj, rfl⟩ := List.mem_map.mp hp
    exact c.out (D.at_ j) (List.mem_map.mpr ⟨j, hj, rfl⟩)
  · obtain ⟨j, hj, rfl⟩ := List.mem_map.mp hp
    exact PySem.W.codeHd_of_K X (c.hd (D.at_ j) (List.mem_map.mpr ⟨j, hj, rfl⟩))
  · have b := D.binds (hk k hlt) F [u] (by rw [hps]; rfl)
    rw [hps] at b
    exact .of_eq b
  · obtain ⟨S, e⟩ := run a
    refine ⟨rfl, [], Store.empty, [.obj a], ⟨fun p hp => ?_, rfl, List.nodup_nil, fun i _ => ?_, fun i b hb => by simp at hb⟩, .cons (.obj (G := D.G K w)) .nil, ?_⟩
    · obtain ⟨j, hj, rfl⟩ := List.mem_map.mp hp
      refine ⟨by simp, #[], hT _ (List.mem_map.mpr ⟨j, hj, rfl⟩), True.intro, fun pos cv hc => ?_⟩
      have z : codeAmong pos [] = some cv := hc
      simp [codeAmong] at z
    · rfl
    · rw [e]
      exact fun ρ' H' v _ _ r => by cases r; rfl
  · have B : Top l.prog base D.prg (D.G K w) mg D.fi D.nf D.gl := D.top hk hr c X N ht fun j hj => TB _ (List.mem_map.mpr ⟨j, hj, rfl⟩)
    have q := (hd _ _ _ _ hk (D.txt (K := K) (w := w) hk) B).ok k hlt fd [] [] F
    rw [hfa, hps] at q
    exact q
theorem cx_none {P : Program} {w : World} {H : Hp} {s : Shared} {e : Value} {s' : Shared} (h : L2.CX P w [] H s (fun _ _ _ => False) e s') : False := by
  obtain ⟨_, _, _, _, _, _, _, _, _, _, _, _, z⟩ := h
  exact z
end Rf

set_option Elab.async false
set_option maxRecDepth 100000
/-! RfHook: the head's facts with the interpreter's own statics among what is looked at. -/
namespace Rf
open PySem PySem.Spec PyProof.Rows
namespace Hk
variable {fa : List He.Fa} {fn : List He.DefD} {ts : List He.Tab} {tf : List He.Defn} {ex : PySem.W.Frag → Bool} {w : World}
/-- marks on addresses, by their digits -/
inductive Bt where
  | leaf | node (m : Bool) (l r : Bt)
def Bt.has : Nat → Bt → Nat → Bool
  | 0, _, _ => true
  | _ + 1, .leaf, _ => false
  | f + 1, .node m l r, n => bif Nat.beq n 0 then m else bif Nat.beq (n % 2) 0 then l.has f (n / 2) else r.has f (n / 2)
def Bt.put : Nat → Bt → Nat → Bt
  | 0, t, _ => t
  | f + 1, .leaf, n => bif Nat.beq n 0 then .node true .leaf .leaf else bif Nat.beq (n % 2) 0 then .node false (Bt.leaf.put f (n / 2)) .leaf else .node false .leaf (Bt.leaf.put f (n / 2))
  | f + 1, .node m l r, n => bif Nat.beq n 0 then .node true l r else bif Nat.beq (n % 2) 0 then .node m (l.put f (n / 2)) r else .node m l (r.put f (n / 2))
/-- the unmarked ones of some addresses, marked -/
def fresh : List Addr → Bt → List Addr × Bt
  | [], t => ([], t)
  | a :: r, t => bif t.has 40 a then fresh r t else match fresh r (t.put 40 a) with
    | (l, t) => (a :: l, t)
def next (g : Addr → Option Obj) : List Addr → Bt → List Addr × Bt
  | [], t => ([], t)
  | a :: r, t => match g a with
    | some o => match fresh (He.refsD o) t with
      | (l, t) => match next g r t with
        | (l', t) => (l ++ l', t)
    | none => next g r t
def rings (g : Addr → Option Obj) : Nat → List Addr → Bt → List Addr
  | 0, as, _ => as
  | n + 1, as, t => match next g as t with
    | (l, t) => as ++ rings g n l t
def seen (g : Addr → Option Obj) (n : Nat) : PySem.W.Frag := He.frT g (cStatics :: rings g n [mainGlobals] (Bt.leaf.put 40 mainGlobals))
def look (fa : List He.Fa) (fn : List He.DefD) (ts : List He.Tab) (tf : List He.Defn) (ex : PySem.W.Frag → Bool) (n : Nat) (g : Addr → Option Obj) : He.AlX :=
  (He.obsT fa fn ts (seen g n), (ex (seen g n) && He.tabsB g tf (seen g n)))
theorem told {h : Heap} {n : Nat} (e : look fa fn ts tf ex n h.get? = He.valX fn ts w) : He.SaysX fa fn ts tf ex w h (seen h.get? n) := by
  have a : He.obsT fa fn ts (seen h.get? n) = He.valT fn ts w := congrArg Prod.fst e
  have b : (ex (seen h.get? n) && He.tabsB h.get? tf (seen h.get? n)) = true := congrArg Prod.snd e
  rw [Bool.and_eq_true] at b
  have k : ∀ p ∈ tf, PySem.W.codeHdIn (seen h.get? n) (He.cT (seen h.get? n) p).1 (He.cT (seen h.get? n) p).2 = true ∧ ∃ o, h.get? (He.cT (seen h.get? n) p).2 = some o ∧ He.emptyTab o = true := fun p hp => by
    have q := List.all_eq_true.mp b.2 p hp
    rw [Bool.and_eq_true] at q
    refine ⟨q.1, ?_⟩
    have q2 := q.2
    split at q2
    · rename_i o ho
      exact ⟨o, ho, q2⟩
    · cases q2
  exact {
    t := a
    more := b.1
    hd := fun p hp => (k p hp).1
    out := fun p hp => by
      obtain ⟨_, o, ho, he⟩ := k p hp
      exact He.frT_none ho he
    empty := fun p hp => by
      obtain ⟨_, o, ho, he⟩ := k p hp
      rw [ho, He.emptyTab_eq he] }
def hook (fa : List He.Fa) (fn : List He.DefD) (ts : List He.Tab) (tf : List He.Defn) (ex : PySem.W.Frag → Bool) (n : Nat) : PySem.W.Hook where
  α := He.AlX
  obs := fun s => look fa fn ts tf ex n s.heap.get?
  val := fun w => He.valX fn ts w
  says := fun w h => ∃ K : PySem.W.Frag, K.In h ∧ He.SaysX fa fn ts tf ex w h K
  of := fun _ _ e => ⟨_, He.frT_in, told e⟩
  keeps := fun _ _ _ ⟨K, a, c⟩ k => ⟨K, a.keeps k, { t := c.t, more := c.more, hd := c.hd, out := c.out, empty := fun p hp => k _ _ (c.empty p hp) }⟩
theorem look_eq {n : Nat} {g : Addr → Option Obj} {s : Shared} (h : ∀ a, g a = s.heap.get? a) : look fa fn ts tf ex n g = (hook fa fn ts tf ex n).obs s := by
  rw [show g = s.heap.get? from funext h]
  rfl
end Hk
end Rf

set_option Elab.async false
set_option maxRecDepth 100000
set_option maxHeartbeats 0
namespace K08
open Rf PySem L2
abbrev zs (x : String) : Str := Str.ofString x
/-- is_integer(value)  slots 0:value -/
def b0 : Sms := (.cons (.ret (.and (.bi .isi (.cons (.var 0) (.cons (.ty "int") .nil))) (.tst (.not (.val (.bi .isi (.cons (.var 0) (.cons (.ty "bool") .nil)))))))) .nil)
/-- is_within(value, least, most)  slots 0:value 1:least 2:most -/
def b1 : Sms := (.cons (.ret (.and (.call 0 (.cons (.var 0) .nil) []) (.chn .LtE .LtE (.var 1) (.var 0) (.var 2)))) .nil)
/-- is_tuple_of(value, many)  slots 0:value 1:many -/
def b2 : Sms := (.cons (.ret (.and (.bi .isi (.cons (.var 0) (.cons (.ty "tuple") .nil))) (.cmp .Eq (.bi .len (.cons (.var 0) .nil)) (.var 1)))) .nil)
/-- is_list_of(value, many)  slots 0:value 1:many 2:one -/
def b3 : Sms := (.cons (.ifs (.or (.not (.val (.bi .isi (.cons (.var 0) (.cons (.ty "tuple") .nil))))) (.not (.val (.bi .all (.cons (.lc (.call 1 (.cons (.var 2) (.cons (.int 0) (.cons (.bin .Sub (.var 1) (.int 1)) .nil))) []) (.nm 2) (.seq (.var 0)) .nil [2]) .nil))))) (.cons (.ret (.bl false)) .nil) .nil) (.cons (.ret (.cmp .Eq (.bi .len (.cons (.bi .set (.cons (.var 0) .nil)) .nil)) (.bi .len (.cons (.var 0) .nil)))) .nil))
/-- unlet_in(book, side)  slots 0:book 1:side 2:others 3:person 4:wishes 5:one -/
def b4 : Sms := (.cons (.asg (.nm 2) (.lc (.bi .dict (.cons (.lc (.tpp (.cons (.var 5) (.cons (.bl true) .nil))) (.nm 5) (.seq (.var 4)) .nil [5]) .nil)) (.nm 4) (.seq (.ix (.var 0) (.bin .Sub (.int 1) (.var 1)))) .nil [4])) (.cons (.fr (.tp (.cons (.nm 3) (.cons (.nm 4) .nil))) (.enum (.ix (.var 0) (.var 1))) (.cons (.ifs (.not (.val (.bi .all (.cons (.lc (.cmp .In (.var 3) (.ix (.var 2) (.var 5))) (.nm 5) (.seq (.var 4)) .nil [5]) .nil)))) (.cons (.ret (.var 3)) .nil) .nil) .nil)) (.cons (.ret .non) .nil)))
/-- wrong_book(value)  slots 0:value 1:side 2:person 3:wishes -/
def b5 : Sms := (.cons (.ifs (.not (.val (.call 2 (.cons (.var 0) (.cons (.int 2) .nil)) []))) (.cons (.ret (.tup .nil)) .nil) .nil) (.cons (.fr (.nm 1) (.seq (.tpp (.cons (.int 0) (.cons (.int 1) .nil)))) (.cons (.ifs (.or (.not (.val (.bi .isi (.cons (.ix (.var 0) (.var 1)) (.cons (.ty "tuple") .nil))))) (.val (.cmp .Gt (.bi .len (.cons (.ix (.var 0) (.var 1)) .nil)) (.glb 0)))) (.cons (.ret (.tup (.cons (.var 1) .nil))) .nil) .nil) .nil)) (.cons (.fr (.nm 1) (.seq (.tpp (.cons (.int 0) (.cons (.int 1) .nil)))) (.cons (.fr (.tp (.cons (.nm 2) (.cons (.nm 3) .nil))) (.enum (.ix (.var 0) (.var 1))) (.cons (.ifs (.not (.val (.call 3 (.cons (.var 3) (.cons (.bi .len (.cons (.ix (.var 0) (.bin .Sub (.int 1) (.var 1))) .nil)) .nil)) []))) (.cons (.ret (.tpp (.cons (.var 1) (.cons (.var 2) .nil)))) .nil) .nil) .nil)) .nil)) (.cons (.fr (.nm 1) (.seq (.tpp (.cons (.int 0) (.cons (.int 1) .nil)))) (.cons (.asg (.nm 2) (.call 4 (.cons (.var 0) (.cons (.var 1) .nil)) [])) (.cons (.ifs (.val (.cmp .IsNot (.var 2) .non)) (.cons (.ret (.tpp (.cons (.var 1) (.cons (.var 2) .nil)))) .nil) .nil) .nil))) (.cons (.ret .non) .nil)))))
/-- need_book(book)  slots 0:book 1:place -/
def b6 : Sms := (.cons (.asg (.nm 1) (.call 5 (.cons (.var 0) .nil) [])) (.cons (.ifs (.val (.cmp .IsNot (.var 1) .non)) (.cons (.rse 2 [0] (.cons (.var 1) .nil)) .nil) .nil) (.cons (.ret (.var 0)) .nil)))
/-- ranks_of(book)  slots 0:book 1:found 2:lists 3:wishes 4:place 5:one -/
def b7 : Sms := (.cons (.asg (.nm 1) (.lst .nil)) (.cons (.fr (.nm 2) (.seq (.var 0)) (.cons (.ex (.bm .append (.var 1) (.cons (.lc (.dc (.var 5) (.var 4) (.tp (.cons (.nm 4) (.cons (.nm 5) .nil))) (.enum (.var 3)) .nil [4, 5]) (.nm 3) (.seq (.var 2)) .nil [3]) .nil))) .nil)) (.cons (.ret (.var 1)) .nil)))
/-- Asker.__init__(self, left, ranks)  slots 0:self 1:left 2:ranks 3:person -/
def b8 : Sms := (.cons (.asg (.tp (.cons (.fd (.var 0) 1) (.cons (.fd (.var 0) 2) .nil))) (.tpp (.cons (.var 1) (.cons (.var 2) .nil)))) (.cons (.asg (.fd (.var 0) 3) (.bin .Mult (.lst (.cons (.int 0) .nil)) (.bi .len (.cons (.var 1) .nil)))) (.cons (.asg (.fd (.var 0) 4) (.dct .nil)) (.cons (.asg (.fd (.var 0) 5) (.dc (.var 3) (.bl true) (.nm 3) (.rng (.cons (.bi .len (.cons (.var 1) .nil)) .nil)) .nil [3])) .nil))))
/-- Asker.can_ask(self, person)  slots 0:self 1:person -/
def b9 : Sms := (.cons (.ret (.and (.cmp .In (.var 1) (.fld (.var 0) 5)) (.cmp .Lt (.ix (.fld (.var 0) 3) (.var 1)) (.bi .len (.cons (.ix (.fld (.var 0) 1) (.var 1)) .nil))))) .nil)
/-- Asker.ask(self, person)  slots 0:self 1:person 2:other 3:held -/
def b10 : Sms := (.cons (.asg (.nm 2) (.ix (.ix (.fld (.var 0) 1) (.var 1)) (.ix (.fld (.var 0) 3) (.var 1)))) (.cons (.augS (.fld (.var 0) 3) (.var 1) .Add (.int 1)) (.cons (.asg (.nm 3) (.bm .get1 (.fld (.var 0) 4) (.cons (.var 2) .nil))) (.cons (.ifs (.or (.val (.cmp .Is (.var 3) .non)) (.val (.cmp .Lt (.ix (.ix (.fld (.var 0) 2) (.var 2)) (.var 1)) (.ix (.ix (.fld (.var 0) 2) (.var 2)) (.var 3))))) (.cons (.asg (.sub (.fld (.var 0) 4) (.var 2)) (.var 1)) (.cons (.del (.fld (.var 0) 5) (.var 1)) (.cons (.ifs (.val (.cmp .IsNot (.var 3) .non)) (.cons (.asg (.sub (.fld (.var 0) 5) (.var 3)) (.bl true)) .nil) .nil) .nil))) .nil) (.cons (.ret (.var 2)) .nil)))))
/-- Asker.run(self)  slots 0:self 1:ready 2:person 3:other 4:held -/
def b11 : Sms := (.cons (.asg (.nm 1) (.lc (.var 2) (.nm 2) (.rng (.cons (.bi .len (.cons (.fld (.var 0) 1) .nil)) .nil)) (.cons (.val (.cmp .NotEq (.ix (.fld (.var 0) 1) (.var 2)) (.tup .nil))) .nil) [2])) (.cons (.whl (.val (.cmp .NotEq (.var 1) (.lst .nil))) (.cons (.asg (.nm 2) (.bm .pop (.var 1) .nil)) (.cons (.whl (.and (.val (.cmp .IsNot (.var 2) .non)) (.val (.om 0 (.var 0) (.cons (.var 2) .nil)))) (.cons (.asg (.nm 3) (.ix (.ix (.fld (.var 0) 1) (.var 2)) (.ix (.fld (.var 0) 3) (.var 2)))) (.cons (.asg (.nm 4) (.bm .get1 (.fld (.var 0) 4) (.cons (.var 3) .nil))) (.cons (.ex (.om 1 (.var 0) (.cons (.var 2) .nil))) (.cons (.asg (.nm 2) (.ite (.val (.cmp .In (.var 4) (.fld (.var 0) 5))) (.var 4) (.var 2))) .nil))))) .nil))) .nil))
/-- Asker.pairing(self)  slots 0:self 1:found 2:other 3:person -/
def b12 : Sms := (.cons (.asg (.nm 1) (.bin .Mult (.lst (.cons .non .nil)) (.bi .len (.cons (.fld (.var 0) 1) .nil)))) (.cons (.fr (.tp (.cons (.nm 2) (.cons (.nm 3) .nil))) (.items (.fld (.var 0) 4)) (.cons (.asg (.sub (.var 1) (.var 3)) (.var 2)) .nil)) (.cons (.ret (.bi .tuple (.cons (.var 1) .nil))) .nil)))
/-- asker_of(book)  slots 0:book -/
def b13 : Sms := (.cons (.ret (.mk 8 (.cons (.ix (.var 0) (.int 0)) (.cons (.ix (.call 7 (.cons (.var 0) .nil) []) (.int 1)) .nil)))) .nil)
/-- left_end_of(book)  slots 0:book 1:asker -/
def b14 : Sms := (.cons (.asg (.nm 1) (.call 13 (.cons (.var 0) .nil) [])) (.cons (.ex (.om 2 (.var 1) .nil)) (.cons (.ret (.om 3 (.var 1) .nil)) .nil)))
/-- right_end_of(book)  slots 0:book 1:asker 2:found 3:other 4:person -/
def b15 : Sms := (.cons (.asg (.nm 1) (.mk 8 (.cons (.ix (.var 0) (.int 1)) (.cons (.ix (.call 7 (.cons (.var 0) .nil) []) (.int 0)) .nil)))) (.cons (.ex (.om 2 (.var 1) .nil)) (.cons (.asg (.nm 2) (.bin .Mult (.lst (.cons .non .nil)) (.bi .len (.cons (.ix (.var 0) (.int 0)) .nil)))) (.cons (.fr (.tp (.cons (.nm 3) (.cons (.nm 4) .nil))) (.enum (.om 3 (.var 1) .nil)) (.cons (.ifs (.val (.cmp .IsNot (.var 4) .non)) (.cons (.asg (.sub (.var 2) (.var 4)) (.var 3)) .nil) .nil) .nil)) (.cons (.ret (.bi .tuple (.cons (.var 2) .nil))) .nil)))))
/-- left_end(book)  slots 0:book -/
def b16 : Sms := (.cons (.ret (.call 14 (.cons (.call 6 (.cons (.var 0) .nil) []) .nil) [])) .nil)
/-- right_end(book)  slots 0:book -/
def b17 : Sms := (.cons (.ret (.call 15 (.cons (.call 6 (.cons (.var 0) .nil) []) .nil) [])) .nil)
/-- ask_counts(book)  slots 0:book 1:asker -/
def b18 : Sms := (.cons (.asg (.nm 1) (.call 13 (.cons (.call 6 (.cons (.var 0) .nil) []) .nil) [])) (.cons (.ex (.om 2 (.var 1) .nil)) (.cons (.ret (.bi .tuple (.cons (.fld (.var 1) 3) .nil))) .nil)))
/-- first_log(book)  slots 0:book -/
def b19 : Sms := (.cons (.ex (.call 6 (.cons (.var 0) .nil) [])) (.cons (.ret (.call 20 (.cons (.var 0) .nil) [])) .nil))
/-- least_log(book)  slots 0:book 1:asker 2:log 3:ready 4:person -/
def b20 : Sms := (.cons (.asg (.tp (.cons (.nm 1) (.cons (.nm 2) .nil))) (.tpp (.cons (.call 13 (.cons (.var 0) .nil) []) (.cons (.lst .nil) .nil)))) (.cons (.asg (.nm 3) (.lc (.var 4) (.nm 4) (.rng (.cons (.bi .len (.cons (.ix (.var 0) (.int 0)) .nil)) .nil)) (.cons (.val (.om 0 (.var 1) (.cons (.var 4) .nil))) .nil) [4])) (.cons (.whl (.val (.cmp .NotEq (.var 3) (.lst .nil))) (.cons (.ex (.bm .append (.var 2) (.cons (.tpp (.cons (.ix (.var 3) (.int 0)) (.cons (.om 1 (.var 1) (.cons (.ix (.var 3) (.int 0)) .nil)) .nil))) .nil))) (.cons (.asg (.nm 3) (.lc (.var 4) (.nm 4) (.rng (.cons (.bi .len (.cons (.ix (.var 0) (.int 0)) .nil)) .nil)) (.cons (.val (.om 0 (.var 1) (.cons (.var 4) .nil))) .nil) [4])) .nil))) (.cons (.ret (.bi .tuple (.cons (.var 2) .nil))) .nil))))
/-- is_log(book, value)  slots 0:book 1:value 2:one -/
def b21 : Sms := (.cons (.ifs (.not (.val (.bi .isi (.cons (.var 1) (.cons (.ty "tuple") .nil))))) (.cons (.ret (.bl false)) .nil) .nil) (.cons (.fr (.nm 2) (.seq (.var 1)) (.cons (.ifs (.or (.not (.val (.bi .isi (.cons (.var 2) (.cons (.ty "tuple") .nil))))) (.val (.cmp .NotEq (.bi .len (.cons (.var 2) .nil)) (.int 2)))) (.cons (.ret (.bl false)) .nil) .nil) (.cons (.ifs (.or (.not (.val (.call 1 (.cons (.ix (.var 2) (.int 0)) (.cons (.int 0) (.cons (.bin .Sub (.bi .len (.cons (.ix (.var 0) (.int 0)) .nil)) (.int 1)) .nil))) []))) (.not (.val (.call 1 (.cons (.ix (.var 2) (.int 1)) (.cons (.int 0) (.cons (.bin .Sub (.bi .len (.cons (.ix (.var 0) (.int 1)) .nil)) (.int 1)) .nil))) [])))) (.cons (.ret (.bl false)) .nil) .nil) .nil))) (.cons (.ret (.bl true)) .nil)))
/-- log_end(book, log)  slots 0:book 1:log 2:asker 3:person 4:other -/
def b22 : Sms := (.cons (.asg (.nm 2) (.call 13 (.cons (.var 0) .nil) [])) (.cons (.fr (.tp (.cons (.nm 3) (.cons (.nm 4) .nil))) (.seq (.var 1)) (.cons (.ifs (.or (.not (.val (.om 0 (.var 2) (.cons (.var 3) .nil)))) (.val (.cmp .NotEq (.ix (.ix (.ix (.var 0) (.int 0)) (.var 3)) (.ix (.fld (.var 2) 3) (.var 3))) (.var 4)))) (.cons (.ret .non) .nil) .nil) (.cons (.ex (.om 1 (.var 2) (.cons (.var 3) .nil))) .nil))) (.cons (.ifs (.val (.cmp .NotEq (.lc (.var 3) (.nm 3) (.rng (.cons (.bi .len (.cons (.ix (.var 0) (.int 0)) .nil)) .nil)) (.cons (.val (.om 0 (.var 2) (.cons (.var 3) .nil))) .nil) [3]) (.lst .nil))) (.cons (.ret .non) .nil) .nil) (.cons (.ret (.om 3 (.var 2) .nil)) .nil))))
/-- check_log(book, log)  slots 0:book 1:log 2:found -/
def b23 : Sms := (.cons (.ex (.call 6 (.cons (.var 0) .nil) [])) (.cons (.ifs (.not (.val (.call 21 (.cons (.var 0) (.cons (.var 1) .nil)) []))) (.cons (.rse 1 [6] (.cons (.str (Str.ofString "form")) .nil)) .nil) .nil) (.cons (.asg (.nm 2) (.call 22 (.cons (.var 0) (.cons (.var 1) .nil)) [])) (.cons (.ifs (.val (.cmp .Is (.var 2) .non)) (.cons (.rse 1 [6] (.cons (.str (Str.ofString "log")) .nil)) .nil) .nil) (.cons (.ret (.var 2)) .nil)))))
/-- alone_persons(book)  slots 0:book 1:end 2:left 3:person 4:other -/
def b24 : Sms := (.cons (.asg (.nm 1) (.call 14 (.cons (.call 6 (.cons (.var 0) .nil) []) .nil) [])) (.cons (.asg (.nm 2) (.bi .tuple (.cons (.lc (.var 3) (.tp (.cons (.nm 3) (.cons (.nm 4) .nil))) (.enum (.var 1)) (.cons (.val (.cmp .Is (.var 4) .non)) .nil) [3, 4]) .nil))) (.cons (.ret (.tpp (.cons (.var 2) (.cons (.bi .tuple (.cons (.lc (.var 4) (.nm 4) (.rng (.cons (.bi .len (.cons (.ix (.var 0) (.int 1)) .nil)) .nil)) (.cons (.val (.cmp .NotIn (.var 4) (.var 1))) .nil) [4]) .nil)) .nil)))) .nil)))
/-- has_one(book)  slots 0:book -/
def b25 : Sms := (.cons (.ex (.call 6 (.cons (.var 0) .nil) [])) (.cons (.ret (.cmp .Eq (.call 14 (.cons (.var 0) .nil) []) (.call 15 (.cons (.var 0) .nil) []))) .nil))
/-- wrong_pairing(book, value)  slots 0:book 1:value 2:taken 3:person 4:one -/
def b26 : Sms := (.cons (.ifs (.not (.val (.call 2 (.cons (.var 1) (.cons (.bi .len (.cons (.ix (.var 0) (.int 0)) .nil)) .nil)) []))) (.cons (.ret (.tup .nil)) .nil) .nil) (.cons (.asg (.nm 2) (.dct .nil)) (.cons (.fr (.tp (.cons (.nm 3) (.cons (.nm 4) .nil))) (.enum (.var 1)) (.cons (.ifs (.val (.cmp .IsNot (.var 4) .non)) (.cons (.ifs (.or (.not (.val (.call 0 (.cons (.var 4) .nil) []))) (.or (.val (.cmp .NotIn (.var 4) (.ix (.ix (.var 0) (.int 0)) (.var 3)))) (.val (.cmp .In (.var 4) (.var 2))))) (.cons (.ret (.tup (.cons (.var 3) .nil))) .nil) .nil) (.cons (.asg (.sub (.var 2) (.var 4)) (.bl true)) .nil)) .nil) .nil)) (.cons (.ret .non) .nil))))
/-- need_pairing(book, pairing)  slots 0:book 1:pairing 2:place -/
def b27 : Sms := (.cons (.asg (.nm 2) (.call 26 (.cons (.call 6 (.cons (.var 0) .nil) []) (.cons (.var 1) .nil)) [])) (.cons (.ifs (.val (.cmp .IsNot (.var 2) .non)) (.cons (.rse 3 [0] (.cons (.var 2) .nil)) .nil) .nil) (.cons (.ret (.var 1)) .nil)))
/-- back_of(book, pairing)  slots 0:book 1:pairing 2:found 3:person 4:one -/
def b28 : Sms := (.cons (.asg (.nm 2) (.bin .Mult (.lst (.cons .non .nil)) (.bi .len (.cons (.ix (.var 0) (.int 1)) .nil)))) (.cons (.fr (.tp (.cons (.nm 3) (.cons (.nm 4) .nil))) (.enum (.var 1)) (.cons (.ifs (.val (.cmp .IsNot (.var 4) .non)) (.cons (.asg (.sub (.var 2) (.var 4)) (.var 3)) .nil) .nil) .nil)) (.cons (.ret (.bi .tuple (.cons (.var 2) .nil))) .nil)))
/-- does_block(ranks, pairing, back, pair)  slots 0:ranks 1:pairing 2:back 3:pair 4:person 5:other 6:one 7:far -/
def b29 : Sms := (.cons (.asg (.tp (.cons (.nm 4) (.cons (.nm 5) .nil))) (.var 3)) (.cons (.par [6, 7] (.cons (.ix (.var 1) (.var 4)) (.cons (.ix (.var 2) (.var 5)) .nil))) (.cons (.ifs (.and (.val (.cmp .IsNot (.var 6) .non)) (.val (.cmp .LtE (.ix (.ix (.ix (.var 0) (.int 0)) (.var 4)) (.var 6)) (.ix (.ix (.ix (.var 0) (.int 0)) (.var 4)) (.var 5))))) (.cons (.ret (.bl false)) .nil) .nil) (.cons (.ret (.or (.cmp .Is (.var 7) .non) (.cmp .Lt (.ix (.ix (.ix (.var 0) (.int 1)) (.var 5)) (.var 4)) (.ix (.ix (.ix (.var 0) (.int 1)) (.var 5)) (.var 7))))) .nil))))
/-- blocks_in(ranks, pairing)  slots 0:ranks 1:pairing 2:back 3:found 4:person 5:places 6:other -/
def b30 : Sms := (.cons (.par [2, 3] (.cons (.call 28 (.cons (.tpp (.cons (.ix (.var 0) (.int 0)) (.cons (.ix (.var 0) (.int 1)) .nil))) (.cons (.var 1) .nil)) []) (.cons (.lst .nil) .nil))) (.cons (.fr (.tp (.cons (.nm 4) (.cons (.nm 5) .nil))) (.enum (.ix (.var 0) (.int 0))) (.cons (.fr (.nm 6) (.seq (.bi .sorted (.cons (.var 5) .nil))) (.cons (.ifs (.val (.call 29 (.cons (.var 0) (.cons (.var 1) (.cons (.var 2) (.cons (.tpp (.cons (.var 4) (.cons (.var 6) .nil))) .nil)))) [])) (.cons (.ex (.bm .append (.var 3) (.cons (.tpp (.cons (.var 4) (.cons (.var 6) .nil))) .nil))) .nil) .nil) .nil)) .nil)) (.cons (.ret (.bi .tuple (.cons (.var 3) .nil))) .nil)))
/-- first_block(ranks, pairing)  slots 0:ranks 1:pairing 2:found -/
def b31 : Sms := (.cons (.asg (.nm 2) (.call 30 (.cons (.var 0) (.cons (.var 1) .nil)) [])) (.cons (.ret (.ite (.val (.cmp .Eq (.var 2) (.tup .nil))) .non (.ix (.var 2) (.int 0)))) .nil))
/-- need_settled(book, pairing)  slots 0:book 1:pairing 2:pair -/
def b32 : Sms := (.cons (.asg (.nm 2) (.call 31 (.cons (.call 7 (.cons (.var 0) .nil) []) (.cons (.var 1) .nil)) [])) (.cons (.ifs (.val (.cmp .IsNot (.var 2) .non)) (.cons (.rse 5 [7] (.cons (.var 2) .nil)) .nil) .nil) (.cons (.ret (.var 1)) .nil)))
/-- place_of(ranks, person, other)  slots 0:ranks 1:person 2:other -/
def b33 : Sms := (.cons (.ret (.ite (.val (.cmp .Is (.var 2) .non)) (.bi .len (.cons (.ix (.ix (.var 0) (.int 0)) (.var 1)) .nil)) (.ix (.ix (.ix (.var 0) (.int 0)) (.var 1)) (.var 2)))) .nil)
/-- picked_from(ranks, pairings, number)  slots 0:ranks 1:pairings 2:number 3:found 4:person 5:some 6:kept 7:pairing -/
def b34 : Sms := (.cons (.asg (.nm 3) (.lst .nil)) (.cons (.fr (.nm 4) (.rng (.cons (.bi .len (.cons (.ix (.var 0) (.int 0)) .nil)) .nil)) (.cons (.asg (.nm 5) (.bi .sorted (.cons (.lc (.call 33 (.cons (.var 0) (.cons (.var 4) (.cons (.ix (.var 7) (.var 4)) .nil))) []) (.nm 7) (.seq (.var 1)) .nil [7]) .nil))) (.cons (.asg (.nm 6) (.lc (.ix (.var 7) (.var 4)) (.nm 7) (.seq (.var 1)) (.cons (.val (.cmp .Eq (.call 33 (.cons (.var 0) (.cons (.var 4) (.cons (.ix (.var 7) (.var 4)) .nil))) []) (.ix (.var 5) (.bin .Sub (.var 2) (.int 1))))) .nil) [7])) (.cons (.ex (.bm .append (.var 3) (.cons (.ix (.var 6) (.int 0)) .nil))) .nil)))) (.cons (.ret (.bi .tuple (.cons (.var 3) .nil))) .nil)))
/-- need_two(book, pairing, other)  slots 0:book 1:pairing 2:other -/
def b35 : Sms := (.cons (.ex (.call 6 (.cons (.var 0) .nil) [])) (.cons (.ex (.call 27 (.cons (.var 0) (.cons (.var 1) .nil)) [])) (.cons (.ex (.call 27 (.cons (.var 0) (.cons (.var 2) .nil)) [])) (.cons (.ex (.call 32 (.cons (.var 0) (.cons (.var 1) .nil)) [])) (.cons (.ex (.call 32 (.cons (.var 0) (.cons (.var 2) .nil)) [])) (.cons (.ret (.call 7 (.cons (.var 0) .nil) [])) .nil))))))
/-- better_of(book, pairing, other)  slots 0:book 1:pairing 2:other -/
def b36 : Sms := (.cons (.ret (.call 34 (.cons (.call 35 (.cons (.var 0) (.cons (.var 1) (.cons (.var 2) .nil))) []) (.cons (.tpp (.cons (.var 1) (.cons (.var 2) .nil))) (.cons (.int 1) .nil))) [])) .nil)
/-- worse_of(book, pairing, other)  slots 0:book 1:pairing 2:other -/
def b37 : Sms := (.cons (.ret (.call 34 (.cons (.call 35 (.cons (.var 0) (.cons (.var 1) (.cons (.var 2) .nil))) []) (.cons (.tpp (.cons (.var 1) (.cons (.var 2) .nil))) (.cons (.int 2) .nil))) [])) .nil)
/-- is_as_good_so(ranks, pairing, other)  slots 0:ranks 1:pairing 2:other 3:person 4:one -/
def b38 : Sms := (.cons (.fr (.tp (.cons (.nm 3) (.cons (.nm 4) .nil))) (.enum (.var 1)) (.cons (.ifs (.val (.cmp .Gt (.call 33 (.cons (.var 0) (.cons (.var 3) (.cons (.var 4) .nil))) []) (.call 33 (.cons (.var 0) (.cons (.var 3) (.cons (.ix (.var 2) (.var 3)) .nil))) []))) (.cons (.ret (.bl false)) .nil) .nil) .nil)) (.cons (.ret (.bl true)) .nil))
/-- is_as_good(book, pairing, other)  slots 0:book 1:pairing 2:other -/
def b39 : Sms := (.cons (.ret (.call 38 (.cons (.call 35 (.cons (.var 0) (.cons (.var 1) (.cons (.var 2) .nil))) []) (.cons (.var 1) (.cons (.var 2) .nil))) [])) .nil)
/-- middle_of(book, pairings, number)  slots 0:book 1:pairings 2:number 3:spot 4:pairing -/
def b40 : Sms := (.cons (.ex (.call 6 (.cons (.var 0) .nil) [])) (.cons (.ifs (.or (.not (.val (.bi .isi (.cons (.var 1) (.cons (.ty "tuple") .nil))))) (.not (.val (.chn .LtE .LtE (.int 1) (.bi .len (.cons (.var 1) .nil)) (.glb 1))))) (.cons (.rse 6 [8] (.cons .non .nil)) .nil) .nil) (.cons (.fr (.tp (.cons (.nm 3) (.cons (.nm 4) .nil))) (.enum (.var 1)) (.cons (.trN (.cons (.ex (.call 27 (.cons (.var 0) (.cons (.var 4) .nil)) [])) (.cons (.ex (.call 32 (.cons (.var 0) (.cons (.var 4) .nil)) [])) .nil))) .nil)) (.cons (.ifs (.not (.val (.call 1 (.cons (.var 2) (.cons (.int 1) (.cons (.bi .len (.cons (.var 1) .nil)) .nil))) []))) (.cons (.rse 4 [8] (.cons (.var 2) .nil)) .nil) .nil) (.cons (.ret (.call 34 (.cons (.call 7 (.cons (.var 0) .nil) []) (.cons (.var 1) (.cons (.var 2) .nil))) [])) .nil)))))
/-- best_paper(book, pairing)  slots 0:book 1:pairing 2:end -/
def b41 : Sms := (.cons (.ex (.call 27 (.cons (.call 6 (.cons (.var 0) .nil) []) (.cons (.var 1) .nil)) [])) (.cons (.ex (.call 32 (.cons (.var 0) (.cons (.var 1) .nil)) [])) (.cons (.asg (.nm 2) (.call 14 (.cons (.var 0) .nil) [])) (.cons (.ret (.ite (.val (.cmp .Eq (.var 2) (.var 1))) (.tpp (.cons (.glb 2) (.cons (.call 20 (.cons (.var 0) .nil) []) .nil))) (.tpp (.cons (.glb 3) (.cons (.var 2) .nil))))) .nil))))
/-- check_best(book, pairing, paper)  slots 0:book 1:pairing 2:paper 3:ranks -/
def b42 : Sms := (.cons (.ex (.call 27 (.cons (.call 6 (.cons (.var 0) .nil) []) (.cons (.var 1) .nil)) [])) (.cons (.ex (.call 32 (.cons (.var 0) (.cons (.var 1) .nil)) [])) (.cons (.ifs (.or (.not (.val (.bi .isi (.cons (.var 2) (.cons (.ty "tuple") .nil))))) (.or (.val (.cmp .NotEq (.bi .len (.cons (.var 2) .nil)) (.int 2))) (.not (.val (.bi .isi (.cons (.ix (.var 2) (.int 0)) (.cons (.ty "str") .nil))))))) (.cons (.rse 1 [6] (.cons (.str (Str.ofString "form")) .nil)) .nil) .nil) (.cons (.ifs (.and (.val (.cmp .Eq (.ix (.var 2) (.int 0)) (.glb 2))) (.val (.call 21 (.cons (.var 0) (.cons (.ix (.var 2) (.int 1)) .nil)) []))) (.cons (.ifs (.val (.cmp .NotEq (.call 22 (.cons (.var 0) (.cons (.ix (.var 2) (.int 1)) .nil)) []) (.var 1))) (.cons (.rse 1 [6] (.cons (.glb 2) .nil)) .nil) .nil) (.cons (.ret (.glb 2)) .nil)) .nil) (.cons (.ifs (.val (.cmp .NotEq (.ix (.var 2) (.int 0)) (.glb 3))) (.cons (.rse 1 [6] (.cons (.str (Str.ofString "form")) .nil)) .nil) .nil) (.cons (.trN (.cons (.ex (.call 27 (.cons (.var 0) (.cons (.ix (.var 2) (.int 1)) .nil)) [])) .nil)) (.cons (.asg (.nm 3) (.call 7 (.cons (.var 0) .nil) [])) (.cons (.ifs (.or (.val (.cmp .Eq (.ix (.var 2) (.int 1)) (.var 1))) (.or (.val (.cmp .IsNot (.call 31 (.cons (.var 3) (.cons (.ix (.var 2) (.int 1)) .nil)) []) .non)) (.not (.val (.call 38 (.cons (.var 3) (.cons (.ix (.var 2) (.int 1)) (.cons (.var 1) .nil))) []))))) (.cons (.rse 1 [6] (.cons (.glb 3) .nil)) .nil) .nil) (.cons (.ret (.glb 3)) .nil)))))))))
/-- met_so(pairing, pair)  slots 0:pairing 1:pair 2:person 3:other 4:found 5:one -/
def b43 : Sms := (.cons (.asg (.tp (.cons (.nm 2) (.cons (.nm 3) .nil))) (.var 1)) (.cons (.asg (.nm 4) (.lc (.ite (.val (.cmp .Eq (.var 5) (.var 3))) .non (.var 5)) (.nm 5) (.seq (.var 0)) .nil [5])) (.cons (.asg (.sub (.var 4) (.var 2)) (.var 3)) (.cons (.ret (.bi .tuple (.cons (.var 4) .nil))) .nil))))
/-- blocks(book, ranks, pairing, pair)  slots 0:book 1:ranks 2:pairing 3:pair -/
def b44 : Sms := (.cons (.ifs (.val (.cmp .NotIn (.ix (.var 3) (.int 1)) (.ix (.ix (.var 1) (.int 0)) (.ix (.var 3) (.int 0))))) (.cons (.ret (.bl false)) .nil) .nil) (.cons (.ret (.call 29 (.cons (.var 1) (.cons (.var 2) (.cons (.call 28 (.cons (.var 0) (.cons (.var 2) .nil)) []) (.cons (.var 3) .nil)))) [])) .nil))
/-- met(book, pairing, pair)  slots 0:book 1:pairing 2:pair -/
def b45 : Sms := (.cons (.ex (.call 27 (.cons (.call 6 (.cons (.var 0) .nil) []) (.cons (.var 1) .nil)) [])) (.cons (.ifs (.or (.not (.val (.bi .isi (.cons (.var 2) (.cons (.ty "tuple") .nil))))) (.or (.val (.cmp .NotEq (.bi .len (.cons (.var 2) .nil)) (.int 2))) (.not (.val (.call 1 (.cons (.ix (.var 2) (.int 0)) (.cons (.int 0) (.cons (.bin .Sub (.bi .len (.cons (.ix (.var 0) (.int 0)) .nil)) (.int 1)) .nil))) []))))) (.cons (.rse 7 [7] (.cons (.var 2) .nil)) .nil) .nil) (.cons (.ifs (.or (.not (.val (.call 1 (.cons (.ix (.var 2) (.int 1)) (.cons (.int 0) (.cons (.bin .Sub (.bi .len (.cons (.ix (.var 0) (.int 1)) .nil)) (.int 1)) .nil))) []))) (.not (.val (.call 44 (.cons (.var 0) (.cons (.call 7 (.cons (.var 0) .nil) []) (.cons (.var 1) (.cons (.var 2) .nil)))) [])))) (.cons (.rse 7 [7] (.cons (.var 2) .nil)) .nil) .nil) (.cons (.ret (.call 43 (.cons (.var 1) (.cons (.var 2) .nil)) [])) .nil))))
/-- Walker.__init__(self, book, pairing)  slots 0:self 1:book 2:pairing -/
def b46 : Sms := (.cons (.asg (.tp (.cons (.fd (.var 0) 9) (.cons (.fd (.var 0) 10) (.cons (.fd (.var 0) 11) .nil)))) (.tup (.cons (.var 1) (.cons (.bi .list (.cons (.var 2) .nil)) (.cons (.lst .nil) .nil))))) (.cons (.asg (.fd (.var 0) 2) (.call 7 (.cons (.var 1) .nil) [])) (.cons (.asg (.fd (.var 0) 12) (.tpp (.cons (.dct .nil) (.cons (.dct .nil) .nil)))) .nil)))
/-- Walker.held(self, side, person)  slots 0:self 1:side 2:person -/
def b47 : Sms := (.cons (.ifs (.val (.cmp .Eq (.var 1) (.int 0))) (.cons (.ret (.ix (.fld (.var 0) 10) (.var 2))) .nil) .nil) (.cons (.ret (.ite (.val (.cmp .In (.var 2) (.fld (.var 0) 10))) (.bm .index (.fld (.var 0) 10) (.cons (.var 2) .nil)) .non)) .nil))
/-- Walker.wants(self, side, person, other)  slots 0:self 1:side 2:person 3:other 4:one -/
def b48 : Sms := (.cons (.asg (.nm 4) (.om 4 (.var 0) (.cons (.var 1) (.cons (.var 2) .nil)))) (.cons (.ret (.or (.cmp .Is (.var 4) .non) (.cmp .Lt (.ix (.ix (.ix (.fld (.var 0) 2) (.var 1)) (.var 2)) (.var 3)) (.ix (.ix (.ix (.fld (.var 0) 2) (.var 1)) (.var 2)) (.var 4))))) .nil))
/-- Walker.best(self, side, person)  slots 0:self 1:side 2:person 3:other -/
def b49 : Sms := (.cons (.fr (.nm 3) (.seq (.ix (.ix (.fld (.var 0) 9) (.var 1)) (.var 2))) (.cons (.ifs (.not (.val (.om 5 (.var 0) (.cons (.var 1) (.cons (.var 2) (.cons (.var 3) .nil)))))) (.cons (.ret .non) .nil) .nil) (.cons (.ifs (.and (.val (.cmp .In (.var 3) (.ix (.fld (.var 0) 12) (.bin .Sub (.int 1) (.var 1))))) (.val (.om 5 (.var 0) (.cons (.bin .Sub (.int 1) (.var 1)) (.cons (.var 3) (.cons (.var 2) .nil)))))) (.cons (.ret (.var 3)) .nil) .nil) .nil))) (.cons (.ret .non) .nil))
/-- Walker.meet(self, side, person, other)  slots 0:self 1:side 2:person 3:other 4:left 5:right 6:alone -/
def b50 : Sms := (.cons (.asg (.tp (.cons (.nm 4) (.cons (.nm 5) .nil))) (.ite (.val (.cmp .Eq (.var 1) (.int 0))) (.tpp (.cons (.var 2) (.cons (.var 3) .nil))) (.tpp (.cons (.var 3) (.cons (.var 2) .nil))))) (.cons (.asg (.nm 6) (.om 4 (.var 0) (.cons (.bin .Sub (.int 1) (.var 1)) (.cons (.var 3) .nil)))) (.cons (.ex (.bm .append (.fld (.var 0) 11) (.cons (.tpp (.cons (.var 4) (.cons (.var 5) .nil))) .nil))) (.cons (.asg (.fd (.var 0) 10) (.bi .list (.cons (.call 43 (.cons (.fld (.var 0) 10) (.cons (.tpp (.cons (.var 4) (.cons (.var 5) .nil))) .nil)) []) .nil))) (.cons (.ret (.var 6)) .nil)))))
/-- Walker.settle(self, side, person)  slots 0:self 1:side 2:person 3:first 4:other 5:loose -/
def b51 : Sms := (.cons (.asg (.sub (.ix (.fld (.var 0) 12) (.var 1)) (.var 2)) (.bl true)) (.cons (.par [3, 4] (.cons (.om 4 (.var 0) (.cons (.var 1) (.cons (.var 2) .nil))) (.cons (.om 6 (.var 0) (.cons (.var 1) (.cons (.var 2) .nil))) .nil))) (.cons (.ifs (.val (.cmp .Is (.var 4) .non)) (.cons .retN .nil) .nil) (.cons (.ifs (.val (.cmp .IsNot (.var 3) .non)) (.cons (.del (.ix (.fld (.var 0) 12) (.bin .Sub (.int 1) (.var 1))) (.var 3)) .nil) .nil) (.cons (.asg (.nm 5) (.om 7 (.var 0) (.cons (.var 1) (.cons (.var 2) (.cons (.var 4) .nil))))) (.cons (.whl (.val (.cmp .IsNot (.var 5) .non)) (.cons (.asg (.nm 4) (.om 6 (.var 0) (.cons (.var 1) (.cons (.var 5) .nil)))) (.cons (.asg (.nm 5) (.ite (.val (.cmp .Is (.var 4) .non)) .non (.om 7 (.var 0) (.cons (.var 1) (.cons (.var 5) (.cons (.var 4) .nil)))))) .nil))) (.cons (.ifs (.val (.cmp .IsNot (.var 3) .non)) (.cons (.ex (.om 8 (.var 0) (.cons (.bin .Sub (.int 1) (.var 1)) (.cons (.var 3) .nil)))) .nil) .nil) .nil)))))))
/-- walked(book, pairing)  slots 0:book 1:pairing 2:walker 3:person 4:other 5:side -/
def b52 : Sms := (.cons (.asg (.nm 2) (.mk 9 (.cons (.var 0) (.cons (.var 1) .nil)))) (.cons (.fr (.tp (.cons (.nm 3) (.cons (.nm 4) .nil))) (.enum (.var 1)) (.cons (.ifs (.val (.cmp .IsNot (.var 4) .non)) (.cons (.ex (.call 53 (.cons (.var 2) (.cons (.var 3) (.cons (.var 4) .nil))) [])) .nil) .nil) .nil)) (.cons (.fr (.nm 5) (.seq (.tpp (.cons (.int 0) (.cons (.int 1) .nil)))) (.cons (.fr (.nm 3) (.rng (.cons (.bi .len (.cons (.ix (.var 0) (.var 5)) .nil)) .nil)) (.cons (.ifs (.val (.cmp .NotIn (.var 3) (.ix (.fld (.var 2) 12) (.var 5)))) (.cons (.ex (.om 8 (.var 2) (.cons (.var 5) (.cons (.var 3) .nil)))) .nil) .nil) .nil)) .nil)) (.cons (.ret (.tpp (.cons (.bi .tuple (.cons (.fld (.var 2) 11) .nil)) (.cons (.bi .tuple (.cons (.fld (.var 2) 10) .nil)) .nil)))) .nil))))
/-- let_pair(walker, person, other)  slots 0:walker 1:person 2:other -/
def b53 : Sms := (.cons (.asg (.tp (.cons (.sub (.ix (.fld (.var 0) 12) (.int 0)) (.var 1)) (.cons (.sub (.ix (.fld (.var 0) 12) (.int 1)) (.var 2)) .nil))) (.tpp (.cons (.bl true) (.cons (.bl true) .nil)))) (.cons (.ex (.om 8 (.var 0) (.cons (.int 0) (.cons (.var 1) .nil)))) (.cons (.ex (.om 8 (.var 0) (.cons (.int 1) (.cons (.var 2) .nil)))) .nil)))
/-- road_to_settled(book, pairing)  slots 0:book 1:pairing -/
def b54 : Sms := (.cons (.ex (.call 27 (.cons (.call 6 (.cons (.var 0) .nil) []) (.cons (.var 1) .nil)) [])) (.cons (.ret (.ix (.call 52 (.cons (.var 0) (.cons (.var 1) .nil)) []) (.int 0))) .nil))
/-- road_pairings(book, pairing, road)  slots 0:book 1:pairing 2:road 3:ranks 4:found 5:pair -/
def b55 : Sms := (.cons (.par [3, 4] (.cons (.call 7 (.cons (.var 0) .nil) []) (.cons (.lst (.cons (.var 1) .nil)) .nil))) (.cons (.fr (.nm 5) (.seq (.var 2)) (.cons (.ifs (.not (.val (.call 44 (.cons (.var 0) (.cons (.var 3) (.cons (.ix (.var 4) (.un .USub (.int 1))) (.cons (.var 5) .nil)))) []))) (.cons (.ret .non) .nil) .nil) (.cons (.ex (.bm .append (.var 4) (.cons (.call 43 (.cons (.ix (.var 4) (.un .USub (.int 1))) (.cons (.var 5) .nil)) []) .nil))) .nil))) (.cons (.ret (.var 4)) .nil)))
/-- need_road(book, pairing, road)  slots 0:book 1:pairing 2:road 3:found -/
def b56 : Sms := (.cons (.ex (.call 27 (.cons (.call 6 (.cons (.var 0) .nil) []) (.cons (.var 1) .nil)) [])) (.cons (.ifs (.not (.val (.call 21 (.cons (.var 0) (.cons (.var 2) .nil)) []))) (.cons (.rse 1 [6] (.cons (.str (Str.ofString "form")) .nil)) .nil) .nil) (.cons (.asg (.nm 3) (.call 55 (.cons (.var 0) (.cons (.var 1) (.cons (.var 2) .nil))) [])) (.cons (.ifs (.val (.cmp .Is (.var 3) .non)) (.cons (.rse 1 [6] (.cons (.str (Str.ofString "road")) .nil)) .nil) .nil) (.cons (.ret (.var 3)) .nil)))))
/-- check_road(book, pairing, road)  slots 0:book 1:pairing 2:road -/
def b57 : Sms := (.cons (.ret (.ix (.call 56 (.cons (.var 0) (.cons (.var 1) (.cons (.var 2) .nil))) []) (.un .USub (.int 1)))) .nil)
/-- road_rounds(book, pairing, road)  slots 0:book 1:pairing 2:road 3:found -/
def b58 : Sms := (.cons (.asg (.nm 3) (.call 56 (.cons (.var 0) (.cons (.var 1) (.cons (.var 2) .nil))) [])) (.cons (.ret (.cmp .NotEq (.lset (.var 3)) (.bi .len (.cons (.var 3) .nil)))) .nil))
/-- _law_like(told, due)  slots 0:told 1:due 2:one 3:far -/
def b59 : Sms := (.cons (.ifs (.val (.bi .isi (.cons (.var 1) (.cons (.tpp (.cons (.ty "tuple") (.cons (.ty "list") .nil))) .nil)))) (.cons (.ifs (.or (.not (.val (.bi .isi (.cons (.var 0) (.cons (.tpp (.cons (.ty "tuple") (.cons (.ty "list") .nil))) .nil))))) (.val (.cmp .NotEq (.bi .isi (.cons (.var 1) (.cons (.ty "list") .nil))) (.bi .isi (.cons (.var 0) (.cons (.ty "list") .nil)))))) (.cons (.ret (.bl false)) .nil) .nil) (.cons (.ret (.and (.cmp .Eq (.bi .len (.cons (.var 0) .nil)) (.bi .len (.cons (.var 1) .nil))) (.cmp .Eq (.lc (.int 1) (.tp (.cons (.nm 2) (.cons (.nm 3) .nil))) (.zip (.cons (.var 0) (.cons (.var 1) .nil))) (.cons (.not (.val (.call 59 (.cons (.var 2) (.cons (.var 3) .nil)) []))) .nil) [2, 3]) (.lst .nil)))) .nil)) .nil) (.cons (.ifs (.val (.cmp .Is (.var 1) .non)) (.cons (.ret (.cmp .Is (.var 0) .non)) .nil) .nil) (.cons (.ifs (.val (.bi .isi (.cons (.var 1) (.cons (.ty "bool") .nil)))) (.cons (.ret (.and (.bi .isi (.cons (.var 0) (.cons (.ty "bool") .nil))) (.cmp .Eq (.var 0) (.var 1)))) .nil) .nil) (.cons (.ifs (.val (.bi .isi (.cons (.var 1) (.cons (.ty "str") .nil)))) (.cons (.ret (.and (.bi .isi (.cons (.var 0) (.cons (.ty "str") .nil))) (.cmp .Eq (.var 0) (.var 1)))) .nil) .nil) (.cons (.ret (.and (.bi .isi (.cons (.var 0) (.cons (.ty "int") .nil))) (.and (.tst (.not (.val (.bi .isi (.cons (.var 0) (.cons (.ty "bool") .nil)))))) (.cmp .Eq (.var 0) (.var 1))))) .nil)))))
/-- _law_two_right()  slots 0:book 1:none 2:single 3:told -/
def b60 : Sms := (.cons (.asg (.tp (.cons (.nm 0) (.cons (.nm 1) (.cons (.nm 2) .nil)))) (.tup (.cons (.tpp (.cons (.tpp (.cons (.tpp (.cons (.int 0) (.cons (.int 1) .nil))) (.cons (.tpp (.cons (.int 1) (.cons (.int 0) .nil))) .nil))) (.cons (.tpp (.cons (.tpp (.cons (.int 1) (.cons (.int 0) .nil))) (.cons (.tpp (.cons (.int 0) (.cons (.int 1) .nil))) .nil))) .nil))) (.cons (.tpp (.cons (.tup .nil) (.cons (.tup .nil) .nil))) (.cons (.tpp (.cons (.tpp (.cons (.tup .nil) (.cons (.tup (.cons (.int 0) .nil)) .nil))) (.cons (.tpp (.cons (.tup (.cons (.int 1) .nil)) (.cons (.tup .nil) .nil))) .nil))) .nil))))) (.cons (.asg (.nm 3) (.lst (.cons (.call 16 (.cons (.var 0) .nil) []) (.cons (.call 17 (.cons (.var 0) .nil) []) (.cons (.call 18 (.cons (.var 0) .nil) []) (.cons (.call 19 (.cons (.var 0) .nil) []) (.cons (.call 25 (.cons (.var 0) .nil) []) (.cons (.call 24 (.cons (.var 0) .nil) []) (.cons (.call 36 (.cons (.var 0) (.cons (.tpp (.cons (.int 0) (.cons (.int 1) .nil))) (.cons (.tpp (.cons (.int 1) (.cons (.int 0) .nil))) .nil))) []) (.cons (.call 37 (.cons (.var 0) (.cons (.tpp (.cons (.int 0) (.cons (.int 1) .nil))) (.cons (.tpp (.cons (.int 1) (.cons (.int 0) .nil))) .nil))) []) .nil)))))))))) (.cons (.ifs (.not (.val (.call 59 (.cons (.var 3) (.cons (.lst (.cons (.tpp (.cons (.int 0) (.cons (.int 1) .nil))) (.cons (.tpp (.cons (.int 1) (.cons (.int 0) .nil))) (.cons (.tpp (.cons (.int 1) (.cons (.int 1) .nil))) (.cons (.tpp (.cons (.tpp (.cons (.int 0) (.cons (.int 0) .nil))) (.cons (.tpp (.cons (.int 1) (.cons (.int 1) .nil))) .nil))) (.cons (.bl false) (.cons (.tpp (.cons (.tup .nil) (.cons (.tup .nil) .nil))) (.cons (.tpp (.cons (.int 0) (.cons (.int 1) .nil))) (.cons (.tpp (.cons (.int 1) (.cons (.int 0) .nil))) .nil))))))))) .nil)) []))) (.cons (.ret (.bl false)) .nil) .nil) (.cons (.asg (.nm 3) (.lst (.cons (.call 16 (.cons (.var 1) .nil) []) (.cons (.call 17 (.cons (.var 1) .nil) []) (.cons (.call 19 (.cons (.var 1) .nil) []) (.cons (.call 25 (.cons (.var 1) .nil) []) (.cons (.call 24 (.cons (.var 1) .nil) []) (.cons (.call 16 (.cons (.var 2) .nil) []) (.cons (.call 18 (.cons (.var 2) .nil) []) (.cons (.call 24 (.cons (.var 2) .nil) []) (.cons (.call 25 (.cons (.var 2) .nil) []) .nil))))))))))) (.cons (.ifs (.not (.val (.call 59 (.cons (.var 3) (.cons (.lst (.cons (.tup .nil) (.cons (.tup .nil) (.cons (.tup .nil) (.cons (.bl true) (.cons (.tpp (.cons (.tup .nil) (.cons (.tup .nil) .nil))) (.cons (.tpp (.cons .non (.cons (.int 0) .nil))) (.cons (.tpp (.cons (.int 0) (.cons (.int 1) .nil))) (.cons (.tpp (.cons (.tup (.cons (.int 0) .nil)) (.cons (.tup (.cons (.int 1) .nil)) .nil))) (.cons (.bl true) .nil)))))))))) .nil)) []))) (.cons (.ret (.bl false)) .nil) .nil) (.cons (.asg (.nm 3) (.lst (.cons (.ix (.call 41 (.cons (.var 0) (.cons (.tpp (.cons (.int 0) (.cons (.int 1) .nil))) .nil)) []) (.int 0)) (.cons (.call 41 (.cons (.var 0) (.cons (.tpp (.cons (.int 1) (.cons (.int 0) .nil))) .nil)) []) (.cons (.call 42 (.cons (.var 0) (.cons (.tpp (.cons (.int 1) (.cons (.int 0) .nil))) (.cons (.tpp (.cons (.str (Str.ofString "better")) (.cons (.tpp (.cons (.int 0) (.cons (.int 1) .nil))) .nil))) .nil))) []) .nil))))) (.cons (.asg (.nm 3) (.bin .Add (.var 3) (.lst (.cons (.call 39 (.cons (.var 0) (.cons (.tpp (.cons (.int 0) (.cons (.int 1) .nil))) (.cons (.tpp (.cons (.int 1) (.cons (.int 0) .nil))) .nil))) []) (.cons (.call 39 (.cons (.var 0) (.cons (.tpp (.cons (.int 1) (.cons (.int 0) .nil))) (.cons (.tpp (.cons (.int 0) (.cons (.int 1) .nil))) .nil))) []) (.cons (.call 39 (.cons (.var 0) (.cons (.tpp (.cons (.int 1) (.cons (.int 0) .nil))) (.cons (.tpp (.cons (.int 1) (.cons (.int 0) .nil))) .nil))) []) .nil)))))) (.cons (.ret (.call 59 (.cons (.var 3) (.cons (.lst (.cons (.str (Str.ofString "end")) (.cons (.tpp (.cons (.str (Str.ofString "better")) (.cons (.tpp (.cons (.int 0) (.cons (.int 1) .nil))) .nil))) (.cons (.str (Str.ofString "better")) (.cons (.bl true) (.cons (.bl false) (.cons (.bl true) .nil))))))) .nil)) [])) .nil))))))))
/-- _law_three_right()  slots 0:book 1:best 2:middle 3:worst 4:told 5:log -/
def b61 : Sms := (.cons (.asg (.nm 0) (.tpp (.cons (.tup (.cons (.tup (.cons (.int 0) (.cons (.int 1) (.cons (.int 2) .nil)))) (.cons (.tup (.cons (.int 1) (.cons (.int 2) (.cons (.int 0) .nil)))) (.cons (.tup (.cons (.int 2) (.cons (.int 0) (.cons (.int 1) .nil)))) .nil)))) (.cons (.tup (.cons (.tup (.cons (.int 1) (.cons (.int 2) (.cons (.int 0) .nil)))) (.cons (.tup (.cons (.int 2) (.cons (.int 0) (.cons (.int 1) .nil)))) (.cons (.tup (.cons (.int 0) (.cons (.int 1) (.cons (.int 2) .nil)))) .nil)))) .nil)))) (.cons (.asg (.tp (.cons (.nm 1) (.cons (.nm 2) (.cons (.nm 3) .nil)))) (.tup (.cons (.tup (.cons (.int 0) (.cons (.int 1) (.cons (.int 2) .nil)))) (.cons (.tup (.cons (.int 1) (.cons (.int 2) (.cons (.int 0) .nil)))) (.cons (.tup (.cons (.int 2) (.cons (.int 0) (.cons (.int 1) .nil)))) .nil))))) (.cons (.asg (.nm 4) (.lst (.cons (.call 16 (.cons (.var 0) .nil) []) (.cons (.call 17 (.cons (.var 0) .nil) []) (.cons (.call 36 (.cons (.var 0) (.cons (.var 2) (.cons (.var 3) .nil))) []) (.cons (.call 37 (.cons (.var 0) (.cons (.var 1) (.cons (.var 2) .nil))) []) .nil)))))) (.cons (.asg (.nm 4) (.bin .Add (.var 4) (.lst (.cons (.call 40 (.cons (.var 0) (.cons (.tup (.cons (.var 3) (.cons (.var 1) (.cons (.var 2) .nil)))) (.cons (.int 2) .nil))) []) (.cons (.call 40 (.cons (.var 0) (.cons (.tup (.cons (.var 1) (.cons (.var 1) (.cons (.var 3) .nil)))) (.cons (.int 2) .nil))) []) (.cons (.call 40 (.cons (.var 0) (.cons (.tup (.cons (.var 3) .nil)) (.cons (.int 1) .nil))) []) .nil)))))) (.cons (.ifs (.not (.val (.call 59 (.cons (.var 4) (.cons (.lst (.cons (.var 1) (.cons (.var 3) (.cons (.var 2) (.cons (.var 2) (.cons (.var 2) (.cons (.var 1) (.cons (.var 3) .nil)))))))) .nil)) []))) (.cons (.ret (.bl false)) .nil) .nil) (.cons (.asg (.nm 5) (.tup (.cons (.tpp (.cons (.int 1) (.cons (.int 1) .nil))) (.cons (.tpp (.cons (.int 2) (.cons (.int 2) .nil))) (.cons (.tpp (.cons (.int 0) (.cons (.int 0) .nil))) .nil))))) (.cons (.asg (.nm 4) (.lst (.cons (.call 23 (.cons (.var 0) (.cons (.var 5) .nil)) []) (.cons (.call 23 (.cons (.var 0) (.cons (.rev (.var 5)) .nil)) []) (.cons (.call 42 (.cons (.var 0) (.cons (.var 1) (.cons (.tpp (.cons (.str (Str.ofString "end")) (.cons (.var 5) .nil))) .nil))) []) (.cons (.call 42 (.cons (.var 0) (.cons (.var 2) (.cons (.tpp (.cons (.str (Str.ofString "better")) (.cons (.var 1) .nil))) .nil))) []) (.cons (.call 42 (.cons (.var 0) (.cons (.var 3) (.cons (.tpp (.cons (.str (Str.ofString "better")) (.cons (.var 2) .nil))) .nil))) []) .nil))))))) (.cons (.ret (.call 59 (.cons (.var 4) (.cons (.lst (.cons (.var 1) (.cons (.var 1) (.cons (.str (Str.ofString "end")) (.cons (.str (Str.ofString "better")) (.cons (.str (Str.ofString "better")) .nil)))))) .nil)) [])) .nil))))))))
/-- _law_roads_right()  slots 0:book 1:alone 2:road 3:told 4:found 5:call 6:error 7:two 8:ring -/
def b62 : Sms := (.cons (.asg (.nm 0) (.tpp (.cons (.tup (.cons (.tup (.cons (.int 0) (.cons (.int 1) (.cons (.int 2) .nil)))) (.cons (.tup (.cons (.int 1) (.cons (.int 2) (.cons (.int 0) .nil)))) (.cons (.tup (.cons (.int 2) (.cons (.int 0) (.cons (.int 1) .nil)))) .nil)))) (.cons (.tup (.cons (.tup (.cons (.int 1) (.cons (.int 2) (.cons (.int 0) .nil)))) (.cons (.tup (.cons (.int 2) (.cons (.int 0) (.cons (.int 1) .nil)))) (.cons (.tup (.cons (.int 0) (.cons (.int 1) (.cons (.int 2) .nil)))) .nil)))) .nil)))) (.cons (.asg (.nm 1) (.tup (.cons .non (.cons .non (.cons .non .nil))))) (.cons (.asg (.nm 2) (.tup (.cons (.tpp (.cons (.int 0) (.cons (.int 0) .nil))) (.cons (.tpp (.cons (.int 1) (.cons (.int 1) .nil))) (.cons (.tpp (.cons (.int 2) (.cons (.int 2) .nil))) .nil))))) (.cons (.asg (.nm 3) (.lst (.cons (.call 57 (.cons (.var 0) (.cons (.var 1) (.cons (.var 2) .nil))) []) (.cons (.call 45 (.cons (.var 0) (.cons (.var 1) (.cons (.tpp (.cons (.int 0) (.cons (.int 1) .nil))) .nil))) []) (.cons (.call 45 (.cons (.var 0) (.cons (.tup (.cons (.int 1) (.cons .non (.cons .non .nil)))) (.cons (.tpp (.cons (.int 2) (.cons (.int 1) .nil))) .nil))) []) .nil))))) (.cons (.asg (.nm 3) (.bin .Add (.var 3) (.lst (.cons (.call 58 (.cons (.var 0) (.cons (.var 1) (.cons (.var 2) .nil))) []) (.cons (.call 57 (.cons (.var 0) (.cons (.tup (.cons (.int 0) (.cons (.int 1) (.cons (.int 2) .nil)))) (.cons (.tup .nil) .nil))) []) (.cons (.call 54 (.cons (.var 0) (.cons (.tup (.cons (.int 1) (.cons (.int 2) (.cons (.int 0) .nil)))) .nil)) []) .nil)))))) (.cons (.ifs (.not (.val (.call 59 (.cons (.var 3) (.cons (.lst (.cons (.tup (.cons (.int 0) (.cons (.int 1) (.cons (.int 2) .nil)))) (.cons (.tup (.cons (.int 1) (.cons .non (.cons .non .nil)))) (.cons (.tup (.cons .non (.cons .non (.cons (.int 1) .nil)))) (.cons (.bl false) (.cons (.tup (.cons (.int 0) (.cons (.int 1) (.cons (.int 2) .nil)))) (.cons (.tup .nil) .nil))))))) .nil)) []))) (.cons (.ret (.bl false)) .nil) .nil) (.cons (.asg (.nm 4) (.lst .nil)) (.cons (.lfr 5 4 (.cons (.call 45 (.cons (.var 0) (.cons (.tup (.cons (.int 0) (.cons (.int 1) (.cons (.int 2) .nil)))) (.cons (.tpp (.cons (.int 0) (.cons (.int 1) .nil))) .nil))) []) (.cons (.call 57 (.cons (.var 0) (.cons (.var 1) (.cons (.tpp (.cons (.tpp (.cons (.int 0) (.cons (.int 0) .nil))) (.cons (.tpp (.cons (.int 0) (.cons (.int 0) .nil))) .nil))) .nil))) []) (.cons (.call 36 (.cons (.var 0) (.cons (.var 1) (.cons (.var 1) .nil))) []) (.cons (.call 23 (.cons (.var 0) (.cons (.tup (.cons (.tpp (.cons (.int 0) (.cons (.int 1) .nil))) .nil)) .nil)) []) .nil)))) (.cons 7 (some 6) (.app 4 (.fld 7)) (.cons 1 (some 6) (.app 4 (.fld 6)) (.cons 5 (some 6) (.app 4 (.lst (.cons (.str (Str.ofString "not settled")) (.cons (.fld 7) .nil)))) .nil)))) (.cons (.ifs (.not (.val (.call 59 (.cons (.var 4) (.cons (.lst (.cons (.tpp (.cons (.int 0) (.cons (.int 1) .nil))) (.cons (.str (Str.ofString "road")) (.cons (.lst (.cons (.str (Str.ofString "not settled")) (.cons (.tpp (.cons (.int 0) (.cons (.int 0) .nil))) .nil))) (.cons (.str (Str.ofString "log")) .nil))))) .nil)) []))) (.cons (.ret (.bl false)) .nil) .nil) (.cons (.asg (.nm 7) (.tpp (.cons (.tpp (.cons (.tpp (.cons (.int 0) (.cons (.int 1) .nil))) (.cons (.tpp (.cons (.int 1) (.cons (.int 0) .nil))) .nil))) (.cons (.tpp (.cons (.tpp (.cons (.int 1) (.cons (.int 0) .nil))) (.cons (.tpp (.cons (.int 0) (.cons (.int 1) .nil))) .nil))) .nil)))) (.cons (.asg (.nm 8) (.tup (.cons (.tpp (.cons (.int 0) (.cons (.int 0) .nil))) (.cons (.tpp (.cons (.int 1) (.cons (.int 0) .nil))) (.cons (.tpp (.cons (.int 1) (.cons (.int 1) .nil))) (.cons (.tpp (.cons (.int 0) (.cons (.int 1) .nil))) (.cons (.tpp (.cons (.int 0) (.cons (.int 0) .nil))) (.cons (.tpp (.cons (.int 1) (.cons (.int 0) .nil))) .nil)))))))) (.cons (.asg (.nm 3) (.lst (.cons (.call 57 (.cons (.var 7) (.cons (.tpp (.cons .non (.cons .non .nil))) (.cons (.tpp (.cons (.tpp (.cons (.int 0) (.cons (.int 1) .nil))) (.cons (.tpp (.cons (.int 1) (.cons (.int 0) .nil))) .nil))) .nil))) []) (.cons (.call 57 (.cons (.var 7) (.cons (.tpp (.cons .non (.cons .non .nil))) (.cons (.var 8) .nil))) []) (.cons (.call 58 (.cons (.var 7) (.cons (.tpp (.cons .non (.cons .non .nil))) (.cons (.var 8) .nil))) []) (.cons (.call 58 (.cons (.var 7) (.cons (.tpp (.cons .non (.cons .non .nil))) (.cons (.sl (.var 8) .nil (.cons (.int 4) .nil)) .nil))) []) .nil)))))) (.cons (.ret (.call 59 (.cons (.var 3) (.cons (.lst (.cons (.tpp (.cons (.int 1) (.cons (.int 0) .nil))) (.cons (.tpp (.cons .non (.cons (.int 0) .nil))) (.cons (.bl true) (.cons (.bl false) .nil))))) .nil)) [])) .nil)))))))))))))
/-- law(script)  slots 0:script -/
def b63 : Sms := (.cons (.ret (.and (.call 60 .nil []) (.and (.call 61 .nil []) (.call 62 .nil [])))) .nil)
def fnl : List Fn := [⟨1, 1, [], b0⟩, ⟨3, 3, [], b1⟩, ⟨2, 2, [], b2⟩, ⟨2, 3, [], b3⟩, ⟨2, 6, [], b4⟩, ⟨1, 4, [], b5⟩, ⟨1, 2, [], b6⟩, ⟨1, 6, [], b7⟩, ⟨3, 4, [], b8⟩, ⟨2, 2, [], b9⟩, ⟨2, 4, [], b10⟩, ⟨1, 5, [], b11⟩, ⟨1, 4, [], b12⟩, ⟨1, 1, [], b13⟩, ⟨1, 2, [], b14⟩, ⟨1, 5, [], b15⟩, ⟨1, 1, [], b16⟩, ⟨1, 1, [], b17⟩, ⟨1, 2, [], b18⟩, ⟨1, 1, [], b19⟩, ⟨1, 5, [], b20⟩, ⟨2, 3, [], b21⟩, ⟨2, 5, [], b22⟩, ⟨2, 3, [], b23⟩, ⟨1, 5, [], b24⟩, ⟨1, 1, [], b25⟩, ⟨2, 5, [], b26⟩, ⟨2, 3, [], b27⟩, ⟨2, 5, [], b28⟩, ⟨4, 8, [], b29⟩, ⟨2, 7, [], b30⟩, ⟨2, 3, [], b31⟩, ⟨2, 3, [], b32⟩, ⟨3, 3, [], b33⟩, ⟨3, 8, [], b34⟩, ⟨3, 3, [], b35⟩, ⟨3, 3, [], b36⟩, ⟨3, 3, [], b37⟩, ⟨3, 5, [], b38⟩, ⟨3, 3, [], b39⟩, ⟨3, 5, [], b40⟩, ⟨2, 3, [], b41⟩, ⟨3, 4, [], b42⟩, ⟨2, 6, [], b43⟩, ⟨4, 4, [], b44⟩, ⟨3, 3, [], b45⟩, ⟨3, 3, [], b46⟩, ⟨3, 3, [], b47⟩, ⟨4, 5, [], b48⟩, ⟨3, 4, [], b49⟩, ⟨4, 7, [], b50⟩, ⟨3, 6, [], b51⟩, ⟨2, 6, [], b52⟩, ⟨3, 3, [], b53⟩, ⟨2, 2, [], b54⟩, ⟨3, 6, [], b55⟩, ⟨3, 4, [], b56⟩, ⟨3, 3, [], b57⟩, ⟨3, 4, [], b58⟩, ⟨2, 4, [], b59⟩, ⟨0, 4, [], b60⟩, ⟨0, 6, [], b61⟩, ⟨0, 9, [], b62⟩, ⟨1, 1, [], b63⟩]
def fns (k : Nat) : Fn := fnl.getD k ⟨0, 0, [], .nil⟩
def inil : List (Nat × Nat) := [(8, 8), (9, 46)]
def metl : List (Nat × Nat × Nat) := [(8, 0, 9), (8, 1, 10), (8, 2, 11), (8, 3, 12), (9, 4, 47), (9, 5, 48), (9, 6, 49), (9, 7, 50), (9, 8, 51)]
def glb : Nat → W
  | 0 => (.int 40)
  | 1 => (.int 200)
  | 2 => (.str (Str.ofString "end"))
  | 3 => (.str (Str.ofString "better"))
  | _ => .non
def fokl : List (Nat × List Nat) := [(8, [1, 2, 3, 4, 5]), (9, [2, 9, 10, 11, 12])]
def subl : List (Nat × Nat × Bool) := [(0, 0, true), (0, 1, false), (0, 2, false), (0, 3, false), (0, 4, false), (0, 5, false), (0, 6, false), (0, 7, false), (1, 0, true), (1, 1, true), (1, 2, false), (1, 3, false), (1, 4, false), (1, 5, false), (1, 6, false), (1, 7, false), (2, 0, true), (2, 1, false), (2, 2, true), (2, 3, false), (2, 4, false), (2, 5, false), (2, 6, false), (2, 7, false), (3, 0, true), (3, 1, false), (3, 2, false), (3, 3, true), (3, 4, false), (3, 5, false), (3, 6, false), (3, 7, false), (4, 0, true), (4, 1, false), (4, 2, false), (4, 3, false), (4, 4, true), (4, 5, false), (4, 6, false), (4, 7, false), (5, 0, true), (5, 1, false), (5, 2, false), (5, 3, false), (5, 4, false), (5, 5, true), (5, 6, false), (5, 7, false), (6, 0, true), (6, 1, false), (6, 2, false), (6, 3, false), (6, 4, false), (6, 5, false), (6, 6, true), (6, 7, false), (7, 0, true), (7, 1, false), (7, 2, false), (7, 3, false), (7, 4, false), (7, 5, false), (7, 6, false), (7, 7, true)]
def nf : Nat := 64
def gl : List (Str × GI) := [(zs "is_integer", GI.fn 0), (zs "is_within", GI.fn 1), (zs "is_tuple_of", GI.fn 2), (zs "is_list_of", GI.fn 3), (zs "unlet_in", GI.fn 4), (zs "wrong_book", GI.fn 5), (zs "need_book", GI.fn 6), (zs "ranks_of", GI.fn 7), (zs "asker_of", GI.fn 13), (zs "left_end_of", GI.fn 14), (zs "right_end_of", GI.fn 15), (zs "left_end", GI.fn 16), (zs "right_end", GI.fn 17), (zs "ask_counts", GI.fn 18), (zs "first_log", GI.fn 19), (zs "least_log", GI.fn 20), (zs "is_log", GI.fn 21), (zs "log_end", GI.fn 22), (zs "check_log", GI.fn 23), (zs "alone_persons", GI.fn 24), (zs "has_one", GI.fn 25), (zs "wrong_pairing", GI.fn 26), (zs "need_pairing", GI.fn 27), (zs "back_of", GI.fn 28), (zs "does_block", GI.fn 29), (zs "blocks_in", GI.fn 30), (zs "first_block", GI.fn 31), (zs "need_settled", GI.fn 32), (zs "place_of", GI.fn 33), (zs "picked_from", GI.fn 34), (zs "need_two", GI.fn 35), (zs "better_of", GI.fn 36), (zs "worse_of", GI.fn 37), (zs "is_as_good_so", GI.fn 38), (zs "is_as_good", GI.fn 39), (zs "middle_of", GI.fn 40), (zs "best_paper", GI.fn 41), (zs "check_best", GI.fn 42), (zs "met_so", GI.fn 43), (zs "blocks", GI.fn 44), (zs "met", GI.fn 45), (zs "walked", GI.fn 52), (zs "let_pair", GI.fn 53), (zs "road_to_settled", GI.fn 54), (zs "road_pairings", GI.fn 55), (zs "need_road", GI.fn 56), (zs "check_road", GI.fn 57), (zs "road_rounds", GI.fn 58), (zs "_law_like", GI.fn 59), (zs "_law_two_right", GI.fn 60), (zs "_law_three_right", GI.fn 61), (zs "_law_roads_right", GI.fn 62), (zs "law", GI.fn 63), (zs "SettleError", GI.exc 0 []), (zs "BadPaper", GI.exc 1 [6]), (zs "BadBook", GI.exc 2 [0]), (zs "BadPairing", GI.exc 3 [0]), (zs "BadNumber", GI.exc 4 [8]), (zs "NotSettled", GI.exc 5 [7]), (zs "BadPairings", GI.exc 6 [8]), (zs "BadPair", GI.exc 7 [7]), (zs "Asker", GI.cls 8), (zs "Walker", GI.cls 9), (zs "MOST_PERSONS", GI.val 0), (zs "MOST_PAIRINGS", GI.val 1), (zs "END", GI.val 2), (zs "BETTER", GI.val 3), (zs "len", GI.blt), (zs "int", GI.blt), (zs "all", GI.blt), (zs "sorted", GI.blt), (zs "tuple", GI.blt), (zs "list", GI.blt), (zs "set", GI.blt), (zs "dict", GI.blt), (zs "isinstance", GI.blt), (zs "str", GI.blt), (zs "bool", GI.blt), (zs "range", GI.blt), (zs "enumerate", GI.blt), (zs "zip", GI.blt)]
def fnml : List Str := [zs "place", zs "left", zs "ranks", zs "asked", zs "kept", zs "alone", zs "word", zs "pair", zs "number", zs "book", zs "pairing", zs "road", zs "inside"]
def mnml : List Str := [zs "can_ask", zs "ask", zs "run", zs "pairing", zs "held", zs "wants", zs "best", zs "meet", zs "settle"]
def fnm (i : Nat) : Str := fnml.getD i ""
def mnm (i : Nat) : Str := mnml.getD i ""
def top (i : Nat) : Stmt := PySem.Challenge.pw_allsettled_k08_asking_by_hand.main.body.getD i (.Pass ⟨0, 0, 0, 0⟩)
def inner (i j : Nat) : Stmt := match top i with | .ClassDef _ _ _ b _ _ _ _ _ _ _ => b.getD j (.Pass ⟨0, 0, 0, 0⟩) | s => s
def i0 : FI := ⟨zs "is_integer", zs "is_integer", defArgs (top 10), defBody (top 10), defScope (top 10), [zs "value"], [zs "value"], false⟩
def i1 : FI := ⟨zs "is_within", zs "is_within", defArgs (top 11), defBody (top 11), defScope (top 11), [zs "value", zs "least", zs "most"], [zs "value", zs "least", zs "most"], false⟩
def i2 : FI := ⟨zs "is_tuple_of", zs "is_tuple_of", defArgs (top 12), defBody (top 12), defScope (top 12), [zs "value", zs "many"], [zs "value", zs "many"], false⟩
def i3 : FI := ⟨zs "is_list_of", zs "is_list_of", defArgs (top 15), defBody (top 15), defScope (top 15), [zs "value", zs "many", zs "one"], [zs "value", zs "many"], false⟩
def i4 : FI := ⟨zs "unlet_in", zs "unlet_in", defArgs (top 16), defBody (top 16), defScope (top 16), [zs "book", zs "side", zs "others", zs "person", zs "wishes", zs "one"], [zs "book", zs "side"], false⟩
def i5 : FI := ⟨zs "wrong_book", zs "wrong_book", defArgs (top 17), defBody (top 17), defScope (top 17), [zs "value", zs "side", zs "person", zs "wishes"], [zs "value"], false⟩
def i6 : FI := ⟨zs "need_book", zs "need_book", defArgs (top 18), defBody (top 18), defScope (top 18), [zs "book", zs "place"], [zs "book"], false⟩
def i7 : FI := ⟨zs "ranks_of", zs "ranks_of", defArgs (top 20), defBody (top 20), defScope (top 20), [zs "book", zs "found", zs "lists", zs "wishes", zs "place", zs "one"], [zs "book"], false⟩
def i8 : FI := ⟨zs "__init__", zs "Asker.__init__", defArgs (inner 22 0), defBody (inner 22 0), defScope (inner 22 0), [zs "self", zs "left", zs "ranks", zs "person"], [zs "self", zs "left", zs "ranks"], false⟩
def i9 : FI := ⟨zs "can_ask", zs "Asker.can_ask", defArgs (inner 22 1), defBody (inner 22 1), defScope (inner 22 1), [zs "self", zs "person"], [zs "self", zs "person"], false⟩
def i10 : FI := ⟨zs "ask", zs "Asker.ask", defArgs (inner 22 2), defBody (inner 22 2), defScope (inner 22 2), [zs "self", zs "person", zs "other", zs "held"], [zs "self", zs "person"], false⟩
def i11 : FI := ⟨zs "run", zs "Asker.run", defArgs (inner 22 3), defBody (inner 22 3), defScope (inner 22 3), [zs "self", zs "ready", zs "person", zs "other", zs "held"], [zs "self"], false⟩
def i12 : FI := ⟨zs "pairing", zs "Asker.pairing", defArgs (inner 22 4), defBody (inner 22 4), defScope (inner 22 4), [zs "self", zs "found", zs "other", zs "person"], [zs "self"], false⟩
def i13 : FI := ⟨zs "asker_of", zs "asker_of", defArgs (top 23), defBody (top 23), defScope (top 23), [zs "book"], [zs "book"], false⟩
def i14 : FI := ⟨zs "left_end_of", zs "left_end_of", defArgs (top 24), defBody (top 24), defScope (top 24), [zs "book", zs "asker"], [zs "book"], false⟩
def i15 : FI := ⟨zs "right_end_of", zs "right_end_of", defArgs (top 25), defBody (top 25), defScope (top 25), [zs "book", zs "asker", zs "found", zs "other", zs "person"], [zs "book"], false⟩
def i16 : FI := ⟨zs "left_end", zs "left_end", defArgs (top 26), defBody (top 26), defScope (top 26), [zs "book"], [zs "book"], false⟩
def i17 : FI := ⟨zs "right_end", zs "right_end", defArgs (top 27), defBody (top 27), defScope (top 27), [zs "book"], [zs "book"], false⟩
def i18 : FI := ⟨zs "ask_counts", zs "ask_counts", defArgs (top 28), defBody (top 28), defScope (top 28), [zs "book", zs "asker"], [zs "book"], false⟩
def i19 : FI := ⟨zs "first_log", zs "first_log", defArgs (top 29), defBody (top 29), defScope (top 29), [zs "book"], [zs "book"], false⟩
def i20 : FI := ⟨zs "least_log", zs "least_log", defArgs (top 30), defBody (top 30), defScope (top 30), [zs "book", zs "asker", zs "log", zs "ready", zs "person"], [zs "book"], false⟩
def i21 : FI := ⟨zs "is_log", zs "is_log", defArgs (top 31), defBody (top 31), defScope (top 31), [zs "book", zs "value", zs "one"], [zs "book", zs "value"], false⟩
def i22 : FI := ⟨zs "log_end", zs "log_end", defArgs (top 32), defBody (top 32), defScope (top 32), [zs "book", zs "log", zs "asker", zs "person", zs "other"], [zs "book", zs "log"], false⟩
def i23 : FI := ⟨zs "check_log", zs "check_log", defArgs (top 33), defBody (top 33), defScope (top 33), [zs "book", zs "log", zs "found"], [zs "book", zs "log"], false⟩
def i24 : FI := ⟨zs "alone_persons", zs "alone_persons", defArgs (top 34), defBody (top 34), defScope (top 34), [zs "book", zs "end", zs "left", zs "person", zs "other"], [zs "book"], false⟩
def i25 : FI := ⟨zs "has_one", zs "has_one", defArgs (top 35), defBody (top 35), defScope (top 35), [zs "book"], [zs "book"], false⟩
def i26 : FI := ⟨zs "wrong_pairing", zs "wrong_pairing", defArgs (top 37), defBody (top 37), defScope (top 37), [zs "book", zs "value", zs "taken", zs "person", zs "one"], [zs "book", zs "value"], false⟩
def i27 : FI := ⟨zs "need_pairing", zs "need_pairing", defArgs (top 38), defBody (top 38), defScope (top 38), [zs "book", zs "pairing", zs "place"], [zs "book", zs "pairing"], false⟩
def i28 : FI := ⟨zs "back_of", zs "back_of", defArgs (top 39), defBody (top 39), defScope (top 39), [zs "book", zs "pairing", zs "found", zs "person", zs "one"], [zs "book", zs "pairing"], false⟩
def i29 : FI := ⟨zs "does_block", zs "does_block", defArgs (top 40), defBody (top 40), defScope (top 40), [zs "ranks", zs "pairing", zs "back", zs "pair", zs "person", zs "other", zs "one", zs "far"], [zs "ranks", zs "pairing", zs "back", zs "pair"], false⟩
def i30 : FI := ⟨zs "blocks_in", zs "blocks_in", defArgs (top 41), defBody (top 41), defScope (top 41), [zs "ranks", zs "pairing", zs "back", zs "found", zs "person", zs "places", zs "other"], [zs "ranks", zs "pairing"], false⟩
def i31 : FI := ⟨zs "first_block", zs "first_block", defArgs (top 42), defBody (top 42), defScope (top 42), [zs "ranks", zs "pairing", zs "found"], [zs "ranks", zs "pairing"], false⟩
def i32 : FI := ⟨zs "need_settled", zs "need_settled", defArgs (top 43), defBody (top 43), defScope (top 43), [zs "book", zs "pairing", zs "pair"], [zs "book", zs "pairing"], false⟩
def i33 : FI := ⟨zs "place_of", zs "place_of", defArgs (top 48), defBody (top 48), defScope (top 48), [zs "ranks", zs "person", zs "other"], [zs "ranks", zs "person", zs "other"], false⟩
def i34 : FI := ⟨zs "picked_from", zs "picked_from", defArgs (top 49), defBody (top 49), defScope (top 49), [zs "ranks", zs "pairings", zs "number", zs "found", zs "person", zs "some", zs "kept", zs "pairing"], [zs "ranks", zs "pairings", zs "number"], false⟩
def i35 : FI := ⟨zs "need_two", zs "need_two", defArgs (top 50), defBody (top 50), defScope (top 50), [zs "book", zs "pairing", zs "other"], [zs "book", zs "pairing", zs "other"], false⟩
def i36 : FI := ⟨zs "better_of", zs "better_of", defArgs (top 51), defBody (top 51), defScope (top 51), [zs "book", zs "pairing", zs "other"], [zs "book", zs "pairing", zs "other"], false⟩
def i37 : FI := ⟨zs "worse_of", zs "worse_of", defArgs (top 52), defBody (top 52), defScope (top 52), [zs "book", zs "pairing", zs "other"], [zs "book", zs "pairing", zs "other"], false⟩
def i38 : FI := ⟨zs "is_as_good_so", zs "is_as_good_so", defArgs (top 53), defBody (top 53), defScope (top 53), [zs "ranks", zs "pairing", zs "other", zs "person", zs "one"], [zs "ranks", zs "pairing", zs "other"], false⟩
def i39 : FI := ⟨zs "is_as_good", zs "is_as_good", defArgs (top 54), defBody (top 54), defScope (top 54), [zs "book", zs "pairing", zs "other"], [zs "book", zs "pairing", zs "other"], false⟩
def i40 : FI := ⟨zs "middle_of", zs "middle_of", defArgs (top 55), defBody (top 55), defScope (top 55), [zs "book", zs "pairings", zs "number", zs "spot", zs "pairing"], [zs "book", zs "pairings", zs "number"], false⟩
def i41 : FI := ⟨zs "best_paper", zs "best_paper", defArgs (top 56), defBody (top 56), defScope (top 56), [zs "book", zs "pairing", zs "end"], [zs "book", zs "pairing"], false⟩
def i42 : FI := ⟨zs "check_best", zs "check_best", defArgs (top 57), defBody (top 57), defScope (top 57), [zs "book", zs "pairing", zs "paper", zs "ranks"], [zs "book", zs "pairing", zs "paper"], false⟩
def i43 : FI := ⟨zs "met_so", zs "met_so", defArgs (top 59), defBody (top 59), defScope (top 59), [zs "pairing", zs "pair", zs "person", zs "other", zs "found", zs "one"], [zs "pairing", zs "pair"], false⟩
def i44 : FI := ⟨zs "blocks", zs "blocks", defArgs (top 60), defBody (top 60), defScope (top 60), [zs "book", zs "ranks", zs "pairing", zs "pair"], [zs "book", zs "ranks", zs "pairing", zs "pair"], false⟩
def i45 : FI := ⟨zs "met", zs "met", defArgs (top 61), defBody (top 61), defScope (top 61), [zs "book", zs "pairing", zs "pair"], [zs "book", zs "pairing", zs "pair"], false⟩
def i46 : FI := ⟨zs "__init__", zs "Walker.__init__", defArgs (inner 62 0), defBody (inner 62 0), defScope (inner 62 0), [zs "self", zs "book", zs "pairing"], [zs "self", zs "book", zs "pairing"], false⟩
def i47 : FI := ⟨zs "held", zs "Walker.held", defArgs (inner 62 1), defBody (inner 62 1), defScope (inner 62 1), [zs "self", zs "side", zs "person"], [zs "self", zs "side", zs "person"], false⟩
def i48 : FI := ⟨zs "wants", zs "Walker.wants", defArgs (inner 62 2), defBody (inner 62 2), defScope (inner 62 2), [zs "self", zs "side", zs "person", zs "other", zs "one"], [zs "self", zs "side", zs "person", zs "other"], false⟩
def i49 : FI := ⟨zs "best", zs "Walker.best", defArgs (inner 62 3), defBody (inner 62 3), defScope (inner 62 3), [zs "self", zs "side", zs "person", zs "other"], [zs "self", zs "side", zs "person"], false⟩
def i50 : FI := ⟨zs "meet", zs "Walker.meet", defArgs (inner 62 4), defBody (inner 62 4), defScope (inner 62 4), [zs "self", zs "side", zs "person", zs "other", zs "left", zs "right", zs "alone"], [zs "self", zs "side", zs "person", zs "other"], false⟩
def i51 : FI := ⟨zs "settle", zs "Walker.settle", defArgs (inner 62 5), defBody (inner 62 5), defScope (inner 62 5), [zs "self", zs "side", zs "person", zs "first", zs "other", zs "loose"], [zs "self", zs "side", zs "person"], false⟩
def i52 : FI := ⟨zs "walked", zs "walked", defArgs (top 63), defBody (top 63), defScope (top 63), [zs "book", zs "pairing", zs "walker", zs "person", zs "other", zs "side"], [zs "book", zs "pairing"], false⟩
def i53 : FI := ⟨zs "let_pair", zs "let_pair", defArgs (top 64), defBody (top 64), defScope (top 64), [zs "walker", zs "person", zs "other"], [zs "walker", zs "person", zs "other"], false⟩
def i54 : FI := ⟨zs "road_to_settled", zs "road_to_settled", defArgs (top 65), defBody (top 65), defScope (top 65), [zs "book", zs "pairing"], [zs "book", zs "pairing"], false⟩
def i55 : FI := ⟨zs "road_pairings", zs "road_pairings", defArgs (top 66), defBody (top 66), defScope (top 66), [zs "book", zs "pairing", zs "road", zs "ranks", zs "found", zs "pair"], [zs "book", zs "pairing", zs "road"], false⟩
def i56 : FI := ⟨zs "need_road", zs "need_road", defArgs (top 67), defBody (top 67), defScope (top 67), [zs "book", zs "pairing", zs "road", zs "found"], [zs "book", zs "pairing", zs "road"], false⟩
def i57 : FI := ⟨zs "check_road", zs "check_road", defArgs (top 68), defBody (top 68), defScope (top 68), [zs "book", zs "pairing", zs "road"], [zs "book", zs "pairing", zs "road"], false⟩
def i58 : FI := ⟨zs "road_rounds", zs "road_rounds", defArgs (top 69), defBody (top 69), defScope (top 69), [zs "book", zs "pairing", zs "road", zs "found"], [zs "book", zs "pairing", zs "road"], false⟩
def i59 : FI := ⟨zs "_law_like", zs "_law_like", defArgs (top 71), defBody (top 71), defScope (top 71), [zs "told", zs "due", zs "one", zs "far"], [zs "told", zs "due"], false⟩
def i60 : FI := ⟨zs "_law_two_right", zs "_law_two_right", defArgs (top 72), defBody (top 72), defScope (top 72), [zs "book", zs "none", zs "single", zs "told"], [], false⟩
def i61 : FI := ⟨zs "_law_three_right", zs "_law_three_right", defArgs (top 73), defBody (top 73), defScope (top 73), [zs "book", zs "best", zs "middle", zs "worst", zs "told", zs "log"], [], false⟩
def i62 : FI := ⟨zs "_law_roads_right", zs "_law_roads_right", defArgs (top 74), defBody (top 74), defScope (top 74), [zs "book", zs "alone", zs "road", zs "told", zs "found", zs "call", zs "error", zs "two", zs "ring"], [], true⟩
def i63 : FI := ⟨zs "law", zs "law", defArgs (top 75), defBody (top 75), defScope (top 75), [zs "script"], [zs "script"], false⟩
def fil : List FI := [i0, i1, i2, i3, i4, i5, i6, i7, i8, i9, i10, i11, i12, i13, i14, i15, i16, i17, i18, i19, i20, i21, i22, i23, i24, i25, i26, i27, i28, i29, i30, i31, i32, i33, i34, i35, i36, i37, i38, i39, i40, i41, i42, i43, i44, i45, i46, i47, i48, i49, i50, i51, i52, i53, i54, i55, i56, i57, i58, i59, i60, i61, i62, i63]
def fi (k : Nat) : FI := fil.getD k i0
def atl : List (Str × Option Str) := [(zs "is_integer", none), (zs "is_within", none), (zs "is_tuple_of", none), (zs "is_list_of", none), (zs "unlet_in", none), (zs "wrong_book", none), (zs "need_book", none), (zs "ranks_of", none), (zs "Asker", some (zs "__init__")), (zs "Asker", some (zs "can_ask")), (zs "Asker", some (zs "ask")), (zs "Asker", some (zs "run")), (zs "Asker", some (zs "pairing")), (zs "asker_of", none), (zs "left_end_of", none), (zs "right_end_of", none), (zs "left_end", none), (zs "right_end", none), (zs "ask_counts", none), (zs "first_log", none), (zs "least_log", none), (zs "is_log", none), (zs "log_end", none), (zs "check_log", none), (zs "alone_persons", none), (zs "has_one", none), (zs "wrong_pairing", none), (zs "need_pairing", none), (zs "back_of", none), (zs "does_block", none), (zs "blocks_in", none), (zs "first_block", none), (zs "need_settled", none), (zs "place_of", none), (zs "picked_from", none), (zs "need_two", none), (zs "better_of", none), (zs "worse_of", none), (zs "is_as_good_so", none), (zs "is_as_good", none), (zs "middle_of", none), (zs "best_paper", none), (zs "check_best", none), (zs "met_so", none), (zs "blocks", none), (zs "met", none), (zs "Walker", some (zs "__init__")), (zs "Walker", some (zs "held")), (zs "Walker", some (zs "wants")), (zs "Walker", some (zs "best")), (zs "Walker", some (zs "meet")), (zs "Walker", some (zs "settle")), (zs "walked", none), (zs "let_pair", none), (zs "road_to_settled", none), (zs "road_pairings", none), (zs "need_road", none), (zs "check_road", none), (zs "road_rounds", none), (zs "_law_like", none), (zs "_law_two_right", none), (zs "_law_three_right", none), (zs "_law_roads_right", none), (zs "law", none)]
def cnml : List Str := [zs "SettleError", zs "BadPaper", zs "BadBook", zs "BadPairing", zs "BadNumber", zs "NotSettled", zs "BadPairings", zs "BadPair", zs "Asker", zs "Walker"]
def lamk : List Nat := [62]
def D : Desc := ⟨fi, nf, fun k => atl.getD k (zs "", none), fun c => cnml.getD c (zs ""), fnml, mnml, gl, fns, glb, inil, metl, fokl, subl, lamk, 100000⟩
def prg : Prg := D.prg
def chk (k : Nat) : Bool := D.kB k
end K08

namespace K08
open PySem PySem.Spec PyProof.Rows L2 Rf
abbrev LAW : PySem.W.OpenLaw := PySem.Challenge.rw_allsettled_k08_asking_by_hand
abbrev ROW : PySem.W.OpenRow := PySem.W.OpenLaw.row LAW
def loose : List PySem.Str := ([zs "SettleError", zs "BadPaper", zs "BadBook", zs "BadPairing", zs "BadNumber", zs "NotSettled", zs "BadPairings", zs "BadPair", zs "is_integer", zs "is_within", zs "is_tuple_of", zs "MOST_PERSONS", zs "is_list_of", zs "unlet_in", zs "wrong_book", zs "need_book", zs "ranks_of", zs "Asker", zs "asker_of", zs "left_end_of", zs "right_end_of", zs "left_end", zs "right_end", zs "ask_counts", zs "first_log", zs "least_log", zs "is_log", zs "log_end", zs "check_log", zs "alone_persons", zs "has_one", zs "wrong_pairing", zs "need_pairing", zs "back_of", zs "does_block", zs "blocks_in", zs "first_block", zs "need_settled"] : List PySem.Str) ++ ([zs "MOST_PAIRINGS", zs "END", zs "BETTER", zs "place_of", zs "picked_from", zs "need_two", zs "better_of", zs "worse_of", zs "is_as_good_so", zs "is_as_good", zs "middle_of", zs "best_paper", zs "check_best", zs "met_so", zs "blocks", zs "met", zs "Walker", zs "walked", zs "let_pair", zs "road_to_settled", zs "road_pairings", zs "need_road", zs "check_road", zs "road_rounds", zs "_law_like", zs "_law_two_right", zs "_law_three_right", zs "_law_roads_right"] : List PySem.Str)
abbrev hk : PySem.W.Hook := Hk.hook D.fa D.fn [] D.tf (D.ex LAW.prog.main.file) 4
def ob (s : PySem.W.SharedT) : He.AlX := Hk.look D.fa D.fn [] D.tf (D.ex LAW.prog.main.file) 4 (HandSHeadRun.getT s)
theorem ob_eq (s : PySem.W.SharedT) : ob s = hk.obs s.abs := Hk.look_eq (HandSHeadRun.getT_eq s)
theorem run (w : World) : HandSHeadRun.RunEq ROW (PySem.W.view ROW.prog [75]) hk ob 40000 loose w := by
  intro os
  kernel_rfl
theorem hkB : (List.range D.nf).all (fun k => D.kB k) = true := by kernel_rfl
theorem hk_ : ∀ k, k < D.nf → D.kB k = true := fun k h => List.all_eq_true.mp hkB k (List.mem_range.mpr h)
theorem hr_ : D.restB = true := by kernel_rfl
def d0 : Nat → List W → Store → Res W := fun _ _ _ => .stuck
theorem s0 : D.Solid 0 d0 := Desc.Solid.zero
def m0 (d : Nat → List W → Store → Res W) : Nat → List W → Store → Res W := d
theorem t0 : D.Tab 0 m0 := Desc.Tab.id
def e1 : Nat → List W → Store → Res W := iterD D.prg m0 6 d0
def r1_0 : MRow := ⟨6, [(.tup [(.tup [(.tup [(.int 0), (.int 1)]), (.tup [(.int 1), (.int 0)])]), (.tup [(.tup [(.int 1), (.int 0)]), (.tup [(.int 0), (.int 1)])])])], .ok (.tup [(.tup [(.tup [(.int 0), (.int 1)]), (.tup [(.int 1), (.int 0)])]), (.tup [(.tup [(.int 1), (.int 0)]), (.tup [(.int 0), (.int 1)])])])⟩
theorem q1_0 : r1_0.chk e1 = true := by kernel_rfl
def r1_1 : MRow := ⟨6, [(.tup [(.tpl []), (.tpl [])])], .ok (.tup [(.tpl []), (.tpl [])])⟩
theorem q1_1 : r1_1.chk e1 = true := by kernel_rfl
def r1_2 : MRow := ⟨6, [(.tup [(.tup [(.tpl []), (.tpl [(.int 0)])]), (.tup [(.tpl [(.int 1)]), (.tpl [])])])], .ok (.tup [(.tup [(.tpl []), (.tpl [(.int 0)])]), (.tup [(.tpl [(.int 1)]), (.tpl [])])])⟩
theorem q1_2 : r1_2.chk e1 = true := by kernel_rfl
def r1_3 : MRow := ⟨6, [(.tup [(.tpl [(.tpl [(.int 0), (.int 1), (.int 2)]), (.tpl [(.int 1), (.int 2), (.int 0)]), (.tpl [(.int 2), (.int 0), (.int 1)])]), (.tpl [(.tpl [(.int 1), (.int 2), (.int 0)]), (.tpl [(.int 2), (.int 0), (.int 1)]), (.tpl [(.int 0), (.int 1), (.int 2)])])])], .ok (.tup [(.tpl [(.tpl [(.int 0), (.int 1), (.int 2)]), (.tpl [(.int 1), (.int 2), (.int 0)]), (.tpl [(.int 2), (.int 0), (.int 1)])]), (.tpl [(.tpl [(.int 1), (.int 2), (.int 0)]), (.tpl [(.int 2), (.int 0), (.int 1)]), (.tpl [(.int 0), (.int 1), (.int 2)])])])⟩
theorem q1_3 : r1_3.chk e1 = true := by kernel_rfl
def r1_4 : MRow := ⟨14, [(.tup [(.tup [(.tup [(.int 0), (.int 1)]), (.tup [(.int 1), (.int 0)])]), (.tup [(.tup [(.int 1), (.int 0)]), (.tup [(.int 0), (.int 1)])])])], .ok (.tpl [(.int 0), (.int 1)])⟩
theorem q1_4 : r1_4.chk e1 = true := by kernel_rfl
def r1_5 : MRow := ⟨14, [(.tup [(.tpl []), (.tpl [])])], .ok (.tpl [])⟩
theorem q1_5 : r1_5.chk e1 = true := by kernel_rfl
def r1_6 : MRow := ⟨14, [(.tup [(.tup [(.tpl []), (.tpl [(.int 0)])]), (.tup [(.tpl [(.int 1)]), (.tpl [])])])], .ok (.tpl [.non, (.int 0)])⟩
theorem q1_6 : r1_6.chk e1 = true := by kernel_rfl
def r1_7 : MRow := ⟨14, [(.tup [(.tpl [(.tpl [(.int 0), (.int 1), (.int 2)]), (.tpl [(.int 1), (.int 2), (.int 0)]), (.tpl [(.int 2), (.int 0), (.int 1)])]), (.tpl [(.tpl [(.int 1), (.int 2), (.int 0)]), (.tpl [(.int 2), (.int 0), (.int 1)]), (.tpl [(.int 0), (.int 1), (.int 2)])])])], .ok (.tpl [(.int 0), (.int 1), (.int 2)])⟩
theorem q1_7 : r1_7.chk e1 = true := by kernel_rfl
def r1_8 : MRow := ⟨15, [(.tup [(.tup [(.tup [(.int 0), (.int 1)]), (.tup [(.int 1), (.int 0)])]), (.tup [(.tup [(.int 1), (.int 0)]), (.tup [(.int 0), (.int 1)])])])], .ok (.tpl [(.int 1), (.int 0)])⟩
theorem q1_8 : r1_8.chk e1 = true := by kernel_rfl
def r1_9 : MRow := ⟨15, [(.tup [(.tpl []), (.tpl [])])], .ok (.tpl [])⟩
theorem q1_9 : r1_9.chk e1 = true := by kernel_rfl
def r1_10 : MRow := ⟨15, [(.tup [(.tup [(.tpl []), (.tpl [(.int 0)])]), (.tup [(.tpl [(.int 1)]), (.tpl [])])])], .ok (.tpl [.non, (.int 0)])⟩
theorem q1_10 : r1_10.chk e1 = true := by kernel_rfl
def r1_11 : MRow := ⟨15, [(.tup [(.tpl [(.tpl [(.int 0), (.int 1), (.int 2)]), (.tpl [(.int 1), (.int 2), (.int 0)]), (.tpl [(.int 2), (.int 0), (.int 1)])]), (.tpl [(.tpl [(.int 1), (.int 2), (.int 0)]), (.tpl [(.int 2), (.int 0), (.int 1)]), (.tpl [(.int 0), (.int 1), (.int 2)])])])], .ok (.tpl [(.int 2), (.int 0), (.int 1)])⟩
theorem q1_11 : r1_11.chk e1 = true := by kernel_rfl
def r1_12 : MRow := ⟨32, [(.tup [(.tup [(.tup [(.int 0), (.int 1)]), (.tup [(.int 1), (.int 0)])]), (.tup [(.tup [(.int 1), (.int 0)]), (.tup [(.int 0), (.int 1)])])]), (.tup [(.int 0), (.int 1)])], .ok (.tup [(.int 0), (.int 1)])⟩
theorem q1_12 : r1_12.chk e1 = true := by kernel_rfl
def r1_13 : MRow := ⟨32, [(.tup [(.tup [(.tup [(.int 0), (.int 1)]), (.tup [(.int 1), (.int 0)])]), (.tup [(.tup [(.int 1), (.int 0)]), (.tup [(.int 0), (.int 1)])])]), (.tup [(.int 1), (.int 0)])], .ok (.tup [(.int 1), (.int 0)])⟩
theorem q1_13 : r1_13.chk e1 = true := by kernel_rfl
def r1_14 : MRow := ⟨32, [(.tup [(.tpl [(.tpl [(.int 0), (.int 1), (.int 2)]), (.tpl [(.int 1), (.int 2), (.int 0)]), (.tpl [(.int 2), (.int 0), (.int 1)])]), (.tpl [(.tpl [(.int 1), (.int 2), (.int 0)]), (.tpl [(.int 2), (.int 0), (.int 1)]), (.tpl [(.int 0), (.int 1), (.int 2)])])]), (.tpl [(.int 1), (.int 2), (.int 0)])], .ok (.tpl [(.int 1), (.int 2), (.int 0)])⟩
theorem q1_14 : r1_14.chk e1 = true := by kernel_rfl
def r1_15 : MRow := ⟨32, [(.tup [(.tpl [(.tpl [(.int 0), (.int 1), (.int 2)]), (.tpl [(.int 1), (.int 2), (.int 0)]), (.tpl [(.int 2), (.int 0), (.int 1)])]), (.tpl [(.tpl [(.int 1), (.int 2), (.int 0)]), (.tpl [(.int 2), (.int 0), (.int 1)]), (.tpl [(.int 0), (.int 1), (.int 2)])])]), (.tpl [(.int 2), (.int 0), (.int 1)])], .ok (.tpl [(.int 2), (.int 0), (.int 1)])⟩
theorem q1_15 : r1_15.chk e1 = true := by kernel_rfl
def r1_16 : MRow := ⟨32, [(.tup [(.tpl [(.tpl [(.int 0), (.int 1), (.int 2)]), (.tpl [(.int 1), (.int 2), (.int 0)]), (.tpl [(.int 2), (.int 0), (.int 1)])]), (.tpl [(.tpl [(.int 1), (.int 2), (.int 0)]), (.tpl [(.int 2), (.int 0), (.int 1)]), (.tpl [(.int 0), (.int 1), (.int 2)])])]), (.tpl [(.int 0), (.int 1), (.int 2)])], .ok (.tpl [(.int 0), (.int 1), (.int 2)])⟩
theorem q1_16 : r1_16.chk e1 = true := by kernel_rfl
def r1_17 : MRow := ⟨32, [(.tup [(.tpl [(.tpl [(.int 0), (.int 1), (.int 2)]), (.tpl [(.int 1), (.int 2), (.int 0)]), (.tpl [(.int 2), (.int 0), (.int 1)])]), (.tpl [(.tpl [(.int 1), (.int 2), (.int 0)]), (.tpl [(.int 2), (.int 0), (.int 1)]), (.tpl [(.int 0), (.int 1), (.int 2)])])]), (.tpl [.non, .non, .non])], .exc 5 [(7, (.tup [(.int 0), (.int 0)]))]⟩
theorem q1_17 : r1_17.chk e1 = true := by kernel_rfl
def l1 : List MRow := [r1_0, r1_1, r1_2, r1_3, r1_4, r1_5, r1_6, r1_7, r1_8, r1_9, r1_10, r1_11, r1_12, r1_13, r1_14, r1_15, r1_16, r1_17]
theorem a1 : ∀ e ∈ l1, e.chk e1 = true := (memo_cons q1_0 (memo_cons q1_1 (memo_cons q1_2 (memo_cons q1_3 (memo_cons q1_4 (memo_cons q1_5 (memo_cons q1_6 (memo_cons q1_7 (memo_cons q1_8 (memo_cons q1_9 (memo_cons q1_10 (memo_cons q1_11 (memo_cons q1_12 (memo_cons q1_13 (memo_cons q1_14 (memo_cons q1_15 (memo_cons q1_16 (memo_cons q1_17 memo_nil))))))))))))))))))
theorem x1 : D.Solid 6 e1 := .iter t0 (by decide) s0 6
def m1 (d : Nat → List W → Store → Res W) : Nat → List W → Store → Res W := memoD (memoL l1) (m0 d)
theorem t1 : D.Tab 6 m1 := t0.more (by decide) x1 (memoL_ok a1)
def d1 : Nat → List W → Store → Res W := memoD (memoL l1) e1
theorem s1 : D.Solid 6 d1 := x1.memo x1 (Nat.le_refl _) (memoL_ok a1)
def e2 : Nat → List W → Store → Res W := iterD D.prg m1 2 d1
def r2_0 : MRow := ⟨27, [(.tup [(.tup [(.tup [(.int 0), (.int 1)]), (.tup [(.int 1), (.int 0)])]), (.tup [(.tup [(.int 1), (.int 0)]), (.tup [(.int 0), (.int 1)])])]), (.tup [(.int 0), (.int 1)])], .ok (.tup [(.int 0), (.int 1)])⟩
theorem q2_0 : r2_0.chk e2 = true := by kernel_rfl
def r2_1 : MRow := ⟨27, [(.tup [(.tup [(.tup [(.int 0), (.int 1)]), (.tup [(.int 1), (.int 0)])]), (.tup [(.tup [(.int 1), (.int 0)]), (.tup [(.int 0), (.int 1)])])]), (.tup [(.int 1), (.int 0)])], .ok (.tup [(.int 1), (.int 0)])⟩
theorem q2_1 : r2_1.chk e2 = true := by kernel_rfl
def r2_2 : MRow := ⟨27, [(.tup [(.tpl [(.tpl [(.int 0), (.int 1), (.int 2)]), (.tpl [(.int 1), (.int 2), (.int 0)]), (.tpl [(.int 2), (.int 0), (.int 1)])]), (.tpl [(.tpl [(.int 1), (.int 2), (.int 0)]), (.tpl [(.int 2), (.int 0), (.int 1)]), (.tpl [(.int 0), (.int 1), (.int 2)])])]), (.tpl [(.int 1), (.int 2), (.int 0)])], .ok (.tpl [(.int 1), (.int 2), (.int 0)])⟩
theorem q2_2 : r2_2.chk e2 = true := by kernel_rfl
def r2_3 : MRow := ⟨27, [(.tup [(.tpl [(.tpl [(.int 0), (.int 1), (.int 2)]), (.tpl [(.int 1), (.int 2), (.int 0)]), (.tpl [(.int 2), (.int 0), (.int 1)])]), (.tpl [(.tpl [(.int 1), (.int 2), (.int 0)]), (.tpl [(.int 2), (.int 0), (.int 1)]), (.tpl [(.int 0), (.int 1), (.int 2)])])]), (.tpl [(.int 2), (.int 0), (.int 1)])], .ok (.tpl [(.int 2), (.int 0), (.int 1)])⟩
theorem q2_3 : r2_3.chk e2 = true := by kernel_rfl
def r2_4 : MRow := ⟨27, [(.tup [(.tpl [(.tpl [(.int 0), (.int 1), (.int 2)]), (.tpl [(.int 1), (.int 2), (.int 0)]), (.tpl [(.int 2), (.int 0), (.int 1)])]), (.tpl [(.tpl [(.int 1), (.int 2), (.int 0)]), (.tpl [(.int 2), (.int 0), (.int 1)]), (.tpl [(.int 0), (.int 1), (.int 2)])])]), (.tpl [(.int 0), (.int 1), (.int 2)])], .ok (.tpl [(.int 0), (.int 1), (.int 2)])⟩
theorem q2_4 : r2_4.chk e2 = true := by kernel_rfl
def r2_5 : MRow := ⟨27, [(.tup [(.tpl [(.tpl [(.int 0), (.int 1), (.int 2)]), (.tpl [(.int 1), (.int 2), (.int 0)]), (.tpl [(.int 2), (.int 0), (.int 1)])]), (.tpl [(.tpl [(.int 1), (.int 2), (.int 0)]), (.tpl [(.int 2), (.int 0), (.int 1)]), (.tpl [(.int 0), (.int 1), (.int 2)])])]), (.tpl [.non, .non, .non])], .ok (.tpl [.non, .non, .non])⟩
theorem q2_5 : r2_5.chk e2 = true := by kernel_rfl
def r2_6 : MRow := ⟨27, [(.tup [(.tpl [(.tpl [(.int 0), (.int 1), (.int 2)]), (.tpl [(.int 1), (.int 2), (.int 0)]), (.tpl [(.int 2), (.int 0), (.int 1)])]), (.tpl [(.tpl [(.int 1), (.int 2), (.int 0)]), (.tpl [(.int 2), (.int 0), (.int 1)]), (.tpl [(.int 0), (.int 1), (.int 2)])])]), (.tpl [(.int 1), .non, .non])], .ok (.tpl [(.int 1), .non, .non])⟩
theorem q2_6 : r2_6.chk e2 = true := by kernel_rfl
def r2_7 : MRow := ⟨27, [(.tup [(.tup [(.tup [(.int 0), (.int 1)]), (.tup [(.int 1), (.int 0)])]), (.tup [(.tup [(.int 1), (.int 0)]), (.tup [(.int 0), (.int 1)])])]), (.tup [.non, .non])], .ok (.tup [.non, .non])⟩
theorem q2_7 : r2_7.chk e2 = true := by kernel_rfl
def l2 : List MRow := [r2_0, r2_1, r2_2, r2_3, r2_4, r2_5, r2_6, r2_7]
theorem a2 : ∀ e ∈ l2, e.chk e2 = true := (memo_cons q2_0 (memo_cons q2_1 (memo_cons q2_2 (memo_cons q2_3 (memo_cons q2_4 (memo_cons q2_5 (memo_cons q2_6 (memo_cons q2_7 memo_nil))))))))
theorem x2 : D.Solid 8 e2 := .iter t1 (by decide) s1 2
def m2 (d : Nat → List W → Store → Res W) : Nat → List W → Store → Res W := memoD (memoL l2) (m1 d)
theorem t2 : D.Tab 8 m2 := t1.more (by decide) x2 (memoL_ok a2)
def d2 : Nat → List W → Store → Res W := memoD (memoL l2) e2
theorem s2 : D.Solid 8 d2 := x2.memo x2 (Nat.le_refl _) (memoL_ok a2)
def e3 : Nat → List W → Store → Res W := iterD D.prg m2 7 d2
def r3_0 : MRow := ⟨16, [(.tup [(.tup [(.tup [(.int 0), (.int 1)]), (.tup [(.int 1), (.int 0)])]), (.tup [(.tup [(.int 1), (.int 0)]), (.tup [(.int 0), (.int 1)])])])], .ok (.tpl [(.int 0), (.int 1)])⟩
theorem q3_0 : r3_0.chk e3 = true := by kernel_rfl
def r3_1 : MRow := ⟨16, [(.tup [(.tpl []), (.tpl [])])], .ok (.tpl [])⟩
theorem q3_1 : r3_1.chk e3 = true := by kernel_rfl
def r3_2 : MRow := ⟨16, [(.tup [(.tup [(.tpl []), (.tpl [(.int 0)])]), (.tup [(.tpl [(.int 1)]), (.tpl [])])])], .ok (.tpl [.non, (.int 0)])⟩
theorem q3_2 : r3_2.chk e3 = true := by kernel_rfl
def r3_3 : MRow := ⟨16, [(.tup [(.tpl [(.tpl [(.int 0), (.int 1), (.int 2)]), (.tpl [(.int 1), (.int 2), (.int 0)]), (.tpl [(.int 2), (.int 0), (.int 1)])]), (.tpl [(.tpl [(.int 1), (.int 2), (.int 0)]), (.tpl [(.int 2), (.int 0), (.int 1)]), (.tpl [(.int 0), (.int 1), (.int 2)])])])], .ok (.tpl [(.int 0), (.int 1), (.int 2)])⟩
theorem q3_3 : r3_3.chk e3 = true := by kernel_rfl
def r3_4 : MRow := ⟨17, [(.tup [(.tup [(.tup [(.int 0), (.int 1)]), (.tup [(.int 1), (.int 0)])]), (.tup [(.tup [(.int 1), (.int 0)]), (.tup [(.int 0), (.int 1)])])])], .ok (.tpl [(.int 1), (.int 0)])⟩
theorem q3_4 : r3_4.chk e3 = true := by kernel_rfl
def r3_5 : MRow := ⟨17, [(.tup [(.tpl []), (.tpl [])])], .ok (.tpl [])⟩
theorem q3_5 : r3_5.chk e3 = true := by kernel_rfl
def r3_6 : MRow := ⟨17, [(.tup [(.tpl [(.tpl [(.int 0), (.int 1), (.int 2)]), (.tpl [(.int 1), (.int 2), (.int 0)]), (.tpl [(.int 2), (.int 0), (.int 1)])]), (.tpl [(.tpl [(.int 1), (.int 2), (.int 0)]), (.tpl [(.int 2), (.int 0), (.int 1)]), (.tpl [(.int 0), (.int 1), (.int 2)])])])], .ok (.tpl [(.int 2), (.int 0), (.int 1)])⟩
theorem q3_6 : r3_6.chk e3 = true := by kernel_rfl
def r3_7 : MRow := ⟨18, [(.tup [(.tup [(.tup [(.int 0), (.int 1)]), (.tup [(.int 1), (.int 0)])]), (.tup [(.tup [(.int 1), (.int 0)]), (.tup [(.int 0), (.int 1)])])])], .ok (.tpl [(.int 1), (.int 1)])⟩
theorem q3_7 : r3_7.chk e3 = true := by kernel_rfl
def r3_8 : MRow := ⟨18, [(.tup [(.tup [(.tpl []), (.tpl [(.int 0)])]), (.tup [(.tpl [(.int 1)]), (.tpl [])])])], .ok (.tpl [(.int 0), (.int 1)])⟩
theorem q3_8 : r3_8.chk e3 = true := by kernel_rfl
def r3_9 : MRow := ⟨19, [(.tup [(.tup [(.tup [(.int 0), (.int 1)]), (.tup [(.int 1), (.int 0)])]), (.tup [(.tup [(.int 1), (.int 0)]), (.tup [(.int 0), (.int 1)])])])], .ok (.tpl [(.tup [(.int 0), (.int 0)]), (.tup [(.int 1), (.int 1)])])⟩
theorem q3_9 : r3_9.chk e3 = true := by kernel_rfl
def r3_10 : MRow := ⟨19, [(.tup [(.tpl []), (.tpl [])])], .ok (.tpl [])⟩
theorem q3_10 : r3_10.chk e3 = true := by kernel_rfl
def r3_11 : MRow := ⟨23, [(.tup [(.tpl [(.tpl [(.int 0), (.int 1), (.int 2)]), (.tpl [(.int 1), (.int 2), (.int 0)]), (.tpl [(.int 2), (.int 0), (.int 1)])]), (.tpl [(.tpl [(.int 1), (.int 2), (.int 0)]), (.tpl [(.int 2), (.int 0), (.int 1)]), (.tpl [(.int 0), (.int 1), (.int 2)])])]), (.tpl [(.tup [(.int 1), (.int 1)]), (.tup [(.int 2), (.int 2)]), (.tup [(.int 0), (.int 0)])])], .ok (.tpl [(.int 0), (.int 1), (.int 2)])⟩
theorem q3_11 : r3_11.chk e3 = true := by kernel_rfl
def r3_12 : MRow := ⟨23, [(.tup [(.tpl [(.tpl [(.int 0), (.int 1), (.int 2)]), (.tpl [(.int 1), (.int 2), (.int 0)]), (.tpl [(.int 2), (.int 0), (.int 1)])]), (.tpl [(.tpl [(.int 1), (.int 2), (.int 0)]), (.tpl [(.int 2), (.int 0), (.int 1)]), (.tpl [(.int 0), (.int 1), (.int 2)])])]), (.tpl [(.tup [(.int 0), (.int 0)]), (.tup [(.int 2), (.int 2)]), (.tup [(.int 1), (.int 1)])])], .ok (.tpl [(.int 0), (.int 1), (.int 2)])⟩
theorem q3_12 : r3_12.chk e3 = true := by kernel_rfl
def r3_13 : MRow := ⟨23, [(.tup [(.tpl [(.tpl [(.int 0), (.int 1), (.int 2)]), (.tpl [(.int 1), (.int 2), (.int 0)]), (.tpl [(.int 2), (.int 0), (.int 1)])]), (.tpl [(.tpl [(.int 1), (.int 2), (.int 0)]), (.tpl [(.int 2), (.int 0), (.int 1)]), (.tpl [(.int 0), (.int 1), (.int 2)])])]), (.tpl [(.tup [(.int 0), (.int 1)])])], .exc 1 [(6, (.str (zs "log")))]⟩
theorem q3_13 : r3_13.chk e3 = true := by kernel_rfl
def r3_14 : MRow := ⟨24, [(.tup [(.tup [(.tup [(.int 0), (.int 1)]), (.tup [(.int 1), (.int 0)])]), (.tup [(.tup [(.int 1), (.int 0)]), (.tup [(.int 0), (.int 1)])])])], .ok (.tup [(.tpl []), (.tpl [])])⟩
theorem q3_14 : r3_14.chk e3 = true := by kernel_rfl
def r3_15 : MRow := ⟨24, [(.tup [(.tpl []), (.tpl [])])], .ok (.tup [(.tpl []), (.tpl [])])⟩
theorem q3_15 : r3_15.chk e3 = true := by kernel_rfl
def r3_16 : MRow := ⟨24, [(.tup [(.tup [(.tpl []), (.tpl [(.int 0)])]), (.tup [(.tpl [(.int 1)]), (.tpl [])])])], .ok (.tup [(.tpl [(.int 0)]), (.tpl [(.int 1)])])⟩
theorem q3_16 : r3_16.chk e3 = true := by kernel_rfl
def r3_17 : MRow := ⟨25, [(.tup [(.tup [(.tup [(.int 0), (.int 1)]), (.tup [(.int 1), (.int 0)])]), (.tup [(.tup [(.int 1), (.int 0)]), (.tup [(.int 0), (.int 1)])])])], .ok (.bl false)⟩
theorem q3_17 : r3_17.chk e3 = true := by kernel_rfl
def r3_18 : MRow := ⟨25, [(.tup [(.tpl []), (.tpl [])])], .ok (.bl true)⟩
theorem q3_18 : r3_18.chk e3 = true := by kernel_rfl
def r3_19 : MRow := ⟨25, [(.tup [(.tup [(.tpl []), (.tpl [(.int 0)])]), (.tup [(.tpl [(.int 1)]), (.tpl [])])])], .ok (.bl true)⟩
theorem q3_19 : r3_19.chk e3 = true := by kernel_rfl
def r3_20 : MRow := ⟨36, [(.tup [(.tup [(.tup [(.int 0), (.int 1)]), (.tup [(.int 1), (.int 0)])]), (.tup [(.tup [(.int 1), (.int 0)]), (.tup [(.int 0), (.int 1)])])]), (.tup [(.int 0), (.int 1)]), (.tup [(.int 1), (.int 0)])], .ok (.tpl [(.int 0), (.int 1)])⟩
theorem q3_20 : r3_20.chk e3 = true := by kernel_rfl
def r3_21 : MRow := ⟨36, [(.tup [(.tpl [(.tpl [(.int 0), (.int 1), (.int 2)]), (.tpl [(.int 1), (.int 2), (.int 0)]), (.tpl [(.int 2), (.int 0), (.int 1)])]), (.tpl [(.tpl [(.int 1), (.int 2), (.int 0)]), (.tpl [(.int 2), (.int 0), (.int 1)]), (.tpl [(.int 0), (.int 1), (.int 2)])])]), (.tpl [(.int 1), (.int 2), (.int 0)]), (.tpl [(.int 2), (.int 0), (.int 1)])], .ok (.tpl [(.int 1), (.int 2), (.int 0)])⟩
theorem q3_21 : r3_21.chk e3 = true := by kernel_rfl
def r3_22 : MRow := ⟨36, [(.tup [(.tpl [(.tpl [(.int 0), (.int 1), (.int 2)]), (.tpl [(.int 1), (.int 2), (.int 0)]), (.tpl [(.int 2), (.int 0), (.int 1)])]), (.tpl [(.tpl [(.int 1), (.int 2), (.int 0)]), (.tpl [(.int 2), (.int 0), (.int 1)]), (.tpl [(.int 0), (.int 1), (.int 2)])])]), (.tpl [.non, .non, .non]), (.tpl [.non, .non, .non])], .exc 5 [(7, (.tup [(.int 0), (.int 0)]))]⟩
theorem q3_22 : r3_22.chk e3 = true := by kernel_rfl
def r3_23 : MRow := ⟨37, [(.tup [(.tup [(.tup [(.int 0), (.int 1)]), (.tup [(.int 1), (.int 0)])]), (.tup [(.tup [(.int 1), (.int 0)]), (.tup [(.int 0), (.int 1)])])]), (.tup [(.int 0), (.int 1)]), (.tup [(.int 1), (.int 0)])], .ok (.tpl [(.int 1), (.int 0)])⟩
theorem q3_23 : r3_23.chk e3 = true := by kernel_rfl
def r3_24 : MRow := ⟨37, [(.tup [(.tpl [(.tpl [(.int 0), (.int 1), (.int 2)]), (.tpl [(.int 1), (.int 2), (.int 0)]), (.tpl [(.int 2), (.int 0), (.int 1)])]), (.tpl [(.tpl [(.int 1), (.int 2), (.int 0)]), (.tpl [(.int 2), (.int 0), (.int 1)]), (.tpl [(.int 0), (.int 1), (.int 2)])])]), (.tpl [(.int 0), (.int 1), (.int 2)]), (.tpl [(.int 1), (.int 2), (.int 0)])], .ok (.tpl [(.int 1), (.int 2), (.int 0)])⟩
theorem q3_24 : r3_24.chk e3 = true := by kernel_rfl
def r3_25 : MRow := ⟨39, [(.tup [(.tup [(.tup [(.int 0), (.int 1)]), (.tup [(.int 1), (.int 0)])]), (.tup [(.tup [(.int 1), (.int 0)]), (.tup [(.int 0), (.int 1)])])]), (.tup [(.int 0), (.int 1)]), (.tup [(.int 1), (.int 0)])], .ok (.bl true)⟩
theorem q3_25 : r3_25.chk e3 = true := by kernel_rfl
def r3_26 : MRow := ⟨39, [(.tup [(.tup [(.tup [(.int 0), (.int 1)]), (.tup [(.int 1), (.int 0)])]), (.tup [(.tup [(.int 1), (.int 0)]), (.tup [(.int 0), (.int 1)])])]), (.tup [(.int 1), (.int 0)]), (.tup [(.int 0), (.int 1)])], .ok (.bl false)⟩
theorem q3_26 : r3_26.chk e3 = true := by kernel_rfl
def r3_27 : MRow := ⟨39, [(.tup [(.tup [(.tup [(.int 0), (.int 1)]), (.tup [(.int 1), (.int 0)])]), (.tup [(.tup [(.int 1), (.int 0)]), (.tup [(.int 0), (.int 1)])])]), (.tup [(.int 1), (.int 0)]), (.tup [(.int 1), (.int 0)])], .ok (.bl true)⟩
theorem q3_27 : r3_27.chk e3 = true := by kernel_rfl
def r3_28 : MRow := ⟨40, [(.tup [(.tpl [(.tpl [(.int 0), (.int 1), (.int 2)]), (.tpl [(.int 1), (.int 2), (.int 0)]), (.tpl [(.int 2), (.int 0), (.int 1)])]), (.tpl [(.tpl [(.int 1), (.int 2), (.int 0)]), (.tpl [(.int 2), (.int 0), (.int 1)]), (.tpl [(.int 0), (.int 1), (.int 2)])])]), (.tpl [(.tpl [(.int 2), (.int 0), (.int 1)]), (.tpl [(.int 0), (.int 1), (.int 2)]), (.tpl [(.int 1), (.int 2), (.int 0)])]), (.int 2)], .ok (.tpl [(.int 1), (.int 2), (.int 0)])⟩
theorem q3_28 : r3_28.chk e3 = true := by kernel_rfl
def r3_29 : MRow := ⟨40, [(.tup [(.tpl [(.tpl [(.int 0), (.int 1), (.int 2)]), (.tpl [(.int 1), (.int 2), (.int 0)]), (.tpl [(.int 2), (.int 0), (.int 1)])]), (.tpl [(.tpl [(.int 1), (.int 2), (.int 0)]), (.tpl [(.int 2), (.int 0), (.int 1)]), (.tpl [(.int 0), (.int 1), (.int 2)])])]), (.tpl [(.tpl [(.int 0), (.int 1), (.int 2)]), (.tpl [(.int 0), (.int 1), (.int 2)]), (.tpl [(.int 2), (.int 0), (.int 1)])]), (.int 2)], .ok (.tpl [(.int 0), (.int 1), (.int 2)])⟩
theorem q3_29 : r3_29.chk e3 = true := by kernel_rfl
def r3_30 : MRow := ⟨40, [(.tup [(.tpl [(.tpl [(.int 0), (.int 1), (.int 2)]), (.tpl [(.int 1), (.int 2), (.int 0)]), (.tpl [(.int 2), (.int 0), (.int 1)])]), (.tpl [(.tpl [(.int 1), (.int 2), (.int 0)]), (.tpl [(.int 2), (.int 0), (.int 1)]), (.tpl [(.int 0), (.int 1), (.int 2)])])]), (.tpl [(.tpl [(.int 2), (.int 0), (.int 1)])]), (.int 1)], .ok (.tpl [(.int 2), (.int 0), (.int 1)])⟩
theorem q3_30 : r3_30.chk e3 = true := by kernel_rfl
def r3_31 : MRow := ⟨41, [(.tup [(.tup [(.tup [(.int 0), (.int 1)]), (.tup [(.int 1), (.int 0)])]), (.tup [(.tup [(.int 1), (.int 0)]), (.tup [(.int 0), (.int 1)])])]), (.tup [(.int 0), (.int 1)])], .ok (.tup [(.str (zs "end")), (.tpl [(.tup [(.int 0), (.int 0)]), (.tup [(.int 1), (.int 1)])])])⟩
theorem q3_31 : r3_31.chk e3 = true := by kernel_rfl
def r3_32 : MRow := ⟨41, [(.tup [(.tup [(.tup [(.int 0), (.int 1)]), (.tup [(.int 1), (.int 0)])]), (.tup [(.tup [(.int 1), (.int 0)]), (.tup [(.int 0), (.int 1)])])]), (.tup [(.int 1), (.int 0)])], .ok (.tup [(.str (zs "better")), (.tpl [(.int 0), (.int 1)])])⟩
theorem q3_32 : r3_32.chk e3 = true := by kernel_rfl
def r3_33 : MRow := ⟨42, [(.tup [(.tup [(.tup [(.int 0), (.int 1)]), (.tup [(.int 1), (.int 0)])]), (.tup [(.tup [(.int 1), (.int 0)]), (.tup [(.int 0), (.int 1)])])]), (.tup [(.int 1), (.int 0)]), (.tup [(.str (zs "better")), (.tup [(.int 0), (.int 1)])])], .ok (.str (zs "better"))⟩
theorem q3_33 : r3_33.chk e3 = true := by kernel_rfl
def r3_34 : MRow := ⟨42, [(.tup [(.tpl [(.tpl [(.int 0), (.int 1), (.int 2)]), (.tpl [(.int 1), (.int 2), (.int 0)]), (.tpl [(.int 2), (.int 0), (.int 1)])]), (.tpl [(.tpl [(.int 1), (.int 2), (.int 0)]), (.tpl [(.int 2), (.int 0), (.int 1)]), (.tpl [(.int 0), (.int 1), (.int 2)])])]), (.tpl [(.int 0), (.int 1), (.int 2)]), (.tup [(.str (zs "end")), (.tpl [(.tup [(.int 1), (.int 1)]), (.tup [(.int 2), (.int 2)]), (.tup [(.int 0), (.int 0)])])])], .ok (.str (zs "end"))⟩
theorem q3_34 : r3_34.chk e3 = true := by kernel_rfl
def r3_35 : MRow := ⟨42, [(.tup [(.tpl [(.tpl [(.int 0), (.int 1), (.int 2)]), (.tpl [(.int 1), (.int 2), (.int 0)]), (.tpl [(.int 2), (.int 0), (.int 1)])]), (.tpl [(.tpl [(.int 1), (.int 2), (.int 0)]), (.tpl [(.int 2), (.int 0), (.int 1)]), (.tpl [(.int 0), (.int 1), (.int 2)])])]), (.tpl [(.int 1), (.int 2), (.int 0)]), (.tup [(.str (zs "better")), (.tpl [(.int 0), (.int 1), (.int 2)])])], .ok (.str (zs "better"))⟩
theorem q3_35 : r3_35.chk e3 = true := by kernel_rfl
def r3_36 : MRow := ⟨42, [(.tup [(.tpl [(.tpl [(.int 0), (.int 1), (.int 2)]), (.tpl [(.int 1), (.int 2), (.int 0)]), (.tpl [(.int 2), (.int 0), (.int 1)])]), (.tpl [(.tpl [(.int 1), (.int 2), (.int 0)]), (.tpl [(.int 2), (.int 0), (.int 1)]), (.tpl [(.int 0), (.int 1), (.int 2)])])]), (.tpl [(.int 2), (.int 0), (.int 1)]), (.tup [(.str (zs "better")), (.tpl [(.int 1), (.int 2), (.int 0)])])], .ok (.str (zs "better"))⟩
theorem q3_36 : r3_36.chk e3 = true := by kernel_rfl
def r3_37 : MRow := ⟨45, [(.tup [(.tpl [(.tpl [(.int 0), (.int 1), (.int 2)]), (.tpl [(.int 1), (.int 2), (.int 0)]), (.tpl [(.int 2), (.int 0), (.int 1)])]), (.tpl [(.tpl [(.int 1), (.int 2), (.int 0)]), (.tpl [(.int 2), (.int 0), (.int 1)]), (.tpl [(.int 0), (.int 1), (.int 2)])])]), (.tpl [.non, .non, .non]), (.tup [(.int 0), (.int 1)])], .ok (.tpl [(.int 1), .non, .non])⟩
theorem q3_37 : r3_37.chk e3 = true := by kernel_rfl
def r3_38 : MRow := ⟨45, [(.tup [(.tpl [(.tpl [(.int 0), (.int 1), (.int 2)]), (.tpl [(.int 1), (.int 2), (.int 0)]), (.tpl [(.int 2), (.int 0), (.int 1)])]), (.tpl [(.tpl [(.int 1), (.int 2), (.int 0)]), (.tpl [(.int 2), (.int 0), (.int 1)]), (.tpl [(.int 0), (.int 1), (.int 2)])])]), (.tpl [(.int 1), .non, .non]), (.tup [(.int 2), (.int 1)])], .ok (.tpl [.non, .non, (.int 1)])⟩
theorem q3_38 : r3_38.chk e3 = true := by kernel_rfl
def r3_39 : MRow := ⟨45, [(.tup [(.tpl [(.tpl [(.int 0), (.int 1), (.int 2)]), (.tpl [(.int 1), (.int 2), (.int 0)]), (.tpl [(.int 2), (.int 0), (.int 1)])]), (.tpl [(.tpl [(.int 1), (.int 2), (.int 0)]), (.tpl [(.int 2), (.int 0), (.int 1)]), (.tpl [(.int 0), (.int 1), (.int 2)])])]), (.tpl [(.int 0), (.int 1), (.int 2)]), (.tup [(.int 0), (.int 1)])], .exc 7 [(7, (.tup [(.int 0), (.int 1)]))]⟩
theorem q3_39 : r3_39.chk e3 = true := by kernel_rfl
def r3_40 : MRow := ⟨54, [(.tup [(.tpl [(.tpl [(.int 0), (.int 1), (.int 2)]), (.tpl [(.int 1), (.int 2), (.int 0)]), (.tpl [(.int 2), (.int 0), (.int 1)])]), (.tpl [(.tpl [(.int 1), (.int 2), (.int 0)]), (.tpl [(.int 2), (.int 0), (.int 1)]), (.tpl [(.int 0), (.int 1), (.int 2)])])]), (.tpl [(.int 1), (.int 2), (.int 0)])], .ok (.tpl [])⟩
theorem q3_40 : r3_40.chk e3 = true := by kernel_rfl
def r3_41 : MRow := ⟨57, [(.tup [(.tpl [(.tpl [(.int 0), (.int 1), (.int 2)]), (.tpl [(.int 1), (.int 2), (.int 0)]), (.tpl [(.int 2), (.int 0), (.int 1)])]), (.tpl [(.tpl [(.int 1), (.int 2), (.int 0)]), (.tpl [(.int 2), (.int 0), (.int 1)]), (.tpl [(.int 0), (.int 1), (.int 2)])])]), (.tpl [.non, .non, .non]), (.tpl [(.tup [(.int 0), (.int 0)]), (.tup [(.int 1), (.int 1)]), (.tup [(.int 2), (.int 2)])])], .ok (.tpl [(.int 0), (.int 1), (.int 2)])⟩
theorem q3_41 : r3_41.chk e3 = true := by kernel_rfl
def r3_42 : MRow := ⟨57, [(.tup [(.tpl [(.tpl [(.int 0), (.int 1), (.int 2)]), (.tpl [(.int 1), (.int 2), (.int 0)]), (.tpl [(.int 2), (.int 0), (.int 1)])]), (.tpl [(.tpl [(.int 1), (.int 2), (.int 0)]), (.tpl [(.int 2), (.int 0), (.int 1)]), (.tpl [(.int 0), (.int 1), (.int 2)])])]), (.tpl [(.int 0), (.int 1), (.int 2)]), (.tpl [])], .ok (.tpl [(.int 0), (.int 1), (.int 2)])⟩
theorem q3_42 : r3_42.chk e3 = true := by kernel_rfl
def r3_43 : MRow := ⟨57, [(.tup [(.tpl [(.tpl [(.int 0), (.int 1), (.int 2)]), (.tpl [(.int 1), (.int 2), (.int 0)]), (.tpl [(.int 2), (.int 0), (.int 1)])]), (.tpl [(.tpl [(.int 1), (.int 2), (.int 0)]), (.tpl [(.int 2), (.int 0), (.int 1)]), (.tpl [(.int 0), (.int 1), (.int 2)])])]), (.tpl [.non, .non, .non]), (.tup [(.tup [(.int 0), (.int 0)]), (.tup [(.int 0), (.int 0)])])], .exc 1 [(6, (.str (zs "road")))]⟩
theorem q3_43 : r3_43.chk e3 = true := by kernel_rfl
def r3_44 : MRow := ⟨57, [(.tup [(.tup [(.tup [(.int 0), (.int 1)]), (.tup [(.int 1), (.int 0)])]), (.tup [(.tup [(.int 1), (.int 0)]), (.tup [(.int 0), (.int 1)])])]), (.tup [.non, .non]), (.tup [(.tup [(.int 0), (.int 1)]), (.tup [(.int 1), (.int 0)])])], .ok (.tpl [(.int 1), (.int 0)])⟩
theorem q3_44 : r3_44.chk e3 = true := by kernel_rfl
def r3_45 : MRow := ⟨57, [(.tup [(.tup [(.tup [(.int 0), (.int 1)]), (.tup [(.int 1), (.int 0)])]), (.tup [(.tup [(.int 1), (.int 0)]), (.tup [(.int 0), (.int 1)])])]), (.tup [.non, .non]), (.tpl [(.tup [(.int 0), (.int 0)]), (.tup [(.int 1), (.int 0)]), (.tup [(.int 1), (.int 1)]), (.tup [(.int 0), (.int 1)]), (.tup [(.int 0), (.int 0)]), (.tup [(.int 1), (.int 0)])])], .ok (.tpl [.non, (.int 0)])⟩
theorem q3_45 : r3_45.chk e3 = true := by kernel_rfl
def r3_46 : MRow := ⟨58, [(.tup [(.tpl [(.tpl [(.int 0), (.int 1), (.int 2)]), (.tpl [(.int 1), (.int 2), (.int 0)]), (.tpl [(.int 2), (.int 0), (.int 1)])]), (.tpl [(.tpl [(.int 1), (.int 2), (.int 0)]), (.tpl [(.int 2), (.int 0), (.int 1)]), (.tpl [(.int 0), (.int 1), (.int 2)])])]), (.tpl [.non, .non, .non]), (.tpl [(.tup [(.int 0), (.int 0)]), (.tup [(.int 1), (.int 1)]), (.tup [(.int 2), (.int 2)])])], .ok (.bl false)⟩
theorem q3_46 : r3_46.chk e3 = true := by kernel_rfl
def r3_47 : MRow := ⟨58, [(.tup [(.tup [(.tup [(.int 0), (.int 1)]), (.tup [(.int 1), (.int 0)])]), (.tup [(.tup [(.int 1), (.int 0)]), (.tup [(.int 0), (.int 1)])])]), (.tup [.non, .non]), (.tpl [(.tup [(.int 0), (.int 0)]), (.tup [(.int 1), (.int 0)]), (.tup [(.int 1), (.int 1)]), (.tup [(.int 0), (.int 1)]), (.tup [(.int 0), (.int 0)]), (.tup [(.int 1), (.int 0)])])], .ok (.bl true)⟩
theorem q3_47 : r3_47.chk e3 = true := by kernel_rfl
def r3_48 : MRow := ⟨58, [(.tup [(.tup [(.tup [(.int 0), (.int 1)]), (.tup [(.int 1), (.int 0)])]), (.tup [(.tup [(.int 1), (.int 0)]), (.tup [(.int 0), (.int 1)])])]), (.tup [.non, .non]), (.tpl [(.tup [(.int 0), (.int 0)]), (.tup [(.int 1), (.int 0)]), (.tup [(.int 1), (.int 1)]), (.tup [(.int 0), (.int 1)])])], .ok (.bl false)⟩
theorem q3_48 : r3_48.chk e3 = true := by kernel_rfl
def l3 : List MRow := [r3_0, r3_1, r3_2, r3_3, r3_4, r3_5, r3_6, r3_7, r3_8, r3_9, r3_10, r3_11, r3_12, r3_13, r3_14, r3_15, r3_16, r3_17, r3_18, r3_19, r3_20, r3_21, r3_22, r3_23, r3_24, r3_25, r3_26, r3_27, r3_28, r3_29, r3_30, r3_31, r3_32, r3_33, r3_34, r3_35, r3_36, r3_37, r3_38, r3_39, r3_40, r3_41, r3_42, r3_43, r3_44, r3_45, r3_46, r3_47, r3_48]
theorem a3 : ∀ e ∈ l3, e.chk e3 = true := (memo_cons q3_0 (memo_cons q3_1 (memo_cons q3_2 (memo_cons q3_3 (memo_cons q3_4 (memo_cons q3_5 (memo_cons q3_6 (memo_cons q3_7 (memo_cons q3_8 (memo_cons q3_9 (memo_cons q3_10 (memo_cons q3_11 (memo_cons q3_12 (memo_cons q3_13 (memo_cons q3_14 (memo_cons q3_15 (memo_cons q3_16 (memo_cons q3_17 (memo_cons q3_18 (memo_cons q3_19 (memo_cons q3_20 (memo_cons q3_21 (memo_cons q3_22 (memo_cons q3_23 (memo_cons q3_24 (memo_cons q3_25 (memo_cons q3_26 (memo_cons q3_27 (memo_cons q3_28 (memo_cons q3_29 (memo_cons q3_30 (memo_cons q3_31 (memo_cons q3_32 (memo_cons q3_33 (memo_cons q3_34 (memo_cons q3_35 (memo_cons q3_36 (memo_cons q3_37 (memo_cons q3_38 (memo_cons q3_39 (memo_cons q3_40 (memo_cons q3_41 (memo_cons q3_42 (memo_cons q3_43 (memo_cons q3_44 (memo_cons q3_45 (memo_cons q3_46 (memo_cons q3_47 (memo_cons q3_48 memo_nil)))))))))))))))))))))))))))))))))))))))))))))))))
theorem x3 : D.Solid 15 e3 := .iter t2 (by decide) s2 7
def m3 (d : Nat → List W → Store → Res W) : Nat → List W → Store → Res W := memoD (memoL l3) (m2 d)
theorem t3 : D.Tab 15 m3 := t2.more (by decide) x3 (memoL_ok a3)
def d3 : Nat → List W → Store → Res W := memoD (memoL l3) e3
theorem s3 : D.Solid 15 d3 := x3.memo x3 (Nat.le_refl _) (memoL_ok a3)
def dL : Nat → List W → Store → Res W := iterD D.prg m3 4 d3
theorem sL : D.Solid 19 dL := .iter t3 (by decide) s3 4
def okT (r : Res W) : Bool := match r with
  | .ok (.bl true) _ => true
  | _ => false
theorem okT_ok {r : Res W} (h : okT r = true) : ∃ S, r = .ok (.bl true) S := by
  unfold okT at h
  split at h
  · exact ⟨_, rfl⟩
  · cases h
theorem law_run (a : Nat) : ∃ S, dL 63 [.obj a] Store.empty = .ok (.bl true) S := okT_ok (by kernel_rfl)
/- depth 19 -/
end K08
open PySem PySem.W PySem.Calls PyProof.Rows
theorem PySem.Challenge.cw_allsettled_k08_asking_by_hand_holds : PySem.Challenge.rw_allsettled_k08_asking_by_hand.Holds := by
  w_on; o_law
  refine HandSHeadRun.head_any (r := K08.ROW) (q := view K08.ROW.prog [75]) (H := K08.hk) (ob := K08.ob) (M := 40000) (loose := K08.loose) (d := HandSHeadRun.topDef K08.ROW.prog 75) (kwd := []) K08.ob_eq
    (by kernel_rfl) (fun s => by kernel_rfl) K08.run (by kernel_rfl) (by kernel_rfl) (by kernel_rfl) (by rfl) (by first | assumption | decide +kernel) (by decide +kernel) ⟨rfl, rfl, rfl, rfl, rfl, by decide +kernel⟩ ?hw ?hc
  case hw => w_witness2
  case hc =>
    refine LamX.walk_ofTsE (l := K08.LAW) (n := 63) (k := 61) (x := "script") (CX := fun w => L2.CX K08.LAW.prog w) rfl (by decide) (by kernel_rfl) ⟨rfl, by decide, by decide⟩ ?F (fun w H s e s' z => Rf.cx_none z)
    intro w mg fa h Y G hmg0
    obtain ⟨K, KX, c⟩ := Y
    have hmg : mg ("law" : PySem.Str) = some (.ref fa) := by
      have e : (HandSHeadRun.topDef K08.ROW.prog 75).name = ("law" : PySem.Str) := by kernel_rfl
      rw [← e]
      exact hmg0
    exact ⟨K, KX, Rf.Desc.law (D := K08.D) (n := 19) (m := 63) (k := 63) (x := "script") K08.sL K08.hk_ K08.hr_ c KX G (by kernel_rfl) hmg (by kernel_rfl) (by kernel_rfl) K08.law_run⟩
