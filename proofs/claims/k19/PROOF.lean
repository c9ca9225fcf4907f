import PyProof.Rows.All
import Wide.All
import OpenK.AllK
import Wide.FinOn
import HandS.ForMost
import HandS.NoneIn
import HandS.ListItems
import HandS.Conv
import HandS.TupAny
import HandS.Style
import HandS.Flow
import HandS.IsInst
import HandS.DictComp
import HandS.Zip
import HandS.Deep
import HandS.Defaults
import KE.SortData
import KE.DataCmp
import KE.KDictPairs
import PySem.Challenge.RW_handeddown_k19_forms_of_plans
set_option Elab.async false
set_option linter.all false
set_option maxRecDepth 100000
/-! A small language over plain data, evaluated by value; mutable objects live in cells. -/
namespace Rf
open PySem L2

/-- plain data -/
inductive D where
  | non | bl (b : Bool) | int (i : Int) | str (s : Str)
  | lst (xs : List D) | tup (xs : List D)
  | dic (kvs : List (Key × D))
  | scr (ns : List Int)

/-- what a name holds: data, or a cell -/
inductive W where
  | d (x : D) | cell (n : Nat)

/-- what a cell holds -/
inductive Node where
  | lst (xs : List D) | dic (kvs : List (Key × D))
abbrev Store := List (Option Node)
def Node.toD : Node → D
  | .lst xs => .lst xs
  | .dic kvs => .dic kvs
def asNode : D → Option Node
  | .lst xs => some (.lst xs)
  | .dic kvs => some (.dic kvs)
  | _ => none
def cellAt (M : Store) (n : Nat) : Option Node := match M[n]? with
  | some (some nd) => some nd
  | _ => none
def vw (M : Store) : W → Option D
  | .d x => some x
  | .cell n => (cellAt M n).map Node.toD
def vws (M : Store) : List W → Option (List D)
  | [] => some []
  | w :: r => match vw M w, vws M r with
    | some x, some xs => some (x :: xs)
    | _, _ => none
def big : Nat := 65536

/-! ### tables -/
def getK (k : Key) : List (Key × D) → Option D
  | [] => none
  | p :: r => if p.1 = k then some p.2 else getK k r
def repK (k : Key) (v : D) : List (Key × D) → List (Key × D)
  | [] => []
  | p :: r => (if p.1 = k then (p.1, v) else p) :: repK k v r
def setK (k : Key) (v : D) (kvs : List (Key × D)) : List (Key × D) :=
  match getK k kvs with
  | some _ => repK k v kvs
  | none => kvs ++ [(k, v)]
def mergK (kvs more : List (Key × D)) : List (Key × D) := more.foldl (fun acc kv => setK kv.1 kv.2 acc) kvs
def keyOf : D → Option Key
  | .int i => some (.inl i)
  | .str s => some (.inr s)
  | _ => none
def ofKey : Key → D
  | .inl i => .int i
  | .inr s => .str s
def pairOf : D → Option (Key × D)
  | .tup [k, v] => match keyOf k with
    | some k => some (k, v)
    | none => none
  | _ => none
def pairsOf : List D → Option (List (Key × D))
  | [] => some []
  | x :: r => match pairOf x, pairsOf r with
    | some p, some ps => some (p :: ps)
    | _, _ => none

def pairsD (kvs : List (Key × D)) : List D := kvs.map fun p => .tup [ofKey p.1, p.2]

/-! ### equality as Python has it, of data without dicts -/
mutual
def eqD : D → D → Bool
  | .non, .non => true
  | .bl a, .bl b => a == b
  | .bl a, .int j => (if a then 1 else 0) == j
  | .int i, .bl b => i == (if b then 1 else 0)
  | .int i, .int j => i == j
  | .str x, .str y => x == y
  | .lst xs, .lst ys => eqDs xs ys
  | .tup xs, .tup ys => eqDs xs ys
  | _, _ => false
def eqDs : List D → List D → Bool
  | [], [] => true
  | x :: xs, y :: ys => eqD x y && eqDs xs ys
  | [], _ :: _ => false
  | _ :: _, [] => false
end
def strOkD (x : Str) : Bool := x.cps.all (· < 0x110000)
mutual
/-- no dicts, texts of signs -/
def flat : D → Bool
  | .non => true
  | .bl _ => true
  | .int _ => true
  | .str x => strOkD x
  | .lst xs => flats xs
  | .tup xs => flats xs
  | .dic _ => false
  | .scr _ => false
def flats : List D → Bool
  | [] => true
  | x :: xs => flat x && flats xs
end
mutual
def dep : D → Nat
  | .lst xs => deps xs + 1
  | .tup xs => deps xs + 1
  | _ => 0
def deps : List D → Nat
  | [] => 0
  | x :: xs => max (dep x) (deps xs)
end
def okD (x : D) : Bool := flat x && decide (dep x ≤ 64)
def isAtom : D → Bool
  | .non => true
  | .bl _ => true
  | .int _ => true
  | .str _ => true
  | _ => false
/-- the kinds that the scalars' rule serves -/
def scalD : D → D → Bool
  | .non, .non => true | .non, .int _ => true | .int _, .non => true | .non, .bl _ => true | .bl _, .non => true | .non, .str _ => true | .str _, .non => true
  | .int _, .int _ => true | .bl _, .bl _ => true | .str _, .str _ => true
  | .int _, .str _ => true | .str _, .int _ => true | .bl _, .str _ => true | .str _, .bl _ => true
  | _, _ => false
/-- pair by pair; none where a value isn't of a kind that is covered -/
def hitsD (ls : List (Key × D)) : List (Key × D) → Option Bool
  | [] => some true
  | p :: r => match getK p.1 ls with
    | none => some false
    | some y => if scalD p.2 y = true then (hitsD ls r).map (eqD p.2 y && ·) else none
def eqK (x y : D) : Option Bool := match x, y with
  | .dic a, .dic b => (hitsD b a).map (a.length == b.length && ·)
  | _, _ => none
def eqC (x y : D) : Option Bool := if (scalD x y || (okD x && okD y)) = true then some (eqD x y) else eqK x y

def ltS (x y : Str) : Bool := decide (x.cps.toList < y.cps.toList)
def inS (x y : Str) : Bool := !(Builtin.Str.occurrences y x 0 y.length 1).isEmpty
def memD (x : D) : List D → Bool
  | [] => false
  | y :: r => eqD y x || memD x r
def allAtom : List D → Bool
  | [] => true
  | x :: r => isAtom x && allAtom r

/-! ### order, sorting -/
mutual
/-- the data as the library has it -/
def toPy : D → PyData
  | .non => .none
  | .bl b => .bool b
  | .int i => .int i
  | .str x => .str x
  | .lst xs => .list (toPys xs)
  | .tup xs => .tuple (toPys xs)
  | .dic _ => .dict []
  | .scr _ => .dict []
def toPys : List D → List PyData
  | [] => []
  | x :: r => toPy x :: toPys r
end
def ltD (x y : D) : Bool := PySem.W.dataLt (toPy x) (toPy y)
def leD (x y : D) : Bool := !ltD y x
def alikeD (x y : D) : Bool := PySem.W.alike (toPy x) (toPy y)
def tupNe : D → Bool
  | .tup (_ :: _) => true
  | _ => false
def notTup : D → Bool
  | .tup _ => false
  | .non => false
  | _ => true
def sortOk (xs : List D) : Bool := xs.all okD && xs.all (fun x => xs.all fun y => alikeD x y) && (xs.all tupNe || xs.all notTup) && decide (xs.length ≤ big)
def sortD (xs : List D) : Option (List D) := if sortOk xs = true then some (xs.mergeSort leD) else none
def intsOf : List D → Option (List Int)
  | [] => some []
  | .int i :: r => match intsOf r with
    | some is => some (i :: is)
    | none => none
  | _ :: _ => none
def strsOf : List D → Option (List Str)
  | [] => some []
  | .str i :: r => match strsOf r with
    | some is => some (i :: is)
    | none => none
  | _ :: _ => none
def blsOf : List D → Option (List Bool)
  | [] => some []
  | .bl i :: r => match blsOf r with
    | some is => some (i :: is)
    | none => none
  | _ :: _ => none
/-! ### operators -/
inductive BOp | add | sub | mul | fdiv | mod | pow
inductive COp | eq | ne | lt | le | gt | ge | is_ | isnt | inn | notin
/-- the value, and whether it is a new list or dict that nothing else knows -/
abbrev Res := D × Bool
def mulOk (i j : Int) : Bool := (decide (-(2 ^ 64) < i) && decide (i < 2 ^ 64)) || (decide (-(2 ^ 64) < j) && decide (j < 2 ^ 64))
def opBin : BOp → D → D → Option Res
  | .add, .int i, .int j => some (.int (i + j), false)
  | .add, .str x, .str y => if x.length + y.length ≤ big then some (.str (x ++ y), false) else none
  | .add, .lst xs, .lst ys => if xs.length + ys.length ≤ big then some (.lst (xs ++ ys), true) else none
  | .add, .tup xs, .tup ys => if xs.length + ys.length ≤ big then some (.tup (xs ++ ys), false) else none
  | .sub, .int i, .int j => some (.int (i - j), false)
  | .mul, .int i, .int j => if mulOk i j = true then some (.int (i * j), false) else none
  | .mul, .lst xs, .int k => if 0 ≤ k ∧ k ≤ 65536 ∧ xs.length * k.toNat ≤ big then some (.lst (List.replicate k.toNat xs).flatten, true) else none
  | .fdiv, .int i, .int j => if j ≠ 0 ∧ j.natAbs < 1073741824 then some (.int (i.fdiv j), false) else none
  | .mod, .int i, .int j => if j ≠ 0 then some (.int (i.fmod j), false) else none
  | .pow, .int i, .int j => if 0 ≤ j ∧ j ≤ 1000000 ∧ i.natAbs < 2 ^ 64 then some (.int (i ^ j.toNat), false) else none
  | _, _, _ => none
def inC (x : D) : D → Option Bool
  | .lst xs => if ((isAtom x && allAtom xs) || (okD x && okD (.lst xs))) = true then some (memD x xs) else none
  | .tup xs => if ((isAtom x && allAtom xs) || (okD x && okD (.tup xs))) = true then some (memD x xs) else none
  | .str y => match x with
    | .str z => some (inS z y)
    | _ => none
  | .dic kvs => match keyOf x with
    | some k => some (getK k kvs).isSome
    | none => none
  | _ => none
def isC : D → D → Option Bool
  | x, .non => match x with
    | .non => some true
    | _ => some false
  | .bl a, .bl b => some (a == b)
  | _, _ => none
def opCmp : COp → D → D → Option Bool
  | .eq, x, y => eqC x y
  | .ne, x, y => (eqC x y).map (!·)
  | .lt, .int i, .int j => some (decide (i < j))
  | .lt, .str i, .str j => some (ltS i j)
  | .lt, .tup xs, .tup ys => if (okD (.tup xs) && okD (.tup ys) && alikeD (.tup xs) (.tup ys)) = true then some (ltD (.tup xs) (.tup ys)) else none
  | .le, .int i, .int j => some (decide (i ≤ j))
  | .gt, .int i, .int j => some (decide (j < i))
  | .ge, .int i, .int j => some (decide (j ≤ i))
  | .is_, x, y => isC x y
  | .isnt, x, y => (isC x y).map (!·)
  | .inn, x, y => inC x y
  | .notin, x, y => (inC x y).map (!·)
  | _, _, _ => none
def idxD : D → D → Option D
  | .lst xs, .int i => atI xs i
  | .tup xs, .int i => atI xs i
  | .scr ns, .int i => (atI ns i).map .int
  | .str s, .int i => if s.length ≤ big then (atI s.cps.toList i).map fun c => .str ⟨#[c]⟩ else none
  | .dic kvs, k => match keyOf k with
    | some k => getK k kvs
    | none => none
  | _, _ => none
def cut {α : Type} (xs : List α) (lo hi : Option Int) : List α := (xs.drop (HT.sIx xs.length 0 lo)).take (HT.sIx xs.length xs.length hi - HT.sIx xs.length 0 lo)
def slcD : D → Option Int → Option Int → Option Res
  | .lst xs, lo, hi => some (.lst (cut xs lo hi), true)
  | .tup xs, lo, hi => some (.tup (cut xs lo hi), false)
  | .scr ns, lo, hi => some (.lst ((cut ns lo hi).map .int), true)
  | _, _, _ => none
def truD : D → Option Bool
  | .non => some false
  | .bl b => some b
  | .int i => some (i != 0)
  | .lst xs => some (!xs.isEmpty)
  | .tup xs => some (!xs.isEmpty)
  | _ => none

/-! ### built-ins -/
inductive BI | len | abs | int | tuple | list | dict | sorted | all | any | sum | min | max | str
def minZ : Int → List Int → Int
  | m, [] => m
  | m, x :: r => minZ (if x < m then x else m) r
def maxZ : Int → List Int → Int
  | m, [] => m
  | m, x :: r => maxZ (if m < x then x else m) r
def evB : BI → List D → Option Res
  | .len, [.lst xs] => some (.int xs.length, false)
  | .len, [.tup xs] => some (.int xs.length, false)
  | .len, [.scr xs] => some (.int xs.length, false)
  | .len, [.dic xs] => some (.int xs.length, false)
  | .len, [.str x] => if x.length ≤ big then some (.int x.length, false) else none
  | .abs, [.int i] => some (.int (if i < 0 then -i else i), false)
  | .int, [.int i] => some (.int i, false)
  | .int, [.bl b] => some (.int (if b then 1 else 0), false)
  | .tuple, [.lst xs] => some (.tup xs, false)
  | .tuple, [.tup xs] => some (.tup xs, false)
  | .list, [.lst xs] => some (.lst xs, true)
  | .list, [.tup xs] => some (.lst xs, true)
  | .list, [.scr ns] => some (.lst (ns.map .int), true)
  | .dict, [.lst xs] => match pairsOf xs with
    | some ps => if ps.length ≤ big then some (.dic (mergK [] ps), true) else none
    | none => none
  | .dict, [.tup xs] => match pairsOf xs with
    | some ps => if ps.length ≤ big then some (.dic (mergK [] ps), true) else none
    | none => none
  | .dict, [.dic kvs] => some (.dic kvs, true)
  | .sorted, [.lst xs] => match sortD xs with
    | some ys => some (.lst ys, true)
    | none => none
  | .sorted, [.tup xs] => match sortD xs with
    | some ys => some (.lst ys, true)
    | none => none
  | .all, [.lst xs] => match blsOf xs with
    | some bs => some (.bl (bs.all id), false)
    | none => none
  | .any, [.lst xs] => match blsOf xs with
    | some bs => some (.bl (bs.any id), false)
    | none => none
  | .sum, [.lst xs] => match intsOf xs with
    | some is => some (.int is.sum, false)
    | none => none
  | .min, [.lst xs] => match intsOf xs with
    | some (i :: is) => some (.int (minZ i is), false)
    | _ => none
  | .max, [.lst xs] => match intsOf xs with
    | some (i :: is) => some (.int (maxZ i is), false)
    | _ => none
  | .str, [.int i] => if i.natAbs.log2 < 1920 then some (.str (toString i), false) else none
  | _, _ => none
/-- isinstance against int, bool, str, list, tuple (in this order of places) -/
inductive TyN | int | bool | str | list | tuple
def isTy : TyN → D → Option Bool
  | .int, x => match x with
    | .int _ => some true
    | .bl _ => some true
    | .dic _ => none
    | _ => some false
  | .bool, x => match x with
    | .bl _ => some true
    | .dic _ => none
    | _ => some false
  | .str, x => match x with
    | .str _ => some true
    | .dic _ => none
    | _ => some false
  | .list, x => match x with
    | .lst _ => some true
    | .scr _ => some true
    | .dic _ => none
    | _ => some false
  | .tuple, x => match x with
    | .tup _ => some true
    | .dic _ => none
    | _ => some false
def isTys (x : D) : List TyN → Option Bool
  | [] => some false
  | t :: r => match isTy t x, isTys x r with
    | some a, some b => some (a || b)
    | _, _ => none

/-! ### the language -/
/-- targets: a slot, or a tuple of targets -/
inductive G where
  | nm (i : Nat) | tnil | tcons (a b : G) | tp (a : G)
inductive E where
  | slot (i : Nat)
  | cst (x : D)
  | glob (x : Str) (v : D)
  | nil | cons (a b : E)
  | tup (a : E) | lst (a : E) | dnil
  | ite (t a b : E)
  | andv (a b : E) | orv (a b : E) | orT (a b : E) | notv (a : E)
  | cmp (o : COp) (a b : E) | chain (o p : COp) (a b c : E)
  | bin (o : BOp) (a b : E) | neg (a : E)
  | idx (a k : E) | slc (a lo hi : E) | none_ | rev (a : E)
  | callP (f : Str) (a : E) | callM (f : Str) (a : E)
  | callK (f : Str) (ks : List Str) (pm : List Nat) (a : E)
  | one (a : E)
  | mk (a : E)
  | blt (b : BI) (a : E)
  | isi (a : E) (ts : List TyN)
  | lc (own : List Nat) (g : G) (it : E) (c : E) (el : E)
  | dc (own : List Nat) (g : G) (it : E) (c : E) (ke ve : E)
  | get1 (a k : E) | get2 (a k x : E)
  | rng1 (a : E) | rng2 (a b : E) | zip (a b : E) | enum (a : E) | items (a : E) | keys (a : E) | vals (a : E) | itv (a : E)
  | pop (i : Nat) (a : E)
  | sitems (a : E) | lrng (a : E) | lrng2 (a b : E) | litems (a : E)
inductive S where
  | nil | seq (a b : S)
  | asg (g : G) (e : E) | par (is : List Nat) (a : E)
  | seti (i : Nat) (k e : E)
  | app (i : Nat) (e : E)
  | upd (i : Nat) (e : E)
  | exp (e : E)
  | frz (i : Nat)
  | ret (e : E) | retN
  | ite (t : E) (a b : S)
  | for_ (g : G) (it : E) (b : S)
  | while_ (t : E) (b : S)
  | never

/-! ### its meaning -/
abbrev REnv := List (Option W)
abbrev RW := (W × Bool) × Store
structure Orc where
  p : Str → List D → Option Res
  m : Str → List W → Store → Option RW
def wAt (ρ : REnv) (i : Nat) : Option W := match ρ[i]? with
  | some (some w) => some w
  | _ => none
def putW (ρ : REnv) (i : Nat) (w : W) : Option REnv := if i < ρ.length then some (ρ.set i (some w)) else none
def wipeR (ρ : REnv) : List Nat → REnv
  | [] => ρ
  | v :: vs => (wipeR ρ vs).set v none
def isD : W → Option D
  | .d x => some x
  | .cell _ => none
def allD : List W → Option (List D)
  | [] => some []
  | w :: r => match isD w, allD r with
    | some x, some xs => some (x :: xs)
    | _, _ => none
def anyCell : List W → Bool
  | [] => false
  | .d _ :: r => anyCell r
  | .cell _ :: _ => true
def lstCells (M : Store) : List W → Bool
  | [] => true
  | .d _ :: r => lstCells M r
  | .cell n :: r => (match cellAt M n with
    | some (.lst _) => true
    | _ => false) && lstCells M r
mutual
def evG : G → W → REnv → Option REnv
  | .nm i, w, ρ => putW ρ i w
  | .tp a, .d (.tup xs), ρ => evGs a xs ρ
  | .tp a, .d (.lst xs), ρ => evGs a xs ρ
  | _, _, _ => none
def evGs : G → List D → REnv → Option REnv
  | .tnil, [], ρ => some ρ
  | .tcons a b, x :: xs, ρ => match evG a (.d x) ρ with
    | some ρ1 => evGs b xs ρ1
    | none => none
  | _, _, _ => none
end
/-- b: the item is a pair that is taken apart at once -/
def evGI (b : Bool) (g : G) (x : D) (ρ : REnv) : Option REnv := match b, g, x with
  | true, .tp a, .tup xs => evGs a xs ρ
  | true, _, _ => none
  | false, g, x => evG g (.d x) ρ
def lcL (pr : Bool) (g : G) (own : List Nat) (cond : REnv → Store → Option (Bool × Store)) (el : REnv → Store → Option RW) (ρ : REnv) : List D → List D → Store → Option (List D × Store)
  | [], acc, M => some (acc, M)
  | x :: r, acc, M => match evGI pr g x (wipeR ρ own) with
    | none => none
    | some ρ1 => match cond ρ1 M with
      | none => none
      | some (false, M1) => lcL pr g own cond el ρ r acc M1
      | some (true, M1) => match el ρ1 M1 with
        | some ((.d y, _), M2) => lcL pr g own cond el ρ r (acc ++ [y]) M2
        | _ => none
def dcL (pr : Bool) (g : G) (own : List Nat) (cond : REnv → Store → Option (Bool × Store)) (ke ve : REnv → Store → Option RW) (ρ : REnv) : List D → List (Key × D) → Store → Option (List (Key × D) × Store)
  | [], acc, M => some (acc, M)
  | x :: r, acc, M => match evGI pr g x (wipeR ρ own) with
    | none => none
    | some ρ1 => match cond ρ1 M with
      | none => none
      | some (false, M1) => dcL pr g own cond ke ve ρ r acc M1
      | some (true, M1) => match ke ρ1 M1 with
        | some ((.d k, _), M2) => match keyOf k, ve ρ1 M2 with
          | some k, some ((.d y, _), M3) => dcL pr g own cond ke ve ρ r (setK k y acc) M3
          | _, _ => none
        | _ => none
def enumD : Nat → List D → List D
  | _, [] => []
  | i, x :: r => .tup [.int i, x] :: enumD (i + 1) r
def zipD : List D → List D → List D
  | x :: xs, y :: ys => .tup [x, y] :: zipD xs ys
  | _, _ => []
def rngD (a : Int) (n : Nat) : List D := (List.range n).map fun i => .int (a + (i : Nat))
def charsD (s : Str) : List D := s.cps.toList.map fun c => .str ⟨#[c]⟩
def itemsD : D → Option (List D)
  | .lst xs => some xs
  | .tup xs => some xs
  | .scr ns => some (ns.map .int)
  | .str s => some (charsD s)
  | .dic kvs => some (kvs.map fun p => ofKey p.1)
  | _ => none
def ok62 (i : Int) : Bool := decide (-(2 ^ 62) ≤ i) && decide (i < 2 ^ 62)

mutual
def evE (o : Orc) : E → REnv → Store → Option RW
  | .slot i, ρ, M => match wAt ρ i with
    | some w => some ((w, false), M)
    | none => none
  | .cst x, _, M => some ((.d x, false), M)
  | .glob _ v, _, M => some ((.d v, false), M)
  | .tup a, ρ, M => match evA o a ρ M with
    | some (ws, M1) => match allD ws with
      | some xs => if xs.length ≤ big then some ((.d (.tup xs), false), M1) else none
      | none => none
    | none => none
  | .lst a, ρ, M => match evA o a ρ M with
    | some (ws, M1) => match allD ws with
      | some xs => if xs.length ≤ big then some ((.d (.lst xs), true), M1) else none
      | none => none
    | none => none
  | .dnil, _, M => some ((.d (.dic []), true), M)
  | .ite t a b, ρ, M => match evT o t ρ M with
    | some (true, M1) => evE o a ρ M1
    | some (false, M1) => evE o b ρ M1
    | none => none
  | .andv a b, ρ, M => match evE o a ρ M with
    | some ((.d (.bl true), _), M1) => evE o b ρ M1
    | some ((.d (.bl false), _), M1) => some ((.d (.bl false), false), M1)
    | _ => none
  | .orv a b, ρ, M => match evE o a ρ M with
    | some ((.d (.bl false), _), M1) => evE o b ρ M1
    | some ((.d (.bl true), _), M1) => some ((.d (.bl true), false), M1)
    | _ => none
  | .orT a b, ρ, M => match evE o a ρ M with
    | some ((.d x, fr), M1) => match truD x with
      | some true => some ((.d x, fr), M1)
      | some false => evE o b ρ M1
      | none => none
    | _ => none
  | .notv a, ρ, M => match evE o a ρ M with
    | some ((u, _), M1) => match vw M1 u with
      | some x => match truD x with
        | some b => some ((.d (.bl (!b)), false), M1)
        | none => none
      | none => none
    | none => none
  | .cmp p a b, ρ, M => match evE o a ρ M with
    | some ((u, _), M1) => match evE o b ρ M1 with
      | some ((v, _), M2) => match vw M2 u, vw M2 v with
        | some x, some y => match opCmp p x y with
          | some r => some ((.d (.bl r), false), M2)
          | none => none
        | _, _ => none
      | none => none
    | none => none
  | .chain p q a b c, ρ, M => match evE o a ρ M with
    | some ((u, _), M1) => match evE o b ρ M1 with
      | some ((v, _), M2) => match vw M2 u, vw M2 v with
        | some x, some y => match opCmp p x y with
          | some false => some ((.d (.bl false), false), M2)
          | some true => match evE o c ρ M2 with
            | some ((w, _), M3) => match vw M3 v, vw M3 w with
              | some y, some z => match opCmp q y z with
                | some r => some ((.d (.bl r), false), M3)
                | none => none
              | _, _ => none
            | none => none
          | none => none
        | _, _ => none
      | none => none
    | none => none
  | .bin p a b, ρ, M => match evE o a ρ M with
    | some ((u, _), M1) => match evE o b ρ M1 with
      | some ((v, _), M2) => match vw M2 u, vw M2 v with
        | some x, some y => match opBin p x y with
          | some r => some ((.d r.1, r.2), M2)
          | none => none
        | _, _ => none
      | none => none
    | none => none
  | .neg a, ρ, M => match evE o a ρ M with
    | some ((.d (.int i), _), M1) => some ((.d (.int (-i)), false), M1)
    | _ => none
  | .idx a k, ρ, M => match evE o a ρ M with
    | some ((u, _), M1) => match evE o k ρ M1 with
      | some ((v, _), M2) => match vw M2 u, vw M2 v with
        | some x, some y => match idxD x y with
          | some r => some ((.d r, false), M2)
          | none => none
        | _, _ => none
      | none => none
    | none => none
  | .slc a lo hi, ρ, M => match evE o a ρ M with
    | some ((u, _), M1) => match evO o lo ρ M1 with
      | some (l, M2) => match evO o hi ρ M2 with
        | some (h, M3) => match vw M3 u with
          | some x => match slcD x l h with
            | some r => some ((.d r.1, r.2), M3)
            | none => none
          | none => none
        | none => none
      | none => none
    | none => none
  | .callP f a, ρ, M => match evA o a ρ M with
    | some (ws, M1) => match vws M1 ws with
      | some xs => match o.p f xs with
        | some r => if (!anyCell ws || (isAtom r.1 && lstCells M1 ws)) = true then some ((.d r.1, r.2), M1) else none
        | none => none
      | none => none
    | none => none
  | .one a, ρ, M => evE o a ρ M
  | .callK f _ pm a, ρ, M => match evA o a ρ M with
    | some (ws, M1) => match allD ws with
      | some xs => match o.p f (pm.filterMap fun j => xs[j]?) with
        | some r => some ((.d r.1, r.2), M1)
        | none => none
      | none => none
    | none => none
  | .callM f a, ρ, M => match evA o a ρ M with
    | some (ws, M1) => o.m f ws M1
    | none => none
  | .mk a, ρ, M => match evE o a ρ M with
    | some ((.d x, true), M1) => match asNode x with
      | some nd => some ((.cell M1.length, false), M1 ++ [some nd])
      | none => none
    | _ => none
  | .blt b a, ρ, M => match evA o a ρ M with
    | some (ws, M1) => match vws M1 ws with
      | some xs => match evB b xs with
        | some r => some ((.d r.1, r.2), M1)
        | none => none
      | none => none
    | none => none
  | .isi a ts, ρ, M => match evE o a ρ M with
    | some ((u, _), M1) => match vw M1 u with
      | some x => match isTys x ts with
        | some b => some ((.d (.bl b), false), M1)
        | none => none
      | none => none
    | none => none
  | .lc own g it c el, ρ, M => match evI o it ρ M with
    | some ((pr, xs), M1) => if xs.length ≤ big then match lcL pr g own (fun ρ M => evC o c ρ M) (fun ρ M => evE o el ρ M) ρ xs [] M1 with
        | some (ys, M2) => some ((.d (.lst ys), true), M2)
        | none => none
      else none
    | none => none
  | .dc own g it c ke ve, ρ, M => match evI o it ρ M with
    | some ((pr, xs), M1) => if xs.length ≤ big then match dcL pr g own (fun ρ M => evC o c ρ M) (fun ρ M => evE o ke ρ M) (fun ρ M => evE o ve ρ M) ρ xs [] M1 with
        | some (ys, M2) => some ((.d (.dic ys), true), M2)
        | none => none
      else none
    | none => none
  | .get1 a k, ρ, M => match evE o a ρ M with
    | some ((u, _), M1) => match vw M1 u with
      | some (.dic _) => match evE o k ρ M1 with
        | some ((.d v, _), M2) => match vw M2 u, keyOf v with
          | some (.dic kvs), some k => some ((.d ((getK k kvs).getD .non), false), M2)
          | _, _ => none
        | _ => none
      | _ => none
    | none => none
  | .get2 a k x, ρ, M => match evE o a ρ M with
    | some ((u, _), M1) => match vw M1 u with
      | some (.dic _) => match evE o k ρ M1 with
        | some ((.d v, _), M2) => match evE o x ρ M2 with
          | some ((.d z, _), M3) => match vw M3 u, keyOf v with
            | some (.dic kvs), some k => some ((.d ((getK k kvs).getD z), false), M3)
            | _, _ => none
          | _ => none
        | _ => none
      | _ => none
    | none => none
  | .sitems a, ρ, M => match evE o a ρ M with
    | some ((.d (.dic kvs), _), M1) => match sortD (pairsD kvs) with
      | some ys => some ((.d (.lst ys), true), M1)
      | none => none
    | _ => none
  | .litems a, ρ, M => match evE o a ρ M with
    | some ((.d (.dic kvs), _), M1) => if kvs.length ≤ big then some ((.d (.lst (pairsD kvs)), true), M1) else none
    | _ => none
  | .lrng a, ρ, M => match evE o a ρ M with
    | some ((.d (.int j), _), M1) => if (decide (0 ≤ j) && decide (j ≤ 65536)) = true then some ((.d (.lst (rngD 0 j.toNat)), true), M1) else none
    | _ => none
  | .lrng2 a b, ρ, M => match evE o a ρ M with
    | some ((.d (.int i), _), M1) => match evE o b ρ M1 with
      | some ((.d (.int j), _), M2) => if (decide (0 ≤ i) && decide (i ≤ 65536) && (decide (0 ≤ j) && decide (j ≤ 65536))) = true then some ((.d (.lst (rngD i (j - i).toNat)), true), M2) else none
      | _ => none
    | _ => none
  | .pop i a, ρ, M => match wAt ρ i with
    | some (.cell n) => match cellAt M n with
      | some (.lst _) => match evE o a ρ M with
        | some ((.d (.int k), _), M1) => match cellAt M1 n with
          | some (.lst xs) => match ixN xs.length k with
            | some j => match xs[j]? with
              | some x => if xs.length ≤ big then some ((.d x, false), M1.set n (some (.lst (xs.eraseIdx j)))) else none
              | none => none
            | none => none
          | _ => none
        | _ => none
      | _ => none
    | _ => none
  | _, _, _ => none
/-- arguments -/
def evA (o : Orc) : E → REnv → Store → Option (List W × Store)
  | .nil, _, M => some ([], M)
  | .cons a b, ρ, M => match evE o a ρ M with
    | some ((w, _), M1) => match evA o b ρ M1 with
      | some (ws, M2) => some (w :: ws, M2)
      | none => none
    | none => none
  | _, _, _ => none
/-- a part of a slice -/
def evO (o : Orc) : E → REnv → Store → Option (Option Int × Store)
  | .none_, _, M => some (none, M)
  | .cons a .nil, ρ, M => match evE o a ρ M with
    | some ((.d (.int i), _), M1) => some (some i, M1)
    | _ => none
  | _, _, _ => none
/-- tests -/
def evT (o : Orc) : E → REnv → Store → Option (Bool × Store)
  | .andv a b, ρ, M => match evT o a ρ M with
    | some (true, M1) => evT o b ρ M1
    | some (false, M1) => some (false, M1)
    | none => none
  | .orv a b, ρ, M => match evT o a ρ M with
    | some (false, M1) => evT o b ρ M1
    | some (true, M1) => some (true, M1)
    | none => none
  | .notv a, ρ, M => match evT o a ρ M with
    | some (b, M1) => some (!b, M1)
    | none => none
  | .one a, ρ, M => evT o a ρ M
  | .cons a .nil, ρ, M => match evE o a ρ M with
    | some ((u, _), M1) => match vw M1 u with
      | some x => match truD x with
        | some b => some (b, M1)
        | none => none
      | none => none
    | none => none
  | _, _, _ => none
/-- the conditions of a comprehension -/
def evC (o : Orc) : E → REnv → Store → Option (Bool × Store)
  | .nil, _, M => some (true, M)
  | .cons a b, ρ, M => match evT o a ρ M with
    | some (true, M1) => evC o b ρ M1
    | some (false, M1) => some (false, M1)
    | none => none
  | _, _, _ => none
/-- what is walked -/
def evI (o : Orc) : E → REnv → Store → Option ((Bool × List D) × Store)
  | .itv a, ρ, M => match evE o a ρ M with
    | some ((.d x, _), M1) => match itemsD x with
      | some xs => some ((false, xs), M1)
      | none => none
    | _ => none
  | .rng1 a, ρ, M => match evE o a ρ M with
    | some ((.d (.int j), _), M1) => if ok62 j = true then some ((false, rngD 0 j.toNat), M1) else none
    | _ => none
  | .rng2 a b, ρ, M => match evE o a ρ M with
    | some ((.d (.int i), _), M1) => match evE o b ρ M1 with
      | some ((.d (.int j), _), M2) => if (ok62 i && ok62 j) = true then some ((false, rngD i (j - i).toNat), M2) else none
      | _ => none
    | _ => none
  | .zip a b, ρ, M => match evE o a ρ M with
    | some ((.d x, _), M1) => match evE o b ρ M1 with
      | some ((.d y, _), M2) => match x, y with
        | .lst xs, .lst ys => some ((true, zipD xs ys), M2)
        | .tup xs, .tup ys => some ((true, zipD xs ys), M2)
        | _, _ => none
      | _ => none
    | _ => none
  | .enum a, ρ, M => match evE o a ρ M with
    | some ((.d x, _), M1) => match x with
      | .lst xs => some ((true, enumD 0 xs), M1)
      | .tup xs => some ((true, enumD 0 xs), M1)
      | _ => none
    | _ => none
  | .items a, ρ, M => match evE o a ρ M with
    | some ((.d (.dic kvs), _), M1) => some ((true, kvs.map (fun p => .tup [ofKey p.1, p.2])), M1)
    | _ => none
  | .vals a, ρ, M => match evE o a ρ M with
    | some ((.d (.dic kvs), _), M1) => some ((false, kvs.map (·.2)), M1)
    | _ => none
  | _, _, _ => none
end

inductive Out where
  | nx (ρ : REnv) (M : Store) | rt (w : W) (fr : Bool) (M : Store)
def forL (body : REnv → Store → Option Out) (pr : Bool) (g : G) : List D → REnv → Store → Option Out
  | [], ρ, M => some (.nx ρ M)
  | x :: r, ρ, M => match evGI pr g x ρ with
    | none => none
    | some ρ1 => match body ρ1 M with
      | some (.nx ρ2 M2) => forL body pr g r ρ2 M2
      | some (.rt w fr M2) => some (.rt w fr M2)
      | none => none
def whL (test : REnv → Store → Option (Bool × Store)) (body : REnv → Store → Option Out) : Nat → REnv → Store → Option Out
  | 0, _, _ => none
  | n + 1, ρ, M => match test ρ M with
    | some (false, M1) => some (.nx ρ M1)
    | some (true, M1) => match body ρ M1 with
      | some (.nx ρ2 M2) => whL test body n ρ2 M2
      | some (.rt w fr M2) => some (.rt w fr M2)
      | none => none
    | none => none
def puts : List Nat → List W → REnv → Option REnv
  | [], [], ρ => some ρ
  | i :: is, w :: ws, ρ => match putW ρ i w with
    | some ρ1 => puts is ws ρ1
    | none => none
  | _, _, _ => none
def evS (o : Orc) : S → REnv → Store → Option Out
  | .nil, ρ, M => some (.nx ρ M)
  | .seq a b, ρ, M => match evS o a ρ M with
    | some (.nx ρ1 M1) => evS o b ρ1 M1
    | some (.rt w fr M1) => some (.rt w fr M1)
    | none => none
  | .asg g e, ρ, M => match evE o e ρ M with
    | some ((w, _), M1) => match evG g w ρ with
      | some ρ1 => some (.nx ρ1 M1)
      | none => none
    | none => none
  | .par is a, ρ, M => match evA o a ρ M with
    | some (ws, M1) => match puts is ws ρ with
      | some ρ1 => some (.nx ρ1 M1)
      | none => none
    | none => none
  | .seti i k e, ρ, M => match evE o e ρ M with
    | some ((.d x, _), M1) => match wAt ρ i, evE o k ρ M1 with
      | some (.cell n), some ((.d y, _), M2) => match cellAt M2 n, y with
        | some (.lst xs), .int j => match ixN xs.length j with
          | some j => some (.nx ρ (M2.set n (some (.lst (xs.set j x)))))
          | none => none
        | some (.dic kvs), y => match keyOf y with
          | some k => if kvs.length ≤ big then some (.nx ρ (M2.set n (some (.dic (setK k x kvs))))) else none
          | none => none
        | _, _ => none
      | _, _ => none
    | _ => none
  | .app i e, ρ, M => match wAt ρ i with
    | some (.cell n) => match cellAt M n with
      | some (.lst _) => match evE o e ρ M with
        | some ((.d x, _), M1) => match cellAt M1 n with
          | some (.lst xs) => if xs.length ≤ big then some (.nx ρ (M1.set n (some (.lst (xs ++ [x]))))) else none
          | _ => none
        | _ => none
      | _ => none
    | _ => none
  | .upd i e, ρ, M => match wAt ρ i with
    | some (.cell n) => match cellAt M n with
      | some (.dic _) => match evE o e ρ M with
        | some ((.d (.dic more), _), M1) => match cellAt M1 n with
          | some (.dic kvs) => if kvs.length + more.length ≤ big then some (.nx ρ (M1.set n (some (.dic (mergK kvs more))))) else none
          | _ => none
        | _ => none
      | _ => none
    | _ => none
  | .exp e, ρ, M => match evE o e ρ M with
    | some (_, M1) => some (.nx ρ M1)
    | none => none
  | .frz i, ρ, M => match wAt ρ i with
    | some (.cell n) => match cellAt M n with
      | some nd => some (.nx (ρ.set i (some (.d nd.toD))) (M.set n none))
      | none => none
    | _ => none
  | .ret e, ρ, M => match evE o e ρ M with
    | some ((w, fr), M1) => some (.rt w fr M1)
    | none => none
  | .retN, _, M => some (.rt (.d .non) false M)
  | .ite t a b, ρ, M => match evT o t ρ M with
    | some (true, M1) => evS o a ρ M1
    | some (false, M1) => evS o b ρ M1
    | none => none
  | .for_ g it b, ρ, M => match evI o it ρ M with
    | some ((pr, xs), M1) => forL (fun ρ M => evS o b ρ M) pr g xs ρ M1
    | none => none
  | .while_ t b, ρ, M => whL (fun ρ M => evT o t ρ M) (fun ρ M => evS o b ρ M) big ρ M
  | .never, _, _ => none

structure Def where
  name : Str
  ps : List Str
  N : List Str
  kwo : List (List Str × List Nat)
  body : S
def findDef : List Def → Str → Option Def
  | [], _ => none
  | d :: r, f => if d.name = f then some d else findDef r f
def envOf (d : Def) (ws : List W) : REnv := ws.map some ++ List.replicate (d.N.length - d.ps.length) none
def runP (o : Orc) (T : List Def) (f : Str) (xs : List D) : Option Res := match findDef T f with
  | some d => if xs.length = d.ps.length then match evS o d.body (envOf d (xs.map .d)) [] with
      | some (.rt (.d x) fr _) => some (x, fr)
      | some (.nx _ _) => some (.non, false)
      | _ => none
    else none
  | none => none
def runM (o : Orc) (T : List Def) (f : Str) (ws : List W) (M : Store) : Option RW := match findDef T f with
  | some d => if ws.length = d.ps.length then match evS o d.body (envOf d ws) M with
      | some (.rt (.d x) fr M1) => some ((.d x, fr), M1.take M.length)
      | some (.nx _ M1) => some ((.d .non, false), M1.take M.length)
      | _ => none
    else none
  | none => none
def orc (T : List Def) : Nat → Orc
  | 0 => ⟨fun _ _ => none, fun _ _ _ => none⟩
  | k + 1 => ⟨fun f xs => runP (orc T k) T f xs, fun f ws M => runM (orc T k) T f ws M⟩
end Rf

set_option Elab.async false
set_option linter.all false
set_option maxRecDepth 100000
set_option maxHeartbeats 4000000
/-! The data in the abstract heap; the weakest readings. -/
namespace Rf
open PySem PySem.Spec L2
abbrev Frag := PySem.W.Frag

/-- a tuple whose object is known: it has no dict -/
def PTu (K : Frag) (R : Hp) (a : Addr) (vs : List V) : Prop := (∃ o, R a = some (.frz o (.tup vs)) ∧ o.dict = none) ∨
  ∃ (o : Obj) (its : Array Value) (n : Nat), K.lookup a = some o ∧ o.cls = .type "tuple" ∧ o.dict = none ∧ o.data = .seq its n ∧ its.size ≤ sizeLine ∧ Vals vs its.toList
theorem PTu.sq {K : Frag} {R : Hp} {a : Addr} {vs : List V} (p : PTu K R a vs) : SqT K R a vs := by
  rcases p with ⟨o, e, _⟩ | ⟨o, its, n, h1, h2, _, h4, h5, h6⟩
  · exact .inl (.inr ⟨o, e⟩)
  · exact .inr ⟨o, its, n, h1, h2, h4, h5, h6⟩
mutual
inductive RepD (K : Frag) (R : Hp) : D → V → Prop
  | non : RepD K R .non .non
  | bl (b : Bool) : RepD K R (.bl b) (.bl b)
  | int (i : Int) : RepD K R (.int i) (.int i)
  | str (x : Str) : RepD K R (.str x) (.str x)
  | lst {a : Addr} {vs : List V} {xs : List D} : R a = some (.lst vs) → RepDs K R xs vs → RepD K R (.lst xs) (.ref a)
  | tup {a : Addr} {vs : List V} {xs : List D} : PTu K R a vs → RepDs K R xs vs → RepD K R (.tup xs) (.ref a)
  | dic {a : Addr} {ks : List (Key × V)} {kvs : List (Key × D)} : R a = some (.dK ks) → RepKs K R kvs ks → RepD K R (.dic kvs) (.ref a)
  | scr {a : Addr} {ns : List Int} : SqL K R a (ns.map V.int) → RepD K R (.scr ns) (.ref a)
inductive RepDs (K : Frag) (R : Hp) : List D → List V → Prop
  | nil : RepDs K R [] []
  | cons {x : D} {v : V} {xs : List D} {vs : List V} : RepD K R x v → RepDs K R xs vs → RepDs K R (x :: xs) (v :: vs)
inductive RepKs (K : Frag) (R : Hp) : List (Key × D) → List (Key × V) → Prop
  | nil : RepKs K R [] []
  | cons {k : Key} {x : D} {v : V} {xs : List (Key × D)} {vs : List (Key × V)} : RepD K R x v → RepKs K R xs vs → RepKs K R ((k, x) :: xs) ((k, v) :: vs)
end
def Le (R R' : Hp) : Prop := ∀ a o, R a = some o → R' a = some o
theorem Le.refl (R : Hp) : Le R R := fun _ _ h => h
theorem Le.trans {R R' R'' : Hp} (h : Le R R') (k : Le R' R'') : Le R R'' := fun a o e => k a o (h a o e)
theorem Le.sqT {K : Frag} {R R' : Hp} (h : Le R R') {a : Addr} {vs : List V} (s : SqT K R a vs) : SqT K R' a vs := by
  rcases s with (s | ⟨o, s⟩) | s
  · exact .inl (.inl (h _ _ s))
  · exact .inl (.inr ⟨o, h _ _ s⟩)
  · exact .inr s
theorem Le.pt {K : Frag} {R R' : Hp} (h : Le R R') {a : Addr} {vs : List V} (s : PTu K R a vs) : PTu K R' a vs := by
  rcases s with ⟨o, s, d⟩ | s
  · exact .inl ⟨o, h _ _ s, d⟩
  · exact .inr s
theorem Le.sqL {K : Frag} {R R' : Hp} (h : Le R R') {a : Addr} {vs : List V} (s : SqL K R a vs) : SqL K R' a vs := by
  rcases s with (s | ⟨o, s⟩) | s
  · exact .inl (.inl (h _ _ s))
  · exact .inl (.inr ⟨o, h _ _ s⟩)
  · exact .inr s
mutual
theorem RepD.mono {K : Frag} {R R' : Hp} (h : Le R R') : ∀ {x : D} {v : V}, RepD K R x v → RepD K R' x v
  | _, _, .non => .non
  | _, _, .bl b => .bl b
  | _, _, .int i => .int i
  | _, _, .str x => .str x
  | _, _, .lst e r => .lst (h _ _ e) (r.mono h)
  | _, _, .tup e r => .tup (h.pt e) (r.mono h)
  | _, _, .dic e r => .dic (h _ _ e) (r.mono h)
  | _, _, .scr e => .scr (h.sqL e)
theorem RepDs.mono {K : Frag} {R R' : Hp} (h : Le R R') : ∀ {x : List D} {v : List V}, RepDs K R x v → RepDs K R' x v
  | _, _, .nil => .nil
  | _, _, .cons a b => .cons (a.mono h) (b.mono h)
theorem RepKs.mono {K : Frag} {R R' : Hp} (h : Le R R') : ∀ {x : List (Key × D)} {v : List (Key × V)}, RepKs K R x v → RepKs K R' x v
  | _, _, .nil => .nil
  | _, _, .cons a b => .cons (a.mono h) (b.mono h)
end
theorem RepDs.length {K : Frag} {R : Hp} : ∀ {xs : List D} {vs : List V}, RepDs K R xs vs → xs.length = vs.length
  | _, _, .nil => rfl
  | _, _, .cons _ r => by rw [List.length_cons, List.length_cons, r.length]
theorem RepDs.append {K : Frag} {R : Hp} : ∀ {xs ys : List D} {vs us : List V}, RepDs K R xs vs → RepDs K R ys us → RepDs K R (xs ++ ys) (vs ++ us)
  | _, _, _, _, .nil, s => s
  | _, _, _, _, .cons a r, s => .cons a (r.append s)
theorem RepDs.get {K : Frag} {R : Hp} : ∀ {xs : List D} {vs : List V} {i : Nat} {x : D}, RepDs K R xs vs → xs[i]? = some x → ∃ v, vs[i]? = some v ∧ RepD K R x v
  | _, _, _, _, .nil, e => by simp at e
  | _, _, 0, _, .cons r _, e => by simp at e; subst e; exact ⟨_, rfl, r⟩
  | _, _, i + 1, x, .cons _ t, e => by
    obtain ⟨u, h1, h2⟩ := t.get (i := i) (x := x) (by simpa using e)
    exact ⟨u, by simpa using h1, h2⟩
theorem RepDs.getV {K : Frag} {R : Hp} : ∀ {xs : List D} {vs : List V} {i : Nat} {v : V}, RepDs K R xs vs → vs[i]? = some v → ∃ x, xs[i]? = some x ∧ RepD K R x v
  | _, _, _, _, .nil, e => by simp at e
  | _, _, 0, _, .cons r _, e => by simp at e; subst e; exact ⟨_, rfl, r⟩
  | _, _, i + 1, x, .cons _ t, e => by
    obtain ⟨u, h1, h2⟩ := t.getV (i := i) (v := x) (by simpa using e)
    exact ⟨u, by simpa using h1, h2⟩
theorem RepDs.take {K : Frag} {R : Hp} : ∀ {xs : List D} {vs : List V} (n : Nat), RepDs K R xs vs → RepDs K R (xs.take n) (vs.take n)
  | _, _, 0, _ => .nil
  | _, _, _ + 1, .nil => .nil
  | _, _, n + 1, .cons a r => .cons a (r.take n)
theorem RepDs.drop {K : Frag} {R : Hp} : ∀ {xs : List D} {vs : List V} (n : Nat), RepDs K R xs vs → RepDs K R (xs.drop n) (vs.drop n)
  | _, _, 0, r => r
  | _, _, _ + 1, .nil => .nil
  | _, _, n + 1, .cons _ r => r.drop n
theorem RepDs.set {K : Frag} {R : Hp} {x : D} {v : V} (a : RepD K R x v) : ∀ {xs : List D} {vs : List V} (n : Nat), RepDs K R xs vs → RepDs K R (xs.set n x) (vs.set n v)
  | _, _, _, .nil => .nil
  | _, _, 0, .cons _ r => .cons a r
  | _, _, n + 1, .cons b r => .cons b (r.set a n)
theorem RepDs.erase {K : Frag} {R : Hp} : ∀ {xs : List D} {vs : List V} (n : Nat), RepDs K R xs vs → RepDs K R (xs.eraseIdx n) (vs.eraseIdx n)
  | _, _, _, .nil => .nil
  | _, _, 0, .cons _ r => r
  | _, _, n + 1, .cons b r => .cons b (r.erase n)
theorem RepDs.rep {K : Frag} {R : Hp} {xs : List D} {vs : List V} (r : RepDs K R xs vs) : ∀ n : Nat, RepDs K R (List.replicate n xs).flatten (List.replicate n vs).flatten
  | 0 => .nil
  | n + 1 => by rw [List.replicate_succ, List.replicate_succ, List.flatten_cons, List.flatten_cons]; exact r.append (RepDs.rep r n)
theorem RepDs.ints {K : Frag} {R : Hp} : ∀ ns : List Int, RepDs K R (ns.map D.int) (ns.map V.int)
  | [] => .nil
  | n :: r => .cons (.int n) (RepDs.ints r)
theorem RepDs.strs {K : Frag} {R : Hp} : ∀ ns : List Str, RepDs K R (ns.map D.str) (ns.map V.str)
  | [] => .nil
  | n :: r => .cons (.str n) (RepDs.strs r)

def Sub (R H : Hp) : Prop := ∀ a o, R a = some o → H a = some o ∨ ∃ ks ob, o = .dK ks ∧ H a = some (.frz ob o)
theorem upd_dom {H : Hp} {p : Addr} {o : HO} : ∀ a, upd H p o a = none → H a = none := fun a h => by
  by_cases e : a = p
  · subst e; rw [upd_same] at h; cases h
  · rw [upd_ne e] at h; exact h
theorem Sub.none {R H : Hp} (h : Sub R H) {a : Addr} (e : H a = none) : R a = none := by
  cases q : R a with
  | none => rfl
  | some o =>
    rcases h a o q with z | ⟨_, _, _, z⟩ <;> rw [e] at z <;> cases z
theorem Sub.lst {R H : Hp} (h : Sub R H) {a : Addr} {vs : List V} (e : R a = some (.lst vs)) : H a = some (.lst vs) := by
  rcases h _ _ e with z | ⟨_, _, z, _⟩
  · exact z
  · cases z
theorem Sub.dic {R H : Hp} (h : Sub R H) {a : Addr} {ks : List (Key × V)} (e : R a = some (.dK ks)) : Rd H a (.dK ks) := by
  rcases h _ _ e with z | ⟨_, ob, _, z⟩
  · exact .inl z
  · exact .inr ⟨ob, z⟩
theorem Sub.sqT {K : Frag} {R H : Hp} (h : Sub R H) {a : Addr} {vs : List V} (s : SqT K R a vs) : SqT K H a vs := by
  rcases s with (s | ⟨o, s⟩) | s
  · rcases h _ _ s with z | ⟨_, _, z, _⟩
    · exact .inl (.inl z)
    · cases z
  · rcases h _ _ s with z | ⟨_, _, z, _⟩
    · exact .inl (.inr ⟨o, z⟩)
    · cases z
  · exact .inr s
theorem Sub.sqL {K : Frag} {R H : Hp} (h : Sub R H) {a : Addr} {vs : List V} (s : SqL K R a vs) : SqL K H a vs := by
  rcases s with (s | ⟨o, s⟩) | s
  · rcases h _ _ s with z | ⟨_, _, z, _⟩
    · exact .inl (.inl z)
    · cases z
  · rcases h _ _ s with z | ⟨_, _, z, _⟩
    · exact .inl (.inr ⟨o, z⟩)
    · cases z
  · exact .inr s

/-- the root as it stands in H, what hangs below it in R -/
inductive RepH (K : Frag) (R H : Hp) : D → V → Prop
  | non : RepH K R H .non .non
  | bl (b : Bool) : RepH K R H (.bl b) (.bl b)
  | int (i : Int) : RepH K R H (.int i) (.int i)
  | str (x : Str) : RepH K R H (.str x) (.str x)
  | lst {a : Addr} {vs : List V} {xs : List D} : H a = some (.lst vs) → RepDs K R xs vs → RepH K R H (.lst xs) (.ref a)
  | tup {a : Addr} {vs : List V} {xs : List D} : PTu K R a vs → RepDs K R xs vs → RepH K R H (.tup xs) (.ref a)
  | dic {a : Addr} {ks : List (Key × V)} {kvs : List (Key × D)} : Rd H a (.dK ks) → RepKs K R kvs ks → RepH K R H (.dic kvs) (.ref a)
  | scr {a : Addr} {ns : List Int} : SqL K R a (ns.map V.int) → RepH K R H (.scr ns) (.ref a)
theorem RepD.at {K : Frag} {R H : Hp} (h : Sub R H) {x : D} {v : V} (r : RepD K R x v) : RepH K R H x v := by
  cases r with
  | non => exact .non
  | bl b => exact .bl b
  | int i => exact .int i
  | str x => exact .str x
  | lst e r => exact .lst (h.lst e) r
  | tup e r => exact .tup e r
  | dic e r => exact .dic (h.dic e) r
  | scr e => exact .scr e

def NodeAt (K : Frag) (R H : Hp) (a : Addr) : Node → Prop
  | .lst xs => ∃ vs, H a = some (.lst vs) ∧ RepDs K R xs vs
  | .dic kvs => ∃ ks, H a = some (.dK ks) ∧ RepKs K R kvs ks
theorem NodeAt.mono {K : Frag} {R R' H : Hp} (h : Le R R') {a : Addr} {nd : Node} (n : NodeAt K R H a nd) : NodeAt K R' H a nd := by
  cases nd with
  | lst xs => obtain ⟨vs, e, r⟩ := n; exact ⟨vs, e, r.mono h⟩
  | dic xs => obtain ⟨vs, e, r⟩ := n; exact ⟨vs, e, r.mono h⟩
theorem NodeAt.same {K : Frag} {R H H' : Hp} {a : Addr} {nd : Node} (n : NodeAt K R H a nd) (e' : ∀ o, H a = some o → H' a = some o) : NodeAt K R H' a nd := by
  cases nd with
  | lst xs => obtain ⟨vs, e, r⟩ := n; exact ⟨vs, e' _ e, r⟩
  | dic xs => obtain ⟨vs, e, r⟩ := n; exact ⟨vs, e' _ e, r⟩
theorem NodeAt.at {K : Frag} {R H : Hp} {a : Addr} {nd : Node} (n : NodeAt K R H a nd) : RepH K R H nd.toD (.ref a) := by
  cases nd with
  | lst xs => obtain ⟨vs, e, r⟩ := n; exact .lst e r
  | dic xs => obtain ⟨vs, e, r⟩ := n; exact .dic (.inl e) r
theorem NodeAt.some {K : Frag} {R H : Hp} {a : Addr} {nd : Node} (n : NodeAt K R H a nd) : ∃ o, H a = some o := by
  cases nd with
  | lst xs => obtain ⟨vs, e, r⟩ := n; exact ⟨_, e⟩
  | dic xs => obtain ⟨vs, e, r⟩ := n; exact ⟨_, e⟩

def RepW (K : Frag) (R : Hp) (φ : List Addr) : W → V → Prop
  | .d x, v => RepD K R x v
  | .cell n, v => ∃ a, φ[n]? = some a ∧ v = .ref a
theorem RepW.mono {K : Frag} {R R' : Hp} {φ φ' : List Addr} (h : Le R R') (p : φ <+: φ') {w : W} {v : V} (r : RepW K R φ w v) : RepW K R' φ' w v := by
  cases w with
  | d x => exact RepD.mono h r
  | cell n =>
    obtain ⟨a, e, q⟩ := r
    obtain ⟨t, rfl⟩ := p
    exact ⟨a, by rw [List.getElem?_append_left (List.getElem?_eq_some_iff.mp e).1]; exact e, q⟩
def RepWs (K : Frag) (R : Hp) (φ : List Addr) : List W → List V → Prop := Paired (RepW K R φ)
theorem RepWs.mono {K : Frag} {R R' : Hp} {φ φ' : List Addr} (h : Le R R') (p : φ <+: φ') {w : List W} {v : List V} (r : RepWs K R φ w v) : RepWs K R' φ' w v :=
  Paired.mapP r fun _ _ z => z.mono h p

def Live (φ : List Addr) (M : Store) (a : Addr) : Prop := ∃ n nd, cellAt M n = some nd ∧ φ[n]? = some a

structure Rel (K : Frag) (R : Hp) (φ : List Addr) (ρ : REnv) (M : Store) (σ : St) (H : Hp) : Prop where
  sub : Sub R H
  len : φ.length = M.length
  cells : ∀ n nd a, cellAt M n = some nd → φ[n]? = some a → NodeAt K R H a nd ∧ R a = none
  inj : ∀ n m nd nd' a, cellAt M n = some nd → cellAt M m = some nd' → φ[n]? = some a → φ[m]? = some a → n = m
  slots : ∀ i w, wAt ρ i = some w → ∃ v, σ[i]? = some (some v) ∧ RepW K R φ w v
  rlen : ρ.length = σ.length
/-- as it was; or a frozen dict, locked -/
def Kept (R' H' : Hp) (a : Addr) (o : HO) : Prop := H' a = some o ∨ (R' a ≠ none ∧ ∃ ks ob, o = .dK ks ∧ H' a = some (.frz ob o))
theorem Kept.there {R' H' : Hp} {a : Addr} {o : HO} (k : Kept R' H' a o) : ∃ u, H' a = some u := by
  rcases k with k | ⟨_, _, _, _, k⟩ <;> exact ⟨_, k⟩
theorem Kept.exact {R' H' : Hp} {a : Addr} {o : HO} (k : Kept R' H' a o) (h : R' a = none) : H' a = some o := by
  rcases k with k | ⟨q, _⟩
  · exact k
  · exact absurd h q
structure Ext (R : Hp) (φ : List Addr) (M : Store) (H R' : Hp) (φ' : List Addr) (M' : Store) (H' : Hp) : Prop where
  le : Le R R'
  pre : φ <+: φ'
  mlen : M.length ≤ M'.length
  new : ∀ a, R' a ≠ none → R a ≠ none ∨ H a = none ∨ Live φ M a
  fr : ∀ a o, H a = some o → ¬ Live φ M a → Kept R' H' a o
  liv : ∀ a, Live φ' M' a → Live φ M a ∨ H a = none
  dom : ∀ a, H' a = none → H a = none
theorem Ext.refl (R : Hp) (φ : List Addr) (M : Store) (H : Hp) : Ext R φ M H R φ M H :=
  ⟨Le.refl R, List.prefix_refl φ, Nat.le_refl _, fun _ h => .inl h, fun _ _ h _ => .inl h, fun _ h => .inl h, fun _ h => h⟩
theorem Ext.trans {R : Hp} {φ : List Addr} {M : Store} {H R1 : Hp} {φ1 : List Addr} {M1 : Store} {H1 R2 : Hp} {φ2 : List Addr} {M2 : Store} {H2 : Hp}
    (x : Ext R φ M H R1 φ1 M1 H1) (y : Ext R1 φ1 M1 H1 R2 φ2 M2 H2) : Ext R φ M H R2 φ2 M2 H2 := by
  have none1 : ∀ a, H1 a = none → H a = none ∨ Live φ M a := fun a e => by
    by_cases l : Live φ M a
    · exact .inr l
    · cases q : H a with
      | none => exact .inl rfl
      | some o => obtain ⟨u, z⟩ := (x.fr a o q l).there; rw [z] at e; cases e
  refine ⟨x.le.trans y.le, x.pre.trans y.pre, Nat.le_trans x.mlen y.mlen, fun a h => ?_, fun a o h l => ?_, fun a h => ?_, fun a h => x.dom a (y.dom a h)⟩
  · rcases y.new a h with z | z | z
    · exact x.new a z
    · exact .inr (none1 a z)
    · rcases x.liv a z with z | z
      · exact .inr (.inr z)
      · exact .inr (.inl z)
  · have l1 : ¬ Live φ1 M1 a := fun z => by
      rcases x.liv a z with z | z
      · exact l z
      · rw [h] at z; cases z
    rcases x.fr a o h l with q | ⟨q, ks, ob, e1, e2⟩
    · exact y.fr a o q l1
    · have q2 : R2 a ≠ none := by
        cases z : R1 a with
        | none => exact absurd z q
        | some u => rw [y.le a u z]; exact fun w => by cases w
      rcases y.fr a _ e2 l1 with w | ⟨_, _, _, w, _⟩
      · exact .inr ⟨q2, ks, ob, e1, w⟩
      · cases w
  · rcases y.liv a h with z | z
    · exact x.liv a z
    · exact (none1 a z).symm

def FreshAt (K : Frag) (R : Hp) (φ : List Addr) (M : Store) (H : Hp) (x : D) (a : Addr) : Prop := ∃ nd, asNode x = some nd ∧ NodeAt K R H a nd ∧ R a = none ∧ ¬ Live φ M a
def RepR (K : Frag) (R : Hp) (φ : List Addr) (M : Store) (H H0 : Hp) (r : W × Bool) (v : V) : Prop :=
  if r.2 = true then ∃ x a, r.1 = .d x ∧ v = .ref a ∧ H0 a = none ∧ FreshAt K R φ M H x a else RepW K R φ r.1 v
theorem cellAt_some {M : Store} {n : Nat} {nd : Node} (h : cellAt M n = some nd) : M[n]? = some (some nd) := by
  unfold cellAt at h
  split at h
  · rename_i e; cases h; exact e
  · cases h
theorem cellAt_lt {M : Store} {n : Nat} {nd : Node} (h : cellAt M n = some nd) : n < M.length := (List.getElem?_eq_some_iff.mp (cellAt_some h)).1
theorem cellAt_of {M : Store} {n : Nat} {nd : Node} (h : M[n]? = some (some nd)) : cellAt M n = some nd := by
  unfold cellAt; rw [h]
theorem toD_asNode {x : D} {nd : Node} (h : asNode x = some nd) : nd.toD = x := by
  cases x <;> simp [asNode] at h <;> subst h <;> rfl
section
variable {K : Frag} {R R' : Hp} {φ φ' : List Addr} {ρ : REnv} {M M' : Store} {σ : St} {H H' : Hp}
/-- R grows by what stands in H -/
theorem Rel.grow (r : Rel K R φ ρ M σ H) (h : Le R R') (s : Sub R' H) (d : ∀ a, Live φ M a → R' a = none) : Rel K R' φ ρ M σ H :=
  ⟨s, r.len, fun n nd a e q => ⟨(r.cells n nd a e q).1.mono h, d a ⟨n, nd, e, q⟩⟩, r.inj, fun i w e => let ⟨v, q, z⟩ := r.slots i w e; ⟨v, q, z.mono h (List.prefix_refl _)⟩, r.rlen⟩
/-- what is new is frozen -/
theorem freeze {H0 : Hp} {R0 : Hp} {φ0 : List Addr} {M0 : Store} {q : W × Bool} {v : V} (r : Rel K R φ ρ M σ H) (x : Ext R0 φ0 M0 H0 R φ M H) (p : RepR K R φ M H H0 q v) :
    ∃ R', Rel K R' φ ρ M σ H ∧ Ext R0 φ0 M0 H0 R' φ M H ∧ RepW K R' φ q.1 v := by
  unfold RepR at p
  split at p
  · obtain ⟨d, a, e, rfl, h0, nd, en, na, ra, nl⟩ := p
    obtain ⟨o, ho⟩ := na.some
    have le : Le R (upd R a o) := fun b u e => by
      rw [upd_ne]
      · exact e
      · rintro rfl; rw [ra] at e; cases e
    refine ⟨upd R a o, r.grow le (fun b u e => ?_) (fun b l => ?_), ⟨x.le.trans le, x.pre, x.mlen, fun b hb => ?_, fun b u e l => ?_, x.liv, x.dom⟩, ?_⟩
    · by_cases hb : b = a
      · subst hb; rw [upd_same] at e; cases e; exact .inl ho
      · rw [upd_ne hb] at e; exact r.sub b u e
    · have hb : b ≠ a := fun z => nl (z ▸ l)
      rw [upd_ne hb]
      obtain ⟨n, nd, e1, e2⟩ := l
      exact (r.cells n nd b e1 e2).2
    · by_cases hb' : b = a
      · subst hb'; exact .inr (.inl h0)
      · rw [upd_ne hb'] at hb; exact x.new b hb
    · have hb : b ≠ a := fun z => by subst z; rw [h0] at e; cases e
      rcases x.fr b u e l with q | ⟨q, r'⟩
      · exact .inl q
      · exact .inr ⟨by rw [upd_ne hb]; exact q, r'⟩
    · rw [e]
      show RepD K (upd R a o) d (.ref a)
      rw [← toD_asNode en]
      cases nd with
      | lst xs =>
        obtain ⟨vs, e1, r1⟩ := na
        rw [ho] at e1; cases e1
        exact .lst upd_same (r1.mono le)
      | dic xs =>
        obtain ⟨vs, e1, r1⟩ := na
        rw [ho] at e1; cases e1
        exact .dic upd_same (r1.mono le)
  · exact ⟨R, r, x, p⟩
/-- a new object is laid; R' is R, or R and it -/
theorem Rel.laid (r : Rel K R φ ρ M σ H) {p : Addr} {o : HO} (hp : H p = none) : Rel K R φ ρ M σ (upd H p o) := by
  have ne : ∀ {b u}, H b = some u → b ≠ p := fun {b u} e => ne_of_none e hp
  refine ⟨fun b u e => ?_, r.len, fun n nd a e q => ⟨(r.cells n nd a e q).1.same fun u hu => ?_, (r.cells n nd a e q).2⟩, r.inj, r.slots, r.rlen⟩
  · rcases r.sub b u e with z | ⟨ks, ob, z1, z2⟩
    · exact .inl (by rw [upd_ne (ne z)]; exact z)
    · exact .inr ⟨ks, ob, z1, by rw [upd_ne (ne z2)]; exact z2⟩
  · rw [upd_ne (ne hu)]; exact hu
theorem Ext.laid {p : Addr} {o : HO} (hp : H p = none) : Ext R φ M H R φ M (upd H p o) :=
  ⟨Le.refl R, List.prefix_refl φ, Nat.le_refl _, fun _ h => .inl h, fun a u h _ => .inl (by rw [upd_ne (ne_of_none h hp)]; exact h), fun _ h => .inl h, upd_dom⟩
theorem Rel.notLive (r : Rel K R φ ρ M σ H) {a : Addr} (h : H a = none) : ¬ Live φ M a := fun ⟨n, nd, e, q⟩ => by
  obtain ⟨o, z⟩ := (r.cells n nd a e q).1.some
  rw [h] at z; cases z
theorem Rel.notR (r : Rel K R φ ρ M σ H) {a : Addr} (l : Live φ M a) : R a = none := by
  obtain ⟨n, nd, e, q⟩ := l
  exact (r.cells n nd a e q).2
end

/-- what a value rule gives: nothing new, or one new object -/
inductive Outp (K : Frag) (R H : Hp) : Res → V → Hp → Prop
  | same {x : D} {v : V} : RepD K R x v → Outp K R H (x, false) v H
  | newL {xs : List D} {vs : List V} {p : Addr} : H p = none → RepDs K R xs vs → Outp K R H (.lst xs, true) (.ref p) (upd H p (.lst vs))
  | newT {xs : List D} {vs : List V} {p : Addr} {o : Obj} : H p = none → o.dict = none → RepDs K R xs vs → Outp K R H (.tup xs, false) (.ref p) (upd H p (.frz o (.tup vs)))
  | newD {xs : List (Key × D)} {vs : List (Key × V)} {p : Addr} : H p = none → RepKs K R xs vs → Outp K R H (.dic xs, true) (.ref p) (upd H p (.dK vs))
section
variable {K : Frag} {R R' : Hp} {φ φ' : List Addr} {ρ : REnv} {M M' : Store} {σ : St} {H H' : Hp}
theorem Outp.post {q : Res} {v : V} (r : Rel K R φ ρ M σ H) (p : Outp K R H q v H') :
    ∃ R', Rel K R' φ ρ M σ H' ∧ Ext R φ M H R' φ M H' ∧ RepR K R' φ M H' H (.d q.1, q.2) v := by
  cases p with
  | same e => exact ⟨R, r, Ext.refl .., by unfold RepR; rw [if_neg Bool.false_ne_true]; exact e⟩
  | newL hp e =>
    refine ⟨R, r.laid hp, Ext.laid hp, ?_⟩
    unfold RepR
    rw [if_pos rfl]
    exact ⟨_, _, rfl, rfl, hp, _, rfl, ⟨_, upd_same, e⟩, r.sub.none hp, r.notLive hp⟩
  | newD hp e =>
    refine ⟨R, r.laid hp, Ext.laid hp, ?_⟩
    unfold RepR
    rw [if_pos rfl]
    exact ⟨_, _, rfl, rfl, hp, _, rfl, ⟨_, upd_same, e⟩, r.sub.none hp, r.notLive hp⟩
  | @newT xs vs a ob hp od e =>
    have rn := r.sub.none hp
    have le : Le R (upd R a (.frz ob (.tup vs))) := fun b u e => by
      rw [upd_ne]
      · exact e
      · rintro rfl; rw [rn] at e; cases e
    refine ⟨upd R a (.frz ob (.tup vs)), (r.laid hp).grow le (fun b u e => ?_) (fun b l => ?_), ⟨le, List.prefix_refl _, Nat.le_refl _, fun b hb => ?_, fun b u e _ => .inl (by rw [upd_ne (ne_of_none e hp)]; exact e), fun _ h => .inl h, upd_dom⟩, ?_⟩
    · by_cases hb : b = a
      · subst hb; rw [upd_same] at e; cases e; exact .inl upd_same
      · rw [upd_ne hb] at e; exact (r.laid hp).sub b u e
    · have hb : b ≠ a := fun z => r.notLive hp (z ▸ l)
      rw [upd_ne hb]
      exact r.notR l
    · by_cases hb' : b = a
      · subst hb'; exact .inr (.inl hp)
      · rw [upd_ne hb'] at hb; exact .inl hb
    · unfold RepR
      rw [if_neg Bool.false_ne_true]
      exact .tup (.inl ⟨ob, upd_same, od⟩) (e.mono le)
end
end Rf

set_option Elab.async false
set_option linter.all false
set_option maxRecDepth 100000
set_option maxHeartbeats 4000000
namespace Rf
open PySem PySem.Spec L2

/-! ### weakest readings -/
def wE (X : Cx) (e : Expr) : TE := fun σ H Q => ∀ (pins : List (Addr × Obj)) (s : Shared), Inv X pins σ H s → wpAny (model X.prog X.w) X.A (eval e X.env) (EP X pins σ Q) X.xe s
theorem wE_pe {X : Cx} {e : Expr} : PE X e (wE X e) := ⟨fun pins s σ H Q I h => h pins s I⟩
theorem wE_of {X : Cx} {e : Expr} {t : TE} (h : PE X e t) {σ : L2.St} {H : Hp} {Q : VK} (q : t σ H Q) : wE X e σ H Q := fun pins s I => h.run pins s σ H Q I q
def wT (X : Cx) (e : Expr) : TT := fun σ H Q => ∀ (pins : List (Addr × Obj)) (s : Shared), Inv X pins σ H s → wpAny (model X.prog X.w) X.A (isTrue e X.env (eval e X.env)) (TP X pins σ Q) X.xe s
theorem wT_pt {X : Cx} {e : Expr} : PT X e (wT X e) := ⟨fun pins s σ H Q I h => h pins s I⟩
theorem wT_of {X : Cx} {e : Expr} {t : TT} (h : PT X e t) {σ : L2.St} {H : Hp} {Q : Bool → Hp → Prop} (q : t σ H Q) : wT X e σ H Q := fun pins s I => h.run pins s σ H Q I q
def wA (X : Cx) (es : List Expr) : TA := fun σ H Q => ∀ (pos : Pos) (pins : List (Addr × Obj)) (s : Shared), Inv X pins σ H s → wpAny (model X.prog X.w) X.A (spliced (backTo pos (starEach es X.env))) (AP X pins σ Q) X.xe s
theorem wA_pa {X : Cx} {es : List Expr} : PA X es (wA X es) := ⟨fun pos pins s σ H Q I h => h pos pins s I⟩
theorem wA_of {X : Cx} {es : List Expr} {t : TA} (h : PA X es t) {σ : L2.St} {H : Hp} {Q : List V → Hp → Prop} (q : t σ H Q) : wA X es σ H Q := fun pos pins s I => h.run pos pins s σ H Q I q
def wOp (X : Cx) (f : Value → Value → Sem Value) : R2 := fun x y H Q => ∀ (pins : List (Addr × Obj)) (s : Shared) (σ : L2.St) (v u : Value), Inv X pins σ H s → RelV x v → RelV y u → wpAny (model X.prog X.w) X.A (f v u) (EP X pins σ Q) X.xe s
theorem wOp_op {X : Cx} {f : Value → Value → Sem Value} : OpR X f (wOp X f) := fun pins s σ H x y v u Q I rx ry h => h pins s σ v u I rx ry
theorem wOp_of {X : Cx} {f : Value → Value → Sem Value} {r : R2} (h : OpR X f r) {x y : V} {H : Hp} {Q : VK} (q : r x y H Q) : wOp X f x y H Q := fun pins s σ v u I rx ry => h pins s σ H x y v u Q I rx ry q
def wCall (X : Cx) (f : Value) : List V → Hp → VK → Prop := fun xs H Q => ∀ (pins : List (Addr × Obj)) (s : Shared) (σ : L2.St) (us : List Value), Inv X pins σ H s → Vals xs us → wpAny (model X.prog X.w) X.A (call f us) (EP X pins σ Q) X.xe s
theorem wCall_cr {X : Cx} {f : Value} : CallR X f (wCall X f) := fun pins s σ H xs us Q I r h => h pins s σ us I r
theorem wCall_of {X : Cx} {f : Value} {r : List V → Hp → VK → Prop} (h : CallR X f r) {xs : List V} {H : Hp} {Q : VK} (q : r xs H Q) : wCall X f xs H Q := fun pins s σ us I rx => h pins s σ H xs us Q I rx q

/-! ### what is said of a piece of the language -/
section
variable (X : Cx) (o : Orc)
def SE (e : Expr) (E : E) : Prop := ∀ ρ M r M', evE o E ρ M = some (r, M') → ∀ R φ σ H, Rel X.K R φ ρ M σ H → ∀ Q : VK,
  (∀ R' φ' H' v, Rel X.K R' φ' ρ M' σ H' → Ext R φ M H R' φ' M' H' → RepR X.K R' φ' M' H' H r v → Q v H') → wE X e σ H Q
def SF (e : Expr) (E : E) : Prop := ∀ ρ M r M', evE o E ρ M = some (r, M') → ∀ R φ σ H, Rel X.K R φ ρ M σ H → ∀ Q : VK,
  (∀ R' φ' H' v, Rel X.K R' φ' ρ M' σ H' → Ext R φ M H R' φ' M' H' → RepW X.K R' φ' r.1 v → Q v H') → wE X e σ H Q
def SA (es : List Expr) (E : E) : Prop := ∀ ρ M ws M', evA o E ρ M = some (ws, M') → ∀ R φ σ H, Rel X.K R φ ρ M σ H → ∀ Q : List V → Hp → Prop,
  (∀ R' φ' H' vs, Rel X.K R' φ' ρ M' σ H' → Ext R φ M H R' φ' M' H' → RepWs X.K R' φ' ws vs → Q vs H') → wA X es σ H Q
def ST (e : Expr) (E : E) : Prop := ∀ ρ M b M', evT o E ρ M = some (b, M') → ∀ R φ σ H, Rel X.K R φ ρ M σ H → ∀ Q : Bool → Hp → Prop,
  (∀ R' φ' H', Rel X.K R' φ' ρ M' σ H' → Ext R φ M H R' φ' M' H' → Q b H') → wT X e σ H Q
variable {X o}
theorem SE.frz {e : Expr} {E : Rf.E} (h : SE X o e E) : SF X o e E := fun ρ M r M' he R φ σ H rel Q k => h ρ M r M' he R φ σ H rel Q fun R' φ' H' v r1 x1 p1 => by
  obtain ⟨R2, r2, x2, p2⟩ := freeze r1 x1 p1
  exact k R2 φ' H' v r2 x2 p2
/-- an expression that makes nothing new -/
theorem SE.same {e : Expr} {E : Rf.E} (h : ∀ ρ M r M', evE o E ρ M = some (r, M') → ∀ R φ σ H, Rel X.K R φ ρ M σ H → ∀ Q : VK, (∀ v, RepR X.K R φ M H H r v → Q v H) → M' = M ∧ wE X e σ H Q) : SE X o e E :=
  fun ρ M r M' he R φ σ H rel Q k => by
    have q := h ρ M r M' he R φ σ H rel (fun v H' => Q v H')
    by_cases hm : M' = M
    · subst hm
      exact (q fun v p => k R φ H v rel (Ext.refl ..) p).2
    · exact absurd (h ρ M r M' he R φ σ H rel (fun _ _ => True) (fun _ _ => trivial)).1 hm
end
section
variable {K : Frag} {R R' : Hp} {φ φ' : List Addr} {ρ : REnv} {M M' : Store} {σ : L2.St} {H H' : Hp}
theorem vw_at (r : Rel K R φ ρ M σ H) {w : W} {v : V} {x : D} (p : RepW K R φ w v) (h : vw M w = some x) : RepH K R H x v := by
  cases w with
  | d y => cases h; exact RepD.at r.sub p
  | cell n =>
    obtain ⟨a, e, rfl⟩ := p
    obtain ⟨nd, e1, e2⟩ := Option.map_eq_some_iff.mp (show (cellAt M n).map Node.toD = some x from h)
    subst e2
    exact (r.cells n nd a e1 e).1.at
theorem vws_at (r : Rel K R φ ρ M σ H) : ∀ {ws : List W} {vs : List V} {xs : List D}, RepWs K R φ ws vs → vws M ws = some xs → Paired (RepH K R H) xs vs
  | [], _, _, .nil, h => by cases h; exact .nil
  | w :: ws, _, xs, .cons p ps, h => by
    unfold vws at h
    split at h
    · rename_i e1 e2
      cases h
      exact .cons (vw_at r p e1) (vws_at r ps e2)
    · cases h
theorem allD_vws : ∀ {ws : List W} {xs : List D}, allD ws = some xs → RepWs K R φ ws vs → RepDs K R xs vs := by
  intro ws
  induction ws generalizing vs with
  | nil => intro xs h p; cases h; cases p; exact .nil
  | cons w ws ih =>
    intro xs h p
    unfold allD at h
    split at h
    · rename_i e1 e2
      cases h
      cases p with
      | cons a b =>
        cases w with
        | d y => cases e1; exact .cons a (ih e2 b)
        | cell n => cases e1
    · cases h
end

/-! ### equality: the data as the library has it -/
mutual
theorem RepD.dp {K : Frag} {R H : Hp} (h : Sub R H) : ∀ {x : D} {v : V}, RepD K R x v → flat x = true → Dp K H v (toPy x)
  | _, _, .non, _ => .non
  | _, _, .bl b, _ => .bl b
  | _, _, .int i, _ => .int i
  | _, _, .str x, _ => .str x
  | _, _, .lst e r, f => .lst (.of (h.lst e)) (RepDs.dp h r (by simpa [flat] using f))
  | _, _, .tup e r, f => .tup (h.sqT e.sq) (RepDs.dp h r (by simpa [flat] using f))
  | _, _, .dic e r, f => by simp [flat] at f
  | _, _, .scr e, f => by simp [flat] at f
theorem RepDs.dp {K : Frag} {R H : Hp} (h : Sub R H) : ∀ {x : List D} {v : List V}, RepDs K R x v → flats x = true → DpAll K H v (toPys x)
  | _, _, .nil, _ => .nil
  | _, _, .cons a b, f => by
    simp only [flats, Bool.and_eq_true] at f
    exact .cons (RepD.dp h a f.1) (RepDs.dp h b f.2)
end
theorem RepH.dp {K : Frag} {R H : Hp} (h : Sub R H) {x : D} {v : V} (r : RepH K R H x v) (f : flat x = true) : Dp K H v (toPy x) := by
  cases r with
  | non => exact .non
  | bl b => exact .bl b
  | int i => exact .int i
  | str x => exact .str x
  | lst e r => exact .lst (.of e) (r.dp h (by simpa [flat] using f))
  | tup e r => exact .tup (h.sqT e.sq) (r.dp h (by simpa [flat] using f))
  | dic e r => simp [flat] at f
  | scr e => simp [flat] at f
mutual
theorem canLay_toPy : ∀ {x : D}, flat x = true → (toPy x).canLay0 = true
  | .non, _ => by simp [toPy, PyData.canLay0]
  | .bl b, _ => by simp [toPy, PyData.canLay0]
  | .int i, _ => by simp [toPy, PyData.canLay0]
  | .str x, f => by simpa [toPy, PyData.canLay0, flat, strOkD, PyData.strOk] using f
  | .lst xs, f => by simp only [toPy, PyData.canLay0]; exact canLays_toPy (by simpa [flat] using f)
  | .tup xs, f => by simp only [toPy, PyData.canLay0]; exact canLays_toPy (by simpa [flat] using f)
  | .dic _, f => by simp [flat] at f
  | .scr _, f => by simp [flat] at f
theorem canLays_toPy : ∀ {x : List D}, flats x = true → PyData.canLayAll0 (toPys x) = true
  | [], _ => by simp [toPys, PyData.canLayAll0]
  | x :: r, f => by
    simp only [flats, Bool.and_eq_true] at f
    simp [toPys, PyData.canLayAll0, canLay_toPy f.1, canLays_toPy f.2]
end
mutual
theorem depth_toPy : ∀ {x : D}, flat x = true → (toPy x).depth = dep x
  | .non, _ => by simp [toPy, PyData.depth, dep]
  | .bl b, _ => by simp [toPy, PyData.depth, dep]
  | .int i, _ => by simp [toPy, PyData.depth, dep]
  | .str x, f => by simp [toPy, PyData.depth, dep]
  | .lst xs, f => by simp only [toPy, PyData.depth, dep]; rw [depths_toPy (by simpa [flat] using f)]
  | .tup xs, f => by simp only [toPy, PyData.depth, dep]; rw [depths_toPy (by simpa [flat] using f)]
  | .dic _, f => by simp [flat] at f
  | .scr _, f => by simp [flat] at f
theorem depths_toPy : ∀ {x : List D}, flats x = true → PyData.depthAll (toPys x) = deps x
  | [], _ => by simp [toPys, PyData.depthAll, deps]
  | x :: r, f => by
    simp only [flats, Bool.and_eq_true] at f
    simp [toPys, PyData.depthAll, deps, depth_toPy f.1, depths_toPy f.2]
end
theorem shaped_toPy {x : D} (h : okD x = true) : SeqAt.shaped (toPy x) = true := by
  unfold okD at h
  rw [Bool.and_eq_true] at h
  show ((toPy x).canLay0 && decide ((toPy x).depth ≤ 64)) = true
  rw [canLay_toPy h.1, depth_toPy h.1, h.2]
  rfl
mutual
theorem eqv_toPy : ∀ (x y : D), flat x = true → flat y = true → PyData.eqv (toPy x) (toPy y) = eqD x y
  | .lst xs, .lst ys, f, g => by simp only [toPy, PyData.eqv, eqD]; exact eqvs_toPy xs ys (by simpa [flat] using f) (by simpa [flat] using g)
  | .tup xs, .tup ys, f, g => by simp only [toPy, PyData.eqv, eqD]; exact eqvs_toPy xs ys (by simpa [flat] using f) (by simpa [flat] using g)
  | .non, y, f, g => by cases y <;> simp_all [toPy, PyData.eqv, eqD, flat]
  | .bl b, y, f, g => by cases y <;> simp_all [toPy, PyData.eqv, eqD, flat]
  | .int i, y, f, g => by cases y <;> simp_all [toPy, PyData.eqv, eqD, flat]
  | .str x, y, f, g => by cases y <;> simp_all [toPy, PyData.eqv, eqD, flat]
  | .lst xs, .non, f, g => by simp [toPy, PyData.eqv, eqD]
  | .lst xs, .bl _, f, g => by simp [toPy, PyData.eqv, eqD]
  | .lst xs, .int _, f, g => by simp [toPy, PyData.eqv, eqD]
  | .lst xs, .str _, f, g => by simp [toPy, PyData.eqv, eqD]
  | .lst xs, .tup _, f, g => by simp [toPy, PyData.eqv, eqD]
  | .lst xs, .dic _, f, g => by simp [flat] at g
  | .lst xs, .scr _, f, g => by simp [flat] at g
  | .tup xs, .non, f, g => by simp [toPy, PyData.eqv, eqD]
  | .tup xs, .bl _, f, g => by simp [toPy, PyData.eqv, eqD]
  | .tup xs, .int _, f, g => by simp [toPy, PyData.eqv, eqD]
  | .tup xs, .str _, f, g => by simp [toPy, PyData.eqv, eqD]
  | .tup xs, .lst _, f, g => by simp [toPy, PyData.eqv, eqD]
  | .tup xs, .dic _, f, g => by simp [flat] at g
  | .tup xs, .scr _, f, g => by simp [flat] at g
  | .dic _, _, f, _ => by simp [flat] at f
  | .scr _, _, f, _ => by simp [flat] at f
theorem eqvs_toPy : ∀ (x y : List D), flats x = true → flats y = true → PyData.eqvAll (toPys x) (toPys y) = eqDs x y
  | [], [], _, _ => by simp [toPys, PyData.eqvAll, eqDs]
  | [], _ :: _, _, _ => by simp [toPys, PyData.eqvAll, eqDs]
  | _ :: _, [], _, _ => by simp [toPys, PyData.eqvAll, eqDs]
  | x :: xs, y :: ys, f, g => by
    simp only [flats, Bool.and_eq_true] at f g
    simp [toPys, PyData.eqvAll, eqDs, eqv_toPy x y f.1 g.1, eqvs_toPy xs ys f.2 g.2]
end

/-! ### operators by values -/
def BOp.py : BOp → Operator
  | .add => .Add | .sub => .Sub | .mul => .Mult | .fdiv => .FloorDiv | .mod => .Mod | .pow => .Pow
def COp.py : COp → CmpOp
  | .eq => .Eq | .ne => .NotEq | .lt => .Lt | .le => .LtE | .gt => .Gt | .ge => .GtE | .is_ => .Is | .isnt => .IsNot | .inn => .In | .notin => .NotIn
theorem big_line {n : Nat} (h : n ≤ big) : n ≤ sizeLine := by rw [sizeLine_eq]; unfold big at h; omega
theorem big_line' {n : Nat} (h : n ≤ big) : n < sizeLine := by rw [sizeLine_eq]; unfold big at h; omega
section
variable {X : Cx} {R H : Hp}
/-- a new tuple, told with its object -/
theorem new_tup {pins : List (Addr × Obj)} {σ : L2.St} {s : Shared} {Q : VK} {vs : List V} {us : List Value} {tk : Nat} (I : Inv X pins σ H s) (r : Vals vs us) (z : vs.length ≤ sizeLine)
    (k : ∀ p o, H p = none → o.dict = none → Q (.ref p) (upd H p (.frz o (.tup vs)))) :
    EP X pins σ Q (.ref s.heap.objs.size) { s with heap := s.heap.push { cls := .type "tuple", data := .seq us.toArray }, toks := tk } :=
  ⟨.ref _, _, I.laid (o := .frz { cls := .type "tuple", data := .seq us.toArray } (.tup vs)) (fun _ _ w => Heap.get?_push_of_some _ w) (Nat.le_refl _) ⟨Heap.get?_push_size _ rfl, z, us, r, _, Heap.get?_push_size _ rfl, rfl, _, rfl⟩, rfl, k _ _ (I.hok.fresh (Nat.le_refl _)) rfl⟩
theorem cat_tupW {a b : Addr} {xs ys : List V} {Q : VK} (ha : SqT X.K H a xs) (hb : SqT X.K H b ys) (z : xs.length + ys.length ≤ sizeLine) (k0 : xs = [] → Q (.ref b) H) (k1 : ys = [] → Q (.ref a) H)
    (k : ∀ p o, H p = none → o.dict = none → Q (.ref p) (upd H p (.frz o (.tup (xs ++ ys))))) : wOp X (binaryOp .Add) (.ref a) (.ref b) H Q := by
  intro pins s σ v u I rx ry
  cases rx; cases ry
  obtain ⟨us, r1, p1, _⟩ := I.tuple ha
  obtain ⟨ws, r2, p2, _⟩ := I.tuple hb
  by_cases hx : xs = []
  · subst hx
    cases r1
    exact cat_tup0 p1 p2 ⟨.ref b, H, I, rfl, k0 rfl⟩
  · refine HT.cat_tup p1 p2 (fun w => hx (r1.nil_iff.mp w)) (fun w => ⟨.ref a, H, I, rfl, k1 (r2.nil_iff.mp w)⟩) (fun w => ?_) (by rw [← r1.length, ← r2.length]; exact z)
    exact new_tup (tk := s.toks) I (r1.append r2) (by rw [List.length_append]; exact z) k
theorem bin_ok (hu : X.A.units + 65 < cLine) (p : BOp) {x y : D} {r : Res} (e : opBin p x y = some r) {u v : V} (s : Sub R H) (rx : RepH X.K R H x u) (ry : RepH X.K R H y v) {Q : VK} (k : ∀ z H', Outp X.K R H r z H' → Q z H') :
    wOp X (binaryOp p.py) u v H Q := by
  unfold opBin at e
  split at e
  · cases rx; cases ry; cases e
    exact wOp_of op_add ⟨_, _, rfl, rfl, k _ _ (.same (.int _))⟩
  · cases rx; cases ry
    split at e
    · rename_i h; cases e
      exact wOp_of op_add_str ⟨_, _, rfl, rfl, big_line h, k _ _ (.same (.str _))⟩
    · cases e
  · split at e
    · rename_i h; cases e
      cases rx with
      | lst e1 r1 =>
        cases ry with
        | lst e2 r2 => exact wOp_of op_cat ⟨_, _, _, _, rfl, rfl, e1, e2, by rw [← r1.length, ← r2.length]; exact big_line h, fun p hp => k _ _ (.newL hp (r1.append r2))⟩
    · cases e
  · split at e
    · rename_i h; cases e
      cases rx with
      | tup e1 r1 =>
        cases ry with
        | tup e2 r2 =>
          refine cat_tupW (s.sqT e1.sq) (s.sqT e2.sq) (by rw [← r1.length, ← r2.length]; exact big_line h) (fun z => ?_) (fun z => ?_) fun p o hp ho => k _ _ (.newT hp ho (r1.append r2))
          · subst z
            cases r1
            exact k _ _ (.same (.tup e2 r2))
          · subst z
            cases r2
            rw [List.append_nil] at k
            exact k _ _ (.same (.tup e1 r1))
    · cases e
  · cases rx; cases ry; cases e
    exact wOp_of op_sub ⟨_, _, rfl, rfl, k _ _ (.same (.int _))⟩
  · cases rx; cases ry
    split at e
    · rename_i h; cases e
      refine wOp_of op_mul ⟨_, _, rfl, rfl, ?_, k _ _ (.same (.int _))⟩
      unfold mulOk at h
      simpa [CMul] using h
    · cases e
  · cases ry
    split at e
    · rename_i h; cases e
      cases rx with
      | lst e1 r1 => exact wOp_of op_rep ⟨_, _, _, rfl, rfl, e1, by omega, by omega, by rw [← r1.length]; exact big_line h.2.2, fun p hp => k _ _ (.newL hp (r1.rep _))⟩
    · cases e
  · cases rx; cases ry
    split at e
    · rename_i h; cases e
      exact wOp_of op_fdivN ⟨_, _, rfl, rfl, h, k _ _ (.same (.int _))⟩
    · cases e
  · cases rx; cases ry
    split at e
    · rename_i h; cases e
      exact wOp_of op_modN ⟨_, _, rfl, rfl, h, k _ _ (.same (.int _))⟩
    · cases e
  · cases rx; cases ry
    split at e
    · rename_i h; cases e
      exact wOp_of op_pow ⟨_, _, rfl, rfl, h, k _ _ (.same (.int _))⟩
    · cases e
  · cases e
end

section
variable {X : Cx} {R H : Hp}
theorem scal_of {x y : D} {u v : V} (rx : RepH X.K R H x u) (ry : RepH X.K R H y v) (h : scalD x y = true) : scal u v = true ∧ decide (u = v) = eqD x y := by
  cases rx <;> cases ry <;> simp_all [scalD, scal, eqD]
  all_goals (rename_i a b; by_cases e : a = b <;> simp [e])
theorem atom_flat {x : D} {u : V} (rx : RepH X.K R H x u) (h : isAtom x = true) : flatV u = true := by
  cases rx <;> simp_all [isAtom, flatV]
theorem atomD_flat {x : D} {u : V} (rx : RepD X.K R x u) (h : isAtom x = true) : flatV u = true := by
  cases rx <;> simp_all [isAtom, flatV]
theorem atoms_flat : ∀ {xs : List D} {us : List V}, RepDs X.K R xs us → allAtom xs = true → us.all flatV = true
  | _, _, .nil, _ => rfl
  | _, _, .cons a b, h => by
    simp only [allAtom, Bool.and_eq_true] at h
    simp only [List.all_cons, atomD_flat a h.1, atoms_flat b h.2, Bool.and_self]
theorem eqV_atom {x y : D} {u v : V} (rx : RepH X.K R H x u) (ry : RepD X.K R y v) (h : isAtom x = true) (h' : isAtom y = true) : eqV v u = eqD y x := by
  cases rx <;> cases ry <;> simp_all [isAtom, eqV, eqD]
theorem inV_atom {x : D} {u : V} (rx : RepH X.K R H x u) (h : isAtom x = true) : ∀ {ys : List D} {vs : List V}, RepDs X.K R ys vs → allAtom ys = true → inV u vs = memD x ys
  | _, _, .nil, _ => rfl
  | _, _, .cons a b, g => by
    simp only [allAtom, Bool.and_eq_true] at g
    have ih := inV_atom rx h b g.2
    unfold inV at ih ⊢
    rw [List.any_cons, ih, eqV_atom rx a h g.1]
    rfl
theorem any_eqv {x : D} (f : flat x = true) : ∀ {ys : List D}, flats ys = true → (toPys ys).any (fun z => PyData.eqv z (toPy x)) = memD x ys
  | [], _ => rfl
  | y :: r, g => by
    simp only [flats, Bool.and_eq_true] at g
    show (PyData.eqv (toPy y) (toPy x) || (toPys r).any fun z => PyData.eqv z (toPy x)) = _
    rw [any_eqv f g.2, eqv_toPy y x g.1 f]
    rfl
theorem ok_flat {x : D} (h : okD x = true) : flat x = true := by
  unfold okD at h; rw [Bool.and_eq_true] at h; exact h.1
theorem repKs_len {K : Frag} {R : Hp} : ∀ {kvs : List (Key × D)} {ks : List (Key × V)}, RepKs K R kvs ks → kvs.length = ks.length
  | _, _, .nil => rfl
  | _, _, .cons _ r => by rw [List.length_cons, List.length_cons, repKs_len r]
theorem eqAt_scal {K : Frag} {R : Hp} {A : Around} {s : Shared} {x y : D} {u v : V} {p q : Value} (rx : RepD K R x u) (ry : RepD K R y v) (hp : RelV u p) (hq : RelV v q) (h : scalD x y = true) : SeqAt.EqAt A s p q (eqD x y) := by
  cases rx <;> cases ry <;> first | (simp [scalD] at h; done) | skip
  · obtain rfl : p = .none := hp
    obtain rfl : q = .none := hq
    exact .same _
  · obtain rfl : p = .none := hp
    obtain rfl : q = .bool _ := hq
    exact .none_bool _
  · obtain rfl : p = .none := hp
    obtain ⟨t, rfl⟩ := hq
    exact .none_int _ _
  · obtain rfl : p = .none := hp
    obtain ⟨t, rfl⟩ := hq
    exact .none_str _ _
  · obtain rfl : p = .bool _ := hp
    obtain rfl : q = .none := hq
    exact .bool_none _
  · obtain rfl : p = .bool _ := hp
    obtain rfl : q = .bool _ := hq
    exact .bool_bool _ _
  · obtain rfl : p = .bool _ := hp
    obtain ⟨t, rfl⟩ := hq
    exact .bool_str _ _ _
  · obtain ⟨t, rfl⟩ := hp
    obtain rfl : q = .none := hq
    exact .int_none _ _
  · obtain ⟨t, rfl⟩ := hp
    obtain ⟨t', rfl⟩ := hq
    exact .int_int _ _ _ _
  · obtain ⟨t, rfl⟩ := hp
    obtain ⟨t', rfl⟩ := hq
    exact .int_str _ _ _ _
  · obtain ⟨t, rfl⟩ := hp
    obtain rfl : q = .none := hq
    exact .str_none _ _
  · obtain ⟨t, rfl⟩ := hp
    obtain rfl : q = .bool _ := hq
    exact .str_bool _ _ _
  · obtain ⟨t, rfl⟩ := hp
    obtain ⟨t', rfl⟩ := hq
    exact .str_int _ _ _ _
  · obtain ⟨t, rfl⟩ := hp
    obtain ⟨t', rfl⟩ := hq
    exact .str_str _ _ _ _
theorem getK_at {K : Frag} {R : Hp} (k : Key) : ∀ {kvs : List (Key × D)} {ks : List (Key × V)} {us : List (Key × Value)}, RepKs K R kvs ks → KV ks us → (getK k kvs = none ∧ valueAt us k = none) ∨ ∃ x v u, getK k kvs = some x ∧ valueAt us k = some u ∧ RelV v u ∧ RepD K R x v
  | _, _, _, .nil, .nil => .inl ⟨rfl, rfl⟩
  | _, _, _, .cons (k := j) (x := x) (v := v) a r, .cons (b := q) h t => by
    obtain ⟨h1, h2⟩ := h
    obtain ⟨j', u⟩ := q
    have h1 : j = j' := h1
    subst h1
    by_cases e : j = k
    · exact .inr ⟨x, v, u, by unfold getK; rw [if_pos e], by simp [valueAt, List.find?_cons, e], h2, a⟩
    · have q1 : ∀ l : List (Key × D), getK k ((j, x) :: l) = getK k l := fun l => by rw [getK, if_neg (show ¬ ((j, x) : Key × D).1 = k from e)]
      have q2 : ∀ l : List (Key × Value), valueAt ((j, u) :: l) k = valueAt l k := fun l => by simp [valueAt, List.find?_cons, e]
      rw [q1, q2]
      exact getK_at k r t
theorem hits_of {K : Frag} {R : Hp} {A : Around} {s : Shared} {lvs : List (Key × D)} {ls : List (Key × V)} {vb : List (Key × Value)} (rl : RepKs K R lvs ls) (kb : KV ls vb) : ∀ {kvs : List (Key × D)} {ks : List (Key × V)} {va : List (Key × Value)} {b : Bool}, RepKs K R kvs ks → KV ks va → hitsD lvs kvs = some b → PySem.W.KeqHits A s vb va b
  | _, _, _, b, .nil, .nil, e => by
    cases e
    exact .nil
  | _, _, _, b, .cons (k := j) (x := x) (v := v) a r, .cons (b := q) h t, e => by
    obtain ⟨h1, h2⟩ := h
    obtain ⟨j', u⟩ := q
    have h1 : j = j' := h1
    subst h1
    unfold hitsD at e
    rcases getK_at j rl kb with ⟨e1, e2⟩ | ⟨y, w, z, e1, e2, e3, e4⟩
    · simp only [e1] at e
      cases e
      exact .miss e2
    · simp only [e1] at e
      split at e
      · rename_i hs
        obtain ⟨b', e5, rfl⟩ := Option.map_eq_some_iff.mp e
        exact .hit e2 (eqAt_scal a e4 h2 e3 hs) (hits_of rl kb r t e5)
      · cases e
theorem eq_ok (hu : X.A.units + 65 < cLine) {x y : D} {b : Bool} (e : eqC x y = some b) {u v : V} (s : Sub R H) (rx : RepH X.K R H x u) (ry : RepH X.K R H y v) {Q : VK} (k : Q (.bl b) H) :
    wOp X (compareOp .Eq) u v H Q := by
  unfold eqC at e
  split at e
  · rename_i h
    cases e
    rw [Bool.or_eq_true, Bool.and_eq_true] at h
    rcases h with h | ⟨h1, h2⟩
    · obtain ⟨q1, q2⟩ := scal_of rx ry h
      exact wOp_of op_eq ⟨q1, by rw [q2]; exact k⟩
    · exact wOp_of (op_eqD (by omega)) ⟨toPy x, toPy y, rx.dp s (ok_flat h1), ry.dp s (ok_flat h2), shaped_toPy h1, shaped_toPy h2, by rw [eqv_toPy x y (ok_flat h1) (ok_flat h2)]; exact k⟩
  · unfold eqK at e
    split at e
    · rename_i kvs lvs _
      obtain ⟨r, e1, rfl⟩ := Option.map_eq_some_iff.mp e
      cases rx with
      | dic ra rka =>
        cases ry with
        | dic rb rkb =>
          rename_i ad ks bd ls
          refine fun pins s' σ p q I hp hq => ?_
          obtain rfl : p = Value.ref ad := hp
          obtain rfl : q = Value.ref bd := hq
          obtain ⟨_, ya, va, kva, da⟩ := dk_rd I.hok ra
          obtain ⟨_, yb, vb, kvb, db⟩ := dk_rd I.hok rb
          have la : kvs.length = va.length := (repKs_len rka).trans (Paired.length kva)
          have lb : lvs.length = vb.length := (repKs_len rkb).trans (Paired.length kvb)
          exact PySem.W.keq_eq (knd := mixKind X.prog X.w) ya yb da db (by omega) (fun _ => hits_of rkb kvb rka kva e1) (by rw [← la, ← lb]; exact ⟨.bl _, H, I, rfl, k⟩)
    · cases e
theorem ne_ok (hu : X.A.units + 65 < cLine) {x y : D} {b : Bool} (e : eqC x y = some b) {u v : V} (s : Sub R H) (rx : RepH X.K R H x u) (ry : RepH X.K R H y v) {Q : VK} (k : Q (.bl (!b)) H) :
    wOp X (compareOp .NotEq) u v H Q := by
  unfold eqC at e
  split at e
  · rename_i h
    cases e
    rw [Bool.or_eq_true, Bool.and_eq_true] at h
    rcases h with h | ⟨h1, h2⟩
    · obtain ⟨q1, q2⟩ := scal_of rx ry h
      exact wOp_of op_ne ⟨q1, by rw [q2]; exact k⟩
    · exact wOp_of (op_neD (by omega)) ⟨toPy x, toPy y, rx.dp s (ok_flat h1), ry.dp s (ok_flat h2), shaped_toPy h1, shaped_toPy h2, by rw [eqv_toPy x y (ok_flat h1) (ok_flat h2)]; exact k⟩
  · unfold eqK at e
    split at e
    · rename_i kvs lvs _
      obtain ⟨r, e1, rfl⟩ := Option.map_eq_some_iff.mp e
      cases rx with
      | dic ra rka =>
        cases ry with
        | dic rb rkb =>
          rename_i ad ks bd ls
          refine fun pins s' σ p q I hp hq => ?_
          obtain rfl : p = Value.ref ad := hp
          obtain rfl : q = Value.ref bd := hq
          obtain ⟨_, ya, va, kva, da⟩ := dk_rd I.hok ra
          obtain ⟨_, yb, vb, kvb, db⟩ := dk_rd I.hok rb
          have la : kvs.length = va.length := (repKs_len rka).trans (Paired.length kva)
          have lb : lvs.length = vb.length := (repKs_len rkb).trans (Paired.length kvb)
          exact PySem.W.keq_ne (knd := mixKind X.prog X.w) ya yb da db (by omega) (fun _ => hits_of rkb kvb rka kva e1) (by rw [← la, ← lb]; exact ⟨.bl _, H, I, rfl, k⟩)
    · cases e
end
end Rf

set_option Elab.async false
set_option linter.all false
set_option maxRecDepth 100000
set_option maxHeartbeats 4000000
namespace Rf
open PySem PySem.Spec L2

section
variable {X : Cx} {R H : Hp}
theorem is_ok {x y : D} {b : Bool} (e : isC x y = some b) {u v : V} (rx : RepH X.K R H x u) (ry : RepH X.K R H y v) {Q : VK} (k : Q (.bl b) H) : wOp X (compareOp .Is) u v H Q := by
  unfold isC at e
  split at e
  · cases ry
    refine wOp_of op_isN ⟨rfl, ?_⟩
    split at e
    · cases rx; cases e; exact k
    · rename_i hx
      cases e
      have q : decide (u = V.non) = false := by
        cases rx <;> first | (exact absurd rfl hx) | simp
      rw [q]; exact k
  · cases rx; cases ry; cases e
    refine wOp_of op_isBl ⟨_, _, rfl, rfl, ?_⟩
    rw [← Bool.beq_eq_decide_eq]; exact k
  · cases e
theorem isnt_ok {x y : D} {b : Bool} (e : isC x y = some b) {u v : V} (rx : RepH X.K R H x u) (ry : RepH X.K R H y v) {Q : VK} (k : Q (.bl (!b)) H) : wOp X (compareOp .IsNot) u v H Q := by
  unfold isC at e
  split at e
  · cases ry
    refine wOp_of op_notN ⟨rfl, ?_⟩
    split at e
    · cases rx; cases e; exact k
    · rename_i hx
      cases e
      have q : decide (u = V.non) = false := by
        cases rx <;> first | (exact absurd rfl hx) | simp
      rw [q]; exact k
  · cases rx; cases ry; cases e
    refine wOp_of op_notBl ⟨_, _, rfl, rfl, ?_⟩
    rw [← Bool.beq_eq_decide_eq]; exact k
  · cases e

/-! ### tables -/
theorem getK_val {K : Frag} (k : Key) : ∀ {kvs : List (Key × D)} {ks : List (Key × V)}, RepKs K R kvs ks → (getK k kvs = none ∧ valV ks k = none) ∨ ∃ x v, getK k kvs = some x ∧ valV ks k = some v ∧ RepD K R x v
  | _, _, .nil => .inl ⟨rfl, rfl⟩
  | _, _, .cons (k := j) (x := x) (v := v) (xs := xs) (vs := vs) a b => by
    by_cases e : j = k
    · exact .inr ⟨x, v, by unfold getK; rw [if_pos e], valV_pos e, a⟩
    · have ih := getK_val k b
      have e1 : getK k ((j, x) :: xs) = getK k xs := by rw [getK]; rw [if_neg e]
      rw [e1, valV_neg (show ¬ ((j, v) : Key × V).1 = k from e)]
      exact ih
theorem getK_isSome {K : Frag} (k : Key) {kvs : List (Key × D)} {ks : List (Key × V)} (r : RepKs K R kvs ks) : (getK k kvs).isSome = (valV ks k).isSome := by
  rcases getK_val k r with ⟨a, b⟩ | ⟨x, v, a, b, _⟩ <;> rw [a, b] <;> rfl
theorem repK_map {K : Frag} {k : Key} {x : D} {v : V} (r : RepD K R x v) : ∀ {kvs : List (Key × D)} {ks : List (Key × V)}, RepKs K R kvs ks → RepKs K R (repK k x kvs) (ks.map fun kv => if kv.1 = k then (kv.1, v) else kv)
  | _, _, .nil => .nil
  | _, _, .cons (k := j) a b => by
    unfold repK
    rw [List.map_cons]
    by_cases e : j = k
    · rw [if_pos e, if_pos e]; exact .cons r (repK_map r b)
    · rw [if_neg e, if_neg e]; exact .cons a (repK_map r b)
theorem RepKs.append {K : Frag} : ∀ {xs ys : List (Key × D)} {vs us : List (Key × V)}, RepKs K R xs vs → RepKs K R ys us → RepKs K R (xs ++ ys) (vs ++ us)
  | _, _, _, _, .nil, s => s
  | _, _, _, _, .cons a r, s => .cons a (r.append s)
theorem RepKs.length {K : Frag} : ∀ {xs : List (Key × D)} {vs : List (Key × V)}, RepKs K R xs vs → xs.length = vs.length
  | _, _, .nil => rfl
  | _, _, .cons _ r => by rw [List.length_cons, List.length_cons, r.length]
theorem setK_put {K : Frag} {k : Key} {x : D} {v : V} (r : RepD K R x v) {kvs : List (Key × D)} {ks : List (Key × V)} (rs : RepKs K R kvs ks) : RepKs K R (setK k x kvs) (putK ks k v) := by
  unfold setK putK
  have h := getK_isSome k rs
  rw [valV_any]
  rcases getK_val k rs with ⟨a, b⟩ | ⟨x', v', a, b, _⟩
  · rw [a, b]
    exact rs.append (.cons r .nil)
  · rw [a, b]
    exact repK_map r rs
theorem mergK_merge {K : Frag} : ∀ {more : List (Key × D)} {ms : List (Key × V)} {kvs : List (Key × D)} {ks : List (Key × V)}, RepKs K R kvs ks → RepKs K R more ms → RepKs K R (mergK kvs more) (mergeK ks ms)
  | _, _, _, _, r, .nil => r
  | _, _, _, _, r, .cons (k := k) (x := x) (v := v) (xs := xs) (vs := vs) a b => by
    show RepKs K R (mergK (setK k x _) xs) (mergeK (putK _ k v) vs)
    exact mergK_merge (setK_put a r) b
theorem kV_of {K : Frag} {x : D} {u : V} {k : Key} (r : RepH K R H x u) (e : keyOf x = some k) : u = kV k := by
  cases r <;> simp [keyOf] at e <;> subst e <;> rfl
theorem kV_ofD {K : Frag} {x : D} {u : V} {k : Key} (r : RepD K R x u) (e : keyOf x = some k) : u = kV k := by
  cases r <;> simp [keyOf] at e <;> subst e <;> rfl
theorem ofKey_rep {K : Frag} (k : Key) : RepD K R (ofKey k) (kV k) := by
  cases k with
  | inl i => exact .int i
  | inr s => exact .str s

theorem inT_ok (hu : X.A.units + 65 < cLine) {x : D} {xs : List D} (h1 : okD x = true) (h2 : okD (.tup xs) = true) {u v : V} (s : Sub R H) (rx : RepH X.K R H x u) (ry : RepH X.K R H (.tup xs) v) {Q : VK} (k : Q (.bl (memD x xs)) H) : wOp X (compareOp .In) u v H Q := by
  intro pins s' σ a w I r1 r2
  obtain ⟨as, q1⟩ := Dp.reads I _ _ _ (rx.dp s (ok_flat h1)) r1
  obtain ⟨bs, q2⟩ := Dp.reads I _ _ _ (ry.dp s (ok_flat h2)) r2
  have f2 : flats xs = true := by simpa [flat] using ok_flat h2
  rw [show toPy (.tup xs) = .tuple (toPys xs) by simp [toPy]] at q2
  have d1 := h1
  unfold okD at d1
  rw [Bool.and_eq_true] at d1
  have d2 : dep x ≤ 64 := of_decide_eq_true d1.2
  refine SeqAt.in_tuple_reads q2 q1 (canLays_toPy f2) (canLay_toPy (ok_flat h1)) ?_ ⟨.bl _, H, I, rfl, ?_⟩
  · rw [depth_toPy d1.1]
    have := Nat.min_le_right (PyData.depthAll (toPys xs)) (dep x)
    omega
  · rw [any_eqv (ok_flat h1) f2]; exact k
theorem notinT_ok (hu : X.A.units + 65 < cLine) {x : D} {xs : List D} (h1 : okD x = true) (h2 : okD (.tup xs) = true) {u v : V} (s : Sub R H) (rx : RepH X.K R H x u) (ry : RepH X.K R H (.tup xs) v) {Q : VK} (k : Q (.bl (!memD x xs)) H) : wOp X (compareOp .NotIn) u v H Q := by
  intro pins s' σ a w I r1 r2
  obtain ⟨as, q1⟩ := Dp.reads I _ _ _ (rx.dp s (ok_flat h1)) r1
  obtain ⟨bs, q2⟩ := Dp.reads I _ _ _ (ry.dp s (ok_flat h2)) r2
  have f2 : flats xs = true := by simpa [flat] using ok_flat h2
  rw [show toPy (.tup xs) = .tuple (toPys xs) by simp [toPy]] at q2
  have d1 := h1
  unfold okD at d1
  rw [Bool.and_eq_true] at d1
  have d2 : dep x ≤ 64 := of_decide_eq_true d1.2
  refine SeqAt.notIn_tuple_reads q2 q1 (canLays_toPy f2) (canLay_toPy (ok_flat h1)) ?_ ⟨.bl _, H, I, rfl, ?_⟩
  · rw [depth_toPy d1.1]
    have := Nat.min_le_right (PyData.depthAll (toPys xs)) (dep x)
    omega
  · rw [any_eqv (ok_flat h1) f2]; exact k
/-! ### in -/
theorem in_ok (hu : X.A.units + 65 < cLine) {x y : D} {b : Bool} (e : inC x y = some b) {u v : V} (s : Sub R H) (rx : RepH X.K R H x u) (ry : RepH X.K R H y v) {Q : VK} (k : Q (.bl b) H) : wOp X (compareOp .In) u v H Q := by
  unfold inC at e
  split at e
  · split at e
    · rename_i h
      cases e
      have ry0 := ry
      cases ry with
      | lst e1 r1 =>
        rw [Bool.or_eq_true, Bool.and_eq_true, Bool.and_eq_true] at h
        rcases h with ⟨h1, h2⟩ | ⟨h1, h2⟩
        · refine wOp_of op_in_seq ⟨_, _, rfl, .inl (.of e1), atom_flat rx h1, atoms_flat r1 h2, ?_⟩
          show Q (.bl (inV _ _)) H
          rw [inV_atom rx h1 r1 h2]; exact k
        · refine wOp_of (op_inD hu) ⟨toPy x, _, rx.dp s (ok_flat h1), ry0.dp s (ok_flat h2), shaped_toPy h1, shaped_toPy h2, ?_⟩
          rw [any_eqv (ok_flat h1) (by simpa [flat] using ok_flat h2)]; exact k
    · cases e
  · split at e
    · rename_i h
      cases e
      have ry0 := ry
      rw [Bool.or_eq_true, Bool.and_eq_true, Bool.and_eq_true] at h
      cases ry with
      | tup e1 r1 =>
        rcases h with h | ⟨h1, h2⟩
        · refine wOp_of op_in_seq ⟨_, _, rfl, .inr (s.sqT e1.sq), atom_flat rx h.1, atoms_flat r1 h.2, ?_⟩
          show Q (.bl (inV _ _)) H
          rw [inV_atom rx h.1 r1 h.2]; exact k
        · exact inT_ok hu h1 h2 s rx ry0 k
    · cases e
  · split at e
    · cases rx; cases ry; cases e
      exact wOp_of op_in_str ⟨_, _, rfl, rfl, k⟩
    · cases e
  · split at e
    · rename_i hk
      cases e
      cases ry with
      | dic e1 r1 =>
        intro pins s' σ a w I r1' r2'
        cases r2'
        obtain rfl := kV_of rx hk
        refine d_in (by omega) I (.inl ⟨_, _, e1, rfl, rfl⟩) r1' fun s1 I1 => ?_
        rw [← getK_isSome _ r1]
        exact ⟨.bl _, H, I1, rfl, k⟩
    · cases e
  · cases e
theorem notin_ok (hu : X.A.units + 65 < cLine) {x y : D} {b : Bool} (e : inC x y = some b) {u v : V} (s : Sub R H) (rx : RepH X.K R H x u) (ry : RepH X.K R H y v) {Q : VK} (k : Q (.bl (!b)) H) : wOp X (compareOp .NotIn) u v H Q := by
  unfold inC at e
  split at e
  · split at e
    · rename_i h
      cases e
      have ry0 := ry
      cases ry with
      | lst e1 r1 =>
        rw [Bool.or_eq_true, Bool.and_eq_true, Bool.and_eq_true] at h
        rcases h with ⟨h1, h2⟩ | ⟨h1, h2⟩
        · refine wOp_of op_notIn_seq ⟨_, _, rfl, .inl (.of e1), atom_flat rx h1, atoms_flat r1 h2, ?_⟩
          show Q (.bl (!inV _ _)) H
          rw [inV_atom rx h1 r1 h2]; exact k
        · refine wOp_of (op_notInD hu) ⟨toPy x, _, rx.dp s (ok_flat h1), ry0.dp s (ok_flat h2), shaped_toPy h1, shaped_toPy h2, ?_⟩
          rw [any_eqv (ok_flat h1) (by simpa [flat] using ok_flat h2)]; exact k
    · cases e
  · split at e
    · rename_i h
      cases e
      have ry0 := ry
      rw [Bool.or_eq_true, Bool.and_eq_true, Bool.and_eq_true] at h
      cases ry with
      | tup e1 r1 =>
        rcases h with h | ⟨h1, h2⟩
        · refine wOp_of op_notIn_seq ⟨_, _, rfl, .inr (s.sqT e1.sq), atom_flat rx h.1, atoms_flat r1 h.2, ?_⟩
          show Q (.bl (!inV _ _)) H
          rw [inV_atom rx h.1 r1 h.2]; exact k
        · exact notinT_ok hu h1 h2 s rx ry0 k
    · cases e
  · split at e
    · cases rx; cases ry; cases e
      exact wOp_of op_notin_str ⟨_, _, rfl, rfl, k⟩
    · cases e
  · split at e
    · rename_i hk
      cases e
      cases ry with
      | dic e1 r1 =>
        intro pins s' σ a w I r1' r2'
        cases r2'
        obtain rfl := kV_of rx hk
        refine d_notIn (by omega) I (.inl ⟨_, _, e1, rfl, rfl⟩) r1' fun s1 I1 => ?_
        rw [← getK_isSome _ r1]
        exact ⟨.bl _, H, I1, rfl, k⟩
    · cases e
  · cases e
theorem lt_ok (hu : X.A.units + 65 < cLine) {xs ys : List D} (h : (okD (.tup xs) && okD (.tup ys) && alikeD (.tup xs) (.tup ys)) = true) {u v : V} (s : Sub R H) (rx : RepH X.K R H (.tup xs) u) (ry : RepH X.K R H (.tup ys) v) {Q : VK}
    (k : Q (.bl (ltD (.tup xs) (.tup ys))) H) : wOp X (compareOp .Lt) u v H Q := by
  rw [Bool.and_eq_true, Bool.and_eq_true] at h
  intro pins s' σ a w I r1 r2
  obtain ⟨as, q1⟩ := Dp.reads I _ _ _ (rx.dp s (ok_flat h.1.1)) r1
  obtain ⟨bs, q2⟩ := Dp.reads I _ _ _ (ry.dp s (ok_flat h.1.2)) r2
  refine PySem.W.lt_data q1 q2 h.2 (by simp [toPy]) ?_ ⟨.bl _, H, I, rfl, k⟩
  have d1 := h.1.1
  unfold okD at d1
  rw [Bool.and_eq_true] at d1
  have d2 : dep (.tup xs) ≤ 64 := of_decide_eq_true d1.2
  rw [depth_toPy d1.1]
  omega
theorem cmp_ok (hu : X.A.units + 65 < cLine) (p : COp) {x y : D} {b : Bool} (e : opCmp p x y = some b) {u v : V} (s : Sub R H) (rx : RepH X.K R H x u) (ry : RepH X.K R H y v) {Q : VK} (k : Q (.bl b) H) :
    wOp X (compareOp p.py) u v H Q := by
  unfold opCmp at e
  split at e
  · exact eq_ok hu e s rx ry k
  · obtain ⟨c, e1, rfl⟩ := Option.map_eq_some_iff.mp e
    exact ne_ok hu e1 s rx ry k
  · cases rx; cases ry; cases e; exact wOp_of op_lt ⟨_, _, rfl, rfl, k⟩
  · cases rx; cases ry; cases e; exact wOp_of op_lt_str ⟨_, _, rfl, rfl, k⟩
  · split at e
    · rename_i h; cases e; exact lt_ok hu h s rx ry k
    · cases e
  · cases rx; cases ry; cases e; exact wOp_of op_le ⟨_, _, rfl, rfl, k⟩
  · cases rx; cases ry; cases e; exact wOp_of op_gt ⟨_, _, rfl, rfl, k⟩
  · cases rx; cases ry; cases e; exact wOp_of op_ge ⟨_, _, rfl, rfl, k⟩
  · exact is_ok e rx ry k
  · obtain ⟨c, e1, rfl⟩ := Option.map_eq_some_iff.mp e
    exact isnt_ok e1 rx ry k
  · exact in_ok hu e s rx ry k
  · obtain ⟨c, e1, rfl⟩ := Option.map_eq_some_iff.mp e
    exact notin_ok hu e1 s rx ry k
  · cases e

/-! ### truth -/
theorem tru_of {x : D} {b : Bool} (e : truD x = some b) {u : V} (s : Sub R H) (rx : RepH X.K R H x u) : TruV X.K u H b := by
  unfold truD at e
  split at e <;> cases e <;> cases rx
  · rfl
  · rfl
  · rfl
  · rename_i e1 r1
    refine .inl ⟨_, .of e1, ?_⟩
    cases r1 <;> rfl
  · rename_i e1 r1
    refine .inr (.inl ⟨_, s.sqT e1.sq, ?_⟩)
    cases r1 <;> rfl
end
end Rf

set_option Elab.async false
set_option linter.all false
set_option maxRecDepth 100000
set_option maxHeartbeats 4000000
namespace Rf
open PySem PySem.Spec L2

def BI.fv : BI → Value
  | .len => .builtin "len" | .abs => .builtin "abs" | .int => .type "int" | .tuple => .type "tuple" | .list => .type "list" | .dict => .type "dict"
  | .sorted => .builtin "sorted" | .all => .builtin "all" | .any => .builtin "any" | .sum => .builtin "sum" | .min => .builtin "min" | .max => .builtin "max" | .str => .type "str"

section
variable {X : Cx} {R H : Hp}
theorem zip_each (I : Inv X pins σ H s) (h : Sub R H) : ∀ {xs : List D} {vs : List V} {its : List Value}, RepDs X.K R xs vs → Vals vs its → flats xs = true →
    PySem.W.EachIs (fun v (b : D × V) => RelV b.2 v ∧ RepD X.K R b.1 b.2) its (xs.zip vs) ∧ PySem.W.EachIs (fun v (b : D × V) => ∃ as, Reads s.heap v (toPy b.1) as) its (xs.zip vs)
  | _, _, _, .nil, .nil, _ => ⟨.nil, .nil⟩
  | _, _, _, .cons a b, .cons c d, f => by
    simp only [flats, Bool.and_eq_true] at f
    obtain ⟨q1, q2⟩ := zip_each I h b d f.2
    exact ⟨.cons ⟨c, a⟩ q1, .cons (Dp.reads I _ _ _ (RepD.dp h a f.1) c) q2⟩
theorem zip_fst : ∀ {xs : List D} {vs : List V}, RepDs X.K R xs vs → (xs.zip vs).map (·.1) = xs
  | _, _, .nil => rfl
  | _, _, .cons a b => by rw [List.zip_cons_cons, List.map_cons, zip_fst b]
theorem each_out : ∀ {its : List Value} {bs : List (D × V)}, PySem.W.EachIs (fun v (b : D × V) => RelV b.2 v ∧ RepD X.K R b.1 b.2) its bs → Vals (bs.map (·.2)) its ∧ RepDs X.K R (bs.map (·.1)) (bs.map (·.2))
  | _, _, .nil => ⟨.nil, .nil⟩
  | _, _, .cons a b => let ⟨q1, q2⟩ := each_out b; ⟨.cons a.1 q1, .cons a.2 q2⟩
theorem alls {p : D → Bool} {xs : List D} (h : xs.all p = true) {x : D} (m : x ∈ xs) : p x = true := List.all_eq_true.mp h x m
theorem flats_of : ∀ {xs : List D}, xs.all okD = true → flats xs = true
  | [], _ => rfl
  | x :: r, h => by
    rw [List.all_cons, Bool.and_eq_true] at h
    unfold flats
    rw [ok_flat h.1, flats_of h.2]
    rfl
theorem sorted_ok (hu : X.A.units + 70 < cLine) {xs ys : List D} (e : sortD xs = some ys) {u : V} (s : Sub R H) (rx : RepH X.K R H (.lst xs) u) {Q : VK} (k : ∀ z H', Outp X.K R H (.lst ys, true) z H' → Q z H') :
    wCall X (.builtin "sorted") [u] H Q := by
  unfold sortD at e
  split at e
  · rename_i h
    cases e
    unfold sortOk at h
    simp only [Bool.and_eq_true] at h
    obtain ⟨⟨⟨h1, h2⟩, h3⟩, h4⟩ := h
    cases rx with
    | @lst a0 vs _ e1 r1 =>
      intro pins st σ us I r
      obtain ⟨u', rfl, ru⟩ := vals1 r
      cases ru
      obtain ⟨its, rv, hl, hz⟩ := I.list (.of e1)
      obtain ⟨q1, q2⟩ := zip_each I s r1 rv (flats_of h1)
      have lz : (xs.zip vs).length = xs.length := by rw [List.length_zip, ← r1.length, Nat.min_self]
      refine PySem.W.sorted_data (enc := fun b : D × V => toPy b.1) hl.isList q1 q2 ?_ ?_ ?_ ?_ fun out ho eo => ?_
      · intro d hd d' hd'
        obtain ⟨b, hb, rfl⟩ := List.mem_map.mp hd
        obtain ⟨b', hb', rfl⟩ := List.mem_map.mp hd'
        exact alls (alls h2 (List.of_mem_zip hb).1) (List.of_mem_zip hb').1
      · rw [Bool.or_eq_true] at h3
        rcases h3 with h3 | h3
        · refine .inl fun d hd => ?_
          obtain ⟨b, hb, rfl⟩ := List.mem_map.mp hd
          have q := alls h3 (List.of_mem_zip hb).1
          revert q
          cases b.1 <;> simp [tupNe, toPy]
          rename_i zs
          cases zs <;> simp [tupNe, toPys]
        · refine .inr fun d hd => ?_
          obtain ⟨b, hb, rfl⟩ := List.mem_map.mp hd
          have q := alls h3 (List.of_mem_zip hb).1
          revert q
          cases b.1 <;> simp [notTup, toPy]
      · rw [lz]; exact big_line (of_decide_eq_true h4)
      · intro b hb
        have q := alls h1 (List.of_mem_zip hb).1
        have q' := q
        unfold okD at q
        rw [Bool.and_eq_true] at q
        have d2 : dep b.1 ≤ 64 := of_decide_eq_true q.2
        rw [depth_toPy q.1]
        omega
      · obtain ⟨w1, w2⟩ := each_out eo
        obtain ⟨c, hc⟩ := PyProof.Rows.sortedAll_at st.heap its out.toArray
        have em : ((xs.zip vs).mergeSort (PySem.W.dataLe false fun b : D × V => toPy b.1)).map (·.1) = xs.mergeSort leD := by
          rw [List.map_mergeSort (s := leD), zip_fst r1]
          intro a _ b _
          rfl
        rw [em] at w2
        refine ⟨.ref (st.heap.objs.size + 1), _, I.laid (t' := st.toks) (o := .lst _) (fun b o q => PyProof.Rows.sortedAll_old q) (Nat.le_succ _) ⟨?_, out, c, w1, hc⟩, rfl, k _ _ (.newL (I.hok.fresh (Nat.le_succ _)) w2)⟩
        rw [w1.length, ho, lz]
        exact big_line (of_decide_eq_true h4)
  · cases e
theorem ints_rep {K : Frag} : ∀ {xs : List D} {is : List Int} {vs : List V}, intsOf xs = some is → RepDs K R xs vs → vs = is.map V.int
  | [], _, _, e, .nil => by cases e; rfl
  | .int i :: r, _, _, e, .cons a b => by
    unfold intsOf at e
    split at e
    · rename_i q; cases e; cases a; rw [List.map_cons, ints_rep q b]
    · cases e
theorem bls_rep {K : Frag} : ∀ {xs : List D} {is : List Bool} {vs : List V}, blsOf xs = some is → RepDs K R xs vs → vs = is.map V.bl
  | [], _, _, e, .nil => by cases e; rfl
  | .bl i :: r, _, _, e, .cons a b => by
    unfold blsOf at e
    split at e
    · rename_i q; cases e; cases a; rw [List.map_cons, bls_rep q b]
    · cases e
theorem minZ_is : ∀ (is : List Int) (m : Int), (minZ m is = m ∨ minZ m is ∈ is) ∧ minZ m is ≤ m ∧ ∀ y ∈ is, minZ m is ≤ y
  | [], m => ⟨.inl rfl, Int.le_refl _, fun _ h => nomatch h⟩
  | x :: r, m => by
    unfold minZ
    by_cases h : x < m
    · rw [if_pos h]
      obtain ⟨h1, h2, h3⟩ := minZ_is r x
      refine ⟨?_, by omega, fun y hy => ?_⟩
      · rcases h1 with q | q
        · exact .inr (by rw [q]; exact List.mem_cons_self)
        · exact .inr (List.mem_cons_of_mem _ q)
      · rcases List.mem_cons.mp hy with rfl | hy
        · exact h2
        · exact h3 y hy
    · rw [if_neg h]
      obtain ⟨h1, h2, h3⟩ := minZ_is r m
      refine ⟨?_, h2, fun y hy => ?_⟩
      · rcases h1 with q | q
        · exact .inl q
        · exact .inr (List.mem_cons_of_mem _ q)
      · rcases List.mem_cons.mp hy with rfl | hy
        · omega
        · exact h3 y hy
theorem maxZ_is : ∀ (is : List Int) (m : Int), (maxZ m is = m ∨ maxZ m is ∈ is) ∧ m ≤ maxZ m is ∧ ∀ y ∈ is, y ≤ maxZ m is
  | [], m => ⟨.inl rfl, Int.le_refl _, fun _ h => nomatch h⟩
  | x :: r, m => by
    unfold maxZ
    by_cases h : m < x
    · rw [if_pos h]
      obtain ⟨h1, h2, h3⟩ := maxZ_is r x
      refine ⟨?_, by omega, fun y hy => ?_⟩
      · rcases h1 with q | q
        · exact .inr (by rw [q]; exact List.mem_cons_self)
        · exact .inr (List.mem_cons_of_mem _ q)
      · rcases List.mem_cons.mp hy with rfl | hy
        · exact h2
        · exact h3 y hy
    · rw [if_neg h]
      obtain ⟨h1, h2, h3⟩ := maxZ_is r m
      refine ⟨?_, h2, fun y hy => ?_⟩
      · rcases h1 with q | q
        · exact .inl q
        · exact .inr (List.mem_cons_of_mem _ q)
      · rcases List.mem_cons.mp hy with rfl | hy
        · omega
        · exact h3 y hy
theorem tupleW {a : Addr} {vs : List V} {Q : VK} (h : SqL X.K H a vs) (k : ∀ p o, H p = none → o.dict = none → Q (.ref p) (upd H p (.frz o (.tup vs)))) : wCall X (.type "tuple") [.ref a] H Q := by
  intro pins st σ us I r
  obtain ⟨u', rfl, ru⟩ := vals1 r
  cases ru
  obtain ⟨its, rv, pl, z⟩ := I.list h
  have el := rv.length
  refine PySem.call_tuple_list pl.isList (fun h' kp => ?_) (by simp only [List.size_toArray]; omega)
  have J : Inv X pins σ H { st with heap := h' } := I.kept (t' := st.toks) kp
  exact new_tup (tk := st.toks) J rv z k
/-- the pairs that a list or a tuple holds -/
theorem pairs_rep (I : Inv X pins σ H s) (h : Sub R H) : ∀ {xs : List D} {ps : List (Key × D)} {vs : List V} {its : List Value}, pairsOf xs = some ps → RepDs X.K R xs vs → Vals vs its →
    ∃ (Ts : Nat → Addr) (qs : List (Value × Value)) (ks : List (Key × V)) (kw : List (Key × Value)), RepKs X.K R ps ks ∧ KV ks kw ∧ kw.length = its.length ∧ qs.length = its.length ∧
      (∀ j k v, qs[j]? = some (k, v) → its[j]? = some (.ref (Ts j)) ∧ PySem.PairAt s.heap (Ts j) k v) ∧ ∀ (j : Nat) (k : Value) (v : Value), qs[j]? = some (k, v) → ∃ q, kw[j]? = some (q, v) ∧ keyIs q k = true
  | [], _, _, _, e, .nil, .nil => by
    cases e
    exact ⟨fun _ => 0, [], [], [], .nil, .nil, rfl, rfl, fun j k v e => by simp at e, fun j k v e => by simp at e⟩
  | x :: xs, _, _, _, e, .cons a b, .cons (b := u) c d => by
    unfold pairsOf at e
    split at e
    · rename_i p ps e1 e2
      cases e
      obtain ⟨Ts, qs, ks, kw, h1, h2, h3, h4, h5, h6⟩ := pairs_rep I h e2 b d
      unfold pairOf at e1
      split at e1
      · rename_i kd vd
        split at e1
        · rename_i key ek
          cases e1
          cases a with
          | @tup ta _ _ t1 t2 =>
            cases t2 with
            | @cons _ kv0 _ _ ra rb =>
              cases rb with
              | @cons _ tv _ _ rc rd =>
                cases rd
                cases c
                obtain ⟨w, rw', it, _⟩ := I.tuple (h.sqT t1.sq)
                obtain ⟨u1, u2, rfl, k1, k2⟩ := vals2 rw'
                obtain rfl := kV_ofD ra ek
                refine ⟨fun j => match j with | 0 => ta | j + 1 => Ts j, (u1, u2) :: qs, (key, tv) :: ks, (key, u2) :: kw, .cons rc h1, .cons ⟨rfl, k2⟩ h2, by simp [h3], by simp [h4], fun j k v q => ?_, fun j k v q => ?_⟩
                · cases j with
                  | zero =>
                    simp at q
                    obtain ⟨rfl, rfl⟩ := q
                    exact ⟨rfl, .inl it⟩
                  | succ j => exact h5 j k v (by simpa using q)
                · cases j with
                  | zero =>
                    simp at q
                    obtain ⟨rfl, rfl⟩ := q
                    exact ⟨key, rfl, kV_is (P := X.prog) (w := X.w) k1⟩
                  | succ j => simpa using h6 j k v (by simpa using q)
        · cases e1
      · cases e1
    · cases e

theorem dictW (hc : X.calm = true) {xs : List D} {ps : List (Key × D)} {a : Addr} {T : String} {vs : List V} (e : pairsOf xs = some ps) (hz : ps.length ≤ big) (h : Sub R H) (r : RepDs X.K R xs vs)
    (at_ : ∀ {pins σ st}, Inv X pins σ H st → ∃ its : List Value, Vals vs its ∧ ((T = "list" ∧ PySem.PlainSeq "list" st.heap a its.toArray) ∨ (T = "tuple" ∧ PySem.PlainSeq "tuple" st.heap a its.toArray))) {Q : VK} (k : ∀ z H', Outp X.K R H (.dic (mergK [] ps), true) z H' → Q z H') :
    wCall X (.type "dict") [.ref a] H Q := by
  intro pins st σ us I r0
  obtain ⟨u', rfl, ru⟩ := vals1 r0
  cases ru
  obtain ⟨its, rv, hp⟩ := at_ I
  obtain ⟨Ts, qs, ks, kw, h1, h2, h3, h4, h5, h6⟩ := pairs_rep I h e r rv
  have len : kw.length = qs.length := by rw [h3, h4]
  have fin : ∀ h' tk, h'.DictOf (mixKind X.prog X.w) st.heap.objs.size (merged [] kw) → (∀ b o, st.heap.get? b = some o → h'.get? b = some o) → EP X pins σ Q (.ref st.heap.objs.size) { st with heap := h', toks := tk } := fun h' tk hd kp => by
    have hm : (st.heap.objs.size == sysModules) = false := beq_eq_false_iff_ne.mpr (Nat.ne_of_gt I.big)
    refine ⟨.ref _, _, I.laid (o := .dK (mergeK [] ks)) kp (Nat.le_refl _) ⟨?_, hm, _, KV.merge h2 .nil, hd⟩, rfl, k _ _ (.newD (I.hok.fresh (Nat.le_refl _)) (mergK_merge .nil h1))⟩
    refine Nat.le_trans (length_mergeK ks []) ?_
    rw [List.length_nil, Nat.zero_add, ← h1.length]
    exact big_line hz
  have ph : PySem.PairsHave (mixKind X.prog X.w) qs.length (PySem.PairRel qs) kw := ⟨len, fun i key v q => h6 i key v q⟩
  have items : PySem.PairItems st.heap its.toArray Ts qs := ⟨by simp [h4], fun j k v q => ⟨by simpa using (h5 j k v q).1, (h5 j k v q).2⟩⟩
  have zl : qs.length ≤ sizeLine := by rw [← len, ← Paired.length h2, ← h1.length]; exact big_line hz
  rcases hp with ⟨_, hp⟩ | ⟨_, hp⟩
  · exact PySem.call_dict_pairs (PySem.PairArg.list a its.toArray Ts qs) (I.ok.hd hc) ⟨hp, items⟩ ph zl fun h' tk hd kp => fin h' tk hd fun b o q => kp b o (by simp) q
  · exact PySem.call_dict_pairs (PySem.PairArg.tuple a its.toArray Ts qs) (I.ok.hd hc) ⟨hp, items⟩ ph zl fun h' tk hd kp => fin h' tk hd fun b o q => kp b o (by simp) q
theorem PTu.plain {pins : List (Addr × Obj)} {σ : L2.St} {st : Shared} {a : Addr} {vs : List V} (s : Sub R H) (p : PTu X.K R a vs) (I : Inv X pins σ H st) : ∃ its : List Value, Vals vs its ∧ PySem.PlainSeq "tuple" st.heap a its.toArray := by
  rcases p with ⟨o, e, d⟩ | ⟨o, its, n, h1, h2, h3, h4, _, h6⟩
  · rcases s _ _ e with q | ⟨_, _, q, _⟩
    · obtain ⟨ho, z, us, r, o', ho', c, n, dd⟩ := I.hok _ _ q
      rw [ho] at ho'
      cases ho'
      exact ⟨us, r, o, n, ho, c, d, dd⟩
    · cases q
  · exact ⟨its.toList, h6, o, n, I.kIn _ _ h1, h2, h3, by simpa using h4⟩
mutual
theorem reads_low {h : Heap} : ∀ {v : Value} {d : PyData} {as : List Addr}, Reads h v d as → ∀ a ∈ as, a < h.objs.size
  | _, _, _, .none, a, m => by cases m
  | _, _, _, .bool _, a, m => by cases m
  | _, _, _, .int _ _, a, m => by cases m
  | _, _, _, .str _ _, a, m => by cases m
  | _, _, _, .list e _ _ r, a, m => by
    rcases List.mem_cons.mp m with rfl | m
    · exact Heap.lt_size e
    · exact readsAll_low r a m
  | _, _, _, .tuple _ _ _ r, a, m => readsAll_low r a m
  | _, _, _, .dict e _ _ r1 r2, a, m => by
    rcases List.mem_append.mp m with m | m
    · rcases List.mem_cons.mp m with rfl | m
      · exact Heap.lt_size e
      · exact readsAll_low r1 a m
    · exact readsAll_low r2 a m
theorem readsAll_low {h : Heap} : ∀ {v : List Value} {d : List PyData} {as : List Addr}, ReadsAll h v d as → ∀ a ∈ as, a < h.objs.size
  | _, _, _, .nil, a, m => by cases m
  | _, _, _, .cons r rs, a, m => by
    rcases List.mem_append.mp m with m | m
    · exact reads_low r a m
    · exact readsAll_low rs a m
end
/-- sorted of a thing whose items are collected -/
theorem sorted_gen (hu : X.A.units + 70 < cLine) {xs ys : List D} (e : sortD xs = some ys) {v : Value} {vs : List V} {its : List Value} {pins : List (Addr × Obj)} {σ : L2.St} {st : Shared} (I : Inv X pins σ H st) (s : Sub R H) (r1 : RepDs X.K R xs vs) (rv : Vals vs its)
    (col : ∀ P : List Value → Shared → Prop, (∀ h' tk, (∀ b o, st.heap.get? b = some o → h'.get? b = some o) → P its { st with heap := h', toks := tk }) → wpAny (model X.prog X.w) X.A.in1 (collect v) P X.xe st)
    {Q : VK} (k : ∀ z H', Outp X.K R H (.lst ys, true) z H' → Q z H') : wpAny (model X.prog X.w) X.A (call (.builtin "sorted") [v]) (EP X pins σ Q) X.xe st := by
  unfold sortD at e
  split at e
  · rename_i so
    cases e
    unfold sortOk at so
    simp only [Bool.and_eq_true] at so
    obtain ⟨⟨⟨h1, h2⟩, h3⟩, h4⟩ := so
    have small : xs.length ≤ big := of_decide_eq_true h4
    have li : its.length = xs.length := by rw [← rv.length, ← r1.length]
    refine PySem.Calls.call_function_entry PyProof.Rows.kind_sorted PyProof.Rows.plain_sorted PyProof.Rows.entry_sorted (PyProof.Rows.args_sorted1 _) ?_
    unfold Builtin.«sorted»
    refine wpAny_bind (m := checkCount "sorted" 1 1 _) (wpAny_pure ?_)
    refine wpAny_bind (col _ fun g tk keep => ?_)
    have I1 : Inv X pins σ H { st with heap := g, toks := tk } := I.kept (t' := tk) keep
    obtain ⟨q1, q2⟩ := zip_each I1 s r1 rv (flats_of h1)
    have lz : (xs.zip vs).length = xs.length := by rw [List.length_zip, ← r1.length, Nat.min_self]
    refine wpAny_bind (wpAny_newList ?_ (by rw [li]; exact big_line small))
    have ho : (g.push { cls := .type "list", data := .seq its.toArray }).get? g.objs.size = some (PyProof.Rows.seqObj "list" its.toArray 0) := Heap.get?_push_size _ rfl
    have er : PySem.W.EachIs (fun v (b : D × V) => ∃ ys, Reads (g.push { cls := .type "list", data := .seq its.toArray }) v (toPy b.1) ys ∧ g.objs.size ∉ ys) its (xs.zip vs) :=
      q2.mono fun v b ⟨ys, r⟩ => ⟨ys, PyProof.Rows.Reads.keeps (fun b o e => Heap.get?_push_of_some _ e) r, fun z => Nat.lt_irrefl _ (reads_low r _ z)⟩
    refine wpAny_bind (wpAny_holding (PySem.W.list_sort_data (A := X.A.in1) (s := { st with heap := g.push { cls := .type "list", data := .seq its.toArray }, toks := tk }) (enc := fun b : D × V => toPy b.1) ho q1 er ?_ ?_ ?_ ?_ fun out lo eo => ?_))
    · intro d hd d' hd'
      obtain ⟨b, hb, rfl⟩ := List.mem_map.mp hd
      obtain ⟨b', hb', rfl⟩ := List.mem_map.mp hd'
      exact alls (alls h2 (List.of_mem_zip hb).1) (List.of_mem_zip hb').1
    · rw [Bool.or_eq_true] at h3
      rcases h3 with h3 | h3
      · refine .inl fun d hd => ?_
        obtain ⟨b, hb, rfl⟩ := List.mem_map.mp hd
        have q := alls h3 (List.of_mem_zip hb).1
        revert q
        cases b.1 <;> simp [tupNe, toPy]
        rename_i zs
        cases zs <;> simp [tupNe, toPys]
      · refine .inr fun d hd => ?_
        obtain ⟨b, hb, rfl⟩ := List.mem_map.mp hd
        have q := alls h3 (List.of_mem_zip hb).1
        revert q
        cases b.1 <;> simp [notTup, toPy]
    · rw [lz]; exact big_line small
    · intro b hb
      have q := alls h1 (List.of_mem_zip hb).1
      unfold okD at q
      rw [Bool.and_eq_true] at q
      have d2 : dep b.1 ≤ 64 := of_decide_eq_true q.2
      rw [depth_toPy q.1]
      show X.A.units + 1 + 1 + dep b.1 < cLine
      omega
    · obtain ⟨w1, w2⟩ := each_out eo
      obtain ⟨c, hcc⟩ := PyProof.Rows.sortedHeap_at (vs := its) (out := out.toArray) ho
      have em : ((xs.zip vs).mergeSort (PySem.W.dataLe false fun b : D × V => toPy b.1)).map (·.1) = xs.mergeSort leD := by
        rw [List.map_mergeSort (s := leD), zip_fst r1]
        intro a _ b _
        rfl
      rw [em] at w2
      have hB : H g.objs.size = none := I1.hok.fresh (Nat.le_refl _)
      refine wpAny_pure ⟨_, rfl, ?_⟩
      refine ⟨.ref g.objs.size, _, I1.laid (t' := tk) (o := .lst _) (fun b o e => ?_) (Nat.le_refl _) ⟨?_, out, c, w1, hcc⟩, rfl, k _ _ (.newL hB w2)⟩
      · have hb := Heap.lt_size e
        rw [PyProof.Rows.sortedHeap_old (Nat.ne_of_lt hb) (by rw [PyProof.Rows.size_push']; exact Nat.lt_succ_of_lt hb)]
        exact Heap.get?_push_of_some _ e
      · rw [w1.length, lo, lz]; exact big_line small
  · cases e
theorem evB_ok (hc : X.calm = true) (hu : X.A.units + 70 < cLine) (p : BI) {xs : List D} {r : Res} (e : evB p xs = some r) {vs : List V} (s : Sub R H) (rx : Paired (RepH X.K R H) xs vs) {Q : VK} (k : ∀ z H', Outp X.K R H r z H' → Q z H') :
    wCall X p.fv vs H Q := by
  unfold evB at e
  split at e
  -- len
  · cases e
    cases rx with | cons a b => cases b; cases a with | lst e1 r1 => exact wCall_of call_len ⟨_, _, rfl, .inl ⟨_, .of e1, rfl⟩, by rw [← r1.length]; exact k _ _ (.same (.int _))⟩
  · cases e
    cases rx with | cons a b => cases b; cases a with | tup e1 r1 => exact wCall_of call_len ⟨_, _, rfl, .inr ⟨_, s.sqT e1.sq, rfl⟩, by rw [← r1.length]; exact k _ _ (.same (.int _))⟩
  · cases e
    cases rx with | cons a b => cases b; cases a with | scr e1 => exact wCall_of call_len ⟨_, _, rfl, .inl ⟨_, s.sqL e1, rfl⟩, by rw [List.length_map]; exact k _ _ (.same (.int _))⟩
  · cases e
    cases rx with
    | cons a b =>
      cases b
      cases a with
      | dic e1 r1 =>
        intro pins st σ us I r0
        obtain ⟨u', rfl, ru⟩ := vals1 r0
        cases ru
        refine d_len I e1 fun t s' J => ?_
        rw [← r1.length]
        exact ⟨.int _, H, J, ⟨t, rfl⟩, k _ _ (.same (.int _))⟩
  · split at e
    · rename_i h
      cases e
      cases rx with | cons a b => cases b; cases a; exact wCall_of call_len ⟨_, _, rfl, ⟨big_line h, rfl⟩, k _ _ (.same (.int _))⟩
    · cases e
  -- abs, int
  · cases e
    cases rx with | cons a b => cases b; cases a; exact wCall_of call_abs ⟨_, rfl, k _ _ (.same (.int _))⟩
  · cases e
    cases rx with | cons a b => cases b; cases a; exact wCall_of call_int1 (.inl ⟨_, rfl, k _ _ (.same (.int _))⟩)
  · cases e
    cases rx with | cons a b => cases b; cases a; exact wCall_of call_int1 (.inr ⟨_, rfl, k _ _ (.same (.int _))⟩)
  -- tuple
  · cases e
    cases rx with | cons a b => cases b; cases a with | lst e1 r1 => exact tupleW (.of e1) fun p o hp ho => k _ _ (.newT hp ho r1)
  · cases e
    cases rx with | cons a b => cases b; cases a with | tup e1 r1 => exact wCall_of call_tupleT ⟨_, _, rfl, s.sqT e1.sq, k _ _ (.same (.tup e1 r1))⟩
  -- list
  · cases e
    cases rx with | cons a b => cases b; cases a with | lst e1 r1 => exact wCall_of call_list_of ⟨_, _, rfl, .inl (.of e1), fun p hp => k _ _ (.newL hp r1)⟩
  · cases e
    cases rx with | cons a b => cases b; cases a with | tup e1 r1 => exact wCall_of call_list_of ⟨_, _, rfl, .inr (s.sqT e1.sq), fun p hp => k _ _ (.newL hp r1)⟩
  · cases e
    cases rx with | cons a b => cases b; cases a with | scr e1 => exact wCall_of call_list_of ⟨_, _, rfl, .inl (s.sqL e1), fun p hp => k _ _ (.newL hp (RepDs.ints _))⟩
  -- dict
  · split at e
    · rename_i ps ep
      split at e
      · rename_i hz
        cases e
        cases rx with
        | cons a b =>
          cases b
          cases a with
          | lst e1 r1 =>
            refine dictW (T := "list") hc ep hz s r1 (fun I => ?_) k
            obtain ⟨its, rv, pl, _⟩ := I.list (.of e1)
            exact ⟨its, rv, .inl ⟨rfl, pl⟩⟩
      · cases e
    · cases e
  · split at e
    · rename_i ps ep
      split at e
      · rename_i hz
        cases e
        cases rx with
        | cons a b =>
          cases b
          cases a with
          | tup e1 r1 =>
            refine dictW (T := "tuple") hc ep hz s r1 (fun I => ?_) k
            obtain ⟨its, rv, pl⟩ := PTu.plain s e1 I
            exact ⟨its, rv, .inr ⟨rfl, pl⟩⟩
      · cases e
    · cases e
  · cases e
    cases rx with | cons a b => cases b; cases a with | dic e1 r1 => exact wCall_of call_dictD ⟨_, _, rfl, e1, fun p hp => k _ _ (.newD hp r1)⟩
  -- sorted
  · split at e
    · rename_i h
      cases e
      cases rx with | cons a b => cases b; exact sorted_ok hu h s a k
    · cases e
  · split at e
    · rename_i h
      cases e
      cases rx with
      | cons a b =>
        cases b
        cases a with
        | tup e1 r1 =>
          intro pins st σ us I r0
          obtain ⟨u', rfl, ru⟩ := vals1 r0
          cases ru
          obtain ⟨its, rv, ob, n, ho, hcl, _, hd⟩ := PTu.plain s e1 I
          have li : its.length ≤ sizeLine := by
            rw [← rv.length, ← r1.length]
            unfold sortD at h
            split at h
            · rename_i so
              unfold sortOk at so
              simp only [Bool.and_eq_true] at so
              exact big_line (of_decide_eq_true so.2)
            · cases h
          exact sorted_gen hu h I s r1 rv (fun P hP => wpAny_collect_seq _ (.inr rfl) ho hcl hd (fun h' kp => by
            have := hP h' st.toks kp
            simpa using this) (by simpa using li)) k
    · cases e
  -- all, any, sum, min, max
  · split at e
    · rename_i h
      cases e
      cases rx with | cons a b => cases b; cases a with | lst e1 r1 => obtain rfl := bls_rep h r1; exact wCall_of (cr_all hc) ⟨_, _, rfl, .of e1, k _ _ (.same (.bl _))⟩
    · cases e
  · split at e
    · rename_i h
      cases e
      cases rx with | cons a b => cases b; cases a with | lst e1 r1 => obtain rfl := bls_rep h r1; exact wCall_of (cr_any hc) ⟨_, _, rfl, .of e1, k _ _ (.same (.bl _))⟩
    · cases e
  · split at e
    · rename_i h
      cases e
      cases rx with | cons a b => cases b; cases a with | lst e1 r1 => obtain rfl := ints_rep h r1; exact wCall_of (cr_sum hc) ⟨_, _, rfl, .of e1, k _ _ (.same (.int _))⟩
    · cases e
  · split at e
    · rename_i i is h
      cases e
      cases rx with
      | cons a b =>
        cases b
        cases a with
        | lst e1 r1 =>
          obtain rfl := ints_rep h r1
          refine wCall_of (cr_min hc) ⟨_, _, rfl, .of e1, Nat.succ_pos _, fun m hm hy => ?_⟩
          obtain ⟨q1, q2, q3⟩ := minZ_is is i
          have e2 : m = minZ i is := by
            apply Int.le_antisymm
            · exact hy _ (q1.elim (fun z => by rw [z]; exact List.mem_cons_self) fun z => List.mem_cons_of_mem _ z)
            · rcases List.mem_cons.mp hm with rfl | z
              · exact q2
              · exact q3 _ z
          rw [e2]
          exact k _ _ (.same (.int _))
    · cases e
  · split at e
    · rename_i i is h
      cases e
      cases rx with
      | cons a b =>
        cases b
        cases a with
        | lst e1 r1 =>
          obtain rfl := ints_rep h r1
          refine wCall_of (cr_max hc) ⟨_, _, rfl, .of e1, Nat.succ_pos _, fun m hm hy => ?_⟩
          obtain ⟨q1, q2, q3⟩ := maxZ_is is i
          have e2 : m = maxZ i is := by
            apply Int.le_antisymm
            · rcases List.mem_cons.mp hm with rfl | z
              · exact q2
              · exact q3 _ z
            · exact hy _ (q1.elim (fun z => by rw [z]; exact List.mem_cons_self) fun z => List.mem_cons_of_mem _ z)
          rw [e2]
          exact k _ _ (.same (.int _))
    · cases e
  · split at e
    · rename_i h
      cases e
      cases rx with | cons a b => cases b; cases a; exact wCall_of call_str_int ⟨_, rfl, h, k _ _ (.same (.str _))⟩
    · cases e
  · cases e
end
end Rf

set_option Elab.async false
set_option linter.all false
set_option maxRecDepth 100000
set_option maxHeartbeats 4000000
namespace Rf
open PySem PySem.Spec L2

structure Ctx where
  T : List Def
  G : List (Str × D)
/-- what a def of the table promises -/
def spD (K : Frag) (o : Orc) (f : Str) : Sp := fun vs H Q _ =>
  (∃ R xs r, RepDs K R xs vs ∧ Sub R H ∧ o.p f xs = some r ∧ ∀ R' H' v, Sub R' H' → Ext R [] [] H R' [] [] H' → RepR K R' [] [] H' H (.d r.1, r.2) v → Q v H') ∨
  ∃ R φ ws M r M', Rel K R φ [] M [] H ∧ RepWs K R φ ws vs ∧ o.m f ws M = some (r, M') ∧ ∀ R' φ' H' v, Rel K R' φ' [] M' [] H' → Ext R φ M H R' φ' M' H' → RepR K R' φ' M' H' H r v → Q v H'
def bltNames : List Str := ["len", "abs", "int", "tuple", "list", "dict", "sorted", "all", "any", "sum", "min", "max", "str", "isinstance", "bool", "range", "zip", "enumerate"]
structure XOk (C : Ctx) (k : Nat) (X : Cx) : Prop where
  calm : X.calm = true
  xe : X.xe = fun _ _ => False
  room : Room k X.A
  nd : X.N.Nodup
  blt : ∀ x ∈ bltNames, X.mg x = none
  glob : ∀ x d, (x, d) ∈ C.G → ∃ u v, X.mg x = some u ∧ RelV v u ∧ ∀ R, RepD X.K R d v
  defs : ∀ f d, findDef C.T f = some d → ∃ fa fd, X.mg f = some (.ref fa) ∧ PySem.W.keepIn X.K (.ref fa) = true ∧ Binds X.K fd d.ps [] ∧
    (∀ q ∈ d.kwo, ∀ (s : Shared) (ws : List Value), X.K.In s.heap → ws.length = q.1.length → BindsTo s fd ⟨[], q.1.zip ws⟩ (d.ps.zip (q.2.filterMap fun j => ws[j]?))) ∧
    FnOk X.prog X.w X.K X.mg X.base CX0 k fa fd d.ps (spD X.K (orc C.T k) f)
theorem XOk.hu {C : Ctx} {k : Nat} {X : Cx} (h : XOk C k X) : X.A.units + 70 < cLine := by have := h.room.un; omega
theorem XOk.blk {C : Ctx} {k : Nat} {X : Cx} (h : XOk C k X) (s : Shared) (H : Hp) (scope : Scope) (e : Env) (fp : List Addr) : XOk C k (X.blk s H scope e fp) :=
  ⟨h.calm, rfl, h.room, h.nd, h.blt, h.glob, h.defs⟩

/-! ### syntax: what is not a star, not a slice, not a set -/
def isStar : Expr → Bool
  | .Starred .. => true
  | _ => false
def noStars : List Expr → Bool
  | [] => true
  | e :: r => !isStar e && noStars r
def isSlice : Expr → Bool
  | .Slice .. => true
  | _ => false
def isSet : Expr → Bool
  | .Set .. => true
  | _ => false
def isComp : Expr → Bool
  | .ListComp .. => true
  | .SetComp .. => true
  | .DictComp .. => true
  | _ => false
theorem starEach_cons {e : Expr} {es : List Expr} {env : Env} (h : isStar e = false) : starEach (e :: es) env = (false, eval e env) :: starEach es env := by
  cases e <;> first | rfl | (simp [isStar] at h)
theorem noStar_any {pos : Pos} {env : Env} : ∀ {es : List Expr}, noStars es = true → (backTo pos (starEach es env)).any (·.1) = false
  | [], _ => rfl
  | e :: r, h => by
    simp only [noStars, Bool.and_eq_true, Bool.not_eq_true'] at h
    rw [starEach_cons h.1]
    show (false || (backTo pos (starEach r env)).any (·.1)) = false
    rw [noStar_any h.2]
    rfl
theorem plainIx {b : Expr} (h : isSlice b = false) : PlainIx b := fun o i => by
  cases b <;> first | rfl | (simp [isSlice] at h)
theorem noMark {b : Expr} {op : CmpOp} (h : isSet b = false) : behindInMarks op b = false := by
  cases b <;> first | rfl | (simp [isSet] at h)
theorem noFold {b : Expr} {env : Env} (h : isSet b = false) : ∀ x, foldedSetIterable b env x = pure x := fun x => by
  cases b <;> first | rfl | (simp [isSet] at h)
theorem noSwap {v : Expr} {t : Option Expr} {n : Nat} {env : Env} (h : isComp v = false) : swapsWith v t n env = pure false := by
  cases v <;> first | rfl | (simp [isComp] at h)

/-! ### arguments -/
section
variable {X : Cx} {o : Orc} {C : Ctx} {k : Nat}
theorem sa_nil : SA X o [] .nil := fun ρ M ws M' he R φ σ H rel Q q => by
  simp only [evA, Option.some.injEq, Prod.mk.injEq] at he
  obtain ⟨rfl, rfl⟩ := he
  exact wA_of pa_nil (q R φ H [] rel (Ext.refl ..) .nil)
theorem sa_cons {e : Expr} {es : List Expr} {a b : E} (h1 : SE X o e a) (h2 : SA X o es b) (hs : isStar e = false) : SA X o (e :: es) (.cons a b) := fun ρ M ws M' he R φ σ H rel Q q => by
  simp only [evA] at he
  split at he
  · rename_i w fr M1 e1
    split at he
    · rename_i ws1 M2 e2
      cases he
      refine wA_of (pa_cons wE_pe wA_pa (starEach_cons hs)) ?_
      refine h1.frz _ _ _ _ e1 R φ σ H rel _ fun R1 φ1 H1 v r1 x1 p1 => ?_
      refine h2 _ _ _ _ e2 R1 φ1 σ H1 r1 _ fun R2 φ2 H2 vs r2 x2 p2 => ?_
      exact q R2 φ2 H2 (v :: vs) r2 (x1.trans x2) (.cons (p1.mono x2.le x2.pre) p2)
    · cases he
  · cases he

/-! ### names, constants, displays -/
theorem se_slot {i : Nat} {x : Str} {pos : Pos} (hN : X.N[i]? = some x) (hv : Vis X.env.scope x) (hd : (x == ("__debug__" : Str)) = false) (hc : (x == ("__classdict__" : Str)) = false) : SE X o (.Name x pos) (.slot i) :=
  fun ρ M r M' he R φ σ H rel Q q => by
  simp only [evE] at he
  split at he
  · rename_i w e1
    cases he
    obtain ⟨v, ev, p⟩ := rel.slots i w e1
    exact wE_of (pe_var hN hv hd hc) ⟨v, ev, q R φ H v rel (Ext.refl ..) (by unfold RepR; rw [if_neg Bool.false_ne_true]; exact p)⟩
  · cases he
theorem se_const {e : Expr} {x : D} {v : V} (h : PE X e (tC v)) (r : ∀ R, RepD X.K R x v) : SE X o e (.cst x) := fun ρ M r' M' he R φ σ H rel Q q => by
  simp only [evE, Option.some.injEq, Prod.mk.injEq] at he
  obtain ⟨rfl, rfl⟩ := he
  exact wE_of h (q R φ H v rel (Ext.refl ..) (by unfold RepR; rw [if_neg Bool.false_ne_true]; exact r R))
theorem se_glob {x : Str} {d : D} {pos : Pos} (hX : XOk C k X) (hg : Gl X x) (hm : (x, d) ∈ C.G) (hd : (x == ("__debug__" : Str)) = false) : SE X o (.Name x pos) (.glob x d) := fun ρ M r' M' he R φ σ H rel Q q => by
  simp only [evE, Option.some.injEq, Prod.mk.injEq] at he
  obtain ⟨rfl, rfl⟩ := he
  obtain ⟨u, v, e1, e2, e3⟩ := hX.glob x d hm
  exact wE_of (pe_glob hg e1 e2 hd) (q R φ H v rel (Ext.refl ..) (by unfold RepR; rw [if_neg Bool.false_ne_true]; exact e3 R))
theorem RepR.back {K : Frag} {R R1 R2 : Hp} {φ φ1 φ2 : List Addr} {M M1 M2 : Store} {H H1 H2 : Hp} {q : W × Bool} {v : V} (p : RepR K R2 φ2 M2 H2 H1 q v) (x : Ext R φ M H R1 φ1 M1 H1) : RepR K R2 φ2 M2 H2 H q v := by
  unfold RepR at p ⊢
  split at p
  · rename_i hq
    rw [if_pos hq]
    obtain ⟨d, a, e1, e2, e3, e4⟩ := p
    exact ⟨d, a, e1, e2, x.dom a e3, e4⟩
  · rename_i hq
    rw [if_neg hq]
    exact p
/-- from a value rule's end to the judgement's -/
theorem Outp.fin {R R1 : Hp} {φ φ1 : List Addr} {M M1 : Store} {H H1 H2 : Hp} {ρ : REnv} {σ : L2.St} {q : Res} {v : V} {Q : VK} (rel : Rel X.K R1 φ1 ρ M1 σ H1) (x : Ext R φ M H R1 φ1 M1 H1) (p : Outp X.K R1 H1 q v H2)
    (k : ∀ R' φ' H' v, Rel X.K R' φ' ρ M1 σ H' → Ext R φ M H R' φ' M1 H' → RepR X.K R' φ' M1 H' H (.d q.1, q.2) v → Q v H') : Q v H2 := by
  obtain ⟨R2, r2, x2, p2⟩ := p.post rel
  exact k R2 φ1 H2 v r2 (x.trans x2) (p2.back x)
theorem RepR.frz {K : Frag} {R : Hp} {φ : List Addr} {M : Store} {H H0 : Hp} {w : W} {v : V} (p : RepW K R φ w v) : RepR K R φ M H H0 (w, false) v := by
  unfold RepR; rw [if_neg Bool.false_ne_true]; exact p
theorem se_ite {et ea eb : Expr} {pos : Pos} {t a b : E} (ht : ST X o et t) (ha : SE X o ea a) (hb : SE X o eb b) : SE X o (.IfExp et ea eb pos) (.ite t a b) := fun ρ M r' M' he R φ σ H rel Q q => by
  simp only [evE] at he
  refine wE_of (pe_ifExp wT_pt wE_pe wE_pe) ?_
  split at he
  · rename_i e1
    refine ht _ _ _ _ e1 R φ σ H rel _ fun R1 φ1 H1 r1 x1 => ?_
    show if true = true then _ else _
    rw [if_pos rfl]
    refine ha _ _ _ _ he R1 φ1 σ H1 r1 _ fun R2 φ2 H2 v r2 x2 p2 => q R2 φ2 H2 v r2 (x1.trans x2) ?_
    exact p2.back x1
  · rename_i e1
    refine ht _ _ _ _ e1 R φ σ H rel _ fun R1 φ1 H1 r1 x1 => ?_
    show if false = true then _ else _
    rw [if_neg Bool.false_ne_true]
    refine hb _ _ _ _ he R1 φ1 σ H1 r1 _ fun R2 φ2 H2 v r2 x2 p2 => q R2 φ2 H2 v r2 (x1.trans x2) ?_
    exact p2.back x1
  · cases he
end
end Rf

set_option Elab.async false
set_option linter.all false
set_option maxRecDepth 100000
set_option maxHeartbeats 4000000
namespace Rf
open PySem PySem.Spec L2

section
variable {X : Cx} {o : Orc} {C : Ctx} {k : Nat}
/-- the root of a result, as it stands -/
theorem repR_at {R : Hp} {φ : List Addr} {ρ : REnv} {M : Store} {σ : L2.St} {H H0 : Hp} {x : D} {fr : Bool} {v : V} (rel : Rel X.K R φ ρ M σ H) (p : RepR X.K R φ M H H0 (.d x, fr) v) : RepH X.K R H x v := by
  unfold RepR at p
  split at p
  · obtain ⟨d, a, e1, rfl, _, nd, en, na, _⟩ := p
    cases e1
    rw [← toD_asNode en]
    exact na.at
  · exact RepD.at rel.sub p
theorem paired1 {α β : Type} {F : α → β → Prop} {a : α} {b : β} (h : F a b) : Paired F [a] [b] := .cons h .nil

/-! ### displays -/
theorem se_tup {es : List Expr} {n : Nat} {pos : Pos} {a : E} (ha : SA X o es a) : SE X o (.Tuple es n pos) (.tup a) := fun ρ M r M' he R φ σ H rel Q q => by
  simp only [evE] at he
  split at he
  · rename_i e1
    split at he
    · rename_i e2
      split at he
      · rename_i hz
        cases he
        intro pins s I
        refine wpAny_Tuple_spliced (thn (ha _ _ _ _ e1 R φ σ H rel (fun vs H1 => vs.length ≤ sizeLine ∧ ∀ p o, H1 p = none → o.dict = none → Q (.ref p) (upd H1 p (.frz o (.tup vs)))) (fun R1 φ1 H1 vs r1 x1 p1 => ?_) pos pins s I) fun us s1 h1 => ?_)
        · have rs := allD_vws e2 p1
          refine ⟨by rw [← rs.length]; exact big_line hz, fun p ob hp ho => ?_⟩
          exact Outp.fin r1 x1 (.newT hp ho rs) q
        · obtain ⟨vs, H1, I1, rv, z, w⟩ := h1
          exact ⟨by rw [← rv.length]; exact z, new_tup (tk := s1.toks) I1 rv z w⟩
      · cases he
    · cases he
  · cases he
theorem se_lst {es : List Expr} {pos : Pos} {a : E} (ha : SA X o es a) : SE X o (.List es pos) (.lst a) := fun ρ M r M' he R φ σ H rel Q q => by
  simp only [evE] at he
  split at he
  · rename_i e1
    split at he
    · rename_i e2
      split at he
      · rename_i hz
        cases he
        refine wE_of (pe_lst wA_pa) (ha _ _ _ _ e1 R φ σ H rel _ fun R1 φ1 H1 vs r1 x1 p1 => ?_)
        have rs := allD_vws e2 p1
        exact ⟨by rw [← rs.length]; exact big_line hz, fun p hp => Outp.fin r1 x1 (.newL hp rs) q⟩
      · cases he
    · cases he
  · cases he
theorem se_dnil {pos : Pos} : SE X o (.Dict [] [] pos) .dnil := fun ρ M r M' he R φ σ H rel Q q => by
  simp only [evE, Option.some.injEq, Prod.mk.injEq] at he
  obtain ⟨rfl, rfl⟩ := he
  exact wE_of pe_dnewK fun p hp => Outp.fin rel (Ext.refl ..) (.newD hp .nil) q

/-! ### and, or, not -/
theorem se_one {e : Expr} {op : BoolOp} {pos : Pos} {a : E} (ha : SE X o e a) : SE X o (.BoolOp op [e] pos) (.one a) := fun ρ M r M' he R φ σ H rel Q q => by
  simp only [evE] at he
  exact wE_of (pe_one wE_pe) (ha _ _ _ _ he R φ σ H rel Q q)
theorem se_and {e1 e2 : Expr} {es : List Expr} {pos : Pos} {a b : E} (ha : SE X o e1 a) (hb : SE X o (.BoolOp .And (e2 :: es) pos) b) : SE X o (.BoolOp .And (e1 :: e2 :: es) pos) (.andv a b) := fun ρ M r M' he R φ σ H rel Q q => by
  simp only [evE] at he
  refine wE_of (pe_and wE_pe wE_pe) ?_
  split at he
  · rename_i q1
    refine ha.frz _ _ _ _ q1 R φ σ H rel _ fun R1 φ1 H1 v r1 x1 p1 => ?_
    cases p1
    refine ⟨true, rfl, ?_⟩
    rw [if_pos rfl]
    exact hb _ _ _ _ he R1 φ1 σ H1 r1 _ fun R2 φ2 H2 v r2 x2 p2 => q R2 φ2 H2 v r2 (x1.trans x2) (p2.back x1)
  · rename_i q1
    cases he
    refine ha.frz _ _ _ _ q1 R φ σ H rel _ fun R1 φ1 H1 v r1 x1 p1 => ?_
    cases p1
    refine ⟨false, rfl, ?_⟩
    rw [if_neg Bool.false_ne_true]
    exact q R1 φ1 H1 _ r1 x1 (.frz (.bl false))
  · cases he
theorem se_or {e1 e2 : Expr} {es : List Expr} {pos : Pos} {a b : E} (ha : SE X o e1 a) (hb : SE X o (.BoolOp .Or (e2 :: es) pos) b) : SE X o (.BoolOp .Or (e1 :: e2 :: es) pos) (.orv a b) := fun ρ M r M' he R φ σ H rel Q q => by
  simp only [evE] at he
  refine wE_of (pe_or wE_pe wE_pe) ?_
  split at he
  · rename_i q1
    refine ha.frz _ _ _ _ q1 R φ σ H rel _ fun R1 φ1 H1 v r1 x1 p1 => ?_
    cases p1
    refine ⟨false, rfl, ?_⟩
    rw [if_neg Bool.false_ne_true]
    exact hb _ _ _ _ he R1 φ1 σ H1 r1 _ fun R2 φ2 H2 v r2 x2 p2 => q R2 φ2 H2 v r2 (x1.trans x2) (p2.back x1)
  · rename_i q1
    cases he
    refine ha.frz _ _ _ _ q1 R φ σ H rel _ fun R1 φ1 H1 v r1 x1 p1 => ?_
    cases p1
    refine ⟨true, rfl, ?_⟩
    rw [if_pos rfl]
    exact q R1 φ1 H1 _ r1 x1 (.frz (.bl true))
  · cases he
theorem se_orT {e1 e2 : Expr} {es : List Expr} {pos : Pos} {a b : E} (ha : SE X o e1 a) (hb : SE X o (.BoolOp .Or (e2 :: es) pos) b) : SE X o (.BoolOp .Or (e1 :: e2 :: es) pos) (.orT a b) := fun ρ M r M' he R φ σ H rel Q q => by
  simp only [evE] at he
  refine wE_of (pe_orT wE_pe wE_pe) ?_
  split at he
  · rename_i q1
    split at he
    · rename_i q2
      cases he
      refine ha _ _ _ _ q1 R φ σ H rel _ fun R1 φ1 H1 v r1 x1 p1 => ?_
      refine ⟨true, tru_of q2 r1.sub (repR_at r1 p1), ?_⟩
      rw [if_pos rfl]
      exact q R1 φ1 H1 v r1 x1 p1
    · rename_i q2
      refine ha _ _ _ _ q1 R φ σ H rel _ fun R1 φ1 H1 v r1 x1 p1 => ?_
      refine ⟨false, tru_of q2 r1.sub (repR_at r1 p1), ?_⟩
      rw [if_neg Bool.false_ne_true]
      exact hb _ _ _ _ he R1 φ1 σ H1 r1 _ fun R2 φ2 H2 v r2 x2 p2 => q R2 φ2 H2 v r2 (x1.trans x2) (p2.back x1)
    · cases he
  · cases he
theorem se_not {e : Expr} {pos : Pos} {a : E} (ha : SE X o e a) : SE X o (.UnaryOp .Not e pos) (.notv a) := fun ρ M r M' he R φ σ H rel Q q => by
  simp only [evE] at he
  split at he
  · rename_i q1
    split at he
    · rename_i q2
      split at he
      · rename_i q3
        cases he
        refine wE_of (pe_notT wE_pe) (ha.frz _ _ _ _ q1 R φ σ H rel _ fun R1 φ1 H1 v r1 x1 p1 => ?_)
        exact ⟨_, tru_of q3 r1.sub (vw_at r1 p1 q2), q R1 φ1 H1 _ r1 x1 (.frz (.bl _))⟩
      · cases he
    · cases he
  · cases he

/-! ### comparisons -/
theorem cmp_core (hX : XOk C k X) {e1 e2 : Expr} {p : COp} {a b : E} (ha : SE X o e1 a) (hb : SE X o e2 b) {ρ : REnv} {M : Store} {r : W × Bool} {M' : Store} (he : evE o (.cmp p a b) ρ M = some (r, M')) {R : Hp} {φ : List Addr} {σ : L2.St} {H : Hp}
    (rel : Rel X.K R φ ρ M σ H) {Q : VK} (q : ∀ c R' φ' H', r = (.d (.bl c), false) → Rel X.K R' φ' ρ M' σ H' → Ext R φ M H R' φ' M' H' → Q (.bl c) H') : tOp (wOp X (compareOp p.py)) (wE X e1) (wE X e2) σ H Q := by
  simp only [evE] at he
  split at he
  · rename_i q1
    split at he
    · rename_i q2
      split at he
      · rename_i q3 q4
        split at he
        · rename_i q5
          cases he
          refine ha.frz _ _ _ _ q1 R φ σ H rel _ fun R1 φ1 H1 v r1 x1 p1 => ?_
          refine hb.frz _ _ _ _ q2 R1 φ1 σ H1 r1 _ fun R2 φ2 H2 u r2 x2 p2 => ?_
          exact cmp_ok (by have := hX.hu; omega) p q5 r2.sub (vw_at r2 (p1.mono x2.le x2.pre) q3) (vw_at r2 p2 q4) (q _ R2 φ2 H2 rfl r2 (x1.trans x2))
        · cases he
      · cases he
    · cases he
  · cases he
theorem se_cmp (hX : XOk C k X) {e1 e2 : Expr} {p : COp} {pos : Pos} {a b : E} (ha : SE X o e1 a) (hb : SE X o e2 b) (hs : isSet e2 = false) : SE X o (.Compare e1 [p.py] [e2] pos) (.cmp p a b) := fun ρ M r M' he R φ σ H rel Q q =>
  wE_of (pe_cmpR wOp_op wE_pe wE_pe (noMark hs)) (cmp_core hX ha hb he rel fun c R' φ' H' er r1 x1 => by subst er; exact q R' φ' H' _ r1 x1 (.frz (.bl c)))
theorem chain_core (hX : XOk C k X) {e1 e2 e3 : Expr} {p p' : COp} {a b c : E} (ha : SE X o e1 a) (hb : SE X o e2 b) (hc : SE X o e3 c) {ρ : REnv} {M : Store} {r : W × Bool} {M' : Store} (he : evE o (.chain p p' a b c) ρ M = some (r, M'))
    {R : Hp} {φ : List Addr} {σ : L2.St} {H : Hp} (rel : Rel X.K R φ ρ M σ H) {Q : VK} (q : ∀ c R' φ' H', r = (.d (.bl c), false) → Rel X.K R' φ' ρ M' σ H' → Ext R φ M H R' φ' M' H' → Q (.bl c) H') :
    tChain (wOp X (compareOp p.py)) (wOp X (compareOp p'.py)) (wE X e1) (wE X e2) (wE X e3) σ H Q := by
  have hu : X.A.units + 65 < cLine := by have := hX.hu; omega
  simp only [evE] at he
  split at he
  · rename_i q1
    split at he
    · rename_i q2
      split at he
      · rename_i q3 q4
        refine ha.frz _ _ _ _ q1 R φ σ H rel _ fun R1 φ1 H1 v r1 x1 p1 => ?_
        refine hb.frz _ _ _ _ q2 R1 φ1 σ H1 r1 _ fun R2 φ2 H2 u r2 x2 p2 => ?_
        split at he
        · rename_i q5
          cases he
          refine cmp_ok hu p q5 r2.sub (vw_at r2 (p1.mono x2.le x2.pre) q3) (vw_at r2 p2 q4) ⟨false, rfl, ?_⟩
          rw [if_neg Bool.false_ne_true]
          exact q _ R2 φ2 H2 rfl r2 (x1.trans x2)
        · rename_i q5
          refine cmp_ok hu p q5 r2.sub (vw_at r2 (p1.mono x2.le x2.pre) q3) (vw_at r2 p2 q4) ⟨true, rfl, ?_⟩
          rw [if_pos rfl]
          split at he
          · rename_i q6
            split at he
            · rename_i q7 q8
              split at he
              · rename_i q9
                cases he
                refine hc.frz _ _ _ _ q6 R2 φ2 σ H2 r2 _ fun R3 φ3 H3 w r3 x3 p3 => ?_
                exact cmp_ok hu p' q9 r3.sub (vw_at r3 (p2.mono x3.le x3.pre) q7) (vw_at r3 p3 q8) (q _ R3 φ3 H3 rfl r3 ((x1.trans x2).trans x3))
              · cases he
            · cases he
          · cases he
        · cases he
      · cases he
    · cases he
  · cases he
theorem se_chain (hX : XOk C k X) {e1 e2 e3 : Expr} {p p' : COp} {pos : Pos} {a b c : E} (ha : SE X o e1 a) (hb : SE X o e2 b) (hc : SE X o e3 c) (hs : isSet e3 = false) : SE X o (.Compare e1 [p.py, p'.py] [e2, e3] pos) (.chain p p' a b c) := fun ρ M r M' he R φ σ H rel Q q =>
  wE_of (pe_chain wOp_op wOp_op wE_pe wE_pe wE_pe (noMark hs)) (chain_core hX ha hb hc he rel fun c R' φ' H' er r1 x1 => by subst er; exact q R' φ' H' _ r1 x1 (.frz (.bl c)))

/-! ### arithmetic, indices, slices -/
theorem se_bin (hX : XOk C k X) {e1 e2 : Expr} {p : BOp} {pos : Pos} {a b : E} (ha : SE X o e1 a) (hb : SE X o e2 b) : SE X o (.BinOp e1 p.py e2 pos) (.bin p a b) := fun ρ M r M' he R φ σ H rel Q q => by
  simp only [evE] at he
  split at he
  · rename_i q1
    split at he
    · rename_i q2
      split at he
      · rename_i q3 q4
        split at he
        · rename_i q5
          cases he
          refine wE_of (pe_op wOp_op wE_pe wE_pe) (ha.frz _ _ _ _ q1 R φ σ H rel _ fun R1 φ1 H1 v r1 x1 p1 => ?_)
          refine hb.frz _ _ _ _ q2 R1 φ1 σ H1 r1 _ fun R2 φ2 H2 u r2 x2 p2 => ?_
          exact bin_ok (by have := hX.hu; omega) p q5 r2.sub (vw_at r2 (p1.mono x2.le x2.pre) q3) (vw_at r2 p2 q4) fun z H3 w => Outp.fin r2 (x1.trans x2) w q
        · cases he
      · cases he
    · cases he
  · cases he
theorem se_neg {e : Expr} {pos : Pos} {a : E} (ha : SE X o e a) : SE X o (.UnaryOp .USub e pos) (.neg a) := fun ρ M r M' he R φ σ H rel Q q => by
  simp only [evE] at he
  split at he
  · rename_i q1
    cases he
    refine wE_of (pe_un un_neg wE_pe) (ha.frz _ _ _ _ q1 R φ σ H rel _ fun R1 φ1 H1 v r1 x1 p1 => ?_)
    cases p1
    exact ⟨_, rfl, q R1 φ1 H1 _ r1 x1 (.frz (.int _))⟩
  · cases he
theorem atI_of {α : Type} {xs : List α} {i : Int} {x : α} (h : atI xs i = some x) : ∃ j, ixN xs.length i = some j ∧ xs[j]? = some x := Option.bind_eq_some_iff.mp h
theorem atI_to {α β : Type} {xs : List α} {ys : List β} {i : Int} {j : Nat} {y : β} (l : xs.length = ys.length) (h : ixN xs.length i = some j) (e : ys[j]? = some y) : atI ys i = some y := by
  unfold atI; rw [← l, h]; exact e
theorem se_idx (hX : XOk C k X) {e1 e2 : Expr} {pos : Pos} {a b : E} (ha : SE X o e1 a) (hb : SE X o e2 b) (hs : isSlice e2 = false) : SE X o (.Subscript e1 e2 pos) (.idx a b) := fun ρ M r M' he R φ σ H rel Q q => by
  have hu : X.A.units + 1 < cLine := by have := hX.hu; omega
  simp only [evE] at he
  split at he
  · rename_i q1
    split at he
    · rename_i q2
      split at he
      · rename_i q3 q4
        split at he
        · rename_i q5
          cases he
          have go : ∀ {t : R2}, (∀ R2 φ2 H2 v u, Rel X.K R2 φ2 ρ M' σ H2 → Ext R φ M H R2 φ2 M' H2 → RepH X.K R2 H2 _ v → RepH X.K R2 H2 _ u → t v u H2 Q) → tOp t (wE X e1) (wE X e2) σ H Q := fun {t} w => by
            refine ha.frz _ _ _ _ q1 R φ σ H rel _ fun R1 φ1 H1 v r1 x1 p1 => ?_
            refine hb.frz _ _ _ _ q2 R1 φ1 σ H1 r1 _ fun R2 φ2 H2 u r2 x2 p2 => ?_
            exact w R2 φ2 H2 v u r2 (x1.trans x2) (vw_at r2 (p1.mono x2.le x2.pre) q3) (vw_at r2 p2 q4)
          unfold idxD at q5
          split at q5
          · refine wE_of (pe_ix ix_list wE_pe wE_pe (plainIx hs)) (go fun R2 φ2 H2 v u r2 x2 p1 p2 => ?_)
            cases p2
            cases p1 with
            | lst e1 w1 =>
              obtain ⟨j, j1, j2⟩ := atI_of q5
              obtain ⟨y, y1, y2⟩ := w1.get j2
              exact ⟨_, _, _, y, rfl, rfl, .of e1, atI_to w1.length j1 y1, q R2 φ2 H2 y r2 x2 (.frz y2)⟩
          · refine wE_of (pe_ix ix_tup wE_pe wE_pe (plainIx hs)) (go fun R2 φ2 H2 v u r2 x2 p1 p2 => ?_)
            cases p2
            cases p1 with
            | tup e1 w1 =>
              obtain ⟨j, j1, j2⟩ := atI_of q5
              obtain ⟨y, y1, y2⟩ := w1.get j2
              exact ⟨_, _, _, y, rfl, rfl, r2.sub.sqT e1.sq, atI_to w1.length j1 y1, q R2 φ2 H2 y r2 x2 (.frz y2)⟩
          · refine wE_of (pe_ix ix_list wE_pe wE_pe (plainIx hs)) (go fun R2 φ2 H2 v u r2 x2 p1 p2 => ?_)
            cases p2
            cases p1 with
            | scr e1 =>
              obtain ⟨n, n1, n2⟩ := Option.map_eq_some_iff.mp q5
              subst n2
              obtain ⟨j, j1, j2⟩ := atI_of n1
              exact ⟨_, _, _, .int n, rfl, rfl, r2.sub.sqL e1, atI_to (by rw [List.length_map]) j1 (by rw [List.getElem?_map, j2]; rfl), q R2 φ2 H2 _ r2 x2 (.frz (.int n))⟩
          · split at q5
            · rename_i hz
              refine wE_of (pe_ix ix_str wE_pe wE_pe (plainIx hs)) (go fun R2 φ2 H2 v u r2 x2 p1 p2 => ?_)
              cases p2
              cases p1
              obtain ⟨n, n1, n2⟩ := Option.map_eq_some_iff.mp q5
              subst n2
              exact ⟨_, _, _, rfl, rfl, big_line hz, n1, q R2 φ2 H2 _ r2 x2 (.frz (.str _))⟩
            · cases q5
          · split at q5
            · rename_i hk
              refine wE_of (pe_dget hu wE_pe wE_pe (plainIx hs)) (go (t := fun x y H2 Q => ∃ a v, x = .ref a ∧ DGet H2 a y (some v) ∧ Q v H2) fun R2 φ2 H2 v u r2 x2 p1 p2 => ?_)
              obtain rfl := kV_of p2 hk
              cases p1 with
              | dic e1 w1 =>
                rcases getK_val _ w1 with ⟨z1, _⟩ | ⟨y, yv, z1, z2, z3⟩
                · rw [q5] at z1; cases z1
                · rw [q5] at z1; cases z1
                  exact ⟨_, yv, rfl, .inl ⟨_, _, e1, rfl, z2.symm⟩, q R2 φ2 H2 yv r2 x2 (.frz z3)⟩
            · cases q5
          · cases q5
        · cases he
      · cases he
    · cases he
  · cases he
end
end Rf

set_option Elab.async false
set_option linter.all false
set_option maxRecDepth 100000
set_option maxHeartbeats 4000000
namespace Rf
open PySem PySem.Spec L2

section
variable {X : Cx} {o : Orc} {C : Ctx} {k : Nat}
/-! ### slices -/
def rSlF (K : Frag) : V → Option Int → Option Int → Hp → VK → Prop := fun x lo hi H Q => ∃ a xs, x = .ref a ∧ SqT K H a xs ∧
  ((HT.sIx xs.length 0 lo = 0 ∧ HT.sIx xs.length xs.length hi = xs.length) → Q (.ref a) H) ∧ ∀ p ob, H p = none → ob.dict = none → Q (.ref p) (upd H p (.frz ob (.tup (cutV xs lo hi))))
theorem sl_tupF : SlR X (rSlF X.K) := by
  intro pins s σ H x v vl vu lo hi sl Q I rx hs pl pu h
  obtain ⟨a, xs, rfl, hx, q1, q2⟩ := h
  cases rx
  obtain ⟨us, r, ht, hz⟩ := I.tuple hx
  have el : us.toArray.size = xs.length := by rw [List.size_toArray]; exact r.length.symm
  refine ⟨"tuple", _, PyProof.Rows.slot_tuple_getitem.lookup, ht.typeIs, ?_⟩
  by_cases hw : HT.sIx xs.length 0 lo = 0 ∧ HT.sIx xs.length xs.length hi = xs.length
  · exact getItem_tuple_whole ht hs pl pu (by rw [el]; exact hw) ⟨.ref a, H, I, rfl, q1 hw⟩
  · refine HT.getItem_tuple_cut ht hs pl pu (by rw [el]; exact hw) ?_ (by rw [el]; exact hz)
    rw [el]
    exact new_tup (tk := s.toks) I ((r.drop _).take _) (Nat.le_trans (cutV_length xs lo hi) hz) q2
theorem cut_rep {K : Frag} {R : Hp} {xs : List D} {vs : List V} (r : RepDs K R xs vs) (lo hi : Option Int) : RepDs K R (cut xs lo hi) (cutV vs lo hi) := by
  unfold cut cutV
  rw [r.length]
  exact (r.drop _).take _
theorem cut_ints {K : Frag} {R : Hp} (ns : List Int) (lo hi : Option Int) : RepDs K R ((cut ns lo hi).map D.int) (cutV (ns.map V.int) lo hi) := by
  have e : cutV (ns.map V.int) lo hi = (cut ns lo hi).map V.int := by
    unfold cut cutV
    rw [List.length_map, List.map_take, List.map_drop]
  rw [e]
  exact RepDs.ints _
theorem cut_whole {α : Type} {xs : List α} {lo hi : Option Int} (h : HT.sIx xs.length 0 lo = 0 ∧ HT.sIx xs.length xs.length hi = xs.length) : cut xs lo hi = xs := by
  unfold cut
  rw [h.1, h.2]
  simp
def SO (X : Cx) (o : Orc) (e : Option Expr) (a : E) : Prop := ∃ t, PO X e t ∧ ∀ ρ M i M', evO o a ρ M = some (i, M') → ∀ R φ σ H, Rel X.K R φ ρ M σ H → ∀ Q : Option Int → Hp → Prop, (∀ R' φ' H', Rel X.K R' φ' ρ M' σ H' → Ext R φ M H R' φ' M' H' → Q i H') → t σ H Q
theorem so_none : SO X o none .none_ := ⟨_, po_none, fun ρ M i M' he R φ σ H rel Q q => by
  simp only [evO, Option.some.injEq, Prod.mk.injEq] at he
  obtain ⟨rfl, rfl⟩ := he
  exact q R φ H rel (Ext.refl ..)⟩
theorem so_some {e : Expr} {a : E} (ha : SE X o e a) : SO X o (some e) (.cons a .nil) := ⟨_, po_some wE_pe, fun ρ M i M' he R φ σ H rel Q q => by
  simp only [evO] at he
  split at he
  · rename_i q1
    cases he
    refine ha.frz _ _ _ _ q1 R φ σ H rel _ fun R1 φ1 H1 v r1 x1 p1 => ?_
    cases p1
    exact ⟨_, rfl, q R1 φ1 H1 r1 x1⟩
  · cases he⟩
theorem se_slc {e : Expr} {lo hi : Option Expr} {p2 pos : Pos} {a l h : E} (ha : SE X o e a) (hl : SO X o lo l) (hh : SO X o hi h) : SE X o (.Subscript e (.Slice lo hi none p2) pos) (.slc a l h) := fun ρ M r M' he R φ σ H rel Q q => by
  obtain ⟨tl, hl1, hl2⟩ := hl
  obtain ⟨th, hh1, hh2⟩ := hh
  simp only [evE] at he
  split at he
  · rename_i q1
    split at he
    · rename_i q2
      split at he
      · rename_i q3
        split at he
        · rename_i q4
          split at he
          · rename_i q5
            cases he
            have go : ∀ {t : V → Option Int → Option Int → Hp → VK → Prop}, (∀ R2 φ2 H2 v, Rel X.K R2 φ2 ρ M' σ H2 → Ext R φ M H R2 φ2 M' H2 → RepH X.K R2 H2 _ v → t v _ _ H2 Q) → tSl t (wE X e) tl th σ H Q := fun {t} w => by
              refine ha.frz _ _ _ _ q1 R φ σ H rel _ fun R1 φ1 H1 v r1 x1 p1 => ?_
              refine hl2 _ _ _ _ q2 R1 φ1 σ H1 r1 _ fun R2 φ2 H2 r2 x2 => ?_
              refine hh2 _ _ _ _ q3 R2 φ2 σ H2 r2 _ fun R3 φ3 H3 r3 x3 => ?_
              exact w R3 φ3 H3 v r3 ((x1.trans x2).trans x3) (vw_at r3 (p1.mono (x2.le.trans x3.le) (x2.pre.trans x3.pre)) q4)
            unfold slcD at q5
            split at q5
            · cases q5
              refine wE_of (pe_slice sl_list wE_pe hl1 hh1) (go fun R2 φ2 H2 v r2 x2 p1 => ?_)
              cases p1 with
              | lst e1 w1 => exact ⟨_, _, rfl, .of e1, fun p hp => Outp.fin r2 x2 (.newL hp (cut_rep w1 _ _)) q⟩
            · cases q5
              refine wE_of (pe_slice sl_tupF wE_pe hl1 hh1) (go fun R2 φ2 H2 v r2 x2 p1 => ?_)
              cases p1 with
              | tup e1 w1 =>
                refine ⟨_, _, rfl, r2.sub.sqT e1.sq, fun hw => ?_, fun p ob hp ho => Outp.fin r2 x2 (.newT hp ho (cut_rep w1 _ _)) q⟩
                rw [← w1.length] at hw
                refine Outp.fin r2 x2 (.same (.tup e1 ?_)) q
                rw [cut_whole hw]
                exact w1
            · cases q5
              refine wE_of (pe_slice sl_list wE_pe hl1 hh1) (go fun R2 φ2 H2 v r2 x2 p1 => ?_)
              cases p1 with
              | scr e1 =>
                exact ⟨_, _, rfl, r2.sub.sqL e1, fun p hp => Outp.fin r2 x2 (.newL hp (cut_ints _ _ _)) q⟩
            · cases q5
          · cases he
        · cases he
      · cases he
    · cases he
  · cases he

/-! ### built-ins -/
def BI.nm : BI → Str
  | .len => "len" | .abs => "abs" | .int => "int" | .tuple => "tuple" | .list => "list" | .dict => "dict"
  | .sorted => "sorted" | .all => "all" | .any => "any" | .sum => "sum" | .min => "min" | .max => "max" | .str => "str"
theorem BI.mem (b : BI) : b.nm ∈ bltNames := by cases b <;> decide
theorem BI.boot (b : BI) : bootBuiltins b.nm = some b.fv := by cases b <;> decide +kernel
theorem wCall_pe (hX : XOk C k X) {b : BI} {e : Expr} {es : List Expr} {p pos : Pos} (hg : Gl X b.nm) (hs : noStars (e :: es) = true) : PE X (.Call (.Name b.nm p) (e :: es) [] pos) (tCB (wCall X b.fv) (wA X (e :: es))) := by
  simp only [noStars, Bool.and_eq_true, Bool.not_eq_true'] at hs
  have h0 := hX.blt _ b.mem
  have h1 := b.boot
  have h2 := starEach_cons (es := es) (env := X.env) hs.1
  have h3 := noStar_any (pos := pos) (env := X.env) hs.2
  revert hg h0 h1
  cases b <;> intro hg h0 h1 <;> first
    | exact pe_callB wCall_cr hg h0 h1 wA_pa (by decide) (by decide) h2 h3
    | exact pe_callTy wCall_cr hg h0 h1 wA_pa (by decide) (by decide) h2 h3
theorem se_blt (hX : XOk C k X) {b : BI} {e : Expr} {es : List Expr} {p pos : Pos} {a : E} (ha : SA X o (e :: es) a) (hg : Gl X b.nm) (hs : noStars (e :: es) = true) : SE X o (.Call (.Name b.nm p) (e :: es) [] pos) (.blt b a) := fun ρ M r M' he R φ σ H rel Q q => by
  simp only [evE] at he
  split at he
  · rename_i q1
    split at he
    · rename_i q2
      split at he
      · rename_i q3
        cases he
        refine wE_of (wCall_pe hX hg hs) (ha _ _ _ _ q1 R φ σ H rel _ fun R1 φ1 H1 vs r1 x1 p1 => ?_)
        exact evB_ok hX.calm hX.hu b q3 r1.sub (vws_at r1 p1 q2) fun z H3 w => Outp.fin r1 x1 w q
      · cases he
    · cases he
  · cases he
theorem mk_q {K : Frag} {a : E} {ρ : REnv} {M : Store} {r : W × Bool} {M' : Store} (he : evE o (.mk a) ρ M = some (r, M')) : ∃ r0 M1, evE o a ρ M = some (r0, M1) ∧
    ∀ {R : Hp} {φ : List Addr} {σ : L2.St} {H R1 : Hp} {φ1 : List Addr} {H1 : Hp} {v : V}, Rel K R1 φ1 ρ M1 σ H1 → Ext R φ M H R1 φ1 M1 H1 → RepR K R1 φ1 M1 H1 H r0 v → ∃ R' φ', Rel K R' φ' ρ M' σ H1 ∧ Ext R φ M H R' φ' M' H1 ∧ RepR K R' φ' M' H1 H r v := by
  simp only [evE] at he
  split at he
  · rename_i x M1 q1
    split at he
    · rename_i nd q2
      cases he
      refine ⟨_, M1, q1, fun {R φ σ H R1 φ1 H1 v} r1 x1 p1 => ?_⟩
      unfold RepR at p1
      rw [if_pos rfl] at p1
      obtain ⟨d, ad, e1, rfl, h0, nd', e2, na, ra, nl⟩ := p1
      cases e1
      rw [q2] at e2
      cases e2
      have old : ∀ {n nd0}, cellAt (M1 ++ [some nd]) n = some nd0 → (n < M1.length ∧ cellAt M1 n = some nd0) ∨ (n = M1.length ∧ nd0 = nd) := fun {n nd0} c => by
        by_cases hn : n < M1.length
        · refine .inl ⟨hn, cellAt_of ?_⟩
          rw [← cellAt_some c, List.getElem?_append_left hn]
        · have hl := cellAt_lt c
          rw [List.length_append, List.length_singleton] at hl
          have en : n = M1.length := by omega
          subst en
          have z := cellAt_some c
          rw [List.getElem?_append_right (Nat.le_refl _), Nat.sub_self] at z
          cases z
          exact .inr ⟨rfl, rfl⟩
      have phi : ∀ {n}, n < M1.length → (φ1 ++ [ad])[n]? = φ1[n]? := fun {n} h => List.getElem?_append_left (by rw [r1.len]; exact h)
      have phin : (φ1 ++ [ad])[M1.length]? = some ad := by
        rw [← r1.len, List.getElem?_append_right (Nat.le_refl _), Nat.sub_self]
        rfl
      refine ⟨R1, φ1 ++ [ad], ⟨r1.sub, by simp [r1.len], fun n nd0 b c e => ?_, fun n m n1 n2 b c1 c2 e1 e2 => ?_, fun i w e => ?_, r1.rlen⟩, ⟨x1.le, x1.pre.trans (List.prefix_append _ _), ?_, x1.new, x1.fr, fun b l => ?_, x1.dom⟩, .frz ⟨ad, phin, rfl⟩⟩
      · rcases old c with ⟨h1, h2⟩ | ⟨rfl, rfl⟩
        · rw [phi h1] at e
          exact r1.cells n nd0 b h2 e
        · rw [phin] at e
          cases e
          exact ⟨na, ra⟩
      · rcases old c1 with ⟨h1, h2⟩ | ⟨rfl, rfl⟩ <;> rcases old c2 with ⟨h3, h4⟩ | ⟨rfl, rfl⟩
        · rw [phi h1] at e1; rw [phi h3] at e2
          exact r1.inj n m _ _ b h2 h4 e1 e2
        · rw [phi h1] at e1; rw [phin] at e2; cases e2
          exact absurd ⟨n, _, h2, e1⟩ nl
        · rw [phi h3] at e2; rw [phin] at e1; cases e1
          exact absurd ⟨m, _, h4, e2⟩ nl
        · rfl
      · obtain ⟨v, e1, e2⟩ := r1.slots i w e
        exact ⟨v, e1, e2.mono (Le.refl _) (List.prefix_append _ _)⟩
      · rw [List.length_append]
        exact Nat.le_trans x1.mlen (Nat.le_add_right _ _)
      · obtain ⟨n, nd0, c, e⟩ := l
        rcases old c with ⟨h1, h2⟩ | ⟨rfl, rfl⟩
        · rw [phi h1] at e
          exact x1.liv b ⟨n, nd0, h2, e⟩
        · rw [phin] at e
          cases e
          exact .inr h0
    · cases he
  · cases he

theorem se_mk {e : Expr} {a : E} (ha : SE X o e a) : SE X o e (.mk a) := fun ρ M r M' he R φ σ H rel Q q => by
  obtain ⟨r0, M1, q1, k1⟩ := mk_q (K := X.K) he
  refine ha _ _ _ _ q1 R φ σ H rel _ fun R1 φ1 H1 v r1 x1 p1 => ?_
  obtain ⟨R', φ', r2, x2, p2⟩ := k1 r1 x1 p1
  exact q R' φ' H1 v r2 x2 p2

/-! ### isinstance -/
def TyN.nm : TyN → String
  | .int => "int" | .bool => "bool" | .str => "str" | .list => "list" | .tuple => "tuple"
def TyN.py (t : TyN) : Str := Str.ofString t.nm
def dTy : D → Option String
  | .non => some "NoneType" | .bl _ => some "bool" | .int _ => some "int" | .str _ => some "str" | .lst _ => some "list" | .tup _ => some "tuple" | .dic _ => none | .scr _ => some "list"
theorem kit_ok {K : Frag} {x : D} {t : TyN} {b : Bool} (e : isTy t x = some b) : ∃ s, dTy x = some s ∧ PySem.W.kitOne K (.type s) (.type t.nm) = some b := by
  cases t <;> cases x <;> simp [isTy] at e <;> subst e <;> exact ⟨_, rfl, kit_ty (by decide +kernel)⟩
theorem ty_ok {R H : Hp} {x : D} {s : String} {v : V} (h : Sub R H) (r : RepH X.K R H x v) (e : dTy x = some s) : TyX X.K H v (.type s) := by
  cases r <;> simp [dTy] at e <;> subst e
  · exact .base .non
  · exact .base (.bl _)
  · exact .base (.int _)
  · exact .base (.str _)
  · rename_i e1 _; exact .base (.lst e1)
  · rename_i e1 _
    rcases e1 with ⟨ob, e1, _⟩ | ⟨ob, its, n, h1, h2, _⟩
    · rcases h _ _ e1 with z | ⟨_, _, z, _⟩
      · exact .fTuple z
      · cases z
    · exact .kTuple h1 h2
  · rename_i e1
    rcases e1 with (e1 | ⟨ob, e1⟩) | ⟨ob, its, n, h1, h2, _⟩
    · rcases h _ _ e1 with z | ⟨_, _, z, _⟩
      · exact .base (.lst z)
      · cases z
    · rcases h _ _ e1 with z | ⟨_, _, z, _⟩
      · exact .base (.frz z)
      · cases z
    · exact .kList h1 h2
theorem kits_ok {K : Frag} {x : D} {s : String} (hs : dTy x = some s) : ∀ {ts : List TyN} {b : Bool}, isTys x ts = some b → PySem.W.kitAny K (.type s) (ts.map fun t => Value.type t.nm) = some b
  | [], _, e => by cases e; exact kitAny_nil
  | t :: r, _, e => by
    unfold isTys at e
    split at e
    · rename_i b1 b2 e1 e2
      cases e
      obtain ⟨s', h1, h2⟩ := kit_ok (K := K) e1
      rw [hs] at h1
      cases h1
      have ih := kits_ok (K := K) hs e2
      refine kitAny_cons h2 (fun z => ?_) (fun z => by rw [z]; rfl)
      rw [z, Bool.false_or]
      exact ih
    · cases e
end
end Rf

set_option Elab.async false
set_option linter.all false
set_option maxRecDepth 100000
set_option maxHeartbeats 4000000
namespace Rf
open PySem PySem.Spec L2

section
variable {X : Cx} {o : Orc} {C : Ctx} {k : Nat}
theorem TyN.mem (t : TyN) : t.py ∈ bltNames := by cases t <;> decide +kernel
theorem TyN.boot (t : TyN) : bootBuiltins t.py = some (.type t.nm) := by cases t <;> decide +kernel
theorem TyN.ne (t : TyN) : t.py ≠ "__name__" ∧ (t.py == ("__debug__" : Str)) = false := by cases t <;> decide +kernel
theorem pe_ty (hX : XOk C k X) {t : TyN} {p : Pos} (hg : Gl X t.py) : PE X (.Name t.py p) (tC (.ty t.nm)) := pe_bltn hg (hX.blt _ t.mem) t.boot rfl t.ne.1 t.ne.2
/-- the names of types, in a row -/
def tysOk (X : Cx) : List TyN → List Expr → Prop
  | [], [] => True
  | t :: ts, e :: es => (∃ p, e = .Name t.py p) ∧ Gl X t.py ∧ tysOk X ts es
  | _, _ => False
theorem pa_tys (hX : XOk C k X) : ∀ {ts : List TyN} {es : List Expr}, tysOk X ts es → PA X es (fun _ H Q => Q (ts.map fun t => V.ty t.nm) H)
  | [], [], _ => pa_nil
  | t :: ts, e :: es, h => by
    obtain ⟨⟨p, rfl⟩, hg, hr⟩ := h
    exact pa_cons (pe_ty hX hg) (pa_tys hX hr) rfl
  | [], _ :: _, h => h.elim
  | _ :: _, [], h => h.elim
theorem clsV_all : ∀ ts : List TyN, Paired ClsV (ts.map fun t => V.ty t.nm) (ts.map fun t => Value.type t.nm)
  | [] => .nil
  | t :: r => .cons (.ty _) (clsV_all r)
theorem tys_tuple {es : List Expr} {n : Nat} {pos : Pos} : starEach [Expr.Tuple es n pos] X.env = (false, eval (.Tuple es n pos) X.env) :: starEach [] X.env := rfl
theorem se_isi (hX : XOk C k X) {e : Expr} {es : List Expr} {n : Nat} {p tp pos : Pos} {a : E} {ts : List TyN} (ha : SE X o e a) (hs : isStar e = false) (hg : Gl X "isinstance") (ht : tysOk X ts es) (hl : ts.length ≤ big) (h0 : ts ≠ []) :
    SE X o (.Call (.Name "isinstance" p) [e, .Tuple es n tp] [] pos) (.isi a ts) := fun ρ M r M' he R φ σ H rel Q q => by
  simp only [evE] at he
  split at he
  · rename_i q1
    split at he
    · rename_i q2
      split at he
      · rename_i q3
        cases he
        refine wE_of (pe_callB call_isiT hg (hX.blt _ (by decide)) (by decide +kernel) (pa_cons wE_pe (pa_cons (pe_tup (pa_tys hX ht)) pa_nil rfl) (starEach_cons hs)) (by decide) (by decide) (starEach_cons hs) rfl) ?_
        refine ha.frz _ _ _ _ q1 R φ σ H rel _ fun R1 φ1 H1 v r1 x1 p1 => ?_
        refine ⟨by rw [List.length_map]; exact big_line hl, fun t0 hp => ?_⟩
        have r2 := r1.laid (o := .tup (ts.map fun t => V.ty t.nm)) hp
        have x2 := x1.trans (Ext.laid (R := R1) (φ := φ1) (M := M') (o := .tup (ts.map fun t => V.ty t.nm)) hp)
        have hv := vw_at r2 p1 q2
        have go : ∀ s, dTy _ = some s → _ := fun s hd => (⟨v, t0, _, _, _, _, rfl, upd_same, clsV_all ts, ty_ok r2.sub hv hd, kits_ok hd q3, q R1 φ1 _ _ r2 x2 (.frz (.bl _))⟩ : rIsiT X.K [v, .ref t0] _ Q)
        cases ts with
        | nil => exact absurd rfl h0
        | cons t ts =>
          have q4 := q3
          unfold isTys at q4
          split at q4
          · rename_i e1 _
            obtain ⟨s, hd, _⟩ := kit_ok (K := X.K) e1
            exact go s hd
          · cases q4
      · cases he
    · cases he
  · cases he
theorem se_isi1 (hX : XOk C k X) {e : Expr} {t : TyN} {p tp pos : Pos} {a : E} (ha : SE X o e a) (hs : isStar e = false) (hg : Gl X "isinstance") (ht : Gl X t.py) :
    SE X o (.Call (.Name "isinstance" p) [e, .Name t.py tp] [] pos) (.isi a [t]) := fun ρ M r M' he R φ σ H rel Q q => by
  simp only [evE] at he
  split at he
  · rename_i q1
    split at he
    · rename_i q2
      split at he
      · rename_i q3
        cases he
        refine wE_of (pe_callB call_isi hg (hX.blt _ (by decide)) (by decide +kernel) (pa_cons wE_pe (pa_cons (pe_ty hX ht) pa_nil rfl) (starEach_cons hs)) (by decide) (by decide) (starEach_cons hs) rfl) ?_
        refine ha.frz _ _ _ _ q1 R φ σ H rel _ fun R1 φ1 H1 v r1 x1 p1 => ?_
        have hv := vw_at r1 p1 q2
        unfold isTys at q3
        split at q3
        · rename_i b1 b2 e1 e2
          cases e2
          cases q3
          obtain ⟨s, hd, hk⟩ := kit_ok (K := X.K) e1
          refine ⟨v, _, _, _, b1, rfl, .ty _, ty_ok r1.sub hv hd, hk, ?_⟩
          rw [Bool.or_false] at q
          exact q R1 φ1 H1 _ r1 x1 (.frz (.bl _))
        · cases q3
      · cases he
    · cases he
  · cases he

/-! ### dicts, lists by their methods -/
def noCall0 : Expr → Bool
  | .Call (.Name _ _) [] [] _ => false
  | _ => true
theorem base_ok {e : Expr} {m : Str} {env : Env} {wh : Sem Value} (h : noCall0 e = true) : attributeBase e m env wh = wh := by
  unfold attributeBase
  cases e <;> first | rfl | skip
  rename_i f as ks p
  cases f <;> first | rfl | skip
  cases as <;> first | rfl | skip
  cases ks <;> first | rfl | skip
  simp [noCall0] at h
theorem m1_ok {e ek : Expr} {m : Str} {apos pos : Pos} (h : noCall0 e = true) (hs : isStar ek = false) (hl : (apos.endLine == pos.line) = true) : M1 X e m apos ek pos :=
  ⟨base_ok h, by rw [starEach_cons hs]; rfl, hl, by rw [starEach_cons hs]; rfl⟩
theorem m2_ok {e ek ex : Expr} {m : Str} {apos pos : Pos} (h : noCall0 e = true) (hs : isStar ek = false) (hs' : isStar ex = false) (hl : (apos.endLine == pos.line) = true) : M2 X e m apos ek ex pos :=
  ⟨base_ok h, by rw [starEach_cons hs, starEach_cons hs']; rfl, hl, by rw [starEach_cons hs, starEach_cons hs']; rfl⟩
theorem getD_val {R : Hp} {kvs : List (Key × D)} {ks : List (Key × V)} {key : Key} {z : D} {zv : V} (r : RepKs X.K R kvs ks) (rz : RepD X.K R z zv) : RepD X.K R ((getK key kvs).getD z) ((valV ks key).getD zv) := by
  rcases getK_val key r with ⟨a, b⟩ | ⟨x, v, a, b, c⟩ <;> rw [a, b]
  · exact rz
  · exact c
theorem se_get1 (hX : XOk C k X) {e ek : Expr} {apos pos : Pos} {a b : E} (ha : SE X o e a) (hb : SE X o ek b) (h : noCall0 e = true) (hs : isStar ek = false) (hl : (apos.endLine == pos.line) = true) : SE X o (.Call (.Attribute e "get" apos) [ek] [] pos) (.get1 a b) :=
  fun ρ M r M' he R φ σ H rel Q q => by
  simp only [evE] at he
  split at he
  · rename_i q1
    split at he
    · rename_i q0
      split at he
      · rename_i q2
        split at he
        · rename_i q3 q4
          cases he
          refine wE_of (pe_dget1 (by have := hX.hu; omega) wE_pe wE_pe (m1_ok h hs hl)) (ha.frz _ _ _ _ q1 R φ σ H rel _ fun R1 φ1 H1 v r1 x1 p1 => ?_)
          have w1 := vw_at r1 p1 q0
          cases w1 with
          | dic e1 _ =>
            refine ⟨_, rfl, .inl ⟨_, e1⟩, hb.frz _ _ _ _ q2 R1 φ1 σ H1 r1 _ fun R2 φ2 H2 u r2 x2 p2 => ?_⟩
            have w2 := vw_at r2 (p1.mono x2.le x2.pre) q3
            cases w2 with
            | dic e2 s2 =>
              obtain rfl := kV_ofD p2 q4
              exact ⟨_, .inl ⟨_, _, e2, rfl, rfl⟩, q R2 φ2 H2 _ r2 (x1.trans x2) (.frz (getD_val s2 .non))⟩
        · cases he
      · cases he
    · cases he
  · cases he
theorem se_get2 (hX : XOk C k X) {e ek ex : Expr} {apos pos : Pos} {a b c : E} (ha : SE X o e a) (hb : SE X o ek b) (hc : SE X o ex c) (h : noCall0 e = true) (hs : isStar ek = false) (hs' : isStar ex = false) (hl : (apos.endLine == pos.line) = true) :
    SE X o (.Call (.Attribute e "get" apos) [ek, ex] [] pos) (.get2 a b c) := fun ρ M r M' he R φ σ H rel Q q => by
  simp only [evE] at he
  split at he
  · rename_i q1
    split at he
    · rename_i q0
      split at he
      · rename_i q2
        split at he
        · rename_i q5
          split at he
          · rename_i q3 q4
            cases he
            refine wE_of (pe_dget2 (by have := hX.hu; omega) wE_pe wE_pe wE_pe (m2_ok h hs hs' hl)) (ha.frz _ _ _ _ q1 R φ σ H rel _ fun R1 φ1 H1 v r1 x1 p1 => ?_)
            have w1 := vw_at r1 p1 q0
            cases w1 with
            | dic e1 _ =>
              refine ⟨_, rfl, .inl ⟨_, e1⟩, hb.frz _ _ _ _ q2 R1 φ1 σ H1 r1 _ fun R2 φ2 H2 u r2 x2 p2 => ?_⟩
              refine hc.frz _ _ _ _ q5 R2 φ2 σ H2 r2 _ fun R3 φ3 H3 z r3 x3 p3 => ?_
              have w2 := vw_at r3 (p1.mono (x2.le.trans x3.le) (x2.pre.trans x3.pre)) q3
              cases w2 with
              | dic e2 s2 =>
                obtain rfl := kV_ofD p2 q4
                exact ⟨_, .inl ⟨_, _, e2, rfl, rfl⟩, q R3 φ3 H3 _ r3 ((x1.trans x2).trans x3) (.frz (getD_val s2 p3))⟩
          · cases he
        · cases he
      · cases he
    · cases he
  · cases he
/-- a cell gets a new content -/
theorem Rel.setCell {R : Hp} {φ : List Addr} {ρ : REnv} {M : Store} {σ : L2.St} {H : Hp} {n : Nat} {nd nd' : Node} {a : Addr} {o' : HO} (r : Rel X.K R φ ρ M σ H) (c : cellAt M n = some nd) (e : φ[n]? = some a) (nw : NodeAt X.K R (upd H a o') a nd') :
    Rel X.K R φ ρ (M.set n (some nd')) σ (upd H a o') ∧ Ext R φ M H R φ (M.set n (some nd')) (upd H a o') := by
  have hn := cellAt_lt c
  have ca : ∀ {m nd0}, cellAt (M.set n (some nd')) m = some nd0 → (m = n ∧ nd0 = nd') ∨ (m ≠ n ∧ cellAt M m = some nd0) := fun {m nd0} h => by
    by_cases hm : m = n
    · subst hm
      have z := cellAt_some h
      rw [List.getElem?_set_self hn] at z
      cases z
      exact .inl ⟨rfl, rfl⟩
    · have z := cellAt_some h
      rw [List.getElem?_set_ne (Ne.symm hm)] at z
      exact .inr ⟨hm, cellAt_of z⟩
  have ra := (r.cells n nd a c e).2
  have lv : Live φ M a := ⟨n, nd, c, e⟩
  have ne : ∀ {m nd0 b}, m ≠ n → cellAt M m = some nd0 → φ[m]? = some b → b ≠ a := fun {m nd0 b} hm h1 h2 z => hm (r.inj m n _ _ b h1 c h2 (z ▸ e))
  have liv : ∀ b, Live φ (M.set n (some nd')) b → Live φ M b := fun b ⟨m, nd0, h1, h2⟩ => by
    rcases ca h1 with ⟨rfl, rfl⟩ | ⟨hm, h1⟩
    · rw [e] at h2; cases h2; exact lv
    · exact ⟨m, nd0, h1, h2⟩
  refine ⟨⟨fun b u h => ?_, by rw [List.length_set]; exact r.len, fun m nd0 b h1 h2 => ?_, fun m m' n1 n2 b c1 c2 e1 e2 => ?_, r.slots, r.rlen⟩, ⟨Le.refl _, List.prefix_refl _, by rw [List.length_set]; exact Nat.le_refl _, fun _ h => .inl h, fun b u h l => ?_, fun b l => .inl (liv b l), fun b h => ?_⟩⟩
  · have hb : b ≠ a := fun z => by subst z; rw [ra] at h; cases h
    rw [upd_ne hb]
    exact r.sub b u h
  · rcases ca h1 with ⟨rfl, rfl⟩ | ⟨hm, h1⟩
    · rw [e] at h2; cases h2; exact ⟨nw, ra⟩
    · have hb := ne hm h1 h2
      exact ⟨(r.cells m nd0 b h1 h2).1.same fun u hu => by rw [upd_ne hb]; exact hu, (r.cells m nd0 b h1 h2).2⟩
  · rcases ca c1 with ⟨g1, _⟩ | ⟨hm, d1⟩ <;> rcases ca c2 with ⟨g2, _⟩ | ⟨hm', d2⟩
    · rw [g1, g2]
    · rw [g1, e] at e1; cases e1
      exact absurd rfl (ne hm' d2 e2)
    · rw [g2, e] at e2; cases e2
      exact absurd rfl (ne hm d1 e1)
    · exact r.inj m m' _ _ b d1 d2 e1 e2
  · have hb : b ≠ a := fun z => l (z ▸ lv)
    exact .inl (by rw [upd_ne hb]; exact h)
  · by_cases hb : b = a
    · subst hb; rw [upd_same] at h; cases h
    · rw [upd_ne hb] at h; exact h
theorem meth1 {T id : String} {r : V → List V → Hp → VK → Prop} {e ek : Expr} {m : Str} {apos pos : Pos} (pa : PlainAttrs T) (sl : Slot T m id) (ty : typeOf (.builtin id) = pure (.type "method_descriptor")) (hm : MtR X id r) (h : noCall0 e = true) (hs : isStar ek = false)
    (hl : (apos.endLine == pos.line) = true) : PE X (.Call (.Attribute e m apos) [ek] [] pos) (tBM X.K T r (wE X e) (tCons (wE X ek) tNil)) :=
  pe_bm pa sl ty hm wE_pe (pa_cons wE_pe pa_nil (starEach_cons hs)) (base_ok h) (by rw [starEach_cons hs]; rfl) hl (starEach_cons hs) rfl
theorem live_at {R : Hp} {φ : List Addr} {ρ : REnv} {M : Store} {σ : L2.St} {H : Hp} {n : Nat} {xs : List D} {v : V} (r : Rel X.K R φ ρ M σ H) (c : cellAt M n = some (.lst xs)) (p : RepW X.K R φ (.cell n) v) :
    ∃ a vs, v = .ref a ∧ φ[n]? = some a ∧ H a = some (.lst vs) ∧ RepDs X.K R xs vs := by
  obtain ⟨a, e, rfl⟩ := p
  obtain ⟨⟨vs, e1, r1⟩, _⟩ := r.cells n _ a c e
  exact ⟨a, vs, rfl, e, e1, r1⟩
theorem se_pop {i : Nat} {x : Str} {ek : Expr} {p apos pos : Pos} {a : E} (hx : SE X o (.Name x p) (.slot i)) (ha : SE X o ek a) (hs : isStar ek = false) (hl : (apos.endLine == pos.line) = true) : SE X o (.Call (.Attribute (.Name x p) "pop" apos) [ek] [] pos) (.pop i a) :=
  fun ρ M r M' he R φ σ H rel Q q => by
  simp only [evE] at he
  split at he
  · rename_i n w0
    split at he
    · rename_i xs0 c0
      split at he
      · rename_i q1
        split at he
        · rename_i xs c1
          split at he
          · rename_i j j1
            split at he
            · rename_i y y1
              split at he
              · rename_i hz
                cases he
                refine wE_of (meth1 (T := "list") PySem.F.plainAttrs_list PySem.F.slot_list_pop PySem.F.type_list_pop mt_popAt rfl hs hl) ?_
                obtain ⟨v, hv, pv⟩ := rel.slots i _ w0
                refine hx.frz ρ M ((.cell n), false) M (by simp only [evE, w0]) R φ σ H rel _ fun R1 φ1 H1 v r1 x1 p1 => ?_
                obtain ⟨ad, vs0, rfl, e0, h0, _⟩ := live_at r1 c0 p1
                refine ⟨.inl ⟨rfl, _, .of h0⟩, ha.frz _ _ _ _ q1 R1 φ1 σ H1 r1 _ fun R2 φ2 H2 u r2 x2 p2 => ?_⟩
                cases p2
                obtain ⟨ad2, vs, e3, e4, h2, rs⟩ := live_at r2 c1 (p1.mono x2.le x2.pre)
                cases e3
                obtain ⟨yv, y2, y3⟩ := rs.get y1
                have jz := ixN_seq j1
                obtain ⟨rel', ext'⟩ := r2.setCell c1 e4 (nd' := .lst (xs.eraseIdx j)) (o' := .lst (vs.eraseIdx j)) ⟨_, upd_same, rs.erase j⟩
                refine ⟨ad, vs, _, j, yv, rfl, rfl, h2, ?_, ?_, by rw [← rs.length]; exact jz.1, y2, q R2 φ2 _ _ rel' ((x1.trans x2).trans ext') (.frz y3)⟩
                · have := jz.2.2.1; unfold big at hz; omega
                · have := jz.2.2.2; unfold big at hz; omega
              · cases he
            · cases he
          · cases he
        · cases he
      · cases he
    · cases he
  · cases he
end
end Rf

set_option Elab.async false
set_option linter.all false
set_option maxRecDepth 100000
set_option maxHeartbeats 4000000
namespace Rf
open PySem PySem.Spec L2

section
variable {X : Cx} {o : Orc} {C : Ctx} {k : Nat}
/-- a call that saw data only, seen by its caller -/
theorem lift_pure {K : Frag} {R R' : Hp} {φ : List Addr} {ρ : REnv} {M : Store} {σ : L2.St} {H H' : Hp} (r : Rel K R φ ρ M σ H) (s : Sub R' H') (x : Ext R [] [] H R' [] [] H') : Rel K R' φ ρ M σ H' ∧ Ext R φ M H R' φ M H' := by
  have nl : ∀ a, ¬ Live [] [] a := fun a ⟨n, nd, e, q⟩ => by simp at q
  have rn : ∀ {a u}, H a = some u → R a = none → R' a = none := fun {a u} h hr => by
    cases z : R' a with
    | none => rfl
    | some w =>
      rcases x.new a (by rw [z]; exact fun w => by cases w) with q | q | q
      · exact absurd hr q
      · rw [h] at q; cases q
      · exact absurd q (nl a)
  refine ⟨⟨s, r.len, fun n nd a e q => ?_, r.inj, fun i w e => let ⟨v, q, z⟩ := r.slots i w e; ⟨v, q, z.mono x.le (List.prefix_refl _)⟩, r.rlen⟩, ⟨x.le, List.prefix_refl _, Nat.le_refl _, fun a h => ?_, fun a u h _ => x.fr a u h (nl a), fun a h => .inl h, x.dom⟩⟩
  · obtain ⟨na, ra⟩ := r.cells n nd a e q
    obtain ⟨u, hu⟩ := na.some
    have r2 := rn hu ra
    exact ⟨(na.mono x.le).same fun u hu => (x.fr a u hu (nl a)).exact r2, r2⟩
  · rcases x.new a h with q | q | q
    · exact .inl q
    · exact .inr (.inl q)
    · exact absurd q (nl a)
theorem lift_repR {K : Frag} {R R' : Hp} {φ : List Addr} {ρ : REnv} {M : Store} {σ : L2.St} {H H' : Hp} (r : Rel K R φ ρ M σ H) {q : Res} {v : V} (p : RepR K R' [] [] H' H (.d q.1, q.2) v) : RepR K R' φ M H' H (.d q.1, q.2) v := by
  unfold RepR at p ⊢
  split at p
  · rename_i hq
    rw [if_pos hq]
    obtain ⟨d, a, e1, e2, e3, nd, e4, e5, e6, _⟩ := p
    exact ⟨d, a, e1, e2, e3, nd, e4, e5, e6, r.notLive e3⟩
  · rename_i hq
    rw [if_neg hq]
    exact p
/-- the heap with every list in it held -/
def holdL (R H : Hp) : Hp := fun a => match R a with
  | some o => some o
  | none => match H a with
    | some (.lst vs) => some (.lst vs)
    | _ => none
theorem holdL_le {R H : Hp} : Le R (holdL R H) := fun a o h => by unfold holdL; rw [h]
theorem holdL_new {R H : Hp} {a : Addr} {o : HO} (h : holdL R H a = some o) : R a = some o ∨ (R a = none ∧ ∃ vs, o = .lst vs ∧ H a = some o) := by
  unfold holdL at h
  split at h
  · rename_i e; cases h; exact .inl e
  · rename_i e
    split at h
    · rename_i e2; cases h; exact .inr ⟨e, _, rfl, e2⟩
    · cases h
theorem holdL_sub {R H : Hp} (s : Sub R H) : Sub (holdL R H) H := fun a o h => by
  rcases holdL_new h with q | ⟨_, vs, rfl, q⟩
  · exact s a o q
  · exact .inl q
theorem hold_args {K : Frag} {R : Hp} {φ : List Addr} {ρ : REnv} {M : Store} {σ : L2.St} {H : Hp} (r : Rel K R φ ρ M σ H) : ∀ {ws : List W} {vs : List V} {xs : List D}, RepWs K R φ ws vs → vws M ws = some xs → lstCells M ws = true → RepDs K (holdL R H) xs vs
  | [], _, _, .nil, h, _ => by cases h; exact .nil
  | w :: ws, _, xs, .cons p ps, h, g => by
    unfold vws at h
    split at h
    · rename_i y ys e1 e2
      cases h
      cases w with
      | d z => cases e1; exact .cons (RepD.mono holdL_le p) (hold_args r ps e2 g)
      | cell n =>
        simp only [lstCells, Bool.and_eq_true] at g
        obtain ⟨g1, g2⟩ := g
        refine .cons ?_ (hold_args r ps e2 g2)
        obtain ⟨a, ea, rfl⟩ := p
        split at g1
        · rename_i zs c
          obtain ⟨⟨us, h1, h2⟩, hr⟩ := r.cells n _ a c ea
          simp only [vw, c, Option.map_some, Option.some.injEq] at e1
          subst e1
          exact .lst (by unfold holdL; rw [hr]; simp only []; rw [h1]) (h2.mono holdL_le)
        · cases g1
    · cases h
theorem lift_held {K : Frag} {R R' : Hp} {φ : List Addr} {ρ : REnv} {M : Store} {σ : L2.St} {H H' : Hp} (r : Rel K R φ ρ M σ H) (s : Sub R' H') (x : Ext (holdL R H) [] [] H R' [] [] H') : Rel K R φ ρ M σ H' ∧ Ext R φ M H R φ M H' := by
  have nl : ∀ a, ¬ Live [] [] a := fun a ⟨n, nd, e, q⟩ => by simp at q
  have kp : ∀ {a u}, H a = some u → R a = none → H' a = some u := fun {a u} h hr => by
    rcases x.fr a u h (nl a) with q | ⟨q, ks, ob, rfl, q2⟩
    · exact q
    · exfalso
      rcases x.new a q with z | z | z
      · cases w : holdL R H a with
        | none => exact z w
        | some o' =>
          rcases holdL_new w with w | ⟨_, vs, rfl, w⟩
          · rw [hr] at w; cases w
          · rw [h] at w; cases w
      · rw [h] at z; cases z
      · exact nl a z
  refine ⟨⟨fun a u h => s a u (x.le a u (holdL_le a u h)), r.len, fun n nd a e q => ?_, r.inj, r.slots, r.rlen⟩, ⟨Le.refl _, List.prefix_refl _, Nat.le_refl _, fun a h => .inl h, fun a u h _ => ?_, fun a h => .inl h, x.dom⟩⟩
  · obtain ⟨na, ra⟩ := r.cells n nd a e q
    exact ⟨na.same fun u hu => kp hu ra, ra⟩
  · by_cases hr : R a = none
    · exact .inl (kp h hr)
    · rcases x.fr a u h (nl a) with q | ⟨_, q⟩
      · exact .inl q
      · exact .inr ⟨hr, q⟩
theorem allD_of : ∀ {ws : List W}, anyCell ws = false → ∀ {M : Store} {xs : List D}, vws M ws = some xs → allD ws = some xs
  | [], _, _, _, h => by cases h; rfl
  | .d x :: ws, h, M, xs, g => by
    unfold vws at g
    split at g
    · rename_i e1 e2
      cases e1
      cases g
      have := allD_of (ws := ws) (by simpa [anyCell] using h) e2
      simp only [allD, isD, this]
    · cases g
  | .cell n :: ws, h, _, _, _ => by simp [anyCell] at h
theorem atom_rep {K : Frag} {R R' : Hp} {x : D} {v : V} (h : isAtom x = true) (p : RepD K R x v) : RepD K R' x v := by
  cases p with
  | non => exact .non
  | bl b => exact .bl b
  | int i => exact .int i
  | str x => exact .str x
  | lst e r => cases h
  | tup e r => cases h
  | dic e r => cases h
  | scr e => cases h
theorem asNode_atom {x : D} (h : isAtom x = true) : asNode x = none := by
  cases x <;> first | rfl | cases h
/-- a def of the module, called with data -/
theorem se_callP (hX : XOk C k X) {f : Str} {d : Def} (hf : findDef C.T f = some d) {e : Expr} {es : List Expr} {p pos : Pos} {a : E} (ho : o = orc C.T k) (hg : Gl X f) (ha : SA X o (e :: es) a) (hs : noStars (e :: es) = true) (hdb : (f == ("__debug__" : Str)) = false) :
    SE X o (.Call (.Name f p) (e :: es) [] pos) (.callP f a) := fun ρ M r M' he R φ σ H rel Q q => by
  obtain ⟨fa, fd, hm, hk, hb, _, F⟩ := hX.defs f d hf
  have hs' : isStar e = false ∧ noStars es = true := by simpa [noStars] using hs
  simp only [evE] at he
  split at he
  · rename_i ws M1 q1
    split at he
    · rename_i xs q2
      split at he
      · rename_i r0 q3
        split at he
        · rename_i q4
          cases he
          refine wE_of (pe_call F hX.room hg hm hk hb .nil pass0 wA_pa hdb (starEach_cons hs'.1) (noStar_any hs'.2) (E := E0)) ?_
          refine ha _ _ _ _ q1 R φ σ H rel _ fun R1 φ1 H1 vs r1 x1 p1 => ?_
          rw [List.append_nil]
          subst ho
          by_cases hc : anyCell ws = false
          · refine .inl ⟨R1, xs, r0, allD_vws (allD_of hc q2) p1, r1.sub, q3, fun R' H' v s' x' p' => ?_⟩
            obtain ⟨r2, x2⟩ := lift_pure r1 s' x'
            exact q R' φ1 H' v r2 (x1.trans x2) ((lift_repR r1 p').back x1)
          · have q5 : isAtom r0.1 = true ∧ lstCells M' ws = true := by
              rw [Bool.not_eq_false] at hc
              rw [hc] at q4
              simpa using q4
            refine .inl ⟨holdL R1 H1, xs, r0, hold_args r1 p1 q2 q5.2, holdL_sub r1.sub, q3, fun R' H' v s' x' p' => ?_⟩
            obtain ⟨r2, x2⟩ := lift_held r1 s' x'
            refine q R1 φ1 H' v r2 (x1.trans x2) ?_
            unfold RepR at p' ⊢
            split at p'
            · obtain ⟨d, a, e1, _, _, nd, e4, _⟩ := p'
              cases e1
              rw [asNode_atom q5.1] at e4; cases e4
            · rename_i hq
              rw [if_neg hq]
              exact atom_rep q5.1 p'
        · cases he
      · cases he
    · cases he
  · cases he
/-- a def of the module that may write to what it is given -/
theorem Rel.noSlots {K : Frag} {R : Hp} {φ : List Addr} {ρ : REnv} {M : Store} {σ : L2.St} {H : Hp} (r : Rel K R φ ρ M σ H) : Rel K R φ [] M [] H := ⟨r.sub, r.len, r.cells, r.inj, fun i w e => by simp [wAt] at e, rfl⟩
theorem Rel.withSlots {K : Frag} {R R' : Hp} {φ φ' : List Addr} {ρ : REnv} {M M' : Store} {σ : L2.St} {H H' : Hp} (r : Rel K R φ ρ M σ H) (r' : Rel K R' φ' [] M' [] H') (x : Ext R φ M H R' φ' M' H') : Rel K R' φ' ρ M' σ H' :=
  ⟨r'.sub, r'.len, r'.cells, r'.inj, fun i w e => let ⟨v, q, z⟩ := r.slots i w e; ⟨v, q, z.mono x.le x.pre⟩, r.rlen⟩
theorem se_callM (hX : XOk C k X) {f : Str} {d : Def} (hf : findDef C.T f = some d) {e : Expr} {es : List Expr} {p pos : Pos} {a : E} (ho : o = orc C.T k) (hg : Gl X f) (ha : SA X o (e :: es) a) (hs : noStars (e :: es) = true) (hdb : (f == ("__debug__" : Str)) = false) :
    SE X o (.Call (.Name f p) (e :: es) [] pos) (.callM f a) := fun ρ M r M' he R φ σ H rel Q q => by
  obtain ⟨fa, fd, hm, hk, hb, _, F⟩ := hX.defs f d hf
  have hs' : isStar e = false ∧ noStars es = true := by simpa [noStars] using hs
  simp only [evE] at he
  split at he
  · rename_i ws M1 q1
    refine wE_of (pe_call F hX.room hg hm hk hb .nil pass0 wA_pa hdb (starEach_cons hs'.1) (noStar_any hs'.2) (E := E0)) ?_
    refine ha _ _ _ _ q1 R φ σ H rel _ fun R1 φ1 H1 vs r1 x1 p1 => ?_
    rw [List.append_nil]
    subst ho
    refine .inr ⟨R1, φ1, ws, M1, r, M', r1.noSlots, p1, he, fun R' φ' H' v r2 x2 p2 => ?_⟩
    exact q R' φ' H' v (r1.withSlots r2 x2) (x1.trans x2) (p2.back x1)
  · cases he

/-! ### keywords only -/
def kwOk : List Str → List Expr → List Keyword → Bool
  | [], [], [] => true
  | n :: ns, e :: es, ⟨some m, _, _⟩ :: ks => decide (m = n) && kwOk ns es ks
  | _, _, _ => false
def kwVals : List Keyword → List Expr
  | [] => []
  | k :: r => k.value :: kwVals r
def kwNames : List Keyword → Option (List Str)
  | [] => some []
  | ⟨some m, _, _⟩ :: r => match kwNames r with
    | some ns => some (m :: ns)
    | none => none
  | ⟨none, _, _⟩ :: _ => none
def wK (X : Cx) (ks : List Keyword) : TA := fun σ H Q => ∀ (pos : Pos) (pins : List (Addr × Obj)) (s : Shared), Inv X pins σ H s → wpAny (model X.prog X.w) X.A (evalAll ((backToKw pos (keywordEach ks X.env)).map (·.2))) (AP X pins σ Q) X.xe s
theorem wK_pk {X : Cx} {ks : List Keyword} : PK X ks (wK X ks) := ⟨fun pos pins s σ H Q I h => h pos pins s I⟩
theorem wK_of {X : Cx} {ks : List Keyword} {t : TA} (h : PK X ks t) {σ : L2.St} {H : Hp} {Q : List V → Hp → Prop} (q : t σ H Q) : wK X ks σ H Q := fun pos pins s I => h.run pos pins s σ H Q I q
def SK (X : Cx) (o : Orc) (ks : List Keyword) (E : E) : Prop := ∀ ρ M ws M', evA o E ρ M = some (ws, M') → ∀ R φ σ H, Rel X.K R φ ρ M σ H → ∀ Q : List V → Hp → Prop,
  (∀ R' φ' H' vs, Rel X.K R' φ' ρ M' σ H' → Ext R φ M H R' φ' M' H' → RepWs X.K R' φ' ws vs → Q vs H') → wK X ks σ H Q
theorem sk_nil : SK X o [] .nil := fun ρ M ws M' he R φ σ H rel Q q => by
  simp only [evA, Option.some.injEq, Prod.mk.injEq] at he
  obtain ⟨rfl, rfl⟩ := he
  exact wK_of pk_nil (q R φ H [] rel (Ext.refl ..) .nil)
theorem sk_cons {nm : Option Str} {e : Expr} {kp : Pos} {ks : List Keyword} {a b : E} (h1 : SE X o e a) (h2 : SK X o ks b) : SK X o (⟨nm, e, kp⟩ :: ks) (.cons a b) := fun ρ M ws M' he R φ σ H rel Q q => by
  simp only [evA] at he
  split at he
  · rename_i w fr M1 e1
    split at he
    · rename_i ws1 M2 e2
      cases he
      refine wK_of (pk_cons wE_pe wK_pk) ?_
      refine h1.frz _ _ _ _ e1 R φ σ H rel _ fun R1 φ1 H1 v r1 x1 p1 => ?_
      refine h2 _ _ _ _ e2 R1 φ1 σ H1 r1 _ fun R2 φ2 H2 vs r2 x2 p2 => ?_
      exact q R2 φ2 H2 (v :: vs) r2 (x1.trans x2) (.cons (p1.mono x2.le x2.pre) p2)
    · cases he
  · cases he
theorem kwEach {pos : Pos} {env : Env} : ∀ {ks : List Keyword} {ns : List Str}, kwNames ks = some ns →
    (backToKw pos (keywordEach ks env)).all (·.1.isSome) = true ∧ (backToKw pos (keywordEach ks env)).filterMap (·.1) = ns ∧ (backToKw pos (keywordEach ks env)).any (·.1.isNone) = false
  | [], ns, h => by cases h; exact ⟨rfl, rfl, rfl⟩
  | ⟨some m, e, kp⟩ :: r, ns, h => by
    unfold kwNames at h
    split at h
    · rename_i ns' e1
      cases h
      obtain ⟨a, b, c⟩ := kwEach (pos := pos) (env := env) e1
      refine ⟨?_, ?_, ?_⟩
      · show (true && (backToKw pos (keywordEach r env)).all (·.1.isSome)) = true
        rw [a]; rfl
      · show m :: (backToKw pos (keywordEach r env)).filterMap (·.1) = _
        rw [b]
      · show (false || (backToKw pos (keywordEach r env)).any (·.1.isNone)) = false
        rw [c]; rfl
    · cases h
  | ⟨none, e, kp⟩ :: r, ns, h => by cases h
theorem pick_rep {K : Frag} {R : Hp} {xs : List D} {vs : List V} (r : RepDs K R xs vs) : ∀ pm : List Nat, RepDs K R (pm.filterMap fun j => xs[j]?) (pm.filterMap fun j => vs[j]?)
  | [] => .nil
  | j :: pm => by
    rw [List.filterMap_cons, List.filterMap_cons]
    cases e : xs[j]? with
    | none =>
      have : vs[j]? = none := by
        rw [List.getElem?_eq_none_iff] at e ⊢
        rw [← r.length]; exact e
      rw [this]
      exact pick_rep r pm
    | some x =>
      obtain ⟨v, h1, h2⟩ := r.get e
      rw [h1]
      exact .cons h2 (pick_rep r pm)
theorem pick_vals {vs : List V} {us : List Value} (r : Vals vs us) : ∀ pm : List Nat, Vals (pm.filterMap fun j => vs[j]?) (pm.filterMap fun j => us[j]?)
  | [] => .nil
  | j :: pm => by
    rw [List.filterMap_cons, List.filterMap_cons]
    cases e : vs[j]? with
    | none =>
      have : us[j]? = none := by
        rw [List.getElem?_eq_none_iff] at e ⊢
        rw [← r.length]; exact e
      rw [this]
      exact pick_vals r pm
    | some x =>
      obtain ⟨v, h1, h2⟩ := r.get e
      rw [h1]
      exact .cons h2 (pick_vals r pm)
theorem orc_len {T : List Def} {k : Nat} {f : Str} {d : Def} (hf : findDef T f = some d) {xs : List D} {r : Res} (h : (orc T k).p f xs = some r) : xs.length = d.ps.length := by
  cases k with
  | zero => cases h
  | succ k =>
    have h : runP (orc T k) T f xs = some r := h
    unfold runP at h
    rw [hf] at h
    simp only [] at h
    split at h
    · assumption
    · cases h
theorem se_callK (hX : XOk C k X) {f : Str} {d : Def} (hf : findDef C.T f = some d) {kws : List Keyword} {ks : List Str} {pm : List Nat} {p pos : Pos} {a : E} (ho : o = orc C.T k) (hg : Gl X f) (hn : kwNames kws = some ks) (ha : SK X o kws a) (hl : ∀ ρ M ws M', evA o a ρ M = some (ws, M') → ws.length = ks.length) (hq : (ks, pm) ∈ d.kwo) (hdb : (f == ("__debug__" : Str)) = false) :
    SE X o (.Call (.Name f p) [] kws pos) (.callK f ks pm a) := fun ρ M r M' he R φ σ H rel Q q => by
  obtain ⟨fa, fd, hm, hk, hb, hkw, F⟩ := hX.defs f d hf
  simp only [evE] at he
  split at he
  · rename_i ws M1 q1
    split at he
    · rename_i xs q2
      split at he
      · rename_i r0 q3
        cases he
        obtain ⟨k1, k2, k3⟩ := kwEach (pos := pos) (env := X.env) hn
        subst ho
        intro pins s I
        refine wpAny_Call_Name_kw (ld_glob I hg hm ?_ hdb)
        refine PySem.W.callWith_KW0 (h₀ := X.base) I.ok.mod.kin hk k1 (thn (ha _ _ _ _ q1 R φ σ H rel (fun vs H1 => vs.length = ks.length ∧ spD X.K (orc C.T k) f (pm.filterMap fun j => vs[j]?) H1 Q E0) (fun R1 φ1 H1 vs r1 x1 p1 => ?_) pos pins s I) fun us s1 ⟨vs, H1, I1, rv, hlv, w⟩ => ⟨I1.kIn, ?_⟩) (by rw [k3]; rfl)
        · have rs := allD_vws q2 p1
          refine ⟨?_, .inl ⟨R1, _, r0, pick_rep rs pm, r1.sub, q3, fun R' H' v s' x' p' => ?_⟩⟩
          · rw [← hl _ _ _ _ q1]; exact (Paired.length p1).symm
          · obtain ⟨r2, x2⟩ := lift_pure r1 s' x'
            exact q R' φ1 H' v r2 (x1.trans x2) ((lift_repR r1 p').back x1)
        · rw [k2]
          have r2 := pick_vals rv pm
          have hb2 := hkw _ hq s1 us I1.kIn (by rw [← rv.length, hlv])
          refine wpAny_call (codeAny_mono (F.run X.A X.stack s1 H1 ⟨[], ks.zip us⟩ _ _ Q E0 hX.room I1.env0 hb2 r2 w) fun r s' hq => ?_)
          cases r with
          | error e => exact (hq : False).elim
          | ok fl =>
            cases fl with
            | ret u => exact I1.after hq
            | next => exact False.elim hq
            | brk => exact False.elim hq
            | cont => exact False.elim hq
      · cases he
    · cases he
  · cases he
end
end Rf

set_option Elab.async false
set_option linter.all false
set_option maxRecDepth 100000
set_option maxHeartbeats 4000000
namespace Rf
open PySem PySem.Spec L2

/-! ### tests -/
def wW (X : Cx) (e : Expr) : TT := fun σ H Q => ∀ (wh : Sem Value) (pins : List (Addr × Obj)) (s : Shared), Inv X pins σ H s → wpAny (model X.prog X.w) X.A (isTrue e X.env wh) (TP X pins σ Q) X.xe s
theorem wW_pw {X : Cx} {e : Expr} : PW X e (wW X e) := ⟨fun wh pins s σ H Q I h => h wh pins s I⟩
theorem wW_of {X : Cx} {e : Expr} {t : TT} (h : PW X e t) {σ : L2.St} {H : Hp} {Q : Bool → Hp → Prop} (q : t σ H Q) : wW X e σ H Q := fun wh pins s I => h.run wh pins s σ H Q I q
def SW (X : Cx) (o : Orc) (e : Expr) (E : E) : Prop := ∀ ρ M b M', evT o E ρ M = some (b, M') → ∀ R φ σ H, Rel X.K R φ ρ M σ H → ∀ Q : Bool → Hp → Prop,
  (∀ R' φ' H', Rel X.K R' φ' ρ M' σ H' → Ext R φ M H R' φ' M' H' → Q b H') → wW X e σ H Q
section
variable {X : Cx} {o : Orc} {C : Ctx} {k : Nat}
theorem SW.st {e : Expr} {a : E} (h : SW X o e a) : ST X o e a := fun ρ M b M' he R φ σ H rel Q q => wT_of (PW.pt wW_pw) (h ρ M b M' he R φ σ H rel Q q)
theorem st_of {e : Expr} {a : E} (h : SE X o e a) (he : ∀ whole, isTrue e X.env whole = (do let v ← whole; standAt e.pos; holding [v] (truthy v))) : ST X o e (.cons a .nil) := fun ρ M b M' ev R φ σ H rel Q q => by
  simp only [evT] at ev
  split at ev
  · rename_i q1
    split at ev
    · rename_i q2
      split at ev
      · rename_i q3
        cases ev
        refine wT_of (pt_truth wE_pe he) (h.frz _ _ _ _ q1 R φ σ H rel _ fun R1 φ1 H1 v r1 x1 p1 => ?_)
        exact ⟨_, tru_of q3 r1.sub (vw_at r1 p1 q2), q R1 φ1 H1 r1 x1⟩
      · cases ev
    · cases ev
  · cases ev
theorem st_cmp (hX : XOk C k X) {e1 e2 : Expr} {p : COp} {pos : Pos} {a b : E} (ha : SE X o e1 a) (hb : SE X o e2 b) (hs : isSet e2 = false) : ST X o (.Compare e1 [p.py] [e2] pos) (.cons (.cmp p a b) .nil) := fun ρ M b M' ev R φ σ H rel Q q => by
  simp only [evT] at ev
  split at ev
  · rename_i u fr M1 q1
    split at ev
    · rename_i q2
      split at ev
      · rename_i q3
        cases ev
        refine wT_of (pt_cmpR wOp_op wE_pe wE_pe (noMark hs)) (cmp_core hX ha hb q1 rel fun c R' φ' H' er r1 x1 => ?_)
        cases er
        cases q2
        cases q3
        exact ⟨_, rfl, q R' φ' H' r1 x1⟩
      · cases ev
    · cases ev
  · cases ev
theorem st_chain (hX : XOk C k X) {e1 e2 e3 : Expr} {p p' : COp} {pos : Pos} {a b c : E} (ha : SE X o e1 a) (hb : SE X o e2 b) (hc : SE X o e3 c) (hs : isSet e3 = false) : ST X o (.Compare e1 [p.py, p'.py] [e2, e3] pos) (.cons (.chain p p' a b c) .nil) := fun ρ M b M' ev R φ σ H rel Q q => by
  simp only [evT] at ev
  split at ev
  · rename_i u fr M1 q1
    split at ev
    · rename_i q2
      split at ev
      · rename_i q3
        cases ev
        refine wT_of (pt_chain wOp_op wOp_op wE_pe wE_pe wE_pe (noMark hs)) (chain_core hX ha hb hc q1 rel fun c R' φ' H' er r1 x1 => ?_)
        cases er
        cases q2
        cases q3
        exact ⟨_, rfl, q R' φ' H' r1 x1⟩
      · cases ev
    · cases ev
  · cases ev
theorem st_not {e : Expr} {pos : Pos} {a : E} (ha : ST X o e a) : ST X o (.UnaryOp .Not e pos) (.notv a) := fun ρ M b M' ev R φ σ H rel Q q => by
  simp only [evT] at ev
  split at ev
  · rename_i q1
    cases ev
    exact wT_of (pt_not wT_pt) (ha _ _ _ _ q1 R φ σ H rel _ fun R1 φ1 H1 r1 x1 => q R1 φ1 H1 r1 x1)
  · cases ev
theorem sw_one {e : Expr} {op : BoolOp} {pos : Pos} {a : E} (ha : ST X o e a) : SW X o (.BoolOp op [e] pos) (.one a) := fun ρ M b M' ev R φ σ H rel Q q => by
  simp only [evT] at ev
  cases op with
  | And => exact wW_of (pw_and1 wT_pt) (ha _ _ _ _ ev R φ σ H rel _ q)
  | Or => exact wW_of (pw_or1 wT_pt) (ha _ _ _ _ ev R φ σ H rel _ q)
theorem sw_and {e1 e2 : Expr} {es : List Expr} {pos : Pos} {a b : E} (ha : ST X o e1 a) (hb : SW X o (.BoolOp .And (e2 :: es) pos) b) : SW X o (.BoolOp .And (e1 :: e2 :: es) pos) (.andv a b) := fun ρ M r M' ev R φ σ H rel Q q => by
  simp only [evT] at ev
  refine wW_of (pw_and wT_pt wW_pw) ?_
  split at ev
  · rename_i q1
    refine ha _ _ _ _ q1 R φ σ H rel _ fun R1 φ1 H1 r1 x1 => ?_
    rw [if_pos rfl]
    exact hb _ _ _ _ ev R1 φ1 σ H1 r1 _ fun R2 φ2 H2 r2 x2 => q R2 φ2 H2 r2 (x1.trans x2)
  · rename_i q1
    cases ev
    refine ha _ _ _ _ q1 R φ σ H rel _ fun R1 φ1 H1 r1 x1 => ?_
    rw [if_neg Bool.false_ne_true]
    exact q R1 φ1 H1 r1 x1
  · cases ev
theorem sw_or {e1 e2 : Expr} {es : List Expr} {pos : Pos} {a b : E} (ha : ST X o e1 a) (hb : SW X o (.BoolOp .Or (e2 :: es) pos) b) : SW X o (.BoolOp .Or (e1 :: e2 :: es) pos) (.orv a b) := fun ρ M r M' ev R φ σ H rel Q q => by
  simp only [evT] at ev
  refine wW_of (pw_or wT_pt wW_pw) ?_
  split at ev
  · rename_i q1
    refine ha _ _ _ _ q1 R φ σ H rel _ fun R1 φ1 H1 r1 x1 => ?_
    rw [if_neg Bool.false_ne_true]
    exact hb _ _ _ _ ev R1 φ1 σ H1 r1 _ fun R2 φ2 H2 r2 x2 => q R2 φ2 H2 r2 (x1.trans x2)
  · rename_i q1
    cases ev
    refine ha _ _ _ _ q1 R φ σ H rel _ fun R1 φ1 H1 r1 x1 => ?_
    rw [if_pos rfl]
    exact q R1 φ1 H1 r1 x1
  · cases ev
/-- a clause's tests -/
def wTs (X : Cx) (ifs : List Expr) : TT := fun σ H Q => ∀ (pins : List (Addr × Obj)) (s : Shared), Inv X pins σ H s →
  wpAny (model X.prog X.w) X.A (forIn ifs true fun c r => if r = true then do let ok ← isTrue c X.env (eval c X.env); pure (ForInStep.yield ok) else pure (ForInStep.yield r)) (TP X pins σ Q) X.xe s
theorem wTs_pts {ifs : List Expr} : PTs X ifs (wTs X ifs) := ⟨fun pins s σ H Q I h => h pins s I⟩
def SC (X : Cx) (o : Orc) (ifs : List Expr) (E : E) : Prop := ∀ ρ M b M', evC o E ρ M = some (b, M') → ∀ R φ σ H, Rel X.K R φ ρ M σ H → ∀ Q : Bool → Hp → Prop,
  (∀ R' φ' H', Rel X.K R' φ' ρ M' σ H' → Ext R φ M H R' φ' M' H' → Q b H') → wTs X ifs σ H Q
theorem sc_nil : SC X o [] .nil := fun ρ M b M' ev R φ σ H rel Q q => by
  simp only [evC, Option.some.injEq, Prod.mk.injEq] at ev
  obtain ⟨rfl, rfl⟩ := ev
  exact fun pins s I => pts_nil.run pins s σ H Q I (q R φ H rel (Ext.refl ..))
theorem sc_one {e : Expr} {a : E} (ha : ST X o e a) : SC X o [e] (.cons a .nil) := fun ρ M b M' ev R φ σ H rel Q q => by
  have ev : evT o a ρ M = some (b, M') := by
    simp only [evC] at ev
    split at ev
    · rename_i q1; cases ev; exact q1
    · rename_i q1; cases ev; exact q1
    · cases ev
  exact fun pins s I => (pts_one wT_pt).run pins s σ H Q I (ha _ _ _ _ ev R φ σ H rel _ q)
end
end Rf

set_option Elab.async false
set_option linter.all false
set_option maxRecDepth 100000
set_option maxHeartbeats 4000000
namespace Rf
open PySem PySem.Spec L2

/-! ### targets -/
def wG (X : Cx) (tg : Expr) : TG := fun v σ H Q => ∀ (pins : List (Addr × Obj)) (s : Shared) (u : Value), Inv X pins σ H s → RelV v u →
  wpAny (model X.prog X.w) X.A (assign tg X.env u) (fun _ s' => ∃ σ' H', Inv X pins σ' H' s' ∧ Q σ' H') X.xe s
theorem wG_pg {X : Cx} {tg : Expr} : PG X tg (wG X tg) := ⟨fun pins s σ H v u Q I r h => h pins s u I r⟩
theorem wG_of {X : Cx} {tg : Expr} {t : TG} (h : PG X tg t) {v : V} {σ : L2.St} {H : Hp} {Q : L2.St → Hp → Prop} (q : t v σ H Q) : wG X tg v σ H Q := fun pins s u I r => h.run pins s σ H v u Q I r q
def wGs (X : Cx) (ts : List Expr) : TGs := fun vs σ H Q => ∀ (pins : List (Addr × Obj)) (s : Shared) (us : List Value), Inv X pins σ H s → Vals vs us →
  wpAny (model X.prog X.w) X.A (assignInOrder ((assignEach ts X.env).map (·.2)) us) (fun _ s' => ∃ σ' H', Inv X pins σ' H' s' ∧ Q σ' H') X.xe s
theorem wGs_pgs {X : Cx} {ts : List Expr} : PGs X ts (wGs X ts) := ⟨fun pins s σ H vs us Q I r h => h pins s us I r⟩
theorem wGs_of {X : Cx} {ts : List Expr} {t : TGs} (h : PGs X ts t) {vs : List V} {σ : L2.St} {H : Hp} {Q : L2.St → Hp → Prop} (q : t vs σ H Q) : wGs X ts vs σ H Q := fun pins s us I r => h.run pins s σ H vs us Q I r q
/-- the slots of a target -/
def G.has : G → Nat → Prop
  | .nm j, i => i = j
  | .tnil, _ => False
  | .tcons a b, i => a.has i ∨ b.has i
  | .tp a, i => a.has i
/-- only slots within change -/
def Only (P : Nat → Prop) (σ σ' : L2.St) : Prop := σ'.length = σ.length ∧ ∀ i, ¬ P i → σ'[i]? = σ[i]?
theorem Only.refl (P : Nat → Prop) (σ : L2.St) : Only P σ σ := ⟨rfl, fun _ _ => rfl⟩
theorem Only.trans {P : Nat → Prop} {σ σ1 σ2 : L2.St} (x : Only P σ σ1) (y : Only P σ1 σ2) : Only P σ σ2 := ⟨y.1.trans x.1, fun i h => (y.2 i h).trans (x.2 i h)⟩
theorem Only.mono {P P' : Nat → Prop} {σ σ1 : L2.St} (h : ∀ i, P i → P' i) (x : Only P σ σ1) : Only P' σ σ1 := ⟨x.1, fun i q => x.2 i fun z => q (h i z)⟩
theorem wipe_get (σ : L2.St) : ∀ (vs : List Nat) (i : Nat), (wipe σ vs)[i]? = if i ∈ vs then (if i < σ.length then some none else none) else σ[i]?
  | [], i => by simp [wipe]
  | v :: vs, i => by
    show ((wipe σ vs).set v none)[i]? = _
    by_cases hv : v = i
    · subst hv
      rw [List.getElem?_set_self']
      have ih := wipe_get σ vs v
      by_cases hl : v < σ.length
      · have : (wipe σ vs)[v]? ≠ none := by
          rw [Ne, List.getElem?_eq_none_iff, wipe_length]; omega
        cases e : (wipe σ vs)[v]? with
        | none => exact absurd e this
        | some z => simp [hl]
      · have : (wipe σ vs)[v]? = none := by rw [List.getElem?_eq_none_iff, wipe_length]; omega
        rw [this]
        simp [hl]
    · rw [List.getElem?_set_ne hv, wipe_get σ vs i]
      have : i ≠ v := fun z => hv z.symm
      simp [List.mem_cons, this]
theorem Only.wipe {σ σ' : L2.St} {vs : List Nat} {P : Nat → Prop} (h : Only P (wipe σ vs) σ') (hp : ∀ i, P i → i ∈ vs) : L2.wipe σ' vs = L2.wipe σ vs := by
  apply List.ext_getElem?
  intro i
  rw [wipe_get, wipe_get]
  have hl : σ'.length = σ.length := by rw [h.1, wipe_length]
  by_cases hi : i ∈ vs
  · rw [if_pos hi, if_pos hi, hl]
  · rw [if_neg hi, if_neg hi, h.2 i fun z => hi (hp i z), wipe_get, if_neg hi]
def SG (X : Cx) (tg : Expr) (g : G) : Prop := ∀ w ρ ρ1, evG g w ρ = some ρ1 → ∀ R φ M σ H v, Rel X.K R φ ρ M σ H → RepW X.K R φ w v → ∀ Q : L2.St → Hp → Prop, (∀ σ', Rel X.K R φ ρ1 M σ' H → Only g.has σ σ' → Q σ' H) → wG X tg v σ H Q
def SGs (X : Cx) (ts : List Expr) (g : G) : Prop := ∀ xs ρ ρ1, evGs g xs ρ = some ρ1 → ∀ R φ M σ H vs, Rel X.K R φ ρ M σ H → RepDs X.K R xs vs → ∀ Q : L2.St → Hp → Prop, (∀ σ', Rel X.K R φ ρ1 M σ' H → Only g.has σ σ' → Q σ' H) → wGs X ts vs σ H Q
section
variable {X : Cx} {o : Orc} {C : Ctx} {k : Nat}
theorem wAt_set {ρ : REnv} {i j : Nat} {w w' : W} (h : wAt (ρ.set i (some w)) j = some w') : (i = j ∧ w' = w ∧ i < ρ.length) ∨ (i ≠ j ∧ wAt ρ j = some w') := by
  unfold wAt at h ⊢
  by_cases e : i = j
  · subst e
    by_cases hl : i < ρ.length
    · rw [List.getElem?_set_self hl] at h
      simp only [] at h
      cases h
      exact .inl ⟨rfl, rfl, hl⟩
    · rw [List.getElem?_set_self', List.getElem?_eq_none (by omega)] at h
      cases h
  · rw [List.getElem?_set_ne e] at h
    exact .inr ⟨e, h⟩
theorem Rel.putW {K : Frag} {R : Hp} {φ : List Addr} {ρ ρ1 : REnv} {M : Store} {σ : L2.St} {H : Hp} {i : Nat} {w : W} {v : V} (r : Rel K R φ ρ M σ H) (p : RepW K R φ w v) (h : putW ρ i w = some ρ1) : Rel K R φ ρ1 M (σ.set i (some v)) H := by
  unfold Rf.putW at h
  split at h
  · rename_i hl
    cases h
    refine ⟨r.sub, r.len, r.cells, r.inj, fun j w' e => ?_, by rw [List.length_set, List.length_set]; exact r.rlen⟩
    rcases wAt_set e with ⟨rfl, rfl, hl⟩ | ⟨hne, e⟩
    · exact ⟨v, by rw [List.getElem?_set_self (by rw [← r.rlen]; exact hl)], p⟩
    · obtain ⟨v', q, z⟩ := r.slots j w' e
      exact ⟨v', by rw [List.getElem?_set_ne hne]; exact q, z⟩
  · cases h
theorem only_set {σ : L2.St} {i : Nat} {v : Option V} : Only (fun j => j = i) σ (σ.set i v) := ⟨List.length_set, fun j h => List.getElem?_set_ne (fun z => h z.symm)⟩
theorem sg_nm (hX : XOk C k X) {x : Str} {i : Nat} {pos : Pos} (hN : X.N[i]? = some x) (hl : X.env.scope.names.lookup x = some .local) : SG X (.Name x pos) (.nm i) := fun w ρ ρ1 e R φ M σ H v rel p Q q => by
  exact wG_of (pg_name hX.nd hN (.inl hl) (.inr hl)) (q _ (rel.putW p e) only_set)
theorem sg_nmC (hX : XOk C k X) {x : Str} {i : Nat} {pos : Pos} (hN : X.N[i]? = some x) (hl : Loc X.env.scope x) (hf : X.fn x = true) : SG X (.Name x pos) (.nm i) := fun w ρ ρ1 e R φ M σ H v rel p Q q => by
  exact wG_of (pg_name hX.nd hN hl (.inl hf)) (q _ (rel.putW p e) only_set)
theorem sgs_nil : SGs X [] .tnil := fun xs ρ ρ1 e R φ M σ H vs rel p Q q => by
  cases p with
  | nil =>
    cases e
    exact wGs_of pgs_nil ⟨rfl, q σ rel (.refl _ _)⟩
  | cons a b => cases e
theorem assignEach_cons {e : Expr} {es : List Expr} {env : Env} : (assignEach (e :: es) env).map (·.2) = (assignEach [e] env).map (·.2) ++ (assignEach es env).map (·.2) := by
  cases e <;> rfl
def isNT : Expr → Bool
  | .Name .. => true
  | .Tuple .. => true
  | _ => false
def nts : List Expr → Bool
  | [] => true
  | e :: r => isNT e && nts r
theorem each_cons {e : Expr} {es : List Expr} {env : Env} (h : isNT e = true) : assignEach (e :: es) env = (false, assign e env) :: assignEach es env := by
  cases e <;> first | rfl | (simp [isNT] at h)
theorem each_all {env : Env} : ∀ {es : List Expr}, nts es = true → (assignEach es env).length = es.length ∧ (assignEach es env).findIdx? (·.1) = none
  | [], _ => ⟨rfl, rfl⟩
  | e :: r, h => by
    simp only [nts, Bool.and_eq_true] at h
    obtain ⟨a, b⟩ := each_all (env := env) h.2
    rw [each_cons h.1]
    refine ⟨by rw [List.length_cons, List.length_cons, a], ?_⟩
    rw [List.findIdx?_cons, b]
    rfl
theorem sgs_cons {e : Expr} {es : List Expr} {a b : G} (h : isNT e = true) (h1 : SG X e a) (h2 : SGs X es b) : SGs X (e :: es) (.tcons a b) := fun xs ρ ρ1 ev R φ M σ H vs rel p Q q => by
  cases p with
  | nil => cases ev
  | cons p ps =>
    unfold evGs at ev
    split at ev
    · rename_i ρ2 e1
      refine wGs_of (pgs_cons wG_pg wGs_pgs (by rw [each_cons h]; rfl)) ⟨_, _, rfl, h1 _ _ _ e1 R φ M σ H _ rel p _ fun σ1 r1 o1 => ?_⟩
      exact h2 _ _ _ ev R φ M σ1 H _ r1 ps Q fun σ2 r2 o2 => q σ2 r2 ((o1.mono fun _ z => .inl z).trans (o2.mono fun _ z => .inr z))
    · cases ev
/-- a tuple's parts into a tuple of targets -/
theorem sgs_tup (hX : XOk C k X) {es : List Expr} {n : Nat} {pos : Pos} {a : G} (hn : nts es = true) (h : SGs X es a) {xs : List D} {ρ ρ1 : REnv} (ev : evGs a xs ρ = some ρ1) (hl : xs.length = es.length) {R : Hp} {φ : List Addr} {M : Store} {σ : L2.St} {H H0 : Hp} {ad : Addr} {vs : List V} (rel : Rel X.K R φ ρ M σ H)
    (hs : SqT X.K H ad vs) (p : RepDs X.K R xs vs) {Q : L2.St → Hp → Prop} (q : ∀ σ', Rel X.K R φ ρ1 M σ' H → Only a.has σ σ' → Q σ' H) : wG X (.Tuple es n pos) (.ref ad) σ H Q := by
  obtain ⟨e1, e2⟩ := each_all (env := X.env) hn
  exact wG_of (pg_tup hX.calm wGs_pgs e1 e2) ⟨ad, vs, rfl, hs, by rw [← p.length, hl], h xs ρ ρ1 ev R φ M σ H vs rel p Q q⟩
def G.len : G → Nat
  | .tcons _ b => b.len + 1
  | _ => 0
theorem evGs_len : ∀ {g : G} {xs : List D} {ρ ρ1 : REnv}, evGs g xs ρ = some ρ1 → xs.length = g.len
  | .tnil, [], _, _, _ => rfl
  | .tcons a b, x :: xs, ρ, ρ1, h => by
    unfold evGs at h
    split at h
    · rw [List.length_cons, evGs_len h]; rfl
    · cases h
  | .tnil, _ :: _, _, _, h => by cases h
  | .tcons _ _, [], _, _, h => by cases h
  | .nm _, xs, _, _, h => by cases xs <;> cases h
  | .tp _, xs, _, _, h => by cases xs <;> cases h
theorem sg_tp (hX : XOk C k X) {es : List Expr} {n : Nat} {pos : Pos} {a : G} (hn : nts es = true) (hl : a.len = es.length) (h : SGs X es a) : SG X (.Tuple es n pos) (.tp a) := fun w ρ ρ1 ev R φ M σ H v rel p Q q => by
  cases w with
  | cell n => cases ev
  | d x =>
    cases x with
    | tup xs =>
      cases p with
      | tup e1 r1 => exact sgs_tup (H0 := H) hX hn h (show evGs a xs ρ = some ρ1 from ev) ((evGs_len (show evGs a xs ρ = some ρ1 from ev)).trans hl) rel (rel.sub.sqT e1.sq) r1 q
    | lst xs =>
      cases p with
      | lst e1 r1 =>
        obtain ⟨f1, f2⟩ := each_all (env := X.env) hn
        have e2 : evGs a xs ρ = some ρ1 := ev
        rename_i ad vs
        have hs : SqL X.K H ad vs := rel.sub.sqL (.inl (.inl e1))
        exact wG_of (pg_unl hX.calm wGs_pgs f1 f2) ⟨_, _, rfl, hs, by rw [← r1.length, (evGs_len e2).trans hl], h xs ρ ρ1 e2 R φ M σ H _ rel r1 Q q⟩
    | _ => cases ev
end
end Rf

set_option Elab.async false
set_option linter.all false
set_option maxRecDepth 100000
set_option maxHeartbeats 4000000
/-! enumerate over a tuple: made, drawn from, walked. -/
namespace Rf
open PySem PySem.Spec PyProof.Rows L2
theorem drawsT {prog : Program} {w : World} {A : Around} (hh : A.handled = none) (it l : Addr) (hne : l ≠ it) (items : Array Value) :
    Draws prog w A it [it, l] items.size (fun i v => items[i]? = some v) (fun i h => h.IsTupleIter it l i ∧ h.IsTuple l items) where
  live := fun _ _ st => let ⟨o, ho, _⟩ := st.1; ⟨o, ho⟩
  frame := fun _ _ _ st hk => ⟨let ⟨o, ho, r⟩ := st.1; ⟨o, hk it (by simp) o ho, r⟩, let ⟨o, ho, r⟩ := st.2; ⟨o, hk l (by simp) o ho, r⟩⟩
  item := fun i s Q E hi st hQ => RZ.nextOf_tuple_item st.1 st.2 (x := items[i]) (by simp [hi]) fun h' hit' hs' =>
    hQ _ h' s.toks (by simp [hi]) ⟨hit', st.2.extBut hs'.extBut hne⟩ hs'
  done := fun s Q E st hE => RZ.nextOf_tuple_end hh st.1 st.2 (by simp) hE
abbrev enT1 (h : Heap) (l : Addr) : Heap := h.push { cls := .type "tuple_iterator", data := .fields #[.ref l, .int 0 0] }
abbrev enT2 (h : Heap) (l : Addr) : Heap := (enT1 h l).push { cls := .type "enumerate", data := .fields #[.none, .bool false, .ref h.objs.size, rawInt 0, .none, .none] }
theorem meets_enumT (l : Addr) (items : Array Value) :
    Meets (Builtin.«enumerate.__new__» ⟨[.type "enumerate", .ref l], []⟩) (fun _ R s => s.heap.IsTuple l items ∧
      R (.ok (.ret (.ref (enT1 s.heap l).objs.size))) { s with heap := enT2 s.heap l }) :=
  .of_wp fun prog w A R s h => by
    obtain ⟨hp, g, d, tk, os⟩ := s; obtain ⟨hl, h⟩ := h
    have hsub := sub_enumerate
    have hL : Heap.IsTuple (Shared.heap ⟨hp, g, d, tk, os⟩) l items := hl
    wp_walk using wpAny_pyIter_tuple hL
    refine wpAny_stack_any fun st => wpAny_pure ?_
    split
    · rename_i c _ _ _ _ _
      cases (c == Value.type "enumerate")
      · wp_walk using wpAny_pyIter_tuple hL
        exact ⟨_, rfl, h⟩
      · wp_walk using wpAny_pyIter_tuple hL
        exact ⟨_, rfl, h⟩
    · wp_walk using wpAny_pyIter_tuple hL
      exact ⟨_, rfl, h⟩
section
variable {prog : Program} {w : World} {A : Around} {E : Value → Shared → Prop} {s : Shared}
theorem call_enumT {l : Addr} {items : Array Value} {Q : Value → Shared → Prop} (hL : s.heap.IsTuple l items)
    (h : ∀ h', IsEnum h' (s.heap.objs.size + 1) s.heap.objs.size 0 .none → h'.IsTupleIter s.heap.objs.size l 0 → h'.objs.size = s.heap.objs.size + 2 →
      (∀ b o, s.heap.get? b = some o → h'.get? b = some o) → Q (.ref (s.heap.objs.size + 1)) { s with heap := h' }) :
    wpAny (model prog w) A (call (.type "enumerate") [.ref l]) Q E s := by
  refine callType_new F.called_enumerate (by decide) (F.typeCall_enumerate_1 _) (F.newCall_enumerate_1 _) (fun obj => F.args_object_init_2 obj _) F.entry_enumerate_new
    (meets_enumT l items) ⟨hL, ?_⟩
  have hz : (enT1 s.heap l).objs.size = s.heap.objs.size + 1 := Heap.size_push ..
  show _ ∧ _
  have he : (enT2 s.heap l).get? (enT1 s.heap l).objs.size = some _ := Heap.get?_push_size _ rfl
  rw [hz] at he ⊢
  exact ⟨⟨_, he, rfl⟩, h _ he ⟨_, Heap.get?_push_of_some _ (Heap.get?_push_size _ rfl), rfl, rfl⟩ (by rw [Heap.size_push, hz]) fun b o x => Heap.get?_push_of_some _ (Heap.get?_push_of_some _ x)⟩
theorem pyNext_enumT_end {e it l : Addr} {i : Nat} {k : Int} {items : Array Value} {old : Value} {Q : Option Value → Shared → Prop} (hh : A.handled = none)
    (he : IsEnum s.heap e it k old) (hit : s.heap.IsTupleIter it l i) (hl : s.heap.IsTuple l items) (hx : items[i]? = none)
    (hQ : ∀ h', Heap.ExtBut it s.heap h' → Q none { s with heap := h' }) : wpAny (model prog w) A (pyNext (.ref e)) Q E s := by
  have hT : s.TypeIs (.ref e) "enumerate" := ⟨_, he, rfl⟩
  unfold pyNext
  refine wpAny_bind (wpAny_attempt (wpAny_callSpecial?_slot (name := Str.ofString "__next__") hT F.slot_enumerate_next
    (wpAny_call_entry F.slot_enumerate_next hT F.entry_enumerate_next ?_ (F.args_enumerate_next_1 _))))
  show wpAny _ _ (field (.ref e) 2 >>= _) _ _ _
  refine wpAny_bind (wpAny_field he rfl (x := .ref it) rfl (wpAny_bind (RZ.nextOf_tuple_end hh hit hl hx fun h' x he' hx' => ?_)))
  obtain ⟨o, ho, hc⟩ := hx'
  exact wpAny_bind (wpAny_isInstance (T := "StopIteration") (b := true) ⟨o, ho, hc⟩ isSubtype_stop (wpAny_pure (hQ _ he')))
end
/-- the tuple at a as it stands at each turn, each item in a new pair -/
def IteT (K : PySem.W.Frag) (a : Addr) : It :=
  ⟨fun i H => ∃ (xs : List V) (x : V), SqT K H a xs ∧ xs[i]? = some x, fun i H v H' => ∃ T x, v = .ref T ∧ H T = none ∧ H' = upd H T (.tup [.int (i : Nat), x]) ∧ ∀ xs, SqT K H a xs → xs[i]? = some x, fun i H => ∃ xs : List V, SqT K H a xs ∧ xs.length ≤ i⟩
theorem turn_enumT {P : Program} {w : World} {K : PySem.W.Frag} {elts : List Expr} {kk : Nat} {tpos : Pos} (a e it : Addr) (hai : a ≠ it) (hea : e ≠ a) :
    Turn P w K (.Tuple elts kk tpos) (IteT K a) [e, it] e (fun i h => (∃ old, IsEnum h e it ((i : Nat) : Int) old) ∧ h.IsTupleIter it a i ∧ e ≠ it) where
  mem := by simp
  obj := fun i h st b hb => by
    obtain ⟨⟨old, he⟩, ⟨o, ho, hc, hd⟩, _⟩ := st
    have e' : b = e ∨ b = it := by simpa using hb
    rcases e' with z | z
    · rw [z]; exact ⟨_, he, fun v q => nomatch q⟩
    · rw [z]; exact ⟨o, ho, fun v q => by rw [hd] at q; cases q⟩
  keep := fun i h h' st k => let ⟨⟨old, he⟩, ⟨o, ho, r⟩, hne⟩ := st; ⟨⟨old, k e (by simp) _ he⟩, ⟨o, k it (by simp) o ho, r⟩, hne⟩
  item := by
    intro X hP hw hK hc i pins s σ H E I hf st hg
    subst hP hw hK
    obtain ⟨⟨old, he⟩, hit, hne⟩ := st
    obtain ⟨xs, x, hq, hx⟩ := hg
    obtain ⟨its, rv, p, hz⟩ := I.tuple hq
    obtain ⟨u, hu, ru⟩ := rv.get hx
    have hel : e < s.heap.objs.size := Heap.lt_size he
    have hil : it < s.heap.objs.size := by obtain ⟨_, q, _⟩ := hit; exact Heap.lt_size q
    have hlen : i < its.toArray.size := by
      have := (List.getElem?_eq_some_iff.mp hu).1
      simpa using this
    refine wpAny_pyNext_enum_itemD (drawsT (A := X.A.in1) (I.ok.hd hc) it a hai its.toArray) he ⟨hit, p⟩ hlen hne (by simp [hne, hea]) fun y h' tk hy ho st' hT hsz hk => ?_
    have ey : y = u := by
      have hu' : its.toArray[i]? = some u := by simpa using hu
      rw [hu'] at hy; exact (Option.some.inj hy).symm
    subst ey
    refine ⟨_, rfl, wpAny_letOwnedTupleGo_enum (s := { s with heap := h', toks := tk + 1 }) ho fun h'' he' sb => ?_⟩
    have hT2 := (sb.2 _ (Nat.ne_of_gt hel)).trans hT
    have new : ObjOk X.prog X.w (upd H s.heap.objs.size (.tup [.int (i : Nat), x])) h'' s.heap.objs.size (.tup [.int (i : Nat), x]) :=
      ⟨by show 2 ≤ sizeLine; decide, [.int i tk, y], .cons ⟨_, rfl⟩ (.cons ru .nil), ⟨_, hT2, rfl, _, rfl⟩⟩
    have I1 : Inv X pins σ (upd H s.heap.objs.size (.tup [.int (i : Nat), x])) { s with heap := h'', toks := tk + 1 } :=
      I.turnedNew (ch := [e, it]) (fun b ob hb q => (sb.2 b (fun z => hb (by simp [z]))).trans (hk b ob (fun z => hb (by simp [z])) (fun z => hb (by simp [z])) q)) hf (Nat.le_refl _) new
    refine ⟨.ref s.heap.objs.size, _, I1, rfl, ⟨_, x, rfl, I.hok.fresh (Nat.le_refl _), rfl, fun ys hy => by rw [I.tuple_inj hy hq]; exact hx⟩, ⟨⟨y, ?_⟩, ?_, hne⟩, fun b hb => ?_⟩
    · have e1 : ((i + 1 : Nat) : Int) = (i : Int) + 1 := by omega
      rw [e1]; exact he'
    · obtain ⟨o, q, r⟩ := st'.1
      exact ⟨o, (sb.2 it (Ne.symm hne)).trans q, r⟩
    · have hb' : b < s.heap.objs.size := by
        have e' : b = e ∨ b = it := by simpa using hb
        rcases e' with z | z
        · rw [z]; exact hel
        · rw [z]; exact hil
      rw [upd_ne (Nat.ne_of_lt hb')]
      exact (hf b hb).1
  done := by
    intro X hP hw hK hc i pins s σ H E I hf st hg
    subst hP hw hK
    obtain ⟨⟨old, he⟩, hit, hne⟩ := st
    obtain ⟨xs, hq, hx⟩ := hg
    obtain ⟨its, rv, p, hz⟩ := I.tuple hq
    obtain ⟨f0, f1, f2, f3, f4, f5⟩ := hf it (by simp)
    have hl := rv.length
    have hw : its.toArray[i]? = none := by simp; omega
    exact pyNext_enumT_end (I.ok.hd hc) he hit p hw fun h' eb => ⟨rfl, I.turned (t' := s.toks) (fun b o hb q => eb b o hb q) f0 f1 f3 f4 f5⟩
  self := fun A i s Q E st h => let ⟨⟨_, he⟩, _⟩ := st; wpAny_pyIter_enum he h
def iEnumA (K : PySem.W.Frag) (ta : TA) : TI := fun σ H R => ta σ H fun vs H1 => ∃ a xs, vs = [.ref a] ∧ ((SqL K H1 a xs ∧ R (Ite K a) H1) ∨ (SqT K H1 a xs ∧ R (IteT K a) H1))
theorem pi_enumA {X : Cx} {e : Expr} {ta : TA} {p pos tpos : Pos} {elts : List Expr} {kk : Nat} (hg : Gl X "enumerate") (hm : X.mg "enumerate" = none) (ha : PA X [e] ta) (hs : starEach [e] X.env = [(false, eval e X.env)] := by rfl) :
    PI X (.Tuple elts kk tpos) (.Call (.Name "enumerate" p) [e] [] pos) (iEnumA X.K ta) := by
  refine ⟨fun pins s σ H R I h => ?_⟩
  refine Call_ (ld_blt I hg hm boot_enumerate (PyProof.Rows.callWith_type1 (thn (ha.run pos pins s σ H _ I h) fun us s1 ⟨vs, H1, I1, r1, q1⟩ => ?_) hs rfl))
  obtain ⟨a, xs, ex, q1⟩ := q1
  subst ex
  cases r1 with
  | cons r rr =>
    cases rr
    cases r
    have fr : ∀ b, b ∈ [s1.heap.objs.size + 1, s1.heap.objs.size] → FpOk X pins H1 b := fun b hb => by
      have e' : b = s1.heap.objs.size + 1 ∨ b = s1.heap.objs.size := by simpa using hb
      have hle : s1.heap.objs.size ≤ b := by
        rcases e' with z | z <;> omega
      exact I1.fpOk hle (I1.hok.fresh hle)
    rcases q1 with ⟨hq, q⟩ | ⟨hq, q⟩
    · obtain ⟨its, rv, p', hz⟩ := I1.list hq
      refine call_enumerate_list p'.isList fun h' he hit hsz hk => wpAny_pyIter_enum he ?_
      have I2 : Inv X pins σ H1 { s1 with heap := h' } := I1.kept (t' := s1.toks) hk
      exact ⟨s1.heap.objs.size + 1, [s1.heap.objs.size + 1, s1.heap.objs.size], _, _, H1, rfl, I2, turn_enum a (s1.heap.objs.size + 1) s1.heap.objs.size, ⟨⟨.none, he⟩, hit, Nat.succ_ne_self _⟩, fr, q⟩
    · obtain ⟨its, rv, p', hz⟩ := I1.tuple hq
      have hal : a < s1.heap.objs.size := by obtain ⟨_, q, _⟩ := id p'; exact Heap.lt_size q
      refine call_enumT (show s1.heap.IsTuple a its.toArray from p') fun h' he hit hsz hk => wpAny_pyIter_enum he ?_
      have I2 : Inv X pins σ H1 { s1 with heap := h' } := I1.kept (t' := s1.toks) hk
      exact ⟨s1.heap.objs.size + 1, [s1.heap.objs.size + 1, s1.heap.objs.size], _, _, H1, rfl, I2, turn_enumT a (s1.heap.objs.size + 1) s1.heap.objs.size (Nat.ne_of_lt hal) (Nat.ne_of_gt (Nat.lt_succ_of_lt hal)), ⟨⟨.none, he⟩, hit, Nat.succ_ne_self _⟩, fr, q⟩
end Rf

set_option Elab.async false
set_option linter.all false
set_option maxRecDepth 100000
set_option maxHeartbeats 4000000
namespace Rf
open PySem PySem.Spec L2

/-! ### what is walked -/
def wI (X : Cx) (tg iter : Expr) : TI := fun σ H R => ∀ (pins : List (Addr × Obj)) (s : Shared), Inv X pins σ H s →
  wpAny (model X.prog X.w) X.A (eval iter X.env) (fun v s1 => wpAny (model X.prog X.w) X.A (pyIter v) (PIE X pins σ tg R) X.xe s1) X.xe s
theorem wI_pi {X : Cx} {tg iter : Expr} : PI X tg iter (wI X tg iter) := ⟨fun pins s σ H R I h => h pins s I⟩
theorem wI_of {X : Cx} {tg iter : Expr} {t : TI} (h : PI X tg iter t) {σ : L2.St} {H : Hp} {R : It → Hp → Prop} (q : t σ H R) : wI X tg iter σ H R := fun pins s I => h.run pins s σ H R I q
def Yl (K : Frag) (R' : Hp) (pr : Bool) (x : D) (H' : Hp) (v : V) (H'' : Hp) : Prop :=
  (pr = false ∧ H'' = H' ∧ RepD K R' x v) ∨ (pr = true ∧ ∃ T vs ys, v = .ref T ∧ H' T = none ∧ H'' = upd H' T (.tup vs) ∧ x = .tup ys ∧ RepDs K R' ys vs)
def Serves (K : Frag) (J : It) (pr : Bool) (xs : List D) (R1 H1 : Hp) : Prop := ∀ R' H', Le R1 R' → Sub R' H' → (∀ a ob u, R1 a ≠ none → H1 a = some (.frz ob u) → H' a = some (.frz ob u)) →
  ∀ i, (∀ x, xs[i]? = some x → J.go i H' ∧ ∀ v H'', J.yld i H' v H'' → Yl K R' pr x H' v H'') ∧ (xs.length ≤ i → J.stop i H')
def SI (X : Cx) (o : Orc) (tg iter : Expr) (E : E) : Prop := ∀ ρ M pr xs M', evI o E ρ M = some ((pr, xs), M') → ∀ R φ σ H, Rel X.K R φ ρ M σ H → ∀ Q : It → Hp → Prop,
  (∀ R' φ' H' J, Rel X.K R' φ' ρ M' σ H' → Ext R φ M H R' φ' M' H' → Serves X.K J pr xs R' H' → Q J H') → wI X tg iter σ H Q
/-- the dict is locked from here on -/
def tLk (t : TE) : TE := fun σ H Q => t σ H fun x H1 => ∃ d kvs, x = .ref d ∧ ((H1 d = some (.dK kvs) ∧ ∀ od, Q (.ref d) (upd H1 d (.frz od (.dK kvs)))) ∨ (∃ od, H1 d = some (.frz od (.dK kvs)) ∧ Q (.ref d) H1))
theorem pe_lk {X : Cx} {e : Expr} {t : TE} (h : PE X e t) : PE X e (tLk t) := by
  refine ⟨fun pins s σ H Q I hw => thn (h.run pins s σ H _ I hw) fun v s1 ⟨x, H1, I1, r, d, kvs, ex, q⟩ => ?_⟩
  subst ex
  rcases q with ⟨hd, q⟩ | ⟨od, hd, q⟩
  · obtain ⟨od, I2⟩ := I1.lock hd trivial
    exact ⟨_, _, I2, r, q od⟩
  · exact ⟨_, _, I1, r, q⟩
section
variable {X : Cx} {o : Orc} {C : Ctx} {k : Nat}
theorem Rel.lock {K : Frag} {R : Hp} {φ : List Addr} {ρ : REnv} {M : Store} {σ : L2.St} {H : Hp} {d : Addr} {ks : List (Key × V)} {od : Obj} (r : Rel K R φ ρ M σ H) (hr : R d = some (.dK ks)) (hd : H d = some (.dK ks)) :
    Rel K R φ ρ M σ (upd H d (.frz od (.dK ks))) ∧ Ext R φ M H R φ M (upd H d (.frz od (.dK ks))) := by
  refine ⟨⟨fun a u h => ?_, r.len, fun n nd a e q => ?_, r.inj, r.slots, r.rlen⟩, ⟨Le.refl _, List.prefix_refl _, Nat.le_refl _, fun _ h => .inl h, fun a u h l => ?_, fun _ h => .inl h, fun a h => ?_⟩⟩
  · by_cases ha : a = d
    · subst ha
      rw [hr] at h; cases h
      exact .inr ⟨ks, od, rfl, upd_same⟩
    · rw [upd_ne ha]; exact r.sub a u h
  · obtain ⟨na, ra⟩ := r.cells n nd a e q
    have ha : a ≠ d := fun z => by subst z; rw [hr] at ra; cases ra
    exact ⟨na.same fun u hu => by rw [upd_ne ha]; exact hu, ra⟩
  · by_cases ha : a = d
    · subst ha
      rw [hd] at h; cases h
      exact .inr ⟨(fun z => by rw [hr] at z; cases z), ks, od, rfl, upd_same⟩
    · exact .inl (by rw [upd_ne ha]; exact h)
  · by_cases ha : a = d
    · subst ha; rw [upd_same] at h; cases h
    · rw [upd_ne ha] at h; exact h
theorem serves_list' {K : Frag} {R1 H1 : Hp} {a : Addr} {vs : List V} {xs : List D} (s : SqL K R1 a vs) (r : RepDs K R1 xs vs) : Serves K (Itl K a) false xs R1 H1 := fun R' H' le sb _ i => by
  have q := sb.sqL (le.sqL s)
  refine ⟨fun x hx => ?_, fun h => ⟨vs, q, by rw [← r.length]; exact h⟩⟩
  obtain ⟨v, h1, h2⟩ := r.get hx
  refine ⟨⟨vs, v, q, h1⟩, fun u H'' y => .inl ⟨rfl, y.1, ?_⟩⟩
  have := y.2 vs q
  rw [h1] at this; cases this
  exact h2.mono le
theorem serves_tup {K : Frag} {R1 H1 : Hp} {a : Addr} {vs : List V} {xs : List D} (s : SqT K R1 a vs) (r : RepDs K R1 xs vs) : Serves K (Itt K a) false xs R1 H1 := fun R' H' le sb _ i => by
  have q := sb.sqT (le.sqT s)
  refine ⟨fun x hx => ?_, fun h => ⟨vs, q, by rw [← r.length]; exact h⟩⟩
  obtain ⟨v, h1, h2⟩ := r.get hx
  refine ⟨⟨vs, v, q, h1⟩, fun u H'' y => .inl ⟨rfl, y.1, ?_⟩⟩
  have := y.2 vs q
  rw [h1] at this; cases this
  exact h2.mono le
theorem rngD_get {lo : Int} {n i : Nat} {x : D} (h : (rngD lo n)[i]? = some x) : i < n ∧ x = .int (lo + i) := by
  unfold rngD at h
  rw [List.getElem?_map] at h
  obtain ⟨j, h1, rfl⟩ := Option.map_eq_some_iff.mp h
  obtain ⟨h2, h3⟩ := List.getElem?_eq_some_iff.mp h1
  rw [List.getElem_range] at h3
  subst h3
  rw [List.length_range] at h2
  exact ⟨h2, rfl⟩
theorem rng_len {lo : Int} {n : Nat} : (rngD lo n).length = n := by unfold rngD; rw [List.length_map, List.length_range]
theorem serves_rng {K : Frag} {R1 H1 : Hp} {lo : Int} {n : Nat} : Serves K (Itr lo n) false (rngD lo n) R1 H1 := fun R' H' le sb _ i => by
  refine ⟨fun x hx => ?_, fun h => by rw [rng_len] at h; exact h⟩
  obtain ⟨h1, rfl⟩ := rngD_get hx
  exact ⟨h1, fun v H'' y => .inl ⟨rfl, y.1, by rw [y.2]; exact .int _⟩⟩
theorem serves_str {K : Frag} {R1 H1 : Hp} {s : Str} : Serves K (Its s) false (charsD s) R1 H1 := fun R' H' le sb _ i => by
  unfold charsD
  refine ⟨fun x hx => ?_, fun h => by rw [List.length_map, Array.length_toList] at h; exact h⟩
  rw [List.getElem?_map] at hx
  obtain ⟨c, c1, rfl⟩ := Option.map_eq_some_iff.mp hx
  have c2 : s.cps[i]? = some c := by rw [← Array.getElem?_toList]; exact c1
  have hi : i < s.cps.size := by
    rw [Array.getElem?_eq_some_iff] at c2; exact c2.1
  refine ⟨hi, fun v H'' y => .inl ⟨rfl, y.1, ?_⟩⟩
  obtain ⟨c', c3, rfl⟩ := y.2
  rw [c2] at c3; cases c3
  exact .str _
theorem repKs_get {K : Frag} {R : Hp} : ∀ {kvs : List (Key × D)} {ks : List (Key × V)}, RepKs K R kvs ks → kvs.length = ks.length ∧ ∀ (i : Nat) (k : Key) (x : D), kvs[i]? = some (k, x) → ∃ v : V, ks[i]? = some (k, v) ∧ RepD K R x v
  | _, _, .nil => ⟨rfl, fun i k x h => by simp at h⟩
  | _, _, .cons a r => by
    obtain ⟨l, g⟩ := repKs_get r
    refine ⟨by rw [List.length_cons, List.length_cons, l], fun i k x h => ?_⟩
    cases i with
    | zero => simp at h; obtain ⟨rfl, rfl⟩ := h; exact ⟨_, rfl, a⟩
    | succ i => exact g i k x (by simpa using h)
theorem RepD.key {K : Frag} {R : Hp} (k : Key) : RepD K R (ofKey k) (kV k) := by
  cases k with
  | inl i => exact .int i
  | inr s => exact .str s
theorem serves_keys {K : Frag} {R1 H1 : Hp} {d : Addr} {ob : Obj} {ks : List (Key × V)} {kvs : List (Key × D)} (hr : R1 d ≠ none) (hd : H1 d = some (.frz ob (.dK ks))) (r : RepKs K R1 kvs ks) : Serves K (Itk d ob ks) false (kvs.map fun p => ofKey p.1) R1 H1 := fun R' H' le sb fz i => by
  obtain ⟨l, g⟩ := repKs_get r
  have hd' := fz d ob _ hr hd
  refine ⟨fun x hx => ?_, fun h => ⟨hd', by rw [List.length_map, l] at h; exact h⟩⟩
  rw [List.getElem?_map] at hx
  obtain ⟨⟨key, y⟩, c1, rfl⟩ := Option.map_eq_some_iff.mp hx
  obtain ⟨v, g1, g2⟩ := g i key y c1
  refine ⟨⟨hd', (List.getElem?_eq_some_iff.mp g1).1⟩, fun u H'' y => .inl ⟨rfl, y.1, ?_⟩⟩
  obtain ⟨k', v', z1, rfl⟩ := y.2
  rw [g1] at z1; cases z1
  exact .key _
theorem serves_vals {K : Frag} {R1 H1 : Hp} {d : Addr} {ob : Obj} {ks : List (Key × V)} {kvs : List (Key × D)} (hr : R1 d ≠ none) (hd : H1 d = some (.frz ob (.dK ks))) (r : RepKs K R1 kvs ks) : Serves K (Itd d ob ks) false (kvs.map (·.2)) R1 H1 := fun R' H' le sb fz i => by
  obtain ⟨l, g⟩ := repKs_get r
  have hd' := fz d ob _ hr hd
  refine ⟨fun x hx => ?_, fun h => ⟨hd', by rw [List.length_map, l] at h; exact h⟩⟩
  rw [List.getElem?_map] at hx
  obtain ⟨⟨key, y⟩, c1, rfl⟩ := Option.map_eq_some_iff.mp hx
  obtain ⟨v, g1, g2⟩ := g i key y c1
  refine ⟨⟨hd', (List.getElem?_eq_some_iff.mp g1).1⟩, fun u H'' y => .inl ⟨rfl, y.1, ?_⟩⟩
  obtain ⟨k', z1⟩ := y.2
  rw [g1] at z1; cases z1
  exact g2.mono le
theorem serves_items {K : Frag} {R1 H1 : Hp} {d : Addr} {ob : Obj} {ks : List (Key × V)} {kvs : List (Key × D)} (hr : R1 d ≠ none) (hd : H1 d = some (.frz ob (.dK ks))) (r : RepKs K R1 kvs ks) : Serves K (Iti d ob ks) true (kvs.map fun p => .tup [ofKey p.1, p.2]) R1 H1 := fun R' H' le sb fz i => by
  obtain ⟨l, g⟩ := repKs_get r
  have hd' := fz d ob _ hr hd
  refine ⟨fun x hx => ?_, fun h => ⟨hd', by rw [List.length_map, l] at h; exact h⟩⟩
  rw [List.getElem?_map] at hx
  obtain ⟨⟨key, y⟩, c1, rfl⟩ := Option.map_eq_some_iff.mp hx
  obtain ⟨v, g1, g2⟩ := g i key y c1
  refine ⟨⟨hd', (List.getElem?_eq_some_iff.mp g1).1⟩, fun u H'' y => .inr ⟨rfl, ?_⟩⟩
  obtain ⟨T, k', v', z1, z2, z3, z4⟩ := y
  rw [g1] at z1; cases z1
  exact ⟨T, _, _, z2, z3, z4, rfl, .cons (.key _) (.cons (g2.mono le) .nil)⟩
theorem enumD_get : ∀ {xs : List D} {n i : Nat} {x : D}, (enumD n xs)[i]? = some x → ∃ y, xs[i]? = some y ∧ x = .tup [.int (n + i : Nat), y]
  | [], _, _, _, h => by simp [enumD] at h
  | y :: r, n, 0, x, h => by simp [enumD] at h; exact ⟨y, rfl, by rw [← h]; simp⟩
  | y :: r, n, i + 1, x, h => by
    have h : (enumD (n + 1) r)[i]? = some x := by simpa [enumD] using h
    obtain ⟨z, z1, z2⟩ := enumD_get h
    exact ⟨z, by simpa using z1, by rw [z2]; congr 3; omega⟩
theorem enumD_len : ∀ {xs : List D} {n : Nat}, (enumD n xs).length = xs.length
  | [], _ => rfl
  | _ :: r, n => by show (enumD (n + 1) r).length + 1 = _; rw [enumD_len]; rfl
theorem serves_enum {K : Frag} {R1 H1 : Hp} {a : Addr} {vs : List V} {xs : List D} (s : SqL K R1 a vs) (r : RepDs K R1 xs vs) : Serves K (Ite K a) true (enumD 0 xs) R1 H1 := fun R' H' le sb _ i => by
  have q := sb.sqL (le.sqL s)
  refine ⟨fun x hx => ?_, fun h => ⟨vs, q, by rw [enumD_len] at h; rw [← r.length]; exact h⟩⟩
  obtain ⟨y, y1, rfl⟩ := enumD_get hx
  obtain ⟨v, h1, h2⟩ := r.get y1
  refine ⟨⟨vs, v, q, h1⟩, fun u H'' z => .inr ⟨rfl, ?_⟩⟩
  obtain ⟨T, w, z1, z2, z3, z4⟩ := z
  have := z4 vs q
  rw [h1] at this; cases this
  exact ⟨T, _, _, z1, z2, z3, rfl, .cons (by rw [Nat.zero_add]; exact .int _) (.cons (h2.mono le) .nil)⟩
theorem serves_enumT {K : Frag} {R1 H1 : Hp} {a : Addr} {vs : List V} {xs : List D} (s : SqT K R1 a vs) (r : RepDs K R1 xs vs) : Serves K (IteT K a) true (enumD 0 xs) R1 H1 := fun R' H' le sb _ i => by
  have q := sb.sqT (le.sqT s)
  refine ⟨fun x hx => ?_, fun h => ⟨vs, q, by rw [enumD_len] at h; rw [← r.length]; exact h⟩⟩
  obtain ⟨y, y1, rfl⟩ := enumD_get hx
  obtain ⟨v, h1, h2⟩ := r.get y1
  refine ⟨⟨vs, v, q, h1⟩, fun u H'' z => .inr ⟨rfl, ?_⟩⟩
  obtain ⟨T, w, z1, z2, z3, z4⟩ := z
  have := z4 vs q
  rw [h1] at this; cases this
  exact ⟨T, _, _, z1, z2, z3, rfl, .cons (by rw [Nat.zero_add]; exact .int _) (.cons (h2.mono le) .nil)⟩
theorem zipD_get : ∀ {xs ys : List D} {i : Nat} {x : D}, (zipD xs ys)[i]? = some x → ∃ y z, xs[i]? = some y ∧ ys[i]? = some z ∧ x = .tup [y, z]
  | [], _, _, _, h => by simp [zipD] at h
  | _ :: _, [], _, _, h => by simp [zipD] at h
  | a :: xs, b :: ys, 0, x, h => by simp [zipD] at h; exact ⟨a, b, rfl, rfl, h.symm⟩
  | a :: xs, b :: ys, i + 1, x, h => by
    obtain ⟨y, z, h1, h2, h3⟩ := zipD_get (xs := xs) (ys := ys) (i := i) (x := x) (by simpa [zipD] using h)
    exact ⟨y, z, by simpa using h1, by simpa using h2, h3⟩
theorem zipD_len : ∀ {xs ys : List D}, (zipD xs ys).length = min xs.length ys.length
  | [], _ => by simp [zipD]
  | _ :: _, [] => by simp [zipD]
  | a :: xs, b :: ys => by
    show (zipD xs ys).length + 1 = _
    rw [zipD_len, List.length_cons, List.length_cons]; omega
theorem serves_zipL {K : Frag} {R1 H1 : Hp} {a b : Addr} {vs us : List V} {xs ys : List D} (s : SqL K R1 a vs) (t : SqL K R1 b us) (r : RepDs K R1 xs vs) (r' : RepDs K R1 ys us) : Serves K (Itz K a b) true (zipD xs ys) R1 H1 := fun R' H' le sb _ i => by
  have q := sb.sqL (le.sqL s)
  have q' := sb.sqL (le.sqL t)
  refine ⟨fun x hx => ?_, fun h => ⟨vs, us, q, q', by rw [zipD_len] at h; rw [← r.length, ← r'.length]; omega⟩⟩
  obtain ⟨y, z, y1, z1, rfl⟩ := zipD_get hx
  obtain ⟨v, h1, h2⟩ := r.get y1
  obtain ⟨u, h3, h4⟩ := r'.get z1
  refine ⟨⟨vs, us, v, u, q, q', h1, h3⟩, fun w H'' z => .inr ⟨rfl, ?_⟩⟩
  obtain ⟨T, x', y', z1, z2, z3, z4, z5⟩ := z
  have e1 := z4 vs q
  have e2 := z5 us q'
  rw [h1] at e1; cases e1
  rw [h3] at e2; cases e2
  exact ⟨T, _, _, z1, z2, z3, rfl, .cons (h2.mono le) (.cons (h4.mono le) .nil)⟩
theorem serves_zipT {K : Frag} {R1 H1 : Hp} {a b : Addr} {vs us : List V} {xs ys : List D} (s : SqT K R1 a vs) (t : SqT K R1 b us) (r : RepDs K R1 xs vs) (r' : RepDs K R1 ys us) : Serves K (RZ.ItzT K a b) true (zipD xs ys) R1 H1 := fun R' H' le sb _ i => by
  have q := sb.sqT (le.sqT s)
  have q' := sb.sqT (le.sqT t)
  refine ⟨fun x hx => ?_, fun h => ⟨vs, us, q, q', by rw [zipD_len] at h; rw [← r.length, ← r'.length]; omega⟩⟩
  obtain ⟨y, z, y1, z1, rfl⟩ := zipD_get hx
  obtain ⟨v, h1, h2⟩ := r.get y1
  obtain ⟨u, h3, h4⟩ := r'.get z1
  refine ⟨⟨vs, us, v, u, q, q', h1, h3⟩, fun w H'' z => .inr ⟨rfl, ?_⟩⟩
  obtain ⟨T, x', y', z1, z2, z3, z4, z5⟩ := z
  have e1 := z4 vs q
  have e2 := z5 us q'
  rw [h1] at e1; cases e1
  rw [h3] at e2; cases e2
  exact ⟨T, _, _, z1, z2, z3, rfl, .cons (h2.mono le) (.cons (h4.mono le) .nil)⟩

/-! ### the rules -/
theorem lk_core {e : Expr} {a : E} (ha : SE X o e a) {ρ : REnv} {M M' : Store} {kvs : List (Key × D)} {fr : Bool} (q1 : evE o a ρ M = some ((.d (.dic kvs), fr), M')) {R : Hp} {φ : List Addr} {σ : L2.St} {H : Hp} (rel : Rel X.K R φ ρ M σ H) {Q : VK}
    (q : ∀ R' φ' H' d ob ks, Rel X.K R' φ' ρ M' σ H' → Ext R φ M H R' φ' M' H' → R' d ≠ none → H' d = some (.frz ob (.dK ks)) → RepKs X.K R' kvs ks → Q (.ref d) H') : tLk (wE X e) σ H Q := by
  refine ha.frz _ _ _ _ q1 R φ σ H rel _ fun R1 φ1 H1 v r1 x1 p1 => ?_
  cases p1 with
  | dic e1 w1 =>
    rcases r1.sub.dic e1 with hd | ⟨ob, hd⟩
    · refine ⟨_, _, rfl, .inl ⟨hd, fun od => ?_⟩⟩
      obtain ⟨r2, x2⟩ := r1.lock (od := od) e1 hd
      exact q R1 φ1 _ _ od _ r2 (x1.trans x2) (fun z => by rw [e1] at z; cases z) upd_same w1
    · exact ⟨_, _, rfl, .inr ⟨ob, hd, q R1 φ1 _ _ ob _ r1 x1 (fun z => by rw [e1] at z; cases z) hd w1⟩⟩
theorem si_itv {tg e : Expr} {a : E} (ha : SE X o e a) : SI X o tg e (.itv a) := fun ρ M pr xs M' he R φ σ H rel Q q => by
  simp only [evI] at he
  split at he
  · rename_i x fr M1 q1
    split at he
    · rename_i ys q2
      cases he
      have go : ∀ {t : VK}, (∀ R1 φ1 H1 v, Rel X.K R1 φ1 ρ M' σ H1 → Ext R φ M H R1 φ1 M' H1 → RepD X.K R1 x v → t v H1) → wE X e σ H t := fun k => ha.frz _ _ _ _ q1 R φ σ H rel _ fun R1 φ1 H1 v r1 x1 p1 => k R1 φ1 H1 v r1 x1 p1
      cases x with
      | lst zs =>
        cases q2
        refine wI_of (pi_list wE_pe) (go fun R1 φ1 H1 v r1 x1 p1 => ?_)
        cases p1 with
        | lst e1 w1 => exact ⟨_, rfl, ⟨_, .of (r1.sub.lst e1)⟩, q R1 φ1 H1 _ r1 x1 (serves_list' (.inl (.inl e1)) w1)⟩
      | tup zs =>
        cases q2
        refine wI_of (pi_tup wE_pe) (go fun R1 φ1 H1 v r1 x1 p1 => ?_)
        cases p1 with
        | tup e1 w1 => exact ⟨_, rfl, ⟨_, r1.sub.sqT e1.sq⟩, q R1 φ1 H1 _ r1 x1 (serves_tup e1.sq w1)⟩
      | scr ns =>
        cases q2
        refine wI_of (pi_list wE_pe) (go fun R1 φ1 H1 v r1 x1 p1 => ?_)
        cases p1 with
        | scr e1 => exact ⟨_, rfl, ⟨_, r1.sub.sqL e1⟩, q R1 φ1 H1 _ r1 x1 (serves_list' e1 (RepDs.ints ns))⟩
      | str s =>
        cases q2
        refine wI_of (pi_str wE_pe) (go fun R1 φ1 H1 v r1 x1 p1 => ?_)
        cases p1
        exact ⟨_, rfl, q R1 φ1 H1 _ r1 x1 serves_str⟩
      | dic kvs =>
        cases q2
        refine wI_of (pi_keys (pe_lk wE_pe)) (lk_core ha q1 rel fun R1 φ1 H1 d ob ks r1 x1 hr hd w1 => ?_)
        exact ⟨d, ob, rfl, .inl ⟨ks, hd, q R1 φ1 H1 _ r1 x1 (serves_keys hr hd w1)⟩⟩
      | non => cases q2
      | bl b => cases q2
      | int i => cases q2
    · cases he
  · cases he
theorem ok62_of {i : Int} (h : ok62 i = true) : -(2 ^ 62) ≤ i ∧ i < 2 ^ 62 := by
  unfold ok62 at h
  rw [Bool.and_eq_true, decide_eq_true_eq, decide_eq_true_eq] at h
  exact h
theorem si_rng1 (hX : XOk C k X) {tg e : Expr} {p pos : Pos} {a : E} (ha : SE X o e a) (hs : isStar e = false) (hg : Gl X "range") : SI X o tg (.Call (.Name "range" p) [e] [] pos) (.rng1 a) := fun ρ M pr xs M' he R φ σ H rel Q q => by
  simp only [evI] at he
  split at he
  · rename_i q1
    split at he
    · rename_i q2
      cases he
      refine wI_of (pi_range1 hg (hX.blt _ (by decide)) (pa_cons wE_pe pa_nil (starEach_cons hs)) (starEach_cons hs)) (ha.frz _ _ _ _ q1 R φ σ H rel _ fun R1 φ1 H1 v r1 x1 p1 => ?_)
      cases p1
      obtain ⟨b1, b2⟩ := ok62_of q2
      exact ⟨_, rfl, b1, b2, q R1 φ1 H1 _ r1 x1 serves_rng⟩
    · cases he
  · cases he
theorem si_rng2 (hX : XOk C k X) {tg e e' : Expr} {p pos : Pos} {a b : E} (ha : SE X o e a) (hb : SE X o e' b) (hs : isStar e = false) (hs' : isStar e' = false) (hg : Gl X "range") : SI X o tg (.Call (.Name "range" p) [e, e'] [] pos) (.rng2 a b) := fun ρ M pr xs M' he R φ σ H rel Q q => by
  simp only [evI] at he
  split at he
  · rename_i q1
    split at he
    · rename_i q3
      split at he
      · rename_i q2
        cases he
        rw [Bool.and_eq_true] at q2
        refine wI_of (pi_range2 hg (hX.blt _ (by decide)) (pa_cons wE_pe (pa_cons wE_pe pa_nil (starEach_cons hs')) (starEach_cons hs)) (by rw [starEach_cons hs, starEach_cons hs']; rfl) (starEach_cons hs')) (ha.frz _ _ _ _ q1 R φ σ H rel _ fun R1 φ1 H1 v r1 x1 p1 => ?_)
        cases p1
        refine hb.frz _ _ _ _ q3 R1 φ1 σ H1 r1 _ fun R2 φ2 H2 v r2 x2 p2 => ?_
        cases p2
        obtain ⟨b1, b2⟩ := ok62_of q2.1
        obtain ⟨b3, b4⟩ := ok62_of q2.2
        exact ⟨_, _, rfl, ⟨b1, b2, b3, b4⟩, q R2 φ2 H2 _ r2 (x1.trans x2) serves_rng⟩
      · cases he
    · cases he
  · cases he
theorem si_enum (hX : XOk C k X) {es : List Expr} {n : Nat} {tp : Pos} {e : Expr} {p pos : Pos} {a : E} (ha : SE X o e a) (hs : isStar e = false) (hg : Gl X "enumerate") : SI X o (.Tuple es n tp) (.Call (.Name "enumerate" p) [e] [] pos) (.enum a) := fun ρ M pr xs M' he R φ σ H rel Q q => by
  simp only [evI] at he
  split at he
  · rename_i q1
    refine wI_of (pi_enumA hg (hX.blt _ (by decide)) (pa_cons wE_pe pa_nil (starEach_cons hs)) (starEach_cons hs)) (ha.frz _ _ _ _ q1 R φ σ H rel _ fun R1 φ1 H1 v r1 x1 p1 => ?_)
    split at he
    · cases he
      cases p1 with
      | lst e1 w1 => exact ⟨_, _, rfl, .inl ⟨.of (r1.sub.lst e1), q R1 φ1 H1 _ r1 x1 (serves_enum (.inl (.inl e1)) w1)⟩⟩
    · cases he
      cases p1 with
      | tup e1 w1 => exact ⟨_, _, rfl, .inr ⟨r1.sub.sqT e1.sq, q R1 φ1 H1 _ r1 x1 (serves_enumT e1.sq w1)⟩⟩
    · cases he
  · cases he
theorem si_zip (hX : XOk C k X) {es : List Expr} {n : Nat} {tp : Pos} {e e' : Expr} {p pos : Pos} {a b : E} (ha : SE X o e a) (hb : SE X o e' b) (hs : isStar e = false) (hs' : isStar e' = false) (hg : Gl X "zip") : SI X o (.Tuple es n tp) (.Call (.Name "zip" p) [e, e'] [] pos) (.zip a b) := fun ρ M pr xs M' he R φ σ H rel Q q => by
  simp only [evI] at he
  split at he
  · rename_i q1
    split at he
    · rename_i q3
      refine wI_of (RZ.pi_zipA hg (hX.blt _ (by decide)) (pa_cons wE_pe (pa_cons wE_pe pa_nil (starEach_cons hs')) (starEach_cons hs)) (starEach_cons hs) (by rw [starEach_cons hs']; rfl)) (ha.frz _ _ _ _ q1 R φ σ H rel _ fun R1 φ1 H1 v r1 x1 p1 => ?_)
      refine hb.frz _ _ _ _ q3 R1 φ1 σ H1 r1 _ fun R2 φ2 H2 v r2 x2 p2 => ?_
      have p1' := RepD.mono x2.le p1
      split at he
      · cases he
        cases p1' with
        | lst e1 w1 =>
          cases p2 with
          | lst e2 w2 => exact ⟨_, _, _, _, rfl, .inl ⟨.of (r2.sub.lst e1), .of (r2.sub.lst e2), q R2 φ2 H2 _ r2 (x1.trans x2) (serves_zipL (.inl (.inl e1)) (.inl (.inl e2)) w1 w2)⟩⟩
      · cases he
        cases p1' with
        | tup e1 w1 =>
          cases p2 with
          | tup e2 w2 => exact ⟨_, _, _, _, rfl, .inr ⟨r2.sub.sqT e1.sq, r2.sub.sqT e2.sq, q R2 φ2 H2 _ r2 (x1.trans x2) (serves_zipT e1.sq e2.sq w1 w2)⟩⟩
      · cases he
    · cases he
  · cases he
theorem si_items {es : List Expr} {n : Nat} {tp : Pos} {e : Expr} {apos pos : Pos} {a : E} (ha : SE X o e a) (h : noCall0 e = true) (hl : (apos.endLine == pos.line) = true) : SI X o (.Tuple es n tp) (.Call (.Attribute e "items" apos) [] [] pos) (.items a) := fun ρ M pr xs M' he R φ σ H rel Q q => by
  simp only [evI] at he
  split at he
  · rename_i q1
    cases he
    refine wI_of (pi_items (pe_lk wE_pe) (base_ok h) hl) (lk_core ha q1 rel fun R1 φ1 H1 d ob ks r1 x1 hr hd w1 => ?_)
    exact ⟨d, ob, ks, rfl, hd, q R1 φ1 H1 _ r1 x1 (serves_items hr hd w1)⟩
  · cases he
theorem si_vals {tg e : Expr} {apos pos : Pos} {a : E} (ha : SE X o e a) (h : noCall0 e = true) (hl : (apos.endLine == pos.line) = true) : SI X o tg (.Call (.Attribute e "values" apos) [] [] pos) (.vals a) := fun ρ M pr xs M' he R φ σ H rel Q q => by
  simp only [evI] at he
  split at he
  · rename_i q1
    cases he
    refine wI_of (pi_values (pe_lk wE_pe) (base_ok h) hl) (lk_core ha q1 rel fun R1 φ1 H1 d ob ks r1 x1 hr hd w1 => ?_)
    exact ⟨d, ob, ks, rfl, hd, q R1 φ1 H1 _ r1 x1 (serves_vals hr hd w1)⟩
  · cases he
end
end Rf

set_option Elab.async false
set_option linter.all false
set_option maxRecDepth 100000
set_option maxHeartbeats 4000000
namespace Rf
open PySem PySem.Spec L2

section
variable {X : Cx} {o : Orc} {C : Ctx} {k : Nat}
/-! ### one turn of a walk -/
def SGI (X : Cx) (tg : Expr) (g : G) : Prop := ∀ pr x ρ ρ1, evGI pr g x ρ = some ρ1 → ∀ R φ M σ H v H'', Rel X.K R φ ρ M σ H → Yl X.K R pr x H v H'' → ∀ Q : L2.St → Hp → Prop,
  (∀ σ', Rel X.K R φ ρ1 M σ' H'' → Only g.has σ σ' → Q σ' H'') → wG X tg v σ H'' Q
theorem Yl.ext {K : Frag} {R : Hp} {φ : List Addr} {ρ : REnv} {M : Store} {σ : L2.St} {H H'' : Hp} {pr : Bool} {x : D} {v : V} (r : Rel K R φ ρ M σ H) (y : Yl K R pr x H v H'') : Rel K R φ ρ M σ H'' ∧ Ext R φ M H R φ M H'' := by
  rcases y with ⟨_, rfl, _⟩ | ⟨_, T, vs, ys, _, hT, rfl, _⟩
  · exact ⟨r, Ext.refl ..⟩
  · exact ⟨r.laid hT, Ext.laid hT⟩
theorem sgi_nm {x : Str} {i : Nat} {pos : Pos} (h : SG X (.Name x pos) (.nm i)) : SGI X (.Name x pos) (.nm i) := fun pr x ρ ρ1 e R φ M σ H v H'' r y Q q => by
  obtain ⟨r2, _⟩ := y.ext r
  rcases y with ⟨rfl, rfl, p⟩ | ⟨rfl, T, vs, ys, _, hT, rfl, rfl, _⟩
  · exact h _ _ _ e R φ M σ _ v r2 p Q q
  · cases e
theorem sgi_tp (hX : XOk C k X) {es : List Expr} {n : Nat} {pos : Pos} {a : G} (hn : nts es = true) (hl : a.len = es.length) (h : SGs X es a) : SGI X (.Tuple es n pos) (.tp a) := fun pr x ρ ρ1 e R φ M σ H v H'' r y Q q => by
  obtain ⟨r2, _⟩ := y.ext r
  rcases y with ⟨rfl, rfl, p⟩ | ⟨rfl, T, vs, ys, rfl, hT, rfl, rfl, p⟩
  · exact sg_tp hX hn hl h _ _ _ e R φ M σ _ v r2 p Q q
  · have e : evGs a ys ρ = some ρ1 := e
    exact sgs_tup (H0 := H) hX hn h e ((evGs_len e).trans hl) r2 (.inl (.inl upd_same)) p q

theorem wipeR_length (ρ : REnv) : ∀ vs : List Nat, (wipeR ρ vs).length = ρ.length
  | [] => rfl
  | v :: vs => by unfold wipeR; rw [List.length_set, wipeR_length ρ vs]
theorem wAt_wipe {ρ : REnv} {i : Nat} {w : W} : ∀ {vs : List Nat}, wAt (wipeR ρ vs) i = some w → wAt ρ i = some w ∧ i ∉ vs
  | [], h => ⟨h, by simp⟩
  | v :: vs, h => by
    have h : wAt ((wipeR ρ vs).set v none) i = some w := h
    by_cases e : v = i
    · subst e
      unfold wAt at h
      by_cases hl : v < (wipeR ρ vs).length
      · rw [List.getElem?_set_self hl] at h; cases h
      · rw [List.getElem?_set_self', List.getElem?_eq_none (by omega)] at h; cases h
    · have h2 : wAt (wipeR ρ vs) i = some w := by
        unfold wAt at h ⊢
        rw [List.getElem?_set_ne e] at h
        exact h
      obtain ⟨a, b⟩ := wAt_wipe h2
      exact ⟨a, by simp; exact ⟨fun z => e z.symm, b⟩⟩
theorem Rel.wipe {K : Frag} {R : Hp} {φ : List Addr} {ρ : REnv} {M : Store} {σ : L2.St} {H : Hp} (r : Rel K R φ ρ M σ H) (own : List Nat) : Rel K R φ (wipeR ρ own) M (L2.wipe σ own) H := by
  refine ⟨r.sub, r.len, r.cells, r.inj, fun i w e => ?_, by rw [wipeR_length, wipe_length]; exact r.rlen⟩
  obtain ⟨a, b⟩ := wAt_wipe e
  obtain ⟨v, q, z⟩ := r.slots i w a
  exact ⟨v, by rw [wipe_get, if_neg b]; exact q, z⟩
/-- a thing of one's own -/
structure Mine (R : Hp) (φ : List Addr) (M : Store) (H : Hp) (D : Addr) (o : HO) : Prop where
  at' : H D = some o
  noR : R D = none
  noL : ¬ Live φ M D
theorem Mine.ext {R R' : Hp} {φ φ' : List Addr} {M M' : Store} {H H' : Hp} {D : Addr} {o : HO} (m : Mine R φ M H D o) (x : Ext R φ M H R' φ' M' H') : Mine R' φ' M' H' D o := by
  have nR : R' D = none := by
    cases z : R' D with
    | none => rfl
    | some u =>
      rcases x.new D (fun w => by rw [z] at w; cases w) with q | q | q
      · exact absurd m.noR q
      · rw [m.at'] at q; cases q
      · exact absurd q m.noL
  refine ⟨(x.fr D o m.at' m.noL).exact nR, nR, fun l => ?_⟩
  rcases x.liv D l with q | q
  · exact m.noL q
  · rw [m.at'] at q; cases q
theorem Mine.write {R : Hp} {φ : List Addr} {M : Store} {H : Hp} {D : Addr} {o : HO} (m : Mine R φ M H D o) (o' : HO) : Mine R φ M (upd H D o') D o' := ⟨upd_same, m.noR, m.noL⟩
theorem Rel.mine {K : Frag} {R : Hp} {φ : List Addr} {ρ : REnv} {M : Store} {σ : L2.St} {H : Hp} {D : Addr} {o : HO} (r : Rel K R φ ρ M σ H) (m : Mine R φ M H D o) (o' : HO) : Rel K R φ ρ M σ (upd H D o') := by
  refine ⟨fun a u h => ?_, r.len, fun n nd a e q => ?_, r.inj, r.slots, r.rlen⟩
  · have ha : a ≠ D := fun z => by subst z; rw [m.noR] at h; cases h
    rw [upd_ne ha]; exact r.sub a u h
  · obtain ⟨na, ra⟩ := r.cells n nd a e q
    have ha : a ≠ D := fun z => m.noL (z ▸ ⟨n, nd, e, q⟩)
    exact ⟨na.same fun u hu => by rw [upd_ne ha]; exact hu, ra⟩
theorem Ext.mine {R R1 : Hp} {φ φ1 : List Addr} {M M1 : Store} {H H1 : Hp} {D : Addr} {o : HO} (x : Ext R1 φ1 M1 H1 R φ M H) (h : H1 D = none) (o' : HO) : Ext R1 φ1 M1 H1 R φ M (upd H D o') :=
  ⟨x.le, x.pre, x.mlen, x.new, fun a u e l => by
    have ha : a ≠ D := fun z => by subst z; rw [h] at e; cases e
    rcases x.fr a u e l with q | ⟨q1, ks, ob, q2, q3⟩
    · exact .inl (by rw [upd_ne ha]; exact q)
    · exact .inr ⟨q1, ks, ob, q2, by rw [upd_ne ha]; exact q3⟩, x.liv, fun a e => by
    by_cases ha : a = D
    · subst ha; exact h
    · rw [upd_ne ha] at e; exact x.dom a e⟩
theorem frz_kept {K : Frag} {R1 R' : Hp} {φ1 φ' : List Addr} {ρ : REnv} {M1 M' : Store} {σ : L2.St} {H1 H' : Hp} (r1 : Rel K R1 φ1 ρ M1 σ H1) (x : Ext R1 φ1 M1 H1 R' φ' M' H') : ∀ a ob u, R1 a ≠ none → H1 a = some (.frz ob u) → H' a = some (.frz ob u) := fun a ob u h e => by
  rcases x.fr a _ e (fun l => h (r1.notR l)) with q | ⟨_, _, _, q, _⟩
  · exact q
  · cases q
theorem Rel.anew {K : Frag} {R1 R' : Hp} {φ1 φ' : List Addr} {ρ ρ' : REnv} {M1 M' : Store} {σ σ' : L2.St} {H1 H' : Hp} (r1 : Rel K R1 φ1 ρ M1 σ H1) (r2 : Rel K R' φ' ρ' M' σ' H') (x : Ext R1 φ1 M1 H1 R' φ' M' H') : Rel K R' φ' ρ M' σ H' := r1.withSlots r2.noSlots x
abbrev Blk (X : Cx) (scope : Scope) (s : Shared) (H : Hp) (C : Addr) (cl : List (Str × Addr)) (fp : List Addr) : Cx := X.blk s H scope (compEnvC scope cl C X.env) fp
theorem drop_cons {α : Type} {xs : List α} {i : Nat} {x : α} (h : xs[i]? = some x) : xs.drop i = x :: xs.drop (i + 1) := by
  obtain ⟨hl, e⟩ := List.getElem?_eq_some_iff.mp h
  rw [List.drop_eq_getElem_cons hl, e]
theorem lc_tr (hX : XOk C k X) {tg iter elt : Expr} {ifs : List Expr} {scope : Scope} {ownp : List (Str × Nat)} {own : List Nat} {g : G} {it c el : E} (hi : SI X o tg iter it) (hown : ownp.map (·.2) = own) (hgm : ∀ i, g.has i → i ∈ own)
    (hg : ∀ s H C cl fp, SGI (Blk X scope s H C cl fp) tg g) (hc : ∀ s H C cl fp, SC (Blk X scope s H C cl fp) o ifs c) (he : ∀ s H C cl fp, SE (Blk X scope s H C cl fp) o elt el) {ρ : REnv} {M : Store} {r : W × Bool} {M' : Store} (ev : evE o (.lc own g it c el) ρ M = some (r, M')) {R : Hp} {φ : List Addr} {σ : L2.St} {H : Hp} (rel : Rel X.K R φ ρ M σ H) {Q : VK}
    (q : ∀ R' φ' H' v, Rel X.K R' φ' ρ M' σ H' → Ext R φ M H R' φ' M' H' → RepR X.K R' φ' M' H' H r v → Q v H') :
    tLc (wI X tg iter) (fun v σ H Q => ∀ s H0 C cl fp, wG (Blk X scope s H0 C cl fp) tg v σ H Q) (fun σ H Q => ∀ s H0 C cl fp, wTs (Blk X scope s H0 C cl fp) ifs σ H Q) (fun σ H Q => ∀ s H0 C cl fp, wE (Blk X scope s H0 C cl fp) elt σ H Q) (ownp.map (·.2)) σ H Q := by
  simp only [evE] at ev
  split at ev
  · rename_i pr xs M1 q1
    split at ev
    · rename_i hz
      split at ev
      · rename_i ys M2 q2
        cases ev
        refine hi _ _ _ _ _ q1 R φ σ H rel _ fun R1 φ1 H1 J r1 x1 sv => ?_
        intro D hD
        have h0 := x1.dom D hD
        refine ⟨fun i m H' => m = xs.length - i ∧ i ≤ xs.length ∧ ∃ R' φ' M3 acc av, Rel X.K R' φ' ρ M3 σ H' ∧ Ext R1 φ1 M1 H1 R' φ' M3 H' ∧ Mine R' φ' M3 H' D (.lst av) ∧ RepDs X.K R' acc av ∧ acc.length ≤ i ∧
          lcL pr g own (fun ρ M => evC o c ρ M) (fun ρ M => evE o el ρ M) ρ (xs.drop i) acc M3 = some (ys, M'), ⟨xs.length, rfl, Nat.zero_le _, R1, φ1, M1, [], [], r1.laid hD, Ext.laid hD, ⟨upd_same, r1.sub.none hD, r1.notLive hD⟩, .nil, Nat.le_refl _, q2⟩, ?_⟩
        rintro i m H2 ⟨rfl, hle, R2, φ2, M3, acc, av, r2, x2, mi, ra, hal, hl⟩
        have hsv := sv R2 H2 x2.le r2.sub (frz_kept r1 x2) i
        cases hx : xs[i]? with
        | none =>
          rw [List.getElem?_eq_none_iff] at hx
          refine .inl ⟨hsv.2 hx, ?_⟩
          rw [List.drop_eq_nil_of_le hx] at hl
          simp only [lcL, Option.some.injEq, Prod.mk.injEq] at hl
          obtain ⟨rfl, rfl⟩ := hl
          refine q R2 φ2 H2 _ r2 (x1.trans x2) ?_
          unfold RepR
          rw [if_pos rfl]
          exact ⟨_, D, rfl, rfl, h0, _, rfl, ⟨av, mi.at', ra⟩, mi.noR, mi.noL⟩
        | some x =>
          have hil := (List.getElem?_eq_some_iff.mp hx).1
          obtain ⟨go, yl⟩ := hsv.1 x hx
          rw [drop_cons hx] at hl
          simp only [lcL] at hl
          split at hl
          · cases hl
          · rename_i ρ1 g1
            refine .inr ⟨go, fun H' => ∃ R' φ' M4 acc av, Rel X.K R' φ' ρ M4 σ H' ∧ Ext R1 φ1 M1 H1 R' φ' M4 H' ∧ Mine R' φ' M4 H' D (.lst av) ∧ RepDs X.K R' acc av ∧ acc.length ≤ i + 1 ∧
              lcL pr g own (fun ρ M => evC o c ρ M) (fun ρ M => evE o el ρ M) ρ (xs.drop (i + 1)) acc M4 = some (ys, M'), fun H' nx => ⟨xs.length - (i + 1), by omega, rfl, hil, nx⟩, fun v H'' y => ?_⟩
            have yy := yl v H'' y
            obtain ⟨r3, x3⟩ := yy.ext r2
            intro s0 H0 C0 cl0 fp0
            refine hg s0 H0 C0 cl0 fp0 pr x _ ρ1 g1 R2 φ2 M3 _ H2 v H'' (r2.wipe own |> fun z => by rw [hown]; exact z) yy _ fun σ2 r4 o4 => ⟨?_, ?_⟩
            · have o4' : Only g.has (L2.wipe σ own) σ2 := by rw [hown] at o4; exact o4
              rw [hown]
              exact o4'.wipe hgm
            intro s1 H1' C1 cl1 fp1
            split at hl
            · cases hl
            · rename_i M4 c1
              refine hc s1 H1' C1 cl1 fp1 _ _ _ _ c1 R2 φ2 σ2 H'' r4 _ fun R5 φ5 H5 r5 x5 => ?_
              rw [if_neg Bool.false_ne_true]
              have xx := x3.trans x5
              exact ⟨R5, φ5, M4, acc, av, r2.anew r5 xx, x2.trans xx, mi.ext xx, ra.mono xx.le, Nat.le_succ_of_le hal, hl⟩
            · rename_i M4 c1
              refine hc s1 H1' C1 cl1 fp1 _ _ _ _ c1 R2 φ2 σ2 H'' r4 _ fun R5 φ5 H5 r5 x5 => ?_
              rw [if_pos rfl]
              intro s2 H2' C2 cl2 fp2
              split at hl
              · rename_i y' fr M5 e1
                refine (he s2 H2' C2 cl2 fp2).frz _ _ _ _ e1 R5 φ5 σ2 H5 r5 _ fun R6 φ6 H6 yv r6 x6 p6 => ?_
                have xx := (x3.trans x5).trans x6
                have m6 := mi.ext xx
                have la : av.length = acc.length := ra.length.symm
                refine ⟨av, m6.at', ?_, ?_⟩
                · rw [sizeLine_eq]; unfold big at hz; omega
                · exact ⟨R6, φ6, M5, acc ++ [y'], av ++ [yv], (r2.anew r6 xx).mine m6 _, (x2.trans xx).mine (o := .lst av) hD _, m6.write _, (ra.mono xx.le).append (.cons p6 .nil), by rw [List.length_append]; simp; omega, hl⟩
              · cases hl
      · cases ev
    · cases ev
  · cases ev
theorem se_lc (hX : XOk C k X) {tg iter elt : Expr} {ifs : List Expr} {scope : Scope} {pos : Pos} {ownp : List (Str × Nat)} {own : List Nat} {g : G} {it c el : E} (hi : SI X o tg iter it) (ok : BlkOk X.N X.env.scope scope ownp) (hown : ownp.map (·.2) = own) (hgm : ∀ i, g.has i → i ∈ own)
    (hg : ∀ s H C cl fp, SGI (Blk X scope s H C cl fp) tg g) (hc : ∀ s H C cl fp, SC (Blk X scope s H C cl fp) o ifs c) (he : ∀ s H C cl fp, SE (Blk X scope s H C cl fp) o elt el) (hs : isSet iter = false) :
    SE X o (.ListComp elt [⟨tg, iter, ifs, 0⟩] scope pos) (.lc own g it c el) := fun ρ M r M' ev R φ σ H rel Q q =>
  wE_of (pe_lc (g := fun v σ H Q => ∀ s H0 C cl fp, wG (Blk X scope s H0 C cl fp) tg v σ H Q) (tt := fun σ H Q => ∀ s H0 C cl fp, wTs (Blk X scope s H0 C cl fp) ifs σ H Q) (te := fun σ H Q => ∀ s H0 C cl fp, wE (Blk X scope s H0 C cl fp) elt σ H Q) hX.calm hX.nd wI_pi ok
          (fun s H C cl fp => ⟨fun pins s' σ H' v u Q I rv h => h s H C cl fp pins s' u I rv⟩) (fun s H C cl fp => ⟨fun pins s' σ H' Q I h => h s H C cl fp pins s' I⟩) (fun s H C cl fp => ⟨fun pins s' σ H' Q I h => h s H C cl fp pins s' I⟩) (noFold hs)) (lc_tr hX hi hown hgm hg hc he ev rel q)
end
end Rf

set_option Elab.async false
set_option linter.all false
set_option maxRecDepth 100000
set_option maxHeartbeats 4000000
namespace Rf
open PySem PySem.Spec L2

section
variable {X : Cx} {o : Orc} {C : Ctx} {k : Nat}
theorem repK_length (k : Key) (x : D) : ∀ kvs : List (Key × D), (repK k x kvs).length = kvs.length
  | [] => rfl
  | p :: r => by unfold repK; rw [List.length_cons, List.length_cons, repK_length]
theorem setK_length (k : Key) (x : D) (kvs : List (Key × D)) : (setK k x kvs).length ≤ kvs.length + 1 := by
  unfold setK
  split
  · rw [repK_length]; exact Nat.le_succ _
  · rw [List.length_append]; exact Nat.le_refl _
theorem dc_tr (hX : XOk C k X) {tg iter kx vx : Expr} {ifs : List Expr} {scope : Scope} {ownp : List (Str × Nat)} {own : List Nat} {g : G} {it c ke ve : E} (hi : SI X o tg iter it) (hown : ownp.map (·.2) = own) (hgm : ∀ i, g.has i → i ∈ own)
    (hg : ∀ s H C cl fp, SGI (Blk X scope s H C cl fp) tg g) (hc : ∀ s H C cl fp, SC (Blk X scope s H C cl fp) o ifs c) (hk : ∀ s H C cl fp, SE (Blk X scope s H C cl fp) o kx ke) (he : ∀ s H C cl fp, SE (Blk X scope s H C cl fp) o vx ve) {ρ : REnv} {M : Store} {r : W × Bool} {M' : Store} (ev : evE o (.dc own g it c ke ve) ρ M = some (r, M')) {R : Hp} {φ : List Addr} {σ : L2.St} {H : Hp} (rel : Rel X.K R φ ρ M σ H) {Q : VK}
    (q : ∀ R' φ' H' v, Rel X.K R' φ' ρ M' σ H' → Ext R φ M H R' φ' M' H' → RepR X.K R' φ' M' H' H r v → Q v H') :
    tDc (wI X tg iter) (fun v σ H Q => ∀ s H0 C cl fp, wG (Blk X scope s H0 C cl fp) tg v σ H Q) (fun σ H Q => ∀ s H0 C cl fp, wTs (Blk X scope s H0 C cl fp) ifs σ H Q) (fun σ H Q => ∀ s H0 C cl fp, wE (Blk X scope s H0 C cl fp) kx σ H Q) (fun σ H Q => ∀ s H0 C cl fp, wE (Blk X scope s H0 C cl fp) vx σ H Q) (ownp.map (·.2)) σ H Q := by
  simp only [evE] at ev
  split at ev
  · rename_i pr xs M1 q1
    split at ev
    · rename_i hz
      split at ev
      · rename_i ys M2 q2
        cases ev
        refine hi _ _ _ _ _ q1 R φ σ H rel _ fun R1 φ1 H1 J r1 x1 sv => ?_
        intro D hD
        have h0 := x1.dom D hD
        refine ⟨fun i m H' => m = xs.length - i ∧ i ≤ xs.length ∧ ∃ R' φ' M3 acc av, Rel X.K R' φ' ρ M3 σ H' ∧ Ext R1 φ1 M1 H1 R' φ' M3 H' ∧ Mine R' φ' M3 H' D (.dK av) ∧ RepKs X.K R' acc av ∧ acc.length ≤ i ∧
          dcL pr g own (fun ρ M => evC o c ρ M) (fun ρ M => evE o ke ρ M) (fun ρ M => evE o ve ρ M) ρ (xs.drop i) acc M3 = some (ys, M'), ⟨xs.length, rfl, Nat.zero_le _, R1, φ1, M1, [], [], r1.laid hD, Ext.laid hD, ⟨upd_same, r1.sub.none hD, r1.notLive hD⟩, .nil, Nat.le_refl _, q2⟩, ?_⟩
        rintro i m H2 ⟨rfl, hle, R2, φ2, M3, acc, av, r2, x2, mi, ra, hal, hl⟩
        have hsv := sv R2 H2 x2.le r2.sub (frz_kept r1 x2) i
        cases hx : xs[i]? with
        | none =>
          rw [List.getElem?_eq_none_iff] at hx
          refine .inl ⟨hsv.2 hx, ?_⟩
          rw [List.drop_eq_nil_of_le hx] at hl
          simp only [dcL, Option.some.injEq, Prod.mk.injEq] at hl
          obtain ⟨rfl, rfl⟩ := hl
          refine q R2 φ2 H2 _ r2 (x1.trans x2) ?_
          unfold RepR
          rw [if_pos rfl]
          exact ⟨_, D, rfl, rfl, h0, _, rfl, ⟨av, mi.at', ra⟩, mi.noR, mi.noL⟩
        | some x =>
          have hil := (List.getElem?_eq_some_iff.mp hx).1
          obtain ⟨go, yl⟩ := hsv.1 x hx
          rw [drop_cons hx] at hl
          simp only [dcL] at hl
          split at hl
          · cases hl
          · rename_i ρ1 g1
            refine .inr ⟨go, fun H' => ∃ R' φ' M4 acc av, Rel X.K R' φ' ρ M4 σ H' ∧ Ext R1 φ1 M1 H1 R' φ' M4 H' ∧ Mine R' φ' M4 H' D (.dK av) ∧ RepKs X.K R' acc av ∧ acc.length ≤ i + 1 ∧
              dcL pr g own (fun ρ M => evC o c ρ M) (fun ρ M => evE o ke ρ M) (fun ρ M => evE o ve ρ M) ρ (xs.drop (i + 1)) acc M4 = some (ys, M'), fun H' nx => ⟨xs.length - (i + 1), by omega, rfl, hil, nx⟩, fun v H'' y => ?_⟩
            have yy := yl v H'' y
            obtain ⟨r3, x3⟩ := yy.ext r2
            intro s0 H0 C0 cl0 fp0
            refine hg s0 H0 C0 cl0 fp0 pr x _ ρ1 g1 R2 φ2 M3 _ H2 v H'' (r2.wipe own |> fun z => by rw [hown]; exact z) yy _ fun σ2 r4 o4 => ⟨?_, ?_⟩
            · have o4' : Only g.has (L2.wipe σ own) σ2 := by rw [hown] at o4; exact o4
              rw [hown]
              exact o4'.wipe hgm
            intro s1 H1' C1 cl1 fp1
            split at hl
            · cases hl
            · rename_i M4 c1
              refine hc s1 H1' C1 cl1 fp1 _ _ _ _ c1 R2 φ2 σ2 H'' r4 _ fun R5 φ5 H5 r5 x5 => ?_
              rw [if_neg Bool.false_ne_true]
              have xx := x3.trans x5
              exact ⟨R5, φ5, M4, acc, av, r2.anew r5 xx, x2.trans xx, mi.ext xx, ra.mono xx.le, Nat.le_succ_of_le hal, hl⟩
            · rename_i M4 c1
              refine hc s1 H1' C1 cl1 fp1 _ _ _ _ c1 R2 φ2 σ2 H'' r4 _ fun R5 φ5 H5 r5 x5 => ?_
              rw [if_pos rfl]
              intro s2 H2' C2 cl2 fp2
              split at hl
              · rename_i kd fr M5 e1
                split at hl
                · rename_i kk y' fr' M6 z1 z2
                  refine (hk s2 H2' C2 cl2 fp2).frz _ _ _ _ e1 R5 φ5 σ2 H5 r5 _ fun R6 φ6 H6 kv r6 x6 p6 => ?_
                  intro s3 H3' C3 cl3 fp3
                  refine (he s3 H3' C3 cl3 fp3).frz _ _ _ _ z2 R6 φ6 σ2 H6 r6 _ fun R7 φ7 H7 yv r7 x7 p7 => ?_
                  have xx := ((x3.trans x5).trans x6).trans x7
                  have m7 := mi.ext xx
                  have la : av.length = acc.length := (repKs_get ra).1.symm
                  refine ⟨av, kk, kV_ofD p6 z1, m7.at', ?_, ?_⟩
                  · rw [sizeLine_eq]; unfold big at hz; omega
                  · exact ⟨R7, φ7, M6, setK kk y' acc, putK av kk yv, (r2.anew r7 xx).mine m7 _, (x2.trans xx).mine (o := .dK av) hD _, m7.write _, setK_put p7 (ra.mono xx.le), Nat.le_trans (setK_length _ _ _) (Nat.succ_le_succ hal), hl⟩
                · cases hl
              · cases hl
      · cases ev
    · cases ev
  · cases ev
theorem se_dc (hX : XOk C k X) {tg iter kx vx : Expr} {ifs : List Expr} {scope : Scope} {pos : Pos} {ownp : List (Str × Nat)} {own : List Nat} {g : G} {it c ke ve : E} (hi : SI X o tg iter it) (ok : BlkOk X.N X.env.scope scope ownp) (hown : ownp.map (·.2) = own) (hgm : ∀ i, g.has i → i ∈ own)
    (hg : ∀ s H C cl fp, SGI (Blk X scope s H C cl fp) tg g) (hc : ∀ s H C cl fp, SC (Blk X scope s H C cl fp) o ifs c) (hk : ∀ s H C cl fp, SE (Blk X scope s H C cl fp) o kx ke) (he : ∀ s H C cl fp, SE (Blk X scope s H C cl fp) o vx ve) (hs : isSet iter = false) :
    SE X o (.DictComp kx vx [⟨tg, iter, ifs, 0⟩] scope pos) (.dc own g it c ke ve) := fun ρ M r M' ev R φ σ H rel Q q =>
  wE_of (pe_dc (g := fun v σ H Q => ∀ s H0 C cl fp, wG (Blk X scope s H0 C cl fp) tg v σ H Q) (tt := fun σ H Q => ∀ s H0 C cl fp, wTs (Blk X scope s H0 C cl fp) ifs σ H Q) (tk := fun σ H Q => ∀ s H0 C cl fp, wE (Blk X scope s H0 C cl fp) kx σ H Q) (tv := fun σ H Q => ∀ s H0 C cl fp, wE (Blk X scope s H0 C cl fp) vx σ H Q) hX.calm hX.nd wI_pi ok
          (fun s H C cl fp => ⟨fun pins s' σ H' v u Q I rv h => h s H C cl fp pins s' u I rv⟩) (fun s H C cl fp => ⟨fun pins s' σ H' Q I h => h s H C cl fp pins s' I⟩) (fun s H C cl fp => ⟨fun pins s' σ H' Q I h => h s H C cl fp pins s' I⟩) (fun s H C cl fp => ⟨fun pins s' σ H' Q I h => h s H C cl fp pins s' I⟩) (noFold hs)) (dc_tr hX hi hown hgm hg hc hk he ev rel q)
end
end Rf

set_option Elab.async false
set_option linter.all false
set_option maxRecDepth 100000
set_option maxHeartbeats 4000000
namespace Rf
open PySem PySem.Spec L2

def wS (X : Cx) (st : Stmt) : TS := fun D σ H => ∀ (pins : List (Addr × Obj)) (s : Shared), Inv X pins σ H s → wpAny (model X.prog X.w) X.A (exec st X.env) (SP X pins D) X.xe s
theorem wS_ps {X : Cx} {st : Stmt} : PS X st (wS X st) := ⟨fun pins s σ H D I h => h pins s I⟩
theorem wS_of {X : Cx} {st : Stmt} {t : TS} (h : PS X st t) {D : Ends} {σ : L2.St} {H : Hp} (q : t D σ H) : wS X st D σ H := fun pins s I => h.run pins s σ H D I q
def wSs (X : Cx) (sts : List Stmt) : TS := fun D σ H => ∀ (pins : List (Addr × Obj)) (s : Shared), Inv X pins σ H s → wpAny (model X.prog X.w) X.A (execs sts X.env) (SP X pins D) X.xe s
theorem wSs_pss {X : Cx} {sts : List Stmt} : PSs X sts (wSs X sts) := ⟨fun pins s σ H D I h => h pins s I⟩
theorem wSs_of {X : Cx} {sts : List Stmt} {t : TS} (h : PSs X sts t) {D : Ends} {σ : L2.St} {H : Hp} (q : t D σ H) : wSs X sts D σ H := fun pins s I => h.run pins s σ H D I q
def Post (X : Cx) (R : Hp) (φ : List Addr) (M : Store) (H : Hp) (D : Ends) : Out → Prop
  | .nx ρ' M' => ∀ R' φ' σ' H', Rel X.K R' φ' ρ' M' σ' H' → Ext R φ M H R' φ' M' H' → D.nx σ' H'
  | .rt w fr M' => ∀ R' φ' H' v, Rel X.K R' φ' [] M' [] H' → Ext R φ M H R' φ' M' H' → RepR X.K R' φ' M' H' H (w, fr) v → D.rt v H'
theorem Post.back {X : Cx} {R R1 : Hp} {φ φ1 : List Addr} {M M1 : Store} {H H1 : Hp} {D : Ends} {out : Out} (p : Post X R φ M H D out) (x : Ext R φ M H R1 φ1 M1 H1) : Post X R1 φ1 M1 H1 D out := by
  cases out with
  | nx ρ' M' => exact fun R' φ' σ' H' r x' => p R' φ' σ' H' r (x.trans x')
  | rt w fr M' => exact fun R' φ' H' v r x' q => p R' φ' H' v r (x.trans x') (q.back x)
def S1 (X : Cx) (o : Orc) (st : Stmt) (S : S) : Prop := ∀ ρ M out, evS o S ρ M = some out → ∀ R φ σ H, Rel X.K R φ ρ M σ H → ∀ D : Ends, Post X R φ M H D out → wS X st D σ H
def SS (X : Cx) (o : Orc) (sts : List Stmt) (S : S) : Prop := ∀ ρ M out, evS o S ρ M = some out → ∀ R φ σ H, Rel X.K R φ ρ M σ H → ∀ D : Ends, Post X R φ M H D out → wSs X sts D σ H

section
variable {X : Cx} {o : Orc} {C : Ctx} {k : Nat}
theorem ss_nil : SS X o [] .nil := fun ρ M out ev R φ σ H rel D p => by
  simp only [evS, Option.some.injEq] at ev
  subst ev
  exact wSs_of pss_nil (p R φ σ H rel (Ext.refl ..))
theorem ss_seq {st : Stmt} {sts : List Stmt} {a b : S} (h1 : S1 X o st a) (h2 : SS X o sts b) : SS X o (st :: sts) (.seq a b) := fun ρ M out ev R φ σ H rel D p => by
  simp only [evS] at ev
  refine wSs_of (pss_cons wS_ps wSs_pss) ?_
  show wS X st { D with nx := wSs X sts D } σ H
  split at ev
  · rename_i ρ1 M1 q1
    exact h1 _ _ _ q1 R φ σ H rel _ fun R1 φ1 σ1 H1 r1 x1 => h2 _ _ _ ev R1 φ1 σ1 H1 r1 D (p.back x1)
  · rename_i w fr M1 q1
    cases ev
    exact h1 _ _ _ q1 R φ σ H rel _ p
  · cases ev
/-- a cell is read-only from here on -/
theorem Rel.frzCell {K : Frag} {R : Hp} {φ : List Addr} {ρ : REnv} {M : Store} {σ : L2.St} {H : Hp} {i n : Nat} {nd : Node} (r : Rel K R φ ρ M σ H) (hw : wAt ρ i = some (.cell n)) (hc : cellAt M n = some nd) :
    ∃ R', Rel K R' φ (ρ.set i (some (.d nd.toD))) (M.set n none) σ H ∧ Ext R φ M H R' φ (M.set n none) H := by
  obtain ⟨v, hv, a, ea, rfl⟩ := r.slots i _ hw
  obtain ⟨na, ra⟩ := r.cells n nd a hc ea
  obtain ⟨u, hu⟩ := na.some
  have hn := cellAt_lt hc
  have le : Le R (upd R a u) := fun b w e => by
    have : b ≠ a := fun z => by subst z; rw [ra] at e; cases e
    rw [upd_ne this]; exact e
  have ca : ∀ {m nd0}, cellAt (M.set n none) m = some nd0 → m ≠ n ∧ cellAt M m = some nd0 := fun {m nd0} h => by
    have z := cellAt_some h
    by_cases hm : m = n
    · subst hm
      rw [List.getElem?_set_self hn] at z; cases z
    · rw [List.getElem?_set_ne (Ne.symm hm)] at z
      exact ⟨hm, cellAt_of z⟩
  have liv : ∀ b, Live φ (M.set n none) b → Live φ M b ∧ b ≠ a := fun b ⟨m, nd0, h1, h2⟩ => by
    obtain ⟨hm, h1⟩ := ca h1
    exact ⟨⟨m, nd0, h1, h2⟩, fun z => hm (r.inj m n _ _ b h1 hc h2 (z ▸ ea))⟩
  refine ⟨upd R a u, ⟨fun b w e => ?_, by rw [List.length_set]; exact r.len, fun m nd0 b h1 h2 => ?_, fun m m' n1 n2 b c1 c2 e1 e2 => ?_, fun j w e => ?_, by rw [List.length_set]; exact r.rlen⟩, ⟨le, List.prefix_refl _, by rw [List.length_set]; exact Nat.le_refl _, fun b h => ?_, fun b w h l => .inl h, fun b l => .inl (liv b l).1, fun b h => h⟩⟩
  · by_cases hb : b = a
    · subst hb; rw [upd_same] at e; cases e; exact .inl hu
    · rw [upd_ne hb] at e; exact r.sub b w e
  · have lb := liv b ⟨m, nd0, h1, h2⟩
    obtain ⟨nb, rb⟩ := r.cells m nd0 b (ca h1).2 h2
    exact ⟨nb.mono le, by rw [upd_ne lb.2]; exact rb⟩
  · exact r.inj m m' _ _ b (ca c1).2 (ca c2).2 e1 e2
  · rcases wAt_set e with ⟨rfl, rfl, _⟩ | ⟨hne, e⟩
    · refine ⟨_, hv, ?_⟩
      show RepD K (upd R a u) nd.toD (.ref a)
      cases nd with
      | lst xs =>
        obtain ⟨vs, e1, r1⟩ := na
        rw [hu] at e1; cases e1
        exact .lst upd_same (r1.mono le)
      | dic xs =>
        obtain ⟨vs, e1, r1⟩ := na
        rw [hu] at e1; cases e1
        exact .dic upd_same (r1.mono le)
    · obtain ⟨v', q, z⟩ := r.slots j w e
      exact ⟨v', q, z.mono le (List.prefix_refl _)⟩
  · by_cases hb : b = a
    · subst hb; exact .inr (.inr ⟨n, nd, hc, ea⟩)
    · rw [upd_ne hb] at h; exact .inl h
theorem ss_frz {sts : List Stmt} {i : Nat} {b : S} (h2 : SS X o sts b) : SS X o sts (.seq (.frz i) b) := fun ρ M out ev R φ σ H rel D p => by
  simp only [evS] at ev
  split at ev
  · rename_i ρ1 M1 q1
    split at q1
    · rename_i n w1
      split at q1
      · rename_i nd c1
        cases q1
        obtain ⟨R', r', x'⟩ := rel.frzCell w1 c1
        exact h2 _ _ _ ev R' φ σ H r' D (p.back x')
      · cases q1
    · cases q1
  · rename_i q1
    split at q1
    · split at q1 <;> cases q1
    · cases q1
  · cases ev
theorem ss_never {sts : List Stmt} : SS X o sts .never := fun ρ M out ev => by simp [evS] at ev
theorem s1_never {st : Stmt} : S1 X o st .never := fun ρ M out ev => by simp [evS] at ev
/-- a statement that does nothing here (a docstring) -/
theorem ss_skip {st : Stmt} {sts : List Stmt} {b : S} (h1 : PS X st tNext) (h2 : SS X o sts b) : SS X o (st :: sts) b := fun ρ M out ev R φ σ H rel D p =>
  wSs_of (pss_cons h1 wSs_pss) (h2 _ _ _ ev R φ σ H rel D p)
theorem s1_ret {e : Expr} {pos : Pos} {a : E} (ha : SE X o e a) : S1 X o (.Return (some e) pos) (.ret a) := fun ρ M out ev R φ σ H rel D p => by
  simp only [evS] at ev
  split at ev
  · rename_i w fr M1 q1
    cases ev
    exact wS_of (ps_ret wE_pe) (ha _ _ _ _ q1 R φ σ H rel _ fun R1 φ1 H1 v r1 x1 p1 => p R1 φ1 H1 v r1.noSlots x1 p1)
  · cases ev
theorem s1_retN {pos : Pos} : S1 X o (.Return none pos) .retN := fun ρ M out ev R φ σ H rel D p => by
  simp only [evS, Option.some.injEq] at ev
  subst ev
  exact wS_of ps_retN (p R φ H .non rel.noSlots (Ext.refl ..) (.frz .non))
theorem s1_exp {e : Expr} {pos : Pos} {a : E} (ha : SE X o e a) (hc : isComp e = false) : S1 X o (.Expr e pos) (.exp a) := fun ρ M out ev R φ σ H rel D p => by
  simp only [evS] at ev
  split at ev
  · rename_i q1
    cases ev
    exact wS_of (ps_expr wE_pe (noSwap hc)) (ha _ _ _ _ q1 R φ σ H rel _ fun R1 φ1 H1 v r1 x1 p1 => p R1 φ1 σ H1 r1 x1)
  · cases ev
theorem s1_ite {t : Expr} {a b : List Stmt} {pos : Pos} {ct : E} {ca cb : S} (ht : ST X o t ct) (ha : SS X o a ca) (hb : SS X o b cb) : S1 X o (.If t a b pos) (.ite ct ca cb) := fun ρ M out ev R φ σ H rel D p => by
  simp only [evS] at ev
  refine wS_of (ps_if wT_pt wSs_pss wSs_pss) ?_
  split at ev
  · rename_i q1
    refine ht _ _ _ _ q1 R φ σ H rel _ fun R1 φ1 H1 r1 x1 => ?_
    rw [if_pos rfl]
    exact ha _ _ _ ev R1 φ1 σ H1 r1 D (p.back x1)
  · rename_i q1
    refine ht _ _ _ _ q1 R φ σ H rel _ fun R1 φ1 H1 r1 x1 => ?_
    rw [if_neg Bool.false_ne_true]
    exact hb _ _ _ ev R1 φ1 σ H1 r1 D (p.back x1)
  · cases ev
theorem pass_own (hX : XOk C k X) : PassesOwn (model X.prog X.w) X.A X.env X.xe := by
  rw [hX.xe]; exact PassesOwn.never
theorem s1_for (hX : XOk C k X) {tg iter : Expr} {body : List Stmt} {pos : Pos} {g : G} {it : E} {b : S} (hi : SI X o tg iter it) (hg : SGI X tg g) (hb : SS X o body b) (hs : isSet iter = false) : S1 X o (.For tg iter body [] pos) (.for_ g it b) := fun ρ M out ev R φ σ H rel D p => by
  simp only [evS] at ev
  split at ev
  · rename_i pr xs M1 q1
    refine wS_of (ps_for (pass_own hX) hX.calm wI_pi wG_pg wSs_pss (noFold hs)) (hi _ _ _ _ _ q1 R φ σ H rel _ fun R1 φ1 H1 J r1 x1 sv => ?_)
    refine ⟨fun i m σ' H' => m = xs.length - i ∧ i ≤ xs.length ∧ ∃ R' φ' ρ' M', Rel X.K R' φ' ρ' M' σ' H' ∧ Ext R1 φ1 M1 H1 R' φ' M' H' ∧ forL (fun ρ M => evS o b ρ M) pr g (xs.drop i) ρ' M' = some out, ⟨xs.length, rfl, Nat.zero_le _, R1, φ1, ρ, M1, r1, Ext.refl .., ev⟩, ?_⟩
    rintro i m σ2 H2 ⟨rfl, hle, R2, φ2, ρ2, M2, r2, x2, hl⟩
    have hsv := sv R2 H2 x2.le r2.sub (frz_kept r1 x2) i
    cases hx : xs[i]? with
    | none =>
      rw [List.getElem?_eq_none_iff] at hx
      rw [List.drop_eq_nil_of_le hx] at hl
      simp only [forL, Option.some.injEq] at hl
      subst hl
      exact .inl ⟨hsv.2 hx, p R2 φ2 σ2 H2 r2 (x1.trans x2)⟩
    | some x =>
      have hil := (List.getElem?_eq_some_iff.mp hx).1
      obtain ⟨go, yl⟩ := hsv.1 x hx
      rw [drop_cons hx] at hl
      simp only [forL] at hl
      split at hl
      · cases hl
      · rename_i ρ3 g1
        refine .inr ⟨go, fun σ' H' => ∃ R' φ' ρ' M', Rel X.K R' φ' ρ' M' σ' H' ∧ Ext R1 φ1 M1 H1 R' φ' M' H' ∧ forL (fun ρ M => evS o b ρ M) pr g (xs.drop (i + 1)) ρ' M' = some out, fun σ' H' nx => ⟨xs.length - (i + 1), by omega, rfl, hil, nx⟩, fun v H'' y => ?_⟩
        have yy := yl v H'' y
        obtain ⟨_, x3⟩ := yy.ext r2
        refine hg pr x ρ2 ρ3 g1 R2 φ2 M2 σ2 H2 v H'' r2 yy _ fun σ3 r4 o4 => ?_
        split at hl
        · rename_i ρ4 M4 b1
          exact hb _ _ _ b1 R2 φ2 σ3 H'' r4 _ fun R5 φ5 σ5 H5 r5 x5 => ⟨R5, φ5, ρ4, M4, r5, x2.trans (x3.trans x5), hl⟩
        · rename_i w fr M4 b1
          cases hl
          exact hb _ _ _ b1 R2 φ2 σ3 H'' r4 _ ((p.back x1).back (x2.trans x3))
        · cases hl
  · cases ev
theorem s1_while (hX : XOk C k X) {t : Expr} {body : List Stmt} {pos : Pos} {ct : E} {b : S} (ht : ST X o t ct) (hb : SS X o body b) : S1 X o (.While t body [] pos) (.while_ ct b) := fun ρ M out ev R φ σ H rel D p => by
  simp only [evS] at ev
  refine wS_of (ps_while (pass_own hX) wT_pt wSs_pss) ?_
  refine ⟨fun m σ' H' => ∃ R' φ' ρ' M', Rel X.K R' φ' ρ' M' σ' H' ∧ Ext R φ M H R' φ' M' H' ∧ whL (fun ρ M => evT o ct ρ M) (fun ρ M => evS o b ρ M) m ρ' M' = some out, ⟨big, R, φ, ρ, M, rel, Ext.refl .., ev⟩, ?_⟩
  rintro m σ2 H2 ⟨R2, φ2, ρ2, M2, r2, x2, hl⟩
  cases m with
  | zero => cases hl
  | succ m =>
    simp only [whL] at hl
    split at hl
    · rename_i t1
      cases hl
      refine ht _ _ _ _ t1 R2 φ2 σ2 H2 r2 _ fun R3 φ3 H3 r3 x3 => ?_
      rw [if_neg Bool.false_ne_true]
      exact p R3 φ3 σ2 H3 r3 (x2.trans x3)
    · rename_i M3 t1
      refine ht _ _ _ _ t1 R2 φ2 σ2 H2 r2 _ fun R3 φ3 H3 r3 x3 => ?_
      rw [if_pos rfl]
      refine ⟨fun σ' H' => ∃ R' φ' ρ' M', Rel X.K R' φ' ρ' M' σ' H' ∧ Ext R φ M H R' φ' M' H' ∧ whL (fun ρ M => evT o ct ρ M) (fun ρ M => evS o b ρ M) m ρ' M' = some out, fun σ' H' nx => ⟨m, Nat.lt_succ_self m, nx⟩, ?_⟩
      split at hl
      · rename_i ρ4 M4 b1
        exact hb _ _ _ b1 R3 φ3 σ2 H3 r3 _ fun R5 φ5 σ5 H5 r5 x5 => ⟨R5, φ5, ρ4, M4, r5, (x2.trans x3).trans x5, hl⟩
      · rename_i w fr M4 b1
        cases hl
        exact hb _ _ _ b1 R3 φ3 σ2 H3 r3 _ (p.back (x2.trans x3))
      · cases hl
    · cases hl
end
end Rf

set_option Elab.async false
set_option linter.all false
set_option maxRecDepth 100000
set_option maxHeartbeats 4000000
namespace Rf
open PySem PySem.Spec L2

section
variable {X : Cx} {o : Orc} {C : Ctx} {k : Nat}
theorem s1_set (hX : XOk C k X) {x : Str} {i : Nat} {px pos : Pos} {e : Expr} {a : E} (hN : X.N[i]? = some x) (hl : X.env.scope.names.lookup x = some .local) (ha : SE X o e a) (hc : isComp e = false) : S1 X o (.Assign [.Name x px] e pos) (.asg (.nm i) a) := fun ρ M out ev R φ σ H rel D p => by
  simp only [evS] at ev
  split at ev
  · rename_i w fr M1 q1
    split at ev
    · rename_i ρ1 g1
      cases ev
      refine wS_of (ps_set hX.nd hN (.inl hl) wE_pe (noSwap hc) (.inr hl)) (ha.frz _ _ _ _ q1 R φ σ H rel _ fun R1 φ1 H1 v r1 x1 p1 => ?_)
      exact p R1 φ1 _ H1 (r1.putW p1 g1) x1
    · cases ev
  · cases ev
theorem s1_setG (hX : XOk C k X) {x : Str} {i : Nat} {px pos : Pos} {e : Expr} {a : E} (hN : X.N[i]? = some x) (hl : X.env.scope.names.lookup x = some .local ∨ (X.env.scope.names.lookup x = some .cell ∧ X.fn x = true)) (ha : SE X o e a) (hs : swapsWith e (some (.Name x px)) pos.line X.env = pure false) : S1 X o (.Assign [.Name x px] e pos) (.asg (.nm i) a) := fun ρ M out ev R φ σ H rel D p => by
  simp only [evS] at ev
  split at ev
  · rename_i w fr M1 q1
    split at ev
    · rename_i ρ1 g1
      cases ev
      have go : tAsg (wE X e) (gName i) D σ H := ha.frz _ _ _ _ q1 R φ σ H rel _ fun R1 φ1 H1 v r1 x1 p1 => p R1 φ1 _ H1 (r1.putW p1 g1) x1
      rcases hl with hl | ⟨hl, hf⟩
      · exact wS_of (ps_set hX.nd hN (.inl hl) wE_pe hs (.inr hl)) go
      · exact wS_of (ps_set hX.nd hN (.inr hl) wE_pe hs (.inl hf)) go
    · cases ev
  · cases ev
/-- the end of a store that follows a comprehension -/
theorem set_end {i : Nat} {R : Hp} {φ : List Addr} {ρ : REnv} {M M1 : Store} {σ : L2.St} {H : Hp} {D : Ends} {out : Out} {a : E} (ev : evS o (.asg (.nm i) a) ρ M = some out) (p : Post X R φ M H D out) {w : W} {fr : Bool} (q1 : evE o a ρ M = some ((w, fr), M1)) {R1 : Hp} {φ1 : List Addr} {H1 : Hp} {v : V}
    (r1 : Rel X.K R1 φ1 ρ M1 σ H1) (x1 : Ext R φ M H R1 φ1 M1 H1) (p1 : RepR X.K R1 φ1 M1 H1 H (w, fr) v) : D.nx (σ.set i (some v)) H1 := by
  simp only [evS, q1] at ev
  split at ev
  · rename_i ρ1 g1
    cases ev
    obtain ⟨R2, r2, x2, p2⟩ := freeze r1 x1 p1
    exact p R2 φ1 _ H1 (r2.putW p2 g1) x2
  · cases ev
theorem asg_some {g : G} {a : E} {ρ : REnv} {M : Store} {out : Out} (ev : evS o (.asg g a) ρ M = some out) : ∃ w fr M1, evE o a ρ M = some ((w, fr), M1) := by
  simp only [evS] at ev
  split at ev
  · rename_i w fr M1 q1; exact ⟨w, fr, M1, q1⟩
  · cases ev
theorem mk_end {i : Nat} {R : Hp} {φ : List Addr} {ρ : REnv} {M : Store} {σ : L2.St} {H : Hp} {D : Ends} {out : Out} {a : E} (ev : evS o (.asg (.nm i) (.mk a)) ρ M = some out) (p : Post X R φ M H D out) : ∃ r0 M1, evE o a ρ M = some (r0, M1) ∧
    ∀ R1 φ1 H1 v, Rel X.K R1 φ1 ρ M1 σ H1 → Ext R φ M H R1 φ1 M1 H1 → RepR X.K R1 φ1 M1 H1 H r0 v → D.nx (σ.set i (some v)) H1 := by
  obtain ⟨w, fr, M2, q1⟩ := asg_some ev
  obtain ⟨r0, M1, q2, k1⟩ := mk_q (K := X.K) q1
  refine ⟨r0, M1, q2, fun R1 φ1 H1 v r1 x1 p1 => ?_⟩
  obtain ⟨R', φ', r2, x2, p2⟩ := k1 r1 x1 p1
  exact set_end ev p q1 r2 x2 p2
theorem s1_setLc (hX : XOk C k X) {x : Str} {i : Nat} {px spos : Pos} (hN : X.N[i]? = some x) (hl : X.env.scope.names.lookup x = some .local) {tg iter elt : Expr} {ifs : List Expr} {scope : Scope} {pos : Pos} {ownp : List (Str × Nat)} {own : List Nat} {g : G} {it c el : E}
    (hi : SI X o tg iter it) (ok : BlkOk X.N X.env.scope scope ownp) (hown : ownp.map (·.2) = own) (hgm : ∀ i, g.has i → i ∈ own)
    (hg : ∀ s H C cl fp, SGI (Blk X scope s H C cl fp) tg g) (hc : ∀ s H C cl fp, SC (Blk X scope s H C cl fp) o ifs c) (he : ∀ s H C cl fp, SE (Blk X scope s H C cl fp) o elt el) (hs : isSet iter = false)
    (hk : X.env.scope.kind = .function) (hline : (px.line == pos.line) = true) (hany : (scope.names.any fun (n, k) => n == x && (k == .local || k == .cell)) = false) :
    S1 X o (.Assign [.Name x px] (.ListComp elt [⟨tg, iter, ifs, 0⟩] scope pos) spos) (.asg (.nm i) (.lc own g it c el)) := fun ρ M out ev R φ σ H rel D p => by
  obtain ⟨w, fr, M1, q1⟩ := asg_some ev
  refine wS_of (ps_setLc (g := fun v σ H Q => ∀ s H0 C cl fp, wG (Blk X scope s H0 C cl fp) tg v σ H Q) (tt := fun σ H Q => ∀ s H0 C cl fp, wTs (Blk X scope s H0 C cl fp) ifs σ H Q) (te := fun σ H Q => ∀ s H0 C cl fp, wE (Blk X scope s H0 C cl fp) elt σ H Q) hX.calm hX.nd hN hl
    (sw_true hk hl hline hany) wI_pi ok
    (fun s H C cl fp => ⟨fun pins s' σ H' v u Q I rv h => h s H C cl fp pins s' u I rv⟩) (fun s H C cl fp => ⟨fun pins s' σ H' Q I h => h s H C cl fp pins s' I⟩) (fun s H C cl fp => ⟨fun pins s' σ H' Q I h => h s H C cl fp pins s' I⟩) (noFold hs)) ?_
  exact lc_tr hX hi hown hgm hg hc he q1 rel (Q := fun v H1 => D.nx (σ.set i (some v)) H1) fun R1 φ1 H1 v r1 x1 p1 => set_end ev p q1 r1 x1 p1
theorem s1_setLcM (hX : XOk C k X) {x : Str} {i : Nat} {px spos : Pos} (hN : X.N[i]? = some x) (hl : X.env.scope.names.lookup x = some .local) {tg iter elt : Expr} {ifs : List Expr} {scope : Scope} {pos : Pos} {ownp : List (Str × Nat)} {own : List Nat} {g : G} {it c el : E}
    (hi : SI X o tg iter it) (ok : BlkOk X.N X.env.scope scope ownp) (hown : ownp.map (·.2) = own) (hgm : ∀ i, g.has i → i ∈ own)
    (hg : ∀ s H C cl fp, SGI (Blk X scope s H C cl fp) tg g) (hc : ∀ s H C cl fp, SC (Blk X scope s H C cl fp) o ifs c) (he : ∀ s H C cl fp, SE (Blk X scope s H C cl fp) o elt el) (hs : isSet iter = false)
    (hk : X.env.scope.kind = .function) (hline : (px.line == pos.line) = true) (hany : (scope.names.any fun (n, k) => n == x && (k == .local || k == .cell)) = false) :
    S1 X o (.Assign [.Name x px] (.ListComp elt [⟨tg, iter, ifs, 0⟩] scope pos) spos) (.asg (.nm i) (.mk (.lc own g it c el))) := fun ρ M out ev R φ σ H rel D p => by
  obtain ⟨⟨w, fr⟩, M1, q1, k1⟩ := mk_end (σ := σ) ev p
  refine wS_of (ps_setLc (g := fun v σ H Q => ∀ s H0 C cl fp, wG (Blk X scope s H0 C cl fp) tg v σ H Q) (tt := fun σ H Q => ∀ s H0 C cl fp, wTs (Blk X scope s H0 C cl fp) ifs σ H Q) (te := fun σ H Q => ∀ s H0 C cl fp, wE (Blk X scope s H0 C cl fp) elt σ H Q) hX.calm hX.nd hN hl
    (sw_true hk hl hline hany) wI_pi ok
    (fun s H C cl fp => ⟨fun pins s' σ H' v u Q I rv h => h s H C cl fp pins s' u I rv⟩) (fun s H C cl fp => ⟨fun pins s' σ H' Q I h => h s H C cl fp pins s' I⟩) (fun s H C cl fp => ⟨fun pins s' σ H' Q I h => h s H C cl fp pins s' I⟩) (noFold hs)) ?_
  exact lc_tr hX hi hown hgm hg hc he q1 rel (Q := fun v H1 => D.nx (σ.set i (some v)) H1) k1
theorem swD_true {kx vx : Expr} {gs : List Comprehension} {scope : Scope} {pos py : Pos} {y : Str} {l : Nat} {env : Env} (hk : env.scope.kind = .function) (hy : env.scope.names.lookup y = some .local) (hl : (py.line == pos.line) = true)
    (ha : (scope.names.any fun (n, k) => n == y && (k == .local || k == .cell)) = false) : swapsWith (.DictComp kx vx gs scope pos) (some (.Name y py)) l env = pure true := by
  have h1 : env.kindOf y = some .local := hy
  have h2 : env.blockKind = .function := by unfold Env.blockKind; rw [hk]; rfl
  unfold swapsWith
  simp only [h1, h2, ha, Expr.pos, hl]
  rfl
theorem ps_dcSet {i : Nat} {y : Str} {py : Pos} {kx vx tg iter : Expr} {ifs : List Expr} {scope : Scope} {own : List (Str × Nat)} {pos spos : Pos} {wi : TI} {g : TG} {tt : TT} {tk tv : TE}
    (hc : X.calm = true) (hN : X.N.Nodup) (hy : X.N[i]? = some y) (hyl : X.env.scope.names.lookup y = some .local)
    (hsw : swapsWith (.DictComp kx vx [⟨tg, iter, ifs, 0⟩] scope pos) (some (.Name y py)) spos.line X.env = pure true) (hi : PI X tg iter wi) (ok : BlkOk X.N X.env.scope scope own)
    (hg : ∀ s H C cl fp, PG (Blk X scope s H C cl fp) tg g) (ht : ∀ s H C cl fp, PTs (Blk X scope s H C cl fp) ifs tt) (hk : ∀ s H C cl fp, PE (Blk X scope s H C cl fp) kx tk) (he : ∀ s H C cl fp, PE (Blk X scope s H C cl fp) vx tv)
    (hs : ∀ x, foldedSetIterable iter X.env x = pure x) : PS X (.Assign [.Name y py] (.DictComp kx vx [⟨tg, iter, ifs, 0⟩] scope pos) spos) (tAsg (tDc wi g tt tk tv (own.map (·.2))) (gName i)) := by
  refine ⟨fun pins s σ H D I h => ?_⟩
  rw [PySem.exec_Assign_Name_used _ _ _ _ hsw]
  refine wpAny_bind (wpAny_standAt (wpAny_bind ?_))
  have h' : tDc wi g tt tk tv (own.map (·.2)) σ H (fun x H1 => gName i x σ H1 D.nx) := h
  have core := dc_core (use := some (assign (.Name y py) X.env)) (pos := pos) (pos' := firstIterPos [⟨tg, iter, ifs, 0⟩] pos) (Qf := fun _ s' => SP X pins D .next s') hc hN I hi ok hg ht hk he hs h'
    fun L C s' m H' I' q hn f => by
      show wpAny _ _ (assign (.Name y py) X.env (.ref L)) _ _ _
      refine wpAny_assign_Name (store_ok2 (v := V.ref L) I' hN hy (.inl hyl) rfl (fun s2 I2 ⟨a, sb, ha⟩ => ?_) (.inr hyl))
      obtain ⟨f0, f1, f2, f3, f4, f5⟩ := f
      have ne : C ≠ a := by
        rcases ha with z | z
        · rw [z]; exact f1
        · exact fun e => f4 y a z e.symm
      exact ⟨m, hn.sameBut sb ne, fun h3 sb3 => ⟨_, H', I2.turned (t' := s2.toks) (fun b o hb e => (sb3.2 b hb).trans e) f0 f1 f3 f4 f5, q⟩⟩
  show wpAny _ X.A (do let _ ← comprehension (.DictComp kx vx [⟨tg, iter, ifs, 0⟩] scope pos) scope X.env (firstIterPos [⟨tg, iter, ifs, 0⟩] pos) newDict false (eval iter X.env) (some (assign (.Name y py) X.env))) _ _ s
  exact wpAny_bind (thn core fun _ s' hq => wpAny_pure (wpAny_pure hq))
theorem s1_setDc (hX : XOk C k X) {x : Str} {i : Nat} {px spos : Pos} (hN : X.N[i]? = some x) (hl : X.env.scope.names.lookup x = some .local) {tg iter kx vx : Expr} {ifs : List Expr} {scope : Scope} {pos : Pos} {ownp : List (Str × Nat)} {own : List Nat} {g : G} {it c ke ve : E}
    (hi : SI X o tg iter it) (ok : BlkOk X.N X.env.scope scope ownp) (hown : ownp.map (·.2) = own) (hgm : ∀ i, g.has i → i ∈ own)
    (hg : ∀ s H C cl fp, SGI (Blk X scope s H C cl fp) tg g) (hc : ∀ s H C cl fp, SC (Blk X scope s H C cl fp) o ifs c) (hkk : ∀ s H C cl fp, SE (Blk X scope s H C cl fp) o kx ke) (he : ∀ s H C cl fp, SE (Blk X scope s H C cl fp) o vx ve) (hs : isSet iter = false)
    (hk : X.env.scope.kind = .function) (hline : (px.line == pos.line) = true) (hany : (scope.names.any fun (n, k) => n == x && (k == .local || k == .cell)) = false) :
    S1 X o (.Assign [.Name x px] (.DictComp kx vx [⟨tg, iter, ifs, 0⟩] scope pos) spos) (.asg (.nm i) (.dc own g it c ke ve)) := fun ρ M out ev R φ σ H rel D p => by
  obtain ⟨w, fr, M1, q1⟩ := asg_some ev
  refine wS_of (ps_dcSet (g := fun v σ H Q => ∀ s H0 C cl fp, wG (Blk X scope s H0 C cl fp) tg v σ H Q) (tt := fun σ H Q => ∀ s H0 C cl fp, wTs (Blk X scope s H0 C cl fp) ifs σ H Q) (tk := fun σ H Q => ∀ s H0 C cl fp, wE (Blk X scope s H0 C cl fp) kx σ H Q) (tv := fun σ H Q => ∀ s H0 C cl fp, wE (Blk X scope s H0 C cl fp) vx σ H Q) hX.calm hX.nd hN hl
    (swD_true hk hl hline hany) wI_pi ok
    (fun s H C cl fp => ⟨fun pins s' σ H' v u Q I rv h => h s H C cl fp pins s' u I rv⟩) (fun s H C cl fp => ⟨fun pins s' σ H' Q I h => h s H C cl fp pins s' I⟩) (fun s H C cl fp => ⟨fun pins s' σ H' Q I h => h s H C cl fp pins s' I⟩) (fun s H C cl fp => ⟨fun pins s' σ H' Q I h => h s H C cl fp pins s' I⟩) (noFold hs)) ?_
  exact dc_tr hX hi hown hgm hg hc hkk he q1 rel (Q := fun v H1 => D.nx (σ.set i (some v)) H1) fun R1 φ1 H1 v r1 x1 p1 => set_end ev p q1 r1 x1 p1

theorem s1_setDcM (hX : XOk C k X) {x : Str} {i : Nat} {px spos : Pos} (hN : X.N[i]? = some x) (hl : X.env.scope.names.lookup x = some .local) {tg iter kx vx : Expr} {ifs : List Expr} {scope : Scope} {pos : Pos} {ownp : List (Str × Nat)} {own : List Nat} {g : G} {it c ke ve : E}
    (hi : SI X o tg iter it) (ok : BlkOk X.N X.env.scope scope ownp) (hown : ownp.map (·.2) = own) (hgm : ∀ i, g.has i → i ∈ own)
    (hg : ∀ s H C cl fp, SGI (Blk X scope s H C cl fp) tg g) (hc : ∀ s H C cl fp, SC (Blk X scope s H C cl fp) o ifs c) (hkk : ∀ s H C cl fp, SE (Blk X scope s H C cl fp) o kx ke) (he : ∀ s H C cl fp, SE (Blk X scope s H C cl fp) o vx ve) (hs : isSet iter = false)
    (hk : X.env.scope.kind = .function) (hline : (px.line == pos.line) = true) (hany : (scope.names.any fun (n, k) => n == x && (k == .local || k == .cell)) = false) :
    S1 X o (.Assign [.Name x px] (.DictComp kx vx [⟨tg, iter, ifs, 0⟩] scope pos) spos) (.asg (.nm i) (.mk (.dc own g it c ke ve))) := fun ρ M out ev R φ σ H rel D p => by
  obtain ⟨⟨w, fr⟩, M1, q1, k1⟩ := mk_end (σ := σ) ev p
  refine wS_of (ps_dcSet (g := fun v σ H Q => ∀ s H0 C cl fp, wG (Blk X scope s H0 C cl fp) tg v σ H Q) (tt := fun σ H Q => ∀ s H0 C cl fp, wTs (Blk X scope s H0 C cl fp) ifs σ H Q) (tk := fun σ H Q => ∀ s H0 C cl fp, wE (Blk X scope s H0 C cl fp) kx σ H Q) (tv := fun σ H Q => ∀ s H0 C cl fp, wE (Blk X scope s H0 C cl fp) vx σ H Q) hX.calm hX.nd hN hl
    (swD_true hk hl hline hany) wI_pi ok
    (fun s H C cl fp => ⟨fun pins s' σ H' v u Q I rv h => h s H C cl fp pins s' u I rv⟩) (fun s H C cl fp => ⟨fun pins s' σ H' Q I h => h s H C cl fp pins s' I⟩) (fun s H C cl fp => ⟨fun pins s' σ H' Q I h => h s H C cl fp pins s' I⟩) (fun s H C cl fp => ⟨fun pins s' σ H' Q I h => h s H C cl fp pins s' I⟩) (noFold hs)) ?_
  exact dc_tr hX hi hown hgm hg hc hkk he q1 rel (Q := fun v H1 => D.nx (σ.set i (some v)) H1) k1

/-! ### tuples of targets -/
def tupEs : Expr → Option (List Expr)
  | .Tuple es _ _ => some es
  | _ => none
/-- the stores are not swapped -/
def plainStores (es : List Expr) (v : Expr) : Bool := match tupEs v with
  | none => true
  | some vs => vs.all (foldedForSure 8)
theorem stores_none {es : List Expr} {n : Nat} {tp : Pos} {v : Expr} {env : Env} (h : plainStores es v = true) : swappedStores [.Tuple es n tp] v env = pure none := by
  unfold plainStores at h
  cases v with
  | Tuple vs m vp =>
    simp only [tupEs] at h
    unfold swappedStores
    simp only [h]
    split <;> first | rfl | (split <;> first | rfl | (split <;> first | rfl | (simp only [if_true]; try rfl)))
  | _ => rfl
theorem sole_tup {es : List Expr} {n l : Nat} {tp : Pos} {v : Expr} {env : Env} : swapsWithSole [.Tuple es n tp] v l env = pure false := by
  cases v <;> rfl
theorem s1_tup (hX : XOk C k X) {es : List Expr} {n : Nat} {tp pos : Pos} {e : Expr} {g : G} {a : E} (hg : SG X (.Tuple es n tp) g) (ha : SE X o e a) (hp : swappedStores [.Tuple es n tp] e X.env = pure none) : S1 X o (.Assign [.Tuple es n tp] e pos) (.asg g a) := fun ρ M out ev R φ σ H rel D p => by
  simp only [evS] at ev
  split at ev
  · rename_i w fr M1 q1
    split at ev
    · rename_i ρ1 g1
      cases ev
      refine wS_of (ps_asg wE_pe wG_pg sole_tup hp rfl) (ha.frz _ _ _ _ q1 R φ σ H rel _ fun R1 φ1 H1 v r1 x1 p1 => ?_)
      exact hg _ _ _ g1 R1 φ1 M1 σ H1 v r1 p1 _ fun σ' r2 _ => p R1 φ1 σ' H1 r2 x1
    · cases ev
  · cases ev
end
end Rf

set_option Elab.async false
set_option linter.all false
set_option maxRecDepth 100000
set_option maxHeartbeats 4000000
namespace Rf
open PySem PySem.Spec L2

section
variable {X : Cx} {o : Orc} {C : Ctx} {k : Nat}
theorem starAny : ∀ {es : List Expr}, noStars es = true → (es.any fun | .Starred .. => true | _ => false) = false
  | [], _ => rfl
  | e :: r, h => by
    simp only [noStars, Bool.and_eq_true, Bool.not_eq_true'] at h
    rw [List.any_cons, starAny h.2]
    cases e <;> first | rfl | (simp [isStar] at h)
theorem swapped2 {x y : Str} {px py pt p2 : Pos} {kt k2 : Nat} {a b : Expr} {env : Env} (hk : env.scope.kind = .function) (hx : env.scope.names.lookup x = some .local) (hy : env.scope.names.lookup y = some .local) (hl : (py.line == px.line) = true) (hne : x ≠ y)
    (hs : noStars [a, b] = true) (hf : [a, b].all (foldedForSure 8) = false) (hc : [a, b].all (constantsAlone 8) = false) : swappedStores [.Tuple [.Name x px, .Name y py] kt pt] (.Tuple [a, b] k2 p2) env = pure (some [x, y]) := by
  have h1 : env.kindOf x = some .local := hx
  have h3 : env.kindOf y = some .local := hy
  have h2 : env.blockKind = .function := by unfold Env.blockKind; rw [hk]; rfl
  have hd : ([x, y] : List Str).eraseDups = [x, y] := by
    have : (y == x) = false := by simpa using fun z => hne z.symm
    simp [List.eraseDups_cons, List.filter, this]
  have hp : (px.line == px.line) = true := by simp
  have hb : (some NameKind.local == some NameKind.local) = true := by decide
  unfold swappedStores
  simp only [hp, hb, Bool.and_true, if_true, h2, starAny hs, hf, hc, List.length_cons, List.length_nil, List.head?_cons, Option.map_some, Option.getD_some, List.filterMap_cons, List.filterMap_nil, Expr.pos, h1, h3, hl, hd]
  refine (if_neg (by decide)).trans ((if_neg (fun q => absurd ((starAny hs).symm.trans q) (by decide))).trans ?_)
  rfl
theorem swapped3 {x y z : Str} {px py pz pt p2 : Pos} {kt k2 : Nat} {a b c : Expr} {env : Env} (hk : env.scope.kind = .function) (hx : env.scope.names.lookup x = some .local) (hy : env.scope.names.lookup y = some .local) (hz : env.scope.names.lookup z = some .local) (hl : (py.line == px.line) = true) (hl' : (pz.line == px.line) = true) (hne : x ≠ y) (hne2 : x ≠ z) (hne3 : y ≠ z)
    (hs : noStars [a, b, c] = true) (hf : [a, b, c].all (foldedForSure 8) = false) (hc : [a, b, c].all (constantsAlone 8) = false) : swappedStores [.Tuple [.Name x px, .Name y py, .Name z pz] kt pt] (.Tuple [a, b, c] k2 p2) env = pure (some [x, y, z]) := by
  have h1 : env.kindOf x = some .local := hx
  have h3 : env.kindOf y = some .local := hy
  have h4 : env.kindOf z = some .local := hz
  have h2 : env.blockKind = .function := by unfold Env.blockKind; rw [hk]; rfl
  have hd : ([x, y, z] : List Str).eraseDups = [x, y, z] := by
    have e1 : (y == x) = false := by simpa using fun z => hne z.symm
    have e2 : (z == x) = false := by simpa using fun z => hne2 z.symm
    have e3 : (z == y) = false := by simpa using fun z => hne3 z.symm
    simp [List.eraseDups_cons, List.filter, e1, e2, e3]
  have hp : (px.line == px.line) = true := by simp
  have hb : (some NameKind.local == some NameKind.local) = true := by decide
  unfold swappedStores
  simp only [hp, hb, Bool.and_true, if_true, h2, starAny hs, hf, hc, List.length_cons, List.length_nil, List.head?_cons, Option.map_some, Option.getD_some, List.filterMap_cons, List.filterMap_nil, Expr.pos, h1, h3, h4, hl, hl', hd]
  refine (if_neg (by decide)).trans ((if_neg (fun q => absurd ((starAny hs).symm.trans q) (by decide))).trans ?_)
  rfl
theorem Rel.putW2 {K : Frag} {R : Hp} {φ : List Addr} {ρ ρ1 : REnv} {M : Store} {σ : L2.St} {H : Hp} {i : Nat} {w : W} {v : V} (r : Rel K R φ ρ M σ H) (p : RepW K R φ w v) (h : Rf.putW ρ i w = some ρ1) : Rel K R φ ρ1 M (σ.set i (some v)) H := r.putW p h
theorem s1_par2 (hX : XOk C k X) {x y : Str} {i j : Nat} {px py pt p2 pos : Pos} {kt k2 : Nat} {a b : Expr} {ca : E} (hN : X.N[i]? = some x) (hN' : X.N[j]? = some y) (hx : X.env.scope.names.lookup x = some .local) (hy : X.env.scope.names.lookup y = some .local) (hij : i ≠ j) (hk : X.env.scope.kind = .function)
    (hl : (py.line == px.line) = true) (hne : x ≠ y) (hs : noStars [a, b] = true) (hf : [a, b].all (foldedForSure 8) = false) (hc : [a, b].all (constantsAlone 8) = false) (ha : SA X o [a, b] ca) :
    S1 X o (.Assign [.Tuple [.Name x px, .Name y py] kt pt] (.Tuple [a, b] k2 p2) pos) (.par [i, j] ca) := fun ρ M out ev R φ σ H rel D p => by
  simp only [evS] at ev
  split at ev
  · rename_i ws M1 q1
    split at ev
    · rename_i ρ1 g1
      cases ev
      refine wS_of (ps_par hX.calm hX.nd hN hN' hij hx hy wA_pa (swapped2 hk hx hy hl hne hs hf hc)) (ha _ _ _ _ q1 R φ σ H rel _ fun R1 φ1 H1 vs r1 x1 p1 => ?_)
      cases p1 with
      | nil => simp [puts] at g1
      | cons pa pr =>
        simp only [puts] at g1
        split at g1
        · rename_i ρ2 g2
          cases pr with
          | nil => cases g1
          | cons pb pr =>
            simp only [puts] at g1
            split at g1
            · rename_i ρ3 g3
              cases pr with
              | cons pc pr => cases g1
              | nil =>
                cases g1
                exact ⟨_, _, rfl, p R1 φ1 _ H1 ((r1.putW pa g2).putW pb g3) x1⟩
            · cases g1
        · cases g1
    · cases ev
  · cases ev
theorem s1_par3 (hX : XOk C k X) {x y z : Str} {i j l : Nat} {px py pz pt p2 pos : Pos} {kt k2 : Nat} {a b c : Expr} {ca : E} (hN : X.N[i]? = some x) (hN' : X.N[j]? = some y) (hN2 : X.N[l]? = some z) (hx : X.env.scope.names.lookup x = some .local) (hy : X.env.scope.names.lookup y = some .local) (hz : X.env.scope.names.lookup z = some .local)
    (hij : i ≠ j) (hil : i ≠ l) (hjl : j ≠ l) (hk : X.env.scope.kind = .function)
    (hl : (py.line == px.line) = true) (hl' : (pz.line == px.line) = true) (hne : x ≠ y) (hne2 : x ≠ z) (hne3 : y ≠ z) (hs : noStars [a, b, c] = true) (hf : [a, b, c].all (foldedForSure 8) = false) (hc : [a, b, c].all (constantsAlone 8) = false) (ha : SA X o [a, b, c] ca) :
    S1 X o (.Assign [.Tuple [.Name x px, .Name y py, .Name z pz] kt pt] (.Tuple [a, b, c] k2 p2) pos) (.par [i, j, l] ca) := fun ρ M out ev R φ σ H rel D p => by
  simp only [evS] at ev
  split at ev
  · rename_i ws M1 q1
    split at ev
    · rename_i ρ1 g1
      cases ev
      refine wS_of (ps_par3 hX.calm hX.nd hN hN' hN2 hij hil hjl hx hy hz wA_pa (swapped3 hk hx hy hz hl hl' hne hne2 hne3 hs hf hc)) (ha _ _ _ _ q1 R φ σ H rel _ fun R1 φ1 H1 vs r1 x1 p1 => ?_)
      cases p1 with
      | nil => simp [puts] at g1
      | cons pa pr =>
        simp only [puts] at g1
        split at g1
        · rename_i ρ2 g2
          cases pr with
          | nil => cases g1
          | cons pb pr =>
            simp only [puts] at g1
            split at g1
            · rename_i ρ3 g3
              cases pr with
              | nil => cases g1
              | cons pc pr =>
                simp only [puts] at g1
                split at g1
                · rename_i ρ4 g4
                  cases pr with
                  | cons pd pr => cases g1
                  | nil =>
                    cases g1
                    exact ⟨_, _, _, rfl, p R1 φ1 _ H1 (((r1.putW pa g2).putW pb g3).putW pc g4) x1⟩
                · cases g1
            · cases g1
        · cases g1
    · cases ev
  · cases ev

/-! ### writing to cells -/
theorem swapSub {v oe ie : Expr} {sp : Pos} {n : Nat} {env : Env} : swapsWith v (some (.Subscript oe ie sp)) n env = pure false := by cases v <;> rfl
theorem soleSub {v oe ie : Expr} {sp : Pos} {n : Nat} {env : Env} : swapsWithSole [.Subscript oe ie sp] v n env = pure false := by cases v <;> rfl
theorem storesSub {v oe ie : Expr} {sp : Pos} {env : Env} : swappedStores [.Subscript oe ie sp] v env = pure none := by cases v <;> rfl
theorem s1_seti (hX : XOk C k X) {x : Str} {i : Nat} {px sp pos : Pos} {ik e : Expr} {ck ce : E} (hx : SE X o (.Name x px) (.slot i)) (hk : SE X o ik ck) (he : SE X o e ce) (hs : isSlice ik = false) : S1 X o (.Assign [.Subscript (.Name x px) ik sp] e pos) (.seti i ck ce) := fun ρ M out ev R φ σ H rel D p => by
  have hu : X.A.units + 1 < cLine := by have := hX.hu; omega
  simp only [evS] at ev
  split at ev
  · rename_i xd fr M1 q1
    split at ev
    · rename_i n y fr2 M2 w0 q2
      have go : ∀ {t : V → V → V → Hp → (Hp → Prop) → Prop} {Q : Hp → Prop}, (∀ R3 φ3 H3 v a yv, Rel X.K R3 φ3 ρ M2 σ H3 → Ext R φ M H R3 φ3 M2 H3 → RepD X.K R3 xd v → RepD X.K R3 y yv → φ3[n]? = some a → t (.ref a) yv v H3 Q) →
          wE X e σ H (fun v H1 => wE X (.Name x px) σ H1 fun ov H2 => wE X ik σ H2 fun iv H3 => t ov iv v H3 Q) := fun {t Q} kk => by
        refine he.frz _ _ _ _ q1 R φ σ H rel _ fun R1 φ1 H1 v r1 x1 p1 => ?_
        refine hx.frz ρ M1 (.cell n, false) M1 (by simp only [evE, w0]) R1 φ1 σ H1 r1 _ fun R2 φ2 H2 ov r2 x2 p2 => ?_
        refine hk.frz _ _ _ _ q2 R2 φ2 σ H2 r2 _ fun R3 φ3 H3 iv r3 x3 p3 => ?_
        obtain ⟨a, ea, rfl⟩ := p2.mono x3.le x3.pre
        exact kk R3 φ3 H3 v a iv r3 ((x1.trans x2).trans x3) (RepD.mono (x2.le.trans x3.le) p1) p3 ea
      split at ev
      · rename_i xs jj c0
        split at ev
        · rename_i j j1
          cases ev
          refine wS_of (ps_asg wE_pe (pg_sub wE_pe wE_pe set_list (by intro v; cases ik <;> first | rfl | (simp [isSlice] at hs))) soleSub storesSub rfl) ?_
          refine go (t := fun o i v H Q => rSetL o i v H Q) (Q := fun H3 => D.nx σ H3) fun R3 φ3 H3 v a yv r3 x3 pv py ea => ?_
          cases py
          obtain ⟨⟨vs, e1, rs⟩, _⟩ := r3.cells n _ a c0 ea
          obtain ⟨r4, x4⟩ := r3.setCell c0 ea (nd' := .lst (xs.set j xd)) (o' := .lst (vs.set j v)) ⟨_, upd_same, rs.set pv j⟩
          exact ⟨a, vs, _, j, rfl, rfl, e1, by rw [← rs.length]; exact j1, p R3 φ3 σ _ r4 (x3.trans x4)⟩
        · cases ev
      · rename_i yy kvs c0
        split at ev
        · rename_i key k1
          split at ev
          · rename_i hz
            cases ev
            refine wS_of (ps_dput hu wE_pe wE_pe wE_pe swapSub) ?_
            refine go (t := fun o i v H Q => ∃ a H4, o = .ref a ∧ DPut H a i v H4 ∧ Q H4) (Q := fun H3 => D.nx σ H3) fun R3 φ3 H3 v a yv r3 x3 pv py ea => ?_
            obtain rfl := kV_ofD py k1
            obtain ⟨⟨ks, e1, rs⟩, _⟩ := r3.cells n _ a c0 ea
            obtain ⟨r4, x4⟩ := r3.setCell c0 ea (nd' := .dic (setK key xd kvs)) (o' := .dK (putK ks key v)) ⟨_, upd_same, setK_put pv rs⟩
            refine ⟨a, _, rfl, DPut.k e1 ?_, p R3 φ3 σ _ r4 (x3.trans x4)⟩
            rw [← (repKs_get rs).1]; exact big_line' hz
          · cases ev
        · cases ev
      · cases ev
    · cases ev
  · cases ev
theorem s1_app {x : Str} {i : Nat} {p apos cpos pos : Pos} {e : Expr} {a : E} (hx : SE X o (.Name x p) (.slot i)) (ha : SE X o e a) (hs : isStar e = false) (hl : (apos.endLine == cpos.line) = true) : S1 X o (.Expr (.Call (.Attribute (.Name x p) "append" apos) [e] [] cpos) pos) (.app i a) := fun ρ M out ev R φ σ H rel D pq => by
  simp only [evS] at ev
  split at ev
  · rename_i n w0
    split at ev
    · rename_i xs0 c0
      split at ev
      · rename_i xd fr M1 q1
        split at ev
        · rename_i xs c1
          split at ev
          · rename_i hz
            cases ev
            refine wS_of (ps_expr (meth1 (T := "list") PySem.F.plainAttrs_list PySem.F.slot_list_append PySem.F.type_list_append mt_append rfl hs hl) rfl) ?_
            refine hx.frz ρ M (.cell n, false) M (by simp only [evE, w0]) R φ σ H rel _ fun R1 φ1 H1 v r1 x1 p1 => ?_
            obtain ⟨ad, vs0, rfl, e0, h0, _⟩ := live_at r1 c0 p1
            refine ⟨.inl ⟨rfl, _, .of h0⟩, ha.frz _ _ _ _ q1 R1 φ1 σ H1 r1 _ fun R2 φ2 H2 u r2 x2 p2 => ?_⟩
            obtain ⟨ad2, vs, e3, e4, h2, rs⟩ := live_at r2 c1 (p1.mono x2.le x2.pre)
            cases e3
            obtain ⟨r3, x3⟩ := r2.setCell c1 e4 (nd' := .lst (xs ++ [xd])) (o' := .lst (vs ++ [u])) ⟨_, upd_same, rs.append (.cons p2 .nil)⟩
            exact ⟨ad, vs, u, rfl, rfl, h2, by rw [← rs.length]; exact big_line' hz, pq R2 φ2 σ _ r3 ((x1.trans x2).trans x3)⟩
          · cases ev
        · cases ev
      · cases ev
    · cases ev
  · cases ev
end
end Rf

set_option Elab.async false
set_option linter.all false
set_option maxRecDepth 100000
set_option maxHeartbeats 4000000
namespace Rf
open PySem PySem.Spec L2

/-! ### sorted(d.items()) -/
def layF (g : Heap) : Hp → List Addr → List (Key × V) → Hp
  | H, a :: as, q :: qs => layF g (upd H a (.frz ((g.get? a).getD { cls := .none, data := .seq #[] }) (.tup [kV q.1, q.2]))) as qs
  | H, _, _ => H
theorem layF_off {g : Heap} {b : Addr} : ∀ (as : List Addr) (qs : List (Key × V)) (H : Hp), b ∉ as → layF g H as qs b = H b
  | [], _, _, _ => rfl
  | _ :: _, [], _, _ => rfl
  | a :: as, q :: qs, H, h => by
    unfold layF
    have h1 : b ≠ a := fun z => h (z ▸ List.mem_cons_self)
    rw [layF_off as qs _ fun z => h (List.mem_cons_of_mem _ z)]
    exact upd_ne h1
theorem layF_at {g : Heap} : ∀ (as : List Addr) (qs : List (Key × V)) (H : Hp), as.Nodup → ∀ (j : Nat) (a : Addr) (q : Key × V), as[j]? = some a → qs[j]? = some q →
    layF g H as qs a = some (.frz ((g.get? a).getD { cls := .none, data := .seq #[] }) (.tup [kV q.1, q.2]))
  | [], _, _, _, _, _, _, e, _ => by simp at e
  | _ :: _, [], _, _, _, _, _, _, e => by simp at e
  | a :: as, q :: qs, H, nd, 0, b, r, e1, e2 => by
    simp at e1 e2
    subst e1 e2
    unfold layF
    rw [layF_off as qs _ (List.nodup_cons.mp nd).1]
    exact upd_same
  | a :: as, q :: qs, H, nd, j + 1, b, r, e1, e2 => by
    unfold layF
    exact layF_at as qs _ (List.nodup_cons.mp nd).2 j b r (by simpa using e1) (by simpa using e2)
section
variable {X : Cx} {o : Orc} {C : Ctx} {k : Nat}
theorem paired_at {α β : Type} {F : α → β → Prop} : ∀ {xs : List α} {ys : List β}, Paired F xs ys → ∀ {i : Nat} {x : α}, xs[i]? = some x → ∃ y, ys[i]? = some y ∧ F x y
  | _, _, .nil, i, x, h => by simp at h
  | _, _, .cons r t, 0, x, h => by simp at h; subst h; exact ⟨_, rfl, r⟩
  | _, _, .cons r t, i + 1, x, h => paired_at t (by simpa using h)
theorem inv_tuples {pins : List (Addr × Obj)} {σ : L2.St} {H : Hp} {s : Shared} {g : Heap} {tk : Nat} {qs : List (Key × V)} {us : List (Key × Value)} {as : List Addr} (I : Inv X pins σ H s) (kv : KV qs us)
    (keep : ∀ b ob, s.heap.get? b = some ob → g.get? b = some ob) (hl : as.length = us.length) (G : PySem.W.KdxG (mixKind X.prog X.w) us s.heap.objs.size g as) :
    (∀ t ∈ as, H t = none) ∧ (∀ (j : Nat) (a : Addr) (q : Key × V), as[j]? = some a → qs[j]? = some q → ∃ ob, layF g H as qs a = some (.frz ob (.tup [kV q.1, q.2])) ∧ ob.dict = none) ∧ Inv X pins σ (layF g H as qs) { s with heap := g, toks := tk } := by
  have lq : qs.length = us.length := Paired.length kv
  have nd : as.Nodup := List.Pairwise.imp (fun {a b} (h : a < b) => Nat.ne_of_lt h) G.rise
  have new : ∀ t ∈ as, H t = none := fun t ht => I.hok.fresh (Nat.le_of_lt (G.above t ht))
  have low : ∀ b ob, s.heap.get? b = some ob → b ∉ as := fun b ob e z => absurd (Heap.lt_size e) (Nat.not_lt.mpr (Nat.le_of_lt (G.above b z)))
  have old : ∀ b u, H b = some u → layF g H as qs b = some u := fun b u e => by
    rw [layF_off as qs H fun z => by rw [new b z] at e; cases e]
    exact e
  have cell : ∀ (j : Nat) (a : Addr) (q : Key × V), as[j]? = some a → qs[j]? = some q → ∃ key x, g.get? a = some { cls := .type "tuple", data := .seq #[key, x] } ∧ RelV (kV q.1) key ∧ RelV q.2 x := fun j a q e1 e2 => by
    obtain ⟨key, kk, x, f1, f2, f3⟩ := G.pairs j a e1
    obtain ⟨qv, g1, g2, g3⟩ := paired_at kv e2
    rw [f1] at g1
    cases g1
    exact ⟨key, x, f3, by rw [g2]; exact relV_key (show keyIs kk key = true from f2), g3⟩
  refine ⟨new, fun j a q e1 e2 => ?_, I.call' (ch := []) rfl ⟨fun b ob e _ _ _ => keep b ob e, fun b ob e _ _ _ => ⟨ob.slots, keep b ob e⟩, fun b ob e n _ => ?_, fun b ob e _ => ⟨ob, keep b ob e⟩, fun b xs e => old b _ e, fun b ob u e => old b _ e, fun b ps e => ⟨#[], by rw [old b _ e]; simp⟩⟩ (fun b u e => ?_) I.bare fun b z => by simp at z⟩
  · obtain ⟨key, x, f3, _, _⟩ := cell j a q e1 e2
    exact ⟨_, layF_at as qs H nd j a q e1 e2, by rw [f3]; rfl⟩
  · rw [layF_off as qs H (low b ob e)]; exact n
  · by_cases hb : b ∈ as
    · obtain ⟨j, ej⟩ := List.mem_iff_getElem?.mp hb
      have hj : j < qs.length := by have := (List.getElem?_eq_some_iff.mp ej).1; omega
      have eq' : qs[j]? = some qs[j] := List.getElem?_eq_getElem hj
      obtain ⟨key, x, f3, r1, r2⟩ := cell j b _ ej eq'
      rw [layF_at as qs H nd j b _ ej eq'] at e
      cases e
      rw [f3]
      exact ⟨f3, by show 2 ≤ sizeLine; decide, [key, x], .cons r1 (.cons r2 .nil), ⟨_, f3, rfl, _, rfl⟩⟩
    · rw [layF_off as qs H hb] at e
      exact (I.hok b u e).stay (fun d v _ y => keep d v y) (fun d y => old d _ y) fun d xs y => old d _ y
theorem layF_in {g : Heap} {b : Addr} : ∀ (as : List Addr) (qs : List (Key × V)) (H H2 : Hp), b ∈ as → as.length ≤ qs.length → H b = H2 b ∨ True → as.Nodup → layF g H as qs b = layF g H2 as qs b ∧ ∃ u, layF g H as qs b = some u
  | [], _, _, _, h, _, _, _ => by cases h
  | _ :: _, [], _, _, _, h, _, _ => by simp at h
  | a :: as, q :: qs, H, H2, h, hl, _, nd => by
    unfold layF
    have nd' := List.nodup_cons.mp nd
    by_cases hb : b = a
    · subst hb
      rw [layF_off as qs _ nd'.1, layF_off as qs _ nd'.1, upd_same, upd_same]
      exact ⟨rfl, _, rfl⟩
    · rcases List.mem_cons.mp h with z | z
      · exact absurd z hb
      · exact layF_in as qs _ _ z (by simpa using hl) (.inr trivial) nd'.2
theorem Rel.tuples {K : Frag} {R : Hp} {φ : List Addr} {ρ : REnv} {M : Store} {σ : L2.St} {H : Hp} {g : Heap} {as : List Addr} {qs : List (Key × V)} (r : Rel K R φ ρ M σ H) (new : ∀ t ∈ as, H t = none) (hl : as.length = qs.length) (nd : as.Nodup) :
    Rel K (layF g R as qs) φ ρ M σ (layF g H as qs) ∧ Ext R φ M H (layF g R as qs) φ M (layF g H as qs) := by
  have off : ∀ {b u}, H b = some u → b ∉ as := fun {b u} e z => by rw [new b z] at e; cases e
  have offR : ∀ {b u}, R b = some u → b ∉ as := fun {b u} e z => by rw [r.sub.none (new b z)] at e; cases e
  have le : Le R (layF g R as qs) := fun b u e => by rw [layF_off as qs R (offR e)]; exact e
  refine ⟨⟨fun b u e => ?_, r.len, fun n nd0 a e q => ?_, r.inj, fun i w e => let ⟨v, q, z⟩ := r.slots i w e; ⟨v, q, z.mono le (List.prefix_refl _)⟩, r.rlen⟩, ⟨le, List.prefix_refl _, Nat.le_refl _, fun b h => ?_, fun b u e _ => .inl (by rw [layF_off as qs H (off e)]; exact e), fun _ h => .inl h, fun b h => ?_⟩⟩
  · by_cases hb : b ∈ as
    · rw [(layF_in as qs R H hb (by omega) (.inr trivial) nd).1] at e
      exact .inl e
    · rw [layF_off as qs R hb] at e
      rw [layF_off as qs H hb]
      exact r.sub b u e
  · obtain ⟨na, ra⟩ := r.cells n nd0 a e q
    obtain ⟨u, hu⟩ := na.some
    have ha := off hu
    exact ⟨(na.mono le).same fun w hw => by rw [layF_off as qs H ha]; exact hw, by rw [layF_off as qs R ha]; exact ra⟩
  · by_cases hb : b ∈ as
    · exact .inr (.inl (new b hb))
    · rw [layF_off as qs R hb] at h; exact .inl h
  · by_cases hb : b ∈ as
    · exact new b hb
    · rw [layF_off as qs H hb] at h; exact h
theorem repDs_of {K : Frag} {R : Hp} : ∀ {xs : List D} {vs : List V}, xs.length = vs.length → (∀ (j : Nat) (x : D) (v : V), xs[j]? = some x → vs[j]? = some v → RepD K R x v) → RepDs K R xs vs
  | [], [], _, _ => .nil
  | [], _ :: _, h, _ => by cases h
  | _ :: _, [], h, _ => by cases h
  | x :: xs, v :: vs, h, q => .cons (q 0 x v rfl rfl) (repDs_of (by simpa using h) fun j x v e1 e2 => q (j + 1) x v (by simpa using e1) (by simpa using e2))
theorem sorted_items (hc : X.calm = true) (hu : X.A.units + 70 < cLine) {kvs : List (Key × D)} {ys : List D} (e : sortD (pairsD kvs) = some ys) {pins : List (Addr × Obj)} {R : Hp} {φ : List Addr} {ρ : REnv} {M : Store} {σ : L2.St} {H : Hp} {s : Shared} {d v : Addr} {ob : Obj} {ks : List (Key × V)}
    (I : Inv X pins σ H s) (hd : H d = some (.frz ob (.dK ks))) (hv : s.heap.IsItemsView v d) (rel : Rel X.K R φ ρ M σ H) (rk : RepKs X.K R kvs ks) {Q : VK}
    (q : ∀ R' H' u, Rel X.K R' φ ρ M σ H' → Ext R φ M H R' φ M H' → RepR X.K R' φ M H' H (.d (.lst ys), true) u → Q u H') : wpAny (model X.prog X.w) X.A (call (.builtin "sorted") [.ref v]) (EP X pins σ Q) X.xe s := by
  unfold sortD at e
  split at e
  · rename_i so
    cases e
    unfold sortOk at so
    simp only [Bool.and_eq_true] at so
    obtain ⟨⟨⟨h1, h2⟩, h3⟩, h4⟩ := so
    obtain ⟨_, _, _, _, ep, us, _, _, kv, hm⟩ := I.frzK hd
    have lk : ks.length = us.length := Paired.length kv
    obtain ⟨lr, gr⟩ := repKs_get rk
    have small : kvs.length ≤ big := by
      have := of_decide_eq_true h4
      unfold pairsD at this
      rwa [List.length_map] at this
    refine PySem.Calls.call_function_entry PyProof.Rows.kind_sorted PyProof.Rows.plain_sorted PyProof.Rows.entry_sorted (PyProof.Rows.args_sorted1 _) ?_
    unfold Builtin.«sorted»
    refine wpAny_bind (m := checkCount "sorted" 1 1 _) (wpAny_pure ?_)
    refine wpAny_bind (PySem.W.kdx_collect (A := X.A.in1) (knd := mixKind X.prog X.w) (kvs := us) (ep := ep) (I.ok.hd hc) hv hm (by rw [← lk, ← lr]; exact big_line small) fun g tk as keep hl G => ?_)
    have nd : as.Nodup := List.Pairwise.imp (fun {a b} (h : a < b) => Nat.ne_of_lt h) G.rise
    have la : as.length = ks.length := by omega
    obtain ⟨new, at', I1⟩ := inv_tuples (tk := tk) I kv keep hl G
    obtain ⟨r1, x1⟩ := rel.tuples (g := g) new la nd
    have rv : RepDs X.K (layF g R as ks) (pairsD kvs) (as.map V.ref) := by
      refine repDs_of (by unfold pairsD; rw [List.length_map, List.length_map, la, lr]) fun j x w e1 e2 => ?_
      unfold pairsD at e1
      rw [List.getElem?_map] at e1 e2
      obtain ⟨p, p1, rfl⟩ := Option.map_eq_some_iff.mp e1
      obtain ⟨a, a1, rfl⟩ := Option.map_eq_some_iff.mp e2
      obtain ⟨w, w1, w2⟩ := gr j p.1 p.2 p1
      obtain ⟨ob', o1, o2⟩ := at' j a _ a1 w1
      have ha : a ∈ as := List.mem_of_getElem? a1
      refine .tup (.inl ⟨ob', ?_, o2⟩) (.cons (.key _) (.cons (w2.mono x1.le) .nil))
      rw [(layF_in as ks R H ha (by omega) (.inr trivial) nd).1]
      exact o1
    obtain ⟨q1, q2⟩ := zip_each I1 r1.sub rv (LiI.vals_refs as) (flats_of h1)
    have lz : ((pairsD kvs).zip (as.map V.ref)).length = kvs.length := by
      rw [List.length_zip, ← rv.length, Nat.min_self]; unfold pairsD; rw [List.length_map]
    refine wpAny_bind (wpAny_newList ?_ (by rw [List.length_map, la, ← lr]; exact big_line small))
    have ho : (g.push { cls := .type "list", data := .seq (as.map Value.ref).toArray }).get? g.objs.size = some (PyProof.Rows.seqObj "list" (as.map Value.ref).toArray 0) := Heap.get?_push_size _ rfl
    have er : PySem.W.EachIs (fun v (b : D × V) => ∃ xs, Reads (g.push { cls := .type "list", data := .seq (as.map Value.ref).toArray }) v (toPy b.1) xs ∧ g.objs.size ∉ xs) (as.map Value.ref) ((pairsD kvs).zip (as.map V.ref)) :=
      q2.mono fun v b ⟨xs, r⟩ => ⟨xs, PyProof.Rows.Reads.keeps (fun b o e => Heap.get?_push_of_some _ e) r, fun z => Nat.lt_irrefl _ (reads_low r _ z)⟩
    refine wpAny_bind (wpAny_holding (PySem.W.list_sort_data (A := X.A.in1) (s := { s with heap := g.push { cls := .type "list", data := .seq (as.map Value.ref).toArray }, toks := tk }) (enc := fun b : D × V => toPy b.1) ho q1 er ?_ ?_ ?_ ?_ fun out lo eo => ?_))
    · intro d hd d' hd'
      obtain ⟨b, hb, rfl⟩ := List.mem_map.mp hd
      obtain ⟨b', hb', rfl⟩ := List.mem_map.mp hd'
      exact alls (alls h2 (List.of_mem_zip hb).1) (List.of_mem_zip hb').1
    · rw [Bool.or_eq_true] at h3
      rcases h3 with h3 | h3
      · refine .inl fun d hd => ?_
        obtain ⟨b, hb, rfl⟩ := List.mem_map.mp hd
        have q := alls h3 (List.of_mem_zip hb).1
        revert q
        cases b.1 <;> simp [tupNe, toPy]
        rename_i zs
        cases zs <;> simp [tupNe, toPys]
      · refine .inr fun d hd => ?_
        obtain ⟨b, hb, rfl⟩ := List.mem_map.mp hd
        have q := alls h3 (List.of_mem_zip hb).1
        revert q
        cases b.1 <;> simp [notTup, toPy]
    · rw [lz]; exact big_line small
    · intro b hb
      have q := alls h1 (List.of_mem_zip hb).1
      unfold okD at q
      rw [Bool.and_eq_true] at q
      have d2 : dep b.1 ≤ 64 := of_decide_eq_true q.2
      rw [depth_toPy q.1]
      show X.A.units + 1 + 1 + dep b.1 < cLine
      omega
    · obtain ⟨w1, w2⟩ := each_out eo
      obtain ⟨c, hcc⟩ := PyProof.Rows.sortedHeap_at (vs := as.map Value.ref) (out := out.toArray) ho
      have em : (((pairsD kvs).zip (as.map V.ref)).mergeSort (PySem.W.dataLe false fun b : D × V => toPy b.1)).map (·.1) = (pairsD kvs).mergeSort leD := by
        rw [List.map_mergeSort (s := leD), zip_fst rv]
        intro a _ b _
        rfl
      rw [em] at w2
      have hB : layF g H as ks g.objs.size = none := I1.hok.fresh (Nat.le_refl _)
      refine wpAny_pure ⟨_, rfl, ?_⟩
      refine ⟨.ref g.objs.size, _, I1.laid (t' := tk) (o := .lst _) (fun b o e => ?_) (Nat.le_refl _) ⟨?_, out, c, w1, hcc⟩, rfl, ?_⟩
      · have hb := Heap.lt_size e
        rw [PyProof.Rows.sortedHeap_old (Nat.ne_of_lt hb) (by rw [PyProof.Rows.size_push']; exact Nat.lt_succ_of_lt hb)]
        exact Heap.get?_push_of_some _ e
      · rw [w1.length, lo, lz]; exact big_line small
      · obtain ⟨R2, r2, x2, p2⟩ := (Outp.newL (K := X.K) (R := layF g R as ks) hB w2).post r1
        exact q R2 _ _ r2 (x1.trans x2) (p2.back x1)
  · cases e
theorem se_sitems (hX : XOk C k X) {e : Expr} {p apos cpos pos : Pos} {a : E} (ha : SE X o e a) (hg : Gl X "sorted") (h : noCall0 e = true) (hl : (apos.endLine == cpos.line) = true) :
    SE X o (.Call (.Name "sorted" p) [.Call (.Attribute e "items" apos) [] [] cpos] [] pos) (.sitems a) := fun ρ M r M' he R φ σ H rel Q q => by
  simp only [evE] at he
  split at he
  · rename_i kvs fr M1 q1
    split at he
    · rename_i ys q2
      cases he
      intro pins s I
      have hs : starEach [.Call (.Attribute e "items" apos) [] [] cpos] X.env = (false, eval (.Call (.Attribute e "items" apos) [] [] cpos) X.env) :: starEach [] X.env := rfl
      refine wpAny_Call_Name_kw (ld_blt I hg (hX.blt _ (BI.mem .sorted)) (BI.boot .sorted) ?_)
      refine PyProof.Rows.callWith_builtin1 ?_ hs rfl
      rw [hs]
      show wpAny _ _ (spliced ((false, eval (.Call (.Attribute e "items" apos) [] [] cpos) X.env) :: backTo pos (starEach [] X.env))) _ _ s
      refine Calls.spliced_cons ?_
      have low := lk_core ha q1 rel (Q := fun u H1 => ∃ R1 φ1 d ob ks, u = .ref d ∧ Rel X.K R1 φ1 ρ M' σ H1 ∧ Ext R φ M H R1 φ1 M' H1 ∧ H1 d = some (.frz ob (.dK ks)) ∧ RepKs X.K R1 kvs ks) fun R1 φ1 H1 d ob ks r1 x1 hr hd w1 => ⟨R1, φ1, d, ob, ks, rfl, r1, x1, hd, w1⟩
      refine wpAny_Call_method (T := "dict") (id := "dict.items") (base_ok h) rfl hl PySem.F.plainAttrs_dict PySem.F.slot_dict_items PySem.F.type_dict_items (thn ((pe_lk wE_pe).run pins s σ H _ I low) fun u s1 ⟨x, H1, I1, rx, R1, φ1, d, ob, ks, ex, r1, x1, hd, w1⟩ => ?_)
      subst ex
      obtain rfl : u = Value.ref d := rx
      obtain ⟨sys, _, _, _, ep, us, _, _, kv, hm⟩ := I1.frzK hd
      have I2 : Inv X pins σ H1 { s1 with heap := s1.heap.push { cls := .type "dict_items", data := .fields #[.ref d] } } := I1.kept (t' := s1.toks) fun b ob q => Heap.get?_push_of_some _ q
      refine ⟨hm.dictOf.typeIs, hm.dictOf.mapOf.noDict, ?_⟩
      show wpAny _ _ (callWith cpos (.builtin "dict.items") [.ref d] [] []) _ X.xe s1
      refine method_meetsIn PySem.F.slot_dict_items PySem.F.entry_dict_items rfl (PySem.evalArgs_none ⟨rfl, hm.dictOf.typeIs, PySem.F.args_dict_items_1 _, _, meets_dict_items (mixKind X.prog X.w) d sys, ⟨us, hm.dictOf⟩, ?_⟩)
      refine Calls.spliced_nil ?_
      exact sorted_items hX.calm hX.hu q2 I2 hd ⟨_, Heap.get?_push_size _ rfl, rfl, rfl⟩ r1 w1 fun R2 H2 u r2 x2 p2 => q R2 φ1 H2 u r2 (x1.trans x2) (p2.back x1)
    · cases he
  · cases he
end
end Rf

set_option Elab.async false
set_option linter.all false
set_option maxRecDepth 100000
set_option maxHeartbeats 4000000
namespace Rf
open PySem PySem.Spec L2
section
variable {X : Cx} {o : Orc} {C : Ctx} {k : Nat}
/-! ### list(range(..)), list(d.items()) -/
theorem repDs_rng {K : Frag} {R : Hp} (a : Int) (n : Nat) : RepDs K R (rngD a n) ((List.range n).map fun i => V.int (a + (i : Nat))) := by
  unfold rngD
  induction List.range n with
  | nil => exact .nil
  | cons i r ih => exact .cons (.int _) ih
theorem se_lrng (hX : XOk C k X) {e : Expr} {p p' pos pos' : Pos} {a : E} (ha : SE X o e a) (hs : isStar e = false) (hg : Gl X "range") (hg' : Gl X "list") : SE X o (.Call (.Name "list" p) [.Call (.Name "range" p') [e] [] pos'] [] pos) (.lrng a) := fun ρ M r M' he R φ σ H rel Q q => by
  simp only [evE] at he
  split at he
  · rename_i j fr M1 q1
    split at he
    · rename_i q2
      cases he
      rw [Bool.and_eq_true, decide_eq_true_eq, decide_eq_true_eq] at q2
      refine wE_of (pe_listRg hX.calm hg' (hX.blt _ (by decide)) (prg_1 hg (hX.blt _ (by decide)) wE_pe (starEach_cons hs))) (ha.frz _ _ _ _ q1 R φ σ H rel _ fun R1 φ1 H1 v r1 x1 p1 => ?_)
      cases p1
      refine ⟨_, rfl, .of_le (by omega) (by omega) (by omega) (by omega), fun p np => ?_⟩
      have := repDs_rng (K := X.K) (R := R1) 0 (j - 0).toNat
      rw [Int.sub_zero] at this
      refine Outp.fin (q := (.lst (rngD 0 j.toNat), true)) r1 x1 (by
        have e : rgV 0 j = (List.range j.toNat).map fun i => V.int (0 + (i : Nat)) := by unfold rgV; rw [Int.sub_zero]
        rw [e]
        exact .newL np this) q
    · cases he
  · cases he
theorem se_lrng2 (hX : XOk C k X) {e e' : Expr} {p p' pos pos' : Pos} {a b : E} (ha : SE X o e a) (hb : SE X o e' b) (hs : isStar e = false) (hs' : isStar e' = false) (hg : Gl X "range") (hg' : Gl X "list") : SE X o (.Call (.Name "list" p) [.Call (.Name "range" p') [e, e'] [] pos'] [] pos) (.lrng2 a b) := fun ρ M r M' he R φ σ H rel Q q => by
  simp only [evE] at he
  split at he
  · rename_i i fr M1 q1
    split at he
    · rename_i j fr2 M2 q3
      split at he
      · rename_i q2
        cases he
        simp only [Bool.and_eq_true, decide_eq_true_eq] at q2
        refine wE_of (pe_listRg hX.calm hg' (hX.blt _ (by decide)) (prg_2 hg (hX.blt _ (by decide)) wE_pe wE_pe (starEach_cons hs) (starEach_cons hs') (by rw [starEach_cons hs']; rfl))) (ha.frz _ _ _ _ q1 R φ σ H rel _ fun R1 φ1 H1 v r1 x1 p1 => ?_)
        cases p1
        refine hb.frz _ _ _ _ q3 R1 φ1 σ H1 r1 _ fun R2 φ2 H2 v r2 x2 p2 => ?_
        cases p2
        refine ⟨_, _, rfl, rfl, .of_le (by omega) (by omega) (by omega) (by omega), fun p np => ?_⟩
        exact Outp.fin (q := (.lst (rngD i (j - i).toNat), true)) r2 (x1.trans x2) (.newL np (repDs_rng i (j - i).toNat)) q
      · cases he
    · cases he
  · cases he
/-- a list of an items view's pairs, laid -/
theorem inv_listed {pins : List (Addr × Obj)} {σ : L2.St} {H : Hp} {s : Shared} {h' : Heap} {tk : Nat} {kvs : List (Key × V)} {vs : List (Key × Value)} {acc : Array Value} {c : Nat} {as : List Addr} (I : Inv X pins σ H s) (hz : kvs.length ≤ sizeLine) (kv : KV kvs vs)
    (hk : ∀ b o, s.heap.get? b = some o → h'.get? b = some o) (hS : h'.get? s.heap.objs.size = some { cls := .type "list", dict := none, data := .seq acc c, slots := #[] }) (hl : as.length = vs.length) (hG : PySem.W.KdxG (mixKind X.prog X.w) vs s.heap.objs.size h' as) (hacc : acc.toList = as.map Value.ref) :
    H s.heap.objs.size = none ∧ (∀ t ∈ as, H t = none) ∧ s.heap.objs.size ∉ as ∧ (∀ (j : Nat) (a : Addr) (q : Key × V), as[j]? = some a → kvs[j]? = some q → ∃ ob, layF h' H as kvs a = some (.frz ob (.tup [kV q.1, q.2])) ∧ ob.dict = none) ∧
    Inv X pins σ (upd (layF h' H as kvs) s.heap.objs.size (.lst (as.map V.ref))) { s with heap := h', toks := tk } := by
  have lk : kvs.length = vs.length := Paired.length kv
  have hSn : s.heap.objs.size ∉ as := fun z => Nat.lt_irrefl _ (hG.above _ z)
  have nd : as.Nodup := List.Pairwise.imp (fun {a b} (h : a < b) => Nat.ne_of_lt h) hG.rise
  have new : ∀ t ∈ as, H t = none := fun t ht => I.hok.fresh (Nat.le_of_lt (hG.above t ht))
  have newS : H s.heap.objs.size = none := I.hok.fresh (Nat.le_refl _)
  have cell : ∀ (j : Nat) (a : Addr) (q : Key × V), as[j]? = some a → kvs[j]? = some q → ∃ key x, h'.get? a = some { cls := .type "tuple", data := .seq #[key, x] } ∧ RelV (kV q.1) key ∧ RelV q.2 x := fun j a q e1 e2 => by
    obtain ⟨key, kk, x, f1, f2, f3⟩ := hG.pairs j a e1
    obtain ⟨qv, g1, g2, g3⟩ := paired_at kv e2
    rw [f1] at g1
    cases g1
    exact ⟨key, x, f3, by rw [g2]; exact relV_key (show keyIs kk key = true from f2), g3⟩
  have off : ∀ b, b ∉ as → b ≠ s.heap.objs.size → upd (layF h' H as kvs) s.heap.objs.size (.lst (as.map V.ref)) b = H b := fun b h1 h2 => by rw [upd_ne h2, layF_off as kvs H h1]
  have low : ∀ b o, s.heap.get? b = some o → b ∉ as ∧ b ≠ s.heap.objs.size := fun b o e => ⟨fun z => absurd (Heap.lt_size e) (Nat.not_lt.mpr (Nat.le_of_lt (hG.above b z))), Nat.ne_of_lt (Heap.lt_size e)⟩
  have kp : ∀ b u, H b = some u → upd (layF h' H as kvs) s.heap.objs.size (.lst (as.map V.ref)) b = some u := fun b u e => by
    rw [off b (fun z => by rw [new b z] at e; cases e) (fun z => by rw [z, newS] at e; cases e)]
    exact e
  refine ⟨newS, new, hSn, fun j a q e1 e2 => ?_, I.call' (ch := []) rfl ⟨fun b o q _ _ _ => hk b o q, fun b o q _ _ _ => ⟨o.slots, hk b o q⟩, fun b o q n _ => ?_, fun b o q _ => ⟨o, hk b o q⟩, fun b xs q => kp b _ q, fun b o u q => kp b _ q, fun b ps q => ⟨#[], by rw [kp b _ q]; simp⟩⟩ (fun b u q => ?_) I.bare fun b z => by simp at z⟩
  · obtain ⟨key, x, f3, _, _⟩ := cell j a q e1 e2
    exact ⟨_, layF_at as kvs H nd j a q e1 e2, by rw [f3]; rfl⟩
  · obtain ⟨z1, z2⟩ := low b o q
    rw [off b z1 z2]
    exact n
  · by_cases hb : b ∈ as
    · have hbS : b ≠ s.heap.objs.size := fun z => hSn (z ▸ hb)
      obtain ⟨j, ej⟩ := List.mem_iff_getElem?.mp hb
      have hj : j < kvs.length := by have := (List.getElem?_eq_some_iff.mp ej).1; omega
      have eq' : kvs[j]? = some kvs[j] := List.getElem?_eq_getElem hj
      obtain ⟨key, x, f3, r1, r2⟩ := cell j b _ ej eq'
      rw [upd_ne hbS, layF_at as kvs H nd j b _ ej eq'] at q
      cases q
      rw [f3]
      exact ⟨f3, by show 2 ≤ sizeLine; decide, [key, x], .cons r1 (.cons r2 .nil), ⟨_, f3, rfl, _, rfl⟩⟩
    · by_cases hb2 : b = s.heap.objs.size
      · rw [hb2] at q ⊢
        rw [upd_same] at q
        cases q
        refine ⟨by rw [List.length_map]; omega, acc.toList, c, by rw [hacc]; exact LiI.vals_refs as, ?_⟩
        rw [Array.toArray_toList]
        exact hS
      · rw [off b hb hb2] at q
        exact (I.hok b u q).stay (fun d v _ y => hk d v y) (fun d y => kp d _ y) fun d xs y => kp d _ y
theorem se_litems (hX : XOk C k X) {e : Expr} {p apos cpos pos : Pos} {a : E} (ha : SE X o e a) (hg : Gl X "list") (h : noCall0 e = true) (hl : (apos.endLine == cpos.line) = true) :
    SE X o (.Call (.Name "list" p) [.Call (.Attribute e "items" apos) [] [] cpos] [] pos) (.litems a) := fun ρ M r M' he R φ σ H rel Q q => by
  simp only [evE] at he
  split at he
  · rename_i kvs fr M1 q1
    split at he
    · rename_i small
      cases he
      intro pins s I
      have hs : starEach [.Call (.Attribute e "items" apos) [] [] cpos] X.env = (false, eval (.Call (.Attribute e "items" apos) [] [] cpos) X.env) :: starEach [] X.env := rfl
      refine wpAny_Call_Name_kw (ld_blt I hg (hX.blt _ (BI.mem .list)) (BI.boot .list) ?_)
      refine PyProof.Rows.callWith_type1 ?_ hs rfl
      rw [hs]
      show wpAny _ _ (spliced ((false, eval (.Call (.Attribute e "items" apos) [] [] cpos) X.env) :: backTo pos (starEach [] X.env))) _ _ s
      refine Calls.spliced_cons ?_
      have lowq := lk_core ha q1 rel (Q := fun u H1 => ∃ R1 φ1 d ob ks, u = .ref d ∧ Rel X.K R1 φ1 ρ M' σ H1 ∧ Ext R φ M H R1 φ1 M' H1 ∧ H1 d = some (.frz ob (.dK ks)) ∧ RepKs X.K R1 kvs ks) fun R1 φ1 H1 d ob ks r1 x1 hr hd w1 => ⟨R1, φ1, d, ob, ks, rfl, r1, x1, hd, w1⟩
      refine wpAny_Call_method (T := "dict") (id := "dict.items") (base_ok h) rfl hl PySem.F.plainAttrs_dict PySem.F.slot_dict_items PySem.F.type_dict_items (thn ((pe_lk wE_pe).run pins s σ H _ I lowq) fun u s1 ⟨x, H1, I1, rx, R1, φ1, d, ob, ks, ex, r1, x1, hd, w1⟩ => ?_)
      subst ex
      obtain rfl : u = Value.ref d := rx
      obtain ⟨sys, _, _, _, ep, us, hdt, _, kv, hm⟩ := I1.frzK hd
      have lk : ks.length = us.length := Paired.length kv
      obtain ⟨lr, gr⟩ := repKs_get w1
      have I2 : Inv X pins σ H1 { s1 with heap := s1.heap.push { cls := .type "dict_items", data := .fields #[.ref d] } } := I1.kept (t' := s1.toks) fun b ob q => Heap.get?_push_of_some _ q
      refine ⟨hm.dictOf.typeIs, hm.dictOf.mapOf.noDict, ?_⟩
      show wpAny _ _ (callWith cpos (.builtin "dict.items") [.ref d] [] []) _ X.xe s1
      refine method_meetsIn PySem.F.slot_dict_items PySem.F.entry_dict_items rfl (PySem.evalArgs_none ⟨rfl, hm.dictOf.typeIs, PySem.F.args_dict_items_1 _, _, meets_dict_items (mixKind X.prog X.w) d sys, ⟨us, hm.dictOf⟩, ?_⟩)
      refine Calls.spliced_nil ?_
      have zl : ks.length ≤ sizeLine := by rw [← lr]; exact big_line small
      refine PySem.W.kdx_call (knd := mixKind X.prog X.w) (kvs := us) (ep := ep) (I1.ok.hd hX.calm) ⟨_, Heap.get?_push_size _ rfl, rfl, rfl⟩ (hm.push _) (by omega) fun h' tk acc c as hk hS hl2 hG hacc => ?_
      obtain ⟨newS, new, hSn, at', J⟩ := inv_listed (tk := tk) I2 zl kv hk hS hl2 hG hacc
      have nd : as.Nodup := List.Pairwise.imp (fun {a b} (h : a < b) => Nat.ne_of_lt h) hG.rise
      have la : as.length = ks.length := by omega
      obtain ⟨r2, x2⟩ := r1.tuples (g := h') new la nd
      have rv : RepDs X.K (layF h' R1 as ks) (pairsD kvs) (as.map V.ref) := by
        refine repDs_of (by unfold pairsD; rw [List.length_map, List.length_map, la, lr]) fun j x w e1 e2 => ?_
        unfold pairsD at e1
        rw [List.getElem?_map] at e1 e2
        obtain ⟨pp, p1, rfl⟩ := Option.map_eq_some_iff.mp e1
        obtain ⟨aa, a1, rfl⟩ := Option.map_eq_some_iff.mp e2
        obtain ⟨w, w1', w2⟩ := gr j pp.1 pp.2 p1
        obtain ⟨ob', o1, o2⟩ := at' j aa _ a1 w1'
        have ha' : aa ∈ as := List.mem_of_getElem? a1
        refine .tup (.inl ⟨ob', ?_, o2⟩) (.cons (.key _) (.cons (w2.mono x2.le) .nil))
        rw [(layF_in as ks R1 H1 ha' (by omega) (.inr trivial) nd).1]
        exact o1
      have hB : layF h' H1 as ks (s1.heap.push { cls := .type "dict_items", data := .fields #[.ref d] }).objs.size = none := by
        rw [layF_off as ks H1 hSn]; exact newS
      obtain ⟨R3, r3, x3, p3⟩ := (Outp.newL (K := X.K) (R := layF h' R1 as ks) hB rv).post r2
      exact ⟨.ref _, _, J, rfl, q R3 φ1 _ _ r3 (x1.trans (x2.trans x3)) ((p3.back x2).back x1)⟩
    · cases he
  · cases he
end
end Rf

set_option Elab.async false
set_option linter.all false
set_option maxRecDepth 100000
set_option maxHeartbeats 4000000
/-! d.update(d2) -/
namespace Rf
open PySem PySem.Spec PyProof.Rows L2
section
variable {X : Cx} {pins : List (Addr × Obj)} {σ : L2.St} {H : Hp} {s : Shared} {a b : Addr} {kvs more : List (Key × V)} {A : Around} {E : Value → Shared → Prop}
theorem d_update {Q : Value → Shared → Prop} (I : Inv X pins σ H s) (e : H a = some (.dK kvs)) (e2 : Rd H b (.dK more)) (ne : a ≠ b) (hl : kvs.length + more.length ≤ sizeLine)
    (h : ∀ s', Inv X pins σ (upd H a (.dK (mergeK kvs more))) s' → Q .none s') : wpAny (model X.prog X.w) A (call (.builtin "dict.update") [.ref a, .ref b]) Q E s := by
  obtain ⟨z, hd, vs, rel, dd⟩ := dk_of I.hok e
  obtain ⟨z2, hd2, vs2, rel2, dd2⟩ := dk_rd I.hok e2
  refine call_meetsIn PySem.F.slot_dict_update dd.typeIs PySem.F.entry_dict_update (PySem.F.args_dict_update_2 _ _) (meets_dict_update (mixKind X.prog X.w) a b ne hd2)
    ⟨vs, vs2, dd, dd2, by rw [← rel.length, ← rel2.length]; exact hl, fun h' dd' _ hs => h _ ?_⟩
  have he : ∃ q, h'.get? a = some q := let ⟨q, _, _, hq, _⟩ := dd'; ⟨q, hq⟩
  exact d_write (t' := s.toks) I (by rw [e]; exact True.intro) hs he (dk_new (Nat.le_trans (length_mergeK _ _) hl) hd (rel2.merge rel) dd')
end
def rDUpd : V → List V → Hp → VK → Prop := fun x vs H Q => ∃ (a b : Addr) (kvs more : List (Key × V)), x = .ref a ∧ vs = [.ref b] ∧ H a = some (.dK kvs) ∧ Rd H b (.dK more) ∧ a ≠ b ∧ kvs.length + more.length ≤ sizeLine ∧ Q .non (upd H a (.dK (mergeK kvs more)))
theorem mtd_update {X : Cx} : MtR X "dict.update" rDUpd := by
  intro pins s σ H x vs v us Q I rx rv h
  obtain ⟨a, b, kvs, more, ex, ev, e, e2, ne, hl, q⟩ := h
  subst ex
  subst ev
  obtain rfl : v = Value.ref a := rx
  obtain ⟨u, eu, ru⟩ := vals1 rv
  subst eu
  obtain rfl : u = Value.ref b := ru
  exact d_update I e e2 ne hl fun s' I' => ⟨.non, _, I', rfl, q⟩
section
variable {X : Cx} {o : Orc} {C : Ctx} {k : Nat}
theorem s1_upd {x : Str} {i : Nat} {p apos cpos pos : Pos} {e : Expr} {a : E} (hx : SE X o (.Name x p) (.slot i)) (ha : SE X o e a) (hs : isStar e = false) (hl : (apos.endLine == cpos.line) = true) : S1 X o (.Expr (.Call (.Attribute (.Name x p) "update" apos) [e] [] cpos) pos) (.upd i a) := fun ρ M out ev R φ σ H rel D pq => by
  simp only [evS] at ev
  split at ev
  · rename_i n w0
    split at ev
    · rename_i ks0 c0
      split at ev
      · rename_i more fr M1 q1
        split at ev
        · rename_i kvs c1
          split at ev
          · rename_i hz
            cases ev
            refine wS_of (ps_expr (meth1 (T := "dict") PySem.F.plainAttrs_dict PySem.F.slot_dict_update PySem.F.type_dict_update mtd_update rfl hs hl) rfl) ?_
            refine hx.frz ρ M (.cell n, false) M (by simp only [evE, w0]) R φ σ H rel _ fun R1 φ1 H1 v r1 x1 p1 => ?_
            obtain ⟨ad, e0, rfl⟩ := id p1
            obtain ⟨⟨ks1, h0, rs1⟩, _⟩ := r1.cells n _ ad c0 e0
            refine ⟨.inr (.inr (.inl ⟨rfl, .inl ⟨_, h0⟩⟩)), ha.frz _ _ _ _ q1 R1 φ1 σ H1 r1 _ fun R2 φ2 H2 u r2 x2 p2 => ?_⟩
            obtain ⟨ad2, e4, e3⟩ := p1.mono x2.le x2.pre
            cases e3
            obtain ⟨⟨ks, h2, rs⟩, hn⟩ := r2.cells n _ ad c1 e4
            cases p2 with
            | dic e5 w1 =>
              obtain ⟨r3, x3⟩ := r2.setCell c1 e4 (nd' := .dic (mergK kvs more)) (o' := .dK (mergeK ks _)) ⟨_, upd_same, mergK_merge rs w1⟩
              refine ⟨ad, _, ks, _, rfl, rfl, h2, r2.sub.dic e5, fun z => ?_, ?_, pq R2 φ2 σ _ r3 ((x1.trans x2).trans x3)⟩
              · subst z; rw [hn] at e5; cases e5
              · rw [← (repKs_get rs).1, ← (repKs_get w1).1]; exact big_line hz
          · cases ev
        · cases ev
      · cases ev
    · cases ev
  · cases ev
end
end Rf

set_option Elab.async false
set_option linter.all false
set_option maxRecDepth 100000
set_option maxHeartbeats 4000000
/-! A look at a text: is it the one that a term of the small language tells? -/
namespace Rf
open PySem PySem.Spec L2

/-! ### views -/
def vName : Expr → Option (Str × Pos)
  | .Name x p => some (x, p)
  | _ => none
theorem vName_eq {e : Expr} {r} (h : vName e = some r) : e = .Name r.1 r.2 := by cases e <;> cases h <;> rfl
def vConst : Expr → Option Const
  | .Constant c _ _ => some c
  | _ => none
theorem vConst_eq {e : Expr} {r} (h : vConst e = some r) : ∃ j p, e = .Constant r j p := by cases e <;> cases h <;> exact ⟨_, _, rfl⟩
def vTuple : Expr → Option (List Expr)
  | .Tuple es _ _ => some es
  | _ => none
theorem vTuple_eq {e : Expr} {r} (h : vTuple e = some r) : ∃ j p, e = .Tuple r j p := by cases e <;> cases h <;> exact ⟨_, _, rfl⟩
def vList : Expr → Option (List Expr)
  | .List es _ => some es
  | _ => none
theorem vList_eq {e : Expr} {r} (h : vList e = some r) : ∃ p, e = .List r p := by cases e <;> cases h <;> exact ⟨_, rfl⟩
def vDict0 : Expr → Bool
  | .Dict [] [] _ => true
  | _ => false
theorem vDict0_eq {e : Expr} (h : vDict0 e = true) : ∃ p, e = .Dict [] [] p := by
  unfold vDict0 at h
  split at h
  · exact ⟨_, rfl⟩
  · cases h
def vIf : Expr → Option (Expr × Expr × Expr)
  | .IfExp t a b _ => some (t, a, b)
  | _ => none
theorem vIf_eq {e : Expr} {r} (h : vIf e = some r) : ∃ p, e = .IfExp r.1 r.2.1 r.2.2 p := by cases e <;> cases h <;> exact ⟨_, rfl⟩
def vBool : Expr → Option (BoolOp × List Expr × Pos)
  | .BoolOp o es p => some (o, es, p)
  | _ => none
theorem vBool_eq {e : Expr} {r} (h : vBool e = some r) : e = .BoolOp r.1 r.2.1 r.2.2 := by cases e <;> cases h <;> rfl
def vUn : Expr → Option (UnaryOp × Expr)
  | .UnaryOp o e _ => some (o, e)
  | _ => none
theorem vUn_eq {e : Expr} {r} (h : vUn e = some r) : ∃ p, e = .UnaryOp r.1 r.2 p := by cases e <;> cases h <;> exact ⟨_, rfl⟩
def vCmp : Expr → Option (Expr × List CmpOp × List Expr)
  | .Compare e os es _ => some (e, os, es)
  | _ => none
theorem vCmp_eq {e : Expr} {r} (h : vCmp e = some r) : ∃ p, e = .Compare r.1 r.2.1 r.2.2 p := by cases e <;> cases h <;> exact ⟨_, rfl⟩
def vBin : Expr → Option (Expr × Operator × Expr)
  | .BinOp a o b _ => some (a, o, b)
  | _ => none
theorem vBin_eq {e : Expr} {r} (h : vBin e = some r) : ∃ p, e = .BinOp r.1 r.2.1 r.2.2 p := by cases e <;> cases h <;> exact ⟨_, rfl⟩
def vSub : Expr → Option (Expr × Expr)
  | .Subscript a b _ => some (a, b)
  | _ => none
theorem vSub_eq {e : Expr} {r} (h : vSub e = some r) : ∃ p, e = .Subscript r.1 r.2 p := by cases e <;> cases h <;> exact ⟨_, rfl⟩
def vSlice : Expr → Option (Option Expr × Option Expr)
  | .Slice a b none _ => some (a, b)
  | _ => none
theorem vSlice_eq {e : Expr} {r} (h : vSlice e = some r) : ∃ p, e = .Slice r.1 r.2 none p := by
  unfold vSlice at h
  split at h
  · cases h; exact ⟨_, rfl⟩
  · cases h
def vCall : Expr → Option (Expr × List Expr × List Keyword × Pos)
  | .Call f as ks p => some (f, as, ks, p)
  | _ => none
theorem vCall_eq {e : Expr} {r} (h : vCall e = some r) : e = .Call r.1 r.2.1 r.2.2.1 r.2.2.2 := by cases e <;> cases h <;> rfl
def vAttr : Expr → Option (Expr × Str × Pos)
  | .Attribute e m p => some (e, m, p)
  | _ => none
theorem vAttr_eq {e : Expr} {r} (h : vAttr e = some r) : e = .Attribute r.1 r.2.1 r.2.2 := by cases e <;> cases h <;> rfl
/-- a call of a name, no keywords -/
def vCallN (e : Expr) : Option (Str × List Expr) := match vCall e with
  | some (f, as, [], _) => match vName f with
    | some (x, _) => some (x, as)
    | none => none
  | _ => none
theorem vCallN_eq {e : Expr} {r} (h : vCallN e = some r) : ∃ p q, e = .Call (.Name r.1 p) r.2 [] q := by
  unfold vCallN at h
  split at h
  · rename_i f as q e1
    split at h
    · rename_i x p e2
      cases h
      rw [vCall_eq e1, vName_eq e2]
      exact ⟨_, _, rfl⟩
    · cases h
  · cases h
/-- a call of a method, no keywords; the last: it stands on the line of the call's start -/
def vMeth (e : Expr) : Option (Expr × Str × List Expr × Bool) := match vCall e with
  | some (f, as, [], q) => match vAttr f with
    | some (x, m, p) => some (x, m, as, p.endLine == q.line)
    | none => none
  | _ => none
theorem vMeth_eq {e : Expr} {r} (h : vMeth e = some r) : ∃ p q, e = .Call (.Attribute r.1 r.2.1 p) r.2.2.1 [] q ∧ (p.endLine == q.line) = r.2.2.2 := by
  unfold vMeth at h
  split at h
  · rename_i f as q e1
    split at h
    · rename_i x m p e2
      cases h
      rw [vCall_eq e1, vAttr_eq e2]
      exact ⟨_, _, rfl, rfl⟩
    · cases h
  · cases h
def vGen : List Comprehension → Option (Expr × Expr × List Expr)
  | [⟨t, i, c, 0⟩] => some (t, i, c)
  | _ => none
theorem vGen_eq {gs : List Comprehension} {r} (h : vGen gs = some r) : gs = [⟨r.1, r.2.1, r.2.2, 0⟩] := by
  unfold vGen at h
  split at h
  · cases h; rfl
  · cases h
def vLC : Expr → Option ((Expr × List Comprehension) × Scope × Pos)
  | .ListComp e gs s p => some ((e, gs), s, p)
  | _ => none
theorem vLC_eq {e : Expr} {r} (h : vLC e = some r) : e = .ListComp r.1.1 r.1.2 r.2.1 r.2.2 := by cases e <;> cases h <;> rfl
def vDC : Expr → Option ((Expr × Expr × List Comprehension) × Scope × Pos)
  | .DictComp k v gs s p => some ((k, v, gs), s, p)
  | _ => none
theorem vDC_eq {e : Expr} {r} (h : vDC e = some r) : e = .DictComp r.1.1 r.1.2.1 r.1.2.2 r.2.1 r.2.2 := by cases e <;> cases h <;> rfl
/-- the kinds whose test is their value's truth -/
def plainT : Expr → Bool
  | .Name .. => true
  | .Call .. => true
  | .Subscript .. => true
  | .Attribute .. => true
  | .List .. => true
  | .ListComp .. => true
  | .BinOp .. => true
  | _ => false
theorem plainT_ok {e : Expr} {env : Env} (h : plainT e = true) : ∀ whole, isTrue e env whole = (do let v ← whole; standAt e.pos; holding [v] (truthy v)) := fun whole => by
  cases e <;> first | rfl | (simp [plainT] at h)

/-! ### data alike -/
mutual
def sameD : D → D → Bool
  | .non, .non => true
  | .bl a, .bl b => a == b
  | .int a, .int b => decide (a = b)
  | .str a, .str b => decide (a = b)
  | .lst a, .lst b => sameDs a b
  | .tup a, .tup b => sameDs a b
  | _, _ => false
def sameDs : List D → List D → Bool
  | [], [] => true
  | a :: x, b :: y => sameD a b && sameDs x y
  | _, _ => false
end
mutual
theorem sameD_eq : ∀ {a b : D}, sameD a b = true → a = b
  | .non, b, h => by cases b <;> first | rfl | (simp [sameD] at h)
  | .bl a, b, h => by cases b <;> first | (simp [sameD] at h; done) | (simp [sameD] at h; rw [h])
  | .int a, b, h => by cases b <;> first | (simp [sameD] at h; done) | (simp [sameD] at h; rw [h])
  | .str a, b, h => by cases b <;> first | (simp [sameD] at h; done) | (simp [sameD] at h; rw [h])
  | .lst a, b, h => by
    cases b <;> first | (simp [sameD] at h; done) | skip
    simp only [sameD] at h; rw [sameDs_eq h]
  | .tup a, b, h => by
    cases b <;> first | (simp [sameD] at h; done) | skip
    simp only [sameD] at h; rw [sameDs_eq h]
  | .dic a, b, h => by cases b <;> simp [sameD] at h
  | .scr a, b, h => by cases b <;> simp [sameD] at h
theorem sameDs_eq : ∀ {a b : List D}, sameDs a b = true → a = b
  | [], [], _ => rfl
  | [], _ :: _, h => by simp [sameDs] at h
  | _ :: _, [], h => by simp [sameDs] at h
  | a :: x, b :: y, h => by
    simp only [sameDs, Bool.and_eq_true] at h
    rw [sameD_eq h.1, sameDs_eq h.2]
end
def hasG : List (Str × D) → Str → D → Bool
  | [], _, _ => false
  | p :: r, x, v => (decide (p.1 = x) && sameD p.2 v) || hasG r x v
theorem hasG_mem : ∀ {l : List (Str × D)} {x : Str} {v : D}, hasG l x v = true → (x, v) ∈ l
  | [], _, _, h => by cases h
  | (y, w) :: r, x, v, h => by
    simp only [hasG, Bool.or_eq_true, Bool.and_eq_true, decide_eq_true_eq] at h
    rcases h with ⟨rfl, h⟩ | h
    · rw [sameD_eq h]; exact List.mem_cons_self
    · exact List.mem_cons_of_mem _ (hasG_mem h)

/-! ### names -/
def isLoc (sc : Scope) (x : Str) : Bool := match sc.names.lookup x with
  | some .local => true
  | _ => false
def isCellN (sc : Scope) (x : Str) : Bool := match sc.names.lookup x with
  | some .cell => true
  | _ => false
def isVis (sc : Scope) (x : Str) : Bool := match sc.names.lookup x with
  | some .local => true
  | some .cell => true
  | some .free => true
  | _ => false
def isGl (sc : Scope) (x : Str) : Bool := match sc.names.lookup x with
  | some .globalImplicit => true
  | _ => false
theorem isLoc_eq {sc : Scope} {x : Str} (h : isLoc sc x = true) : sc.names.lookup x = some .local := by
  unfold isLoc at h; split at h
  · assumption
  · cases h
theorem isCellN_eq {sc : Scope} {x : Str} (h : isCellN sc x = true) : sc.names.lookup x = some .cell := by
  unfold isCellN at h; split at h
  · assumption
  · cases h
theorem isVis_eq {sc : Scope} {x : Str} (h : isVis sc x = true) : Vis sc x := by
  unfold isVis at h; split at h
  · exact .inl (by assumption)
  · exact .inr (.inl (by assumption))
  · exact .inr (.inr (by assumption))
  · cases h
theorem isGl_eq {sc : Scope} {x : Str} (h : isGl sc x = true) : sc.names.lookup x = some .globalImplicit := by
  unfold isGl at h; split at h
  · assumption
  · cases h
def nameAt (N : List Str) (i : Nat) (x : Str) : Bool := match N[i]? with
  | some y => decide (y = x)
  | none => false
theorem nameAt_eq {N : List Str} {i : Nat} {x : Str} (h : nameAt N i x = true) : N[i]? = some x := by
  unfold nameAt at h; split at h
  · rename_i y e; rw [e, decide_eq_true_eq.mp h]
  · cases h
def fineN (x : Str) : Bool := !(x == ("__debug__" : Str)) && !(x == ("__classdict__" : Str))
/-! ### a comprehension's block -/
def ownP (N : List Str) (own : List Nat) : List (Str × Nat) := own.filterMap fun i => match N[i]? with
  | some x => some (x, i)
  | none => none
def inNames (x : Str) : List (Str × Nat) → Bool
  | [] => false
  | p :: r => decide (p.1 = x) || inNames x r
def inN (x : Str) : List Str → Bool
  | [] => false
  | y :: r => decide (y = x) || inN x r
def blkRow (N : List Str) (sc scope : Scope) (own : List (Str × Nat)) (y : Str × NameKind) : Bool :=
  decide (scope.names.lookup y.1 = some y.2) && (match y.2 with
    | .free => isCellN sc y.1 || (match sc.names.lookup y.1 with
      | some .free => true
      | _ => false)
    | .local => inNames y.1 own || !inN y.1 N
    | .cell => inNames y.1 own || !inN y.1 N
    | _ => true)
def blkOk (N : List Str) (sc scope : Scope) (own : List Nat) : Bool :=
  decide (scope.kind = .function) && scope.names.all (blkRow N sc scope (ownP N own)) && decide ((ownP N own).map (·.2) = own)
theorem inNames_mem {x : Str} : ∀ {l : List (Str × Nat)}, inNames x l = true → x ∈ l.map (·.1)
  | [], h => by cases h
  | p :: r, h => by
    simp only [inNames, Bool.or_eq_true, decide_eq_true_eq] at h
    rcases h with h | h
    · rw [List.map_cons, h]; exact List.mem_cons_self
    · exact List.mem_cons_of_mem _ (inNames_mem h)
theorem inN_mem {x : Str} : ∀ {l : List Str}, inN x l = false → x ∉ l
  | [], _ => by simp
  | y :: r, h => by
    simp only [inN, Bool.or_eq_false_iff, decide_eq_false_iff_not] at h
    intro z
    rcases List.mem_cons.mp z with z | z
    · exact h.1 z.symm
    · exact inN_mem h.2 z
theorem blkOk_eq {N : List Str} {sc scope : Scope} {own : List Nat} (h : blkOk N sc scope own = true) : BlkOk N sc scope (ownP N own) ∧ (ownP N own).map (·.2) = own := by
  simp only [blkOk, Bool.and_eq_true, decide_eq_true_eq, List.all_eq_true] at h
  obtain ⟨⟨h1, h2⟩, h3⟩ := h
  have row : ∀ y ∈ scope.names, _ := fun y hy => h2 y hy
  refine ⟨⟨h1, fun y hy => ?_, fun p hp => ?_, fun y hy e => ?_, fun y hy e => ?_⟩, h3⟩
  · have := row y hy
    simp only [blkRow, Bool.and_eq_true, decide_eq_true_eq] at this
    exact this.1
  · obtain ⟨i, _, e⟩ := List.mem_filterMap.mp hp
    split at e
    · rename_i x e1; cases e; exact e1
    · cases e
  · have := row y hy
    simp only [blkRow, Bool.and_eq_true, decide_eq_true_eq, e] at this
    have t := this.2
    rw [Bool.or_eq_true] at t
    rcases t with t | t
    · exact .inl (isCellN_eq t)
    · split at t
      · exact .inr (by assumption)
      · cases t
  · have := row y hy
    simp only [blkRow, Bool.and_eq_true, decide_eq_true_eq] at this
    have t := this.2
    have t : (inNames y.1 (ownP N own) || !inN y.1 N) = true := by
      rcases e with e | e <;> rw [e] at t <;> exact t
    rw [Bool.or_eq_true, Bool.not_eq_true'] at t
    rcases t with t | t
    · exact .inl (inNames_mem t)
    · exact .inr (inN_mem t)
/-! ### targets -/
def hasB : G → List Nat → Bool
  | .nm i, l => decide (i ∈ l)
  | .tnil, _ => true
  | .tcons a b, l => hasB a l && hasB b l
  | .tp a, l => hasB a l
theorem hasB_eq : ∀ {g : G} {l : List Nat}, hasB g l = true → ∀ i, g.has i → i ∈ l
  | .nm j, l, h, i, e => by
    have h' : j ∈ l := by simpa [hasB] using h
    exact (show i = j from e) ▸ h'
  | .tnil, l, h, i, e => (e : False).elim
  | .tcons a b, l, h, i, e => by
    simp only [hasB, Bool.and_eq_true] at h
    rcases (e : a.has i ∨ b.has i) with e | e
    · exact hasB_eq h.1 i e
    · exact hasB_eq h.2 i e
  | .tp a, l, h, i, e => hasB_eq (g := a) (by simpa [hasB] using h) i e
mutual
def chkG (N : List Str) (sc : Scope) : G → Expr → Bool
  | .nm i, e => match vName e with
    | some (x, _) => nameAt N i x && (isLoc sc x || isCellN sc x)
    | none => false
  | .tp a, e => match vTuple e with
    | some es => nts es && decide (a.len = es.length) && chkGs N sc a es
    | none => false
  | _, _ => false
def chkGs (N : List Str) (sc : Scope) : G → List Expr → Bool
  | .tnil, [] => true
  | .tcons a b, e :: es => isNT e && chkG N sc a e && chkGs N sc b es
  | _, _ => false
end
end Rf

set_option Elab.async false
set_option linter.all false
set_option maxRecDepth 100000
set_option maxHeartbeats 4000000
namespace Rf
open PySem PySem.Spec L2

def isNilE : E → Bool
  | .nil => true
  | _ => false
theorem isNilE_eq {e : E} (h : isNilE e = true) : e = .nil := by cases e <;> first | rfl | (simp [isNilE] at h)
def isCmpE : E → Bool
  | .cmp .. => true
  | .chain .. => true
  | _ => false
def isBoolE : E → Bool
  | .andv .. => true
  | .orv .. => true
  | .one .. => true
  | _ => false
def cstOk : D → Const → Bool
  | .non, .none => true
  | .bl a, .bool b => a == b
  | .int a, .int b => decide (a = b)
  | .str a, .str b => decide (a = b)
  | _, _ => false
def tysB (sc : Scope) : List TyN → List Expr → Bool
  | [], [] => true
  | t :: ts, e :: es => (match vName e with
    | some (x, _) => decide (x = t.py) && isGl sc x
    | none => false) && tysB sc ts es
  | _, _ => false
def aLen : E → Nat
  | .cons _ b => aLen b + 1
  | _ => 0
def isEmptyL {α : Type} : List α → Bool
  | [] => true
  | _ => false
def hasKw (l : List (List Str × List Nat)) (ks : List Str) (pm : List Nat) : Bool := decide ((ks, pm) ∈ l)
variable (T : List Def) (GG : List (Str × D)) (N : List Str)
mutual
def chkE : E → Scope → Expr → Bool
  | .slot i, sc, e => match vName e with
    | some (x, _) => nameAt N i x && isVis sc x && fineN x
    | none => false
  | .cst d, sc, e => match vConst e with
    | some c => cstOk d c
    | none => false
  | .glob y v, sc, e => match vName e with
    | some (x, _) => decide (x = y) && hasG GG x v && isGl sc x && fineN x
    | none => false
  | .tup a, sc, e => match vTuple e with
    | some es => chkA a sc es
    | none => false
  | .lst a, sc, e => match vList e with
    | some es => chkA a sc es
    | none => false
  | .dnil, sc, e => vDict0 e
  | .ite t a b, sc, e => match vIf e with
    | some (et, ea, eb) => chkT t sc et && chkE a sc ea && chkE b sc eb
    | none => false
  | .andv a b, sc, e => match vBool e with
    | some (.And, e1 :: e2 :: es, p) => chkE a sc e1 && chkE b sc (.BoolOp .And (e2 :: es) p)
    | _ => false
  | .orv a b, sc, e => match vBool e with
    | some (.Or, e1 :: e2 :: es, p) => chkE a sc e1 && chkE b sc (.BoolOp .Or (e2 :: es) p)
    | _ => false
  | .orT a b, sc, e => match vBool e with
    | some (.Or, e1 :: e2 :: es, p) => chkE a sc e1 && chkE b sc (.BoolOp .Or (e2 :: es) p)
    | _ => false
  | .one a, sc, e => match vBool e with
    | some (_, [e1], _) => chkE a sc e1
    | _ => false
  | .notv a, sc, e => match vUn e with
    | some (.Not, x) => chkE a sc x
    | _ => false
  | .neg a, sc, e => match vUn e with
    | some (.USub, x) => chkE a sc x
    | _ => false
  | .cmp o a b, sc, e => match vCmp e with
    | some (e1, [p], [e2]) => decide (p = o.py) && !isSet e2 && chkE a sc e1 && chkE b sc e2
    | _ => false
  | .chain o q a b c, sc, e => match vCmp e with
    | some (e1, [p, p'], [e2, e3]) => decide (p = o.py) && decide (p' = q.py) && !isSet e3 && chkE a sc e1 && chkE b sc e2 && chkE c sc e3
    | _ => false
  | .bin o a b, sc, e => match vBin e with
    | some (e1, p, e2) => decide (p = o.py) && chkE a sc e1 && chkE b sc e2
    | none => false
  | .idx a b, sc, e => match vSub e with
    | some (e1, e2) => !isSlice e2 && chkE a sc e1 && chkE b sc e2
    | none => false
  | .slc a l h, sc, e => match vSub e with
    | some (e1, e2) => (match vSlice e2 with
      | some (lo, hi) => chkE a sc e1 && chkO l sc lo && chkO h sc hi
      | none => false)
    | none => false
  | .callP f a, sc, e => match vCallN e with
    | some (x, e1 :: es) => decide (x = f) && (findDef T f).isSome && isGl sc x && fineN x && noStars (e1 :: es) && chkA a sc (e1 :: es)
    | _ => false
  | .callM f a, sc, e => match vCallN e with
    | some (x, e1 :: es) => decide (x = f) && (findDef T f).isSome && isGl sc x && fineN x && noStars (e1 :: es) && chkA a sc (e1 :: es)
    | _ => false
  | .callK f ks pm a, sc, e => match vCall e with
    | some (fe, [], kws, _) => (match vName fe, findDef T f with
      | some (x, _), some d => decide (x = f) && isGl sc x && fineN x && decide (kwNames kws = some ks) && hasKw d.kwo ks pm && decide (aLen a = ks.length) && chkK a sc kws
      | _, _ => false)
    | _ => false
  | .mk a, sc, e => chkE a sc e
  | .blt b a, sc, e => match vCallN e with
    | some (x, e1 :: es) => decide (x = b.nm) && isGl sc x && noStars (e1 :: es) && chkA a sc (e1 :: es)
    | _ => false
  | .isi a ts, sc, e => match vCallN e with
    | some (x, [e1, e2]) => decide (x = ("isinstance" : Str)) && isGl sc x && !isStar e1 && chkE a sc e1 && (match vTuple e2 with
      | some es => tysB sc ts es && decide (ts.length ≤ big) && !isEmptyL ts
      | none => tysB sc ts [e2])
    | _ => false
  | .lc own g it c el, sc, e => match vLC e with
    | some ((elt, gens), scope, _) => (match vGen gens with
      | some (tg, iter, ifs) => blkOk N sc scope own && hasB g own && chkG N scope g tg && !isSet iter && chkI it sc tg iter && chkC c (relS scope sc) ifs && chkE el (relS scope sc) elt
      | none => false)
    | none => false
  | .dc own g it c ke ve, sc, e => match vDC e with
    | some ((kx, vx, gens), scope, _) => (match vGen gens with
      | some (tg, iter, ifs) => blkOk N sc scope own && hasB g own && chkG N scope g tg && !isSet iter && chkI it sc tg iter && chkC c (relS scope sc) ifs && chkE ke (relS scope sc) kx && chkE ve (relS scope sc) vx
      | none => false)
    | none => false
  | .get1 a b, sc, e => match vMeth e with
    | some (x, m, [e1], l) => decide (m = ("get" : Str)) && l && noCall0 x && !isStar e1 && chkE a sc x && chkE b sc e1
    | _ => false
  | .get2 a b c, sc, e => match vMeth e with
    | some (x, m, [e1, e2], l) => decide (m = ("get" : Str)) && l && noCall0 x && !isStar e1 && !isStar e2 && chkE a sc x && chkE b sc e1 && chkE c sc e2
    | _ => false
  | .sitems a, sc, e => match vCallN e with
    | some (x, [e1]) => (match vMeth e1 with
      | some (ob, m, [], l) => decide (x = ("sorted" : Str)) && decide (m = ("items" : Str)) && l && noCall0 ob && isGl sc x && chkE a sc ob
      | _ => false)
    | _ => false
  | .litems a, sc, e => match vCallN e with
    | some (x, [e1]) => (match vMeth e1 with
      | some (ob, m, [], l) => decide (x = ("list" : Str)) && decide (m = ("items" : Str)) && l && noCall0 ob && isGl sc x && chkE a sc ob
      | _ => false)
    | _ => false
  | .lrng a, sc, e => match vCallN e with
    | some (x, [e1]) => (match vCallN e1 with
      | some (y, [e2]) => decide (x = ("list" : Str)) && decide (y = ("range" : Str)) && isGl sc x && isGl sc y && !isStar e2 && chkE a sc e2
      | _ => false)
    | _ => false
  | .lrng2 a b, sc, e => match vCallN e with
    | some (x, [e1]) => (match vCallN e1 with
      | some (y, [e2, e3]) => decide (x = ("list" : Str)) && decide (y = ("range" : Str)) && isGl sc x && isGl sc y && !isStar e2 && !isStar e3 && chkE a sc e2 && chkE b sc e3
      | _ => false)
    | _ => false
  | .pop i a, sc, e => match vMeth e with
    | some (x, m, [e1], l) => decide (m = ("pop" : Str)) && l && !isStar e1 && (match vName x with
      | some (y, _) => nameAt N i y && isVis sc y && fineN y
      | none => false) && chkE a sc e1
    | _ => false
  | _, _, _ => false
def chkA : E → Scope → List Expr → Bool
  | .nil, _, es => isEmptyL es
  | .cons a b, sc, es => match es with
    | e :: r => !isStar e && chkE a sc e && chkA b sc r
    | [] => false
  | _, _, _ => false
def chkO : E → Scope → Option Expr → Bool
  | .none_, _, e => e.isNone
  | .cons a b, sc, e => match e with
    | some e => isNilE b && chkE a sc e
    | none => false
  | _, _, _ => false
def chkT : E → Scope → Expr → Bool
  | .andv a b, sc, e => match vBool e with
    | some (.And, e1 :: e2 :: es, p) => isBoolE b && chkT a sc e1 && chkT b sc (.BoolOp .And (e2 :: es) p)
    | _ => false
  | .orv a b, sc, e => match vBool e with
    | some (.Or, e1 :: e2 :: es, p) => isBoolE b && chkT a sc e1 && chkT b sc (.BoolOp .Or (e2 :: es) p)
    | _ => false
  | .one a, sc, e => match vBool e with
    | some (_, [e1], _) => chkT a sc e1
    | _ => false
  | .notv a, sc, e => match vUn e with
    | some (.Not, x) => chkT a sc x
    | _ => false
  | .cons a b, sc, e => isNilE b && (isCmpE a || plainT e) && chkE a sc e
  | _, _, _ => false
def chkC : E → Scope → List Expr → Bool
  | .nil, _, es => isEmptyL es
  | .cons a b, sc, es => match es with
    | [e] => isNilE b && chkT a sc e
    | _ => false
  | _, _, _ => false
def chkI : E → Scope → Expr → Expr → Bool
  | .itv a, sc, tg, e => chkE a sc e
  | .rng1 a, sc, tg, e => match vCallN e with
    | some (x, [e1]) => decide (x = ("range" : Str)) && isGl sc x && !isStar e1 && chkE a sc e1
    | _ => false
  | .rng2 a b, sc, tg, e => match vCallN e with
    | some (x, [e1, e2]) => decide (x = ("range" : Str)) && isGl sc x && !isStar e1 && !isStar e2 && chkE a sc e1 && chkE b sc e2
    | _ => false
  | .enum a, sc, tg, e => match vCallN e with
    | some (x, [e1]) => decide (x = ("enumerate" : Str)) && (vTuple tg).isSome && isGl sc x && !isStar e1 && chkE a sc e1
    | _ => false
  | .zip a b, sc, tg, e => match vCallN e with
    | some (x, [e1, e2]) => decide (x = ("zip" : Str)) && (vTuple tg).isSome && isGl sc x && !isStar e1 && !isStar e2 && chkE a sc e1 && chkE b sc e2
    | _ => false
  | .items a, sc, tg, e => match vMeth e with
    | some (x, m, [], l) => decide (m = ("items" : Str)) && (vTuple tg).isSome && l && noCall0 x && chkE a sc x
    | _ => false
  | .vals a, sc, tg, e => match vMeth e with
    | some (x, m, [], l) => decide (m = ("values" : Str)) && l && noCall0 x && chkE a sc x
    | _ => false
  | _, _, _, _ => false
def chkK : E → Scope → List Keyword → Bool
  | .nil, _, ks => isEmptyL ks
  | .cons a b, sc, ks => match ks with
    | k :: r => chkE a sc k.value && chkK b sc r
    | [] => false
  | _, _, _ => false
end
end Rf

set_option Elab.async false
set_option linter.all false
set_option maxRecDepth 100000
set_option maxHeartbeats 4000000
namespace Rf
open PySem PySem.Spec L2

structure At (C : Ctx) (k : Nat) (N : List Str) (sc : Scope) (X : Cx) : Prop where
  ok : XOk C k X
  hn : X.N = N
  hsc : X.env.scope = sc
  fk : sc.kind = .function
structure StOk (sc : Scope) (X : Cx) : Prop where
  loc : ∀ x, sc.names.lookup x = some .local → X.env.scope.names.lookup x = some .local
  cel : ∀ x, sc.names.lookup x = some .cell → X.env.scope.names.lookup x = some .cell ∧ X.fn x = true
section
variable {C : Ctx} {k : Nat} {N : List Str} {sc scope : Scope} {X : Cx}
theorem At.blk (h : At C k N sc X) (hk : scope.kind = .function) (s : Shared) (H : Hp) (C0 : Addr) (cl : List (Str × Addr)) (fp : List Addr) : At C k N (relS scope sc) (Blk X scope s H C0 cl fp) :=
  ⟨h.ok.blk s H scope _ fp, h.hn, by rw [← h.hsc]; rfl, hk⟩
theorem StOk.blk (s : Shared) (H : Hp) (C0 : Addr) (cl : List (Str × Addr)) (fp : List Addr) : StOk scope (Blk X scope s H C0 cl fp) :=
  ⟨fun x h => lookup_relS_keep (by decide) h, fun x h => ⟨lookup_relS_keep (by decide) h, by
    show (scope.names.lookup x == some .cell) = true
    rw [h]; rfl⟩⟩
theorem At.gl (h : At C k N sc X) {x : Str} (g : isGl sc x = true) : Gl X x := by
  show X.env.scope.names.lookup x = some .globalImplicit
  rw [h.hsc]; exact isGl_eq g
theorem At.vis (h : At C k N sc X) {x : Str} (g : isVis sc x = true) : Vis X.env.scope x := by rw [h.hsc]; exact isVis_eq g
theorem fineN_eq {x : Str} (h : fineN x = true) : (x == ("__debug__" : Str)) = false ∧ (x == ("__classdict__" : Str)) = false := by
  simpa [fineN] using h
theorem tys_ok (h : At C k N sc X) : ∀ {ts : List TyN} {es : List Expr}, tysB sc ts es = true → tysOk X ts es
  | [], [], _ => trivial
  | t :: ts, e :: es, q => by
    simp only [tysB, Bool.and_eq_true] at q
    obtain ⟨q1, q2⟩ := q
    split at q1
    · rename_i x p e1
      simp only [Bool.and_eq_true, decide_eq_true_eq] at q1
      obtain ⟨rfl, q1⟩ := q1
      exact ⟨⟨_, vName_eq e1⟩, h.gl q1, tys_ok h q2⟩
    · cases q1
  | [], _ :: _, q => by cases q
  | _ :: _, [], q => by cases q
theorem isEmptyL_eq {α : Type} {l : List α} (h : isEmptyL l = true) : l = [] := by cases l <;> first | rfl | cases h
theorem cst_rep {d : D} {c : Const} (h : cstOk d c = true) {X : Cx} {j : Nat} {p : Pos} : ∃ v, PE X (.Constant c j p) (tC v) ∧ ∀ R, RepD X.K R d v := by
  unfold cstOk at h
  split at h
  · exact ⟨_, pe_non, fun R => .non⟩
  · rw [eq_of_beq h]; exact ⟨_, pe_bl, fun R => .bl _⟩
  · rw [decide_eq_true_eq.mp h]; exact ⟨_, pe_int, fun R => .int _⟩
  · rw [decide_eq_true_eq.mp h]; exact ⟨_, pe_str, fun R => .str _⟩
  · cases h
mutual
theorem chkG_ok (hX : XOk C k X) (hn : X.N = N) (hs : StOk sc X) : ∀ {g : G} {e : Expr}, chkG N sc g e = true → SG X e g ∧ SGI X e g
  | .nm i, e, h => by
    simp only [chkG] at h
    split at h
    · rename_i x p e1
      rw [vName_eq e1]
      simp only [Bool.and_eq_true, Bool.or_eq_true] at h
      have hN := nameAt_eq h.1
      rw [← hn] at hN
      have sg : SG X (.Name x p) (.nm i) := by
        rcases h.2 with q | q
        · exact sg_nm hX hN (hs.loc x (isLoc_eq q))
        · obtain ⟨a, b⟩ := hs.cel x (isCellN_eq q)
          exact sg_nmC hX hN (.inr a) b
      exact ⟨sg, sgi_nm sg⟩
    · cases h
  | .tp a, e, h => by
    simp only [chkG] at h
    split at h
    · rename_i es e1
      obtain ⟨j, p, rfl⟩ := vTuple_eq e1
      simp only [Bool.and_eq_true, decide_eq_true_eq] at h
      have r := chkGs_ok hX hn hs h.2
      exact ⟨sg_tp hX h.1.1 h.1.2 r, sgi_tp hX h.1.1 h.1.2 r⟩
    · cases h
  | .tnil, e, h => by simp [chkG] at h
  | .tcons _ _, e, h => by simp [chkG] at h
theorem chkGs_ok (hX : XOk C k X) (hn : X.N = N) (hs : StOk sc X) : ∀ {g : G} {es : List Expr}, chkGs N sc g es = true → SGs X es g
  | .tnil, [], h => sgs_nil
  | .tnil, _ :: _, h => by simp [chkGs] at h
  | .tcons a b, [], h => by simp [chkGs] at h
  | .tcons a b, e :: es, h => by
    simp only [chkGs, Bool.and_eq_true] at h
    exact sgs_cons h.1.1 (chkG_ok hX hn hs h.1.2).1 (chkGs_ok hX hn hs h.2)
  | .nm _, _, h => by simp [chkGs] at h
  | .tp _, _, h => by simp [chkGs] at h
end
theorem aLen_ok {o : Orc} : ∀ {a : E} {ρ : REnv} {M : Store} {ws : List W} {M' : Store}, evA o a ρ M = some (ws, M') → ws.length = aLen a
  | .cons a b, ρ, M, ws, M', h => by
    simp only [evA] at h
    split at h
    · split at h
      · rename_i q
        cases h
        rw [List.length_cons, aLen_ok q]; rfl
      · cases h
    · cases h
  | .nil, _, _, _, _, h => by simp only [evA, Option.some.injEq, Prod.mk.injEq] at h; rw [← h.1]; rfl
  | .slot _, _, _, _, _, h => by simp [evA] at h
  | .cst _, _, _, _, _, h => by simp [evA] at h
  | .glob _ _, _, _, _, _, h => by simp [evA] at h
  | .tup _, _, _, _, _, h => by simp [evA] at h
  | .lst _, _, _, _, _, h => by simp [evA] at h
  | .dnil, _, _, _, _, h => by simp [evA] at h
  | .ite _ _ _, _, _, _, _, h => by simp [evA] at h
  | .andv _ _, _, _, _, _, h => by simp [evA] at h
  | .orv _ _, _, _, _, _, h => by simp [evA] at h
  | .orT _ _, _, _, _, _, h => by simp [evA] at h
  | .notv _, _, _, _, _, h => by simp [evA] at h
  | .cmp _ _ _, _, _, _, _, h => by simp [evA] at h
  | .chain _ _ _ _ _, _, _, _, _, h => by simp [evA] at h
  | .bin _ _ _, _, _, _, _, h => by simp [evA] at h
  | .neg _, _, _, _, _, h => by simp [evA] at h
  | .idx _ _, _, _, _, _, h => by simp [evA] at h
  | .slc _ _ _, _, _, _, _, h => by simp [evA] at h
  | .none_, _, _, _, _, h => by simp [evA] at h
  | .rev _, _, _, _, _, h => by simp [evA] at h
  | .callP _ _, _, _, _, _, h => by simp [evA] at h
  | .callM _ _, _, _, _, _, h => by simp [evA] at h
  | .callK _ _ _ _, _, _, _, _, h => by simp [evA] at h
  | .one _, _, _, _, _, h => by simp [evA] at h
  | .mk _, _, _, _, _, h => by simp [evA] at h
  | .blt _ _, _, _, _, _, h => by simp [evA] at h
  | .isi _ _, _, _, _, _, h => by simp [evA] at h
  | .lc _ _ _ _ _, _, _, _, _, h => by simp [evA] at h
  | .dc _ _ _ _ _ _, _, _, _, _, h => by simp [evA] at h
  | .get1 _ _, _, _, _, _, h => by simp [evA] at h
  | .get2 _ _ _, _, _, _, _, h => by simp [evA] at h
  | .rng1 _, _, _, _, _, h => by simp [evA] at h
  | .rng2 _ _, _, _, _, _, h => by simp [evA] at h
  | .zip _ _, _, _, _, _, h => by simp [evA] at h
  | .enum _, _, _, _, _, h => by simp [evA] at h
  | .items _, _, _, _, _, h => by simp [evA] at h
  | .keys _, _, _, _, _, h => by simp [evA] at h
  | .vals _, _, _, _, _, h => by simp [evA] at h
  | .itv _, _, _, _, _, h => by simp [evA] at h
  | .pop _ _, _, _, _, _, h => by simp [evA] at h
  | .sitems _, _, _, _, _, h => by simp [evA] at h
  | .litems _, _, _, _, _, h => by simp [evA] at h
  | .lrng _, _, _, _, _, h => by simp [evA] at h
  | .lrng2 _ _, _, _, _, _, h => by simp [evA] at h
end
section
variable {C : Ctx} {k : Nat} {N : List Str}
theorem findSome {T : List Def} {f : Str} (h : (findDef T f).isSome = true) : ∃ d, findDef T f = some d := Option.isSome_iff_exists.mp h
abbrev OkE (C : Ctx) (k : Nat) (N : List Str) (a : E) : Prop := ∀ {sc : Scope} {e : Expr}, chkE C.T C.G N a sc e = true → ∀ {X : Cx}, At C k N sc X → SE X (orc C.T k) e a ∧ (isCmpE a = true → ST X (orc C.T k) e (.cons a .nil))
theorem nc {X : Cx} {o : Orc} {e : Expr} {a : E} (h : SE X o e a) (c : isCmpE a = false) : SE X o e a ∧ (isCmpE a = true → ST X o e (.cons a .nil)) := ⟨h, fun z => by rw [c] at z; cases z⟩
mutual
theorem chkE_ok : ∀ (a : E), OkE C k N a
  | .slot i, sc, e, h, X, hX => by
    simp only [chkE] at h
    split at h
    · rename_i x p e1
      simp only [Bool.and_eq_true] at h
      rw [vName_eq e1]
      exact nc (se_slot (by rw [hX.hn]; exact nameAt_eq h.1.1) (hX.vis h.1.2) (fineN_eq h.2).1 (fineN_eq h.2).2) rfl
    · cases h
  | .cst d, sc, e, h, X, hX => by
    simp only [chkE] at h
    split at h
    · rename_i c e1
      obtain ⟨j, p, rfl⟩ := vConst_eq e1
      obtain ⟨v, h1, h2⟩ := cst_rep h (X := X) (j := j) (p := p)
      exact nc (se_const h1 h2) rfl
    · cases h
  | .glob y v, sc, e, h, X, hX => by
    simp only [chkE] at h
    split at h
    · rename_i x p e1
      simp only [Bool.and_eq_true, decide_eq_true_eq] at h
      obtain ⟨⟨⟨rfl, h2⟩, h3⟩, h4⟩ := h
      rw [vName_eq e1]
      exact nc (se_glob hX.ok (hX.gl h3) (hasG_mem h2) (fineN_eq h4).1) rfl
    · cases h
  | .tup a, sc, e, h, X, hX => by
    simp only [chkE] at h
    split at h
    · rename_i es e1
      obtain ⟨j, p, rfl⟩ := vTuple_eq e1
      exact nc (se_tup (chkA_ok a h hX).1) rfl
    · cases h
  | .lst a, sc, e, h, X, hX => by
    simp only [chkE] at h
    split at h
    · rename_i es e1
      obtain ⟨p, rfl⟩ := vList_eq e1
      exact nc (se_lst (chkA_ok a h hX).1) rfl
    · cases h
  | .dnil, sc, e, h, X, hX => by
    simp only [chkE] at h
    obtain ⟨p, rfl⟩ := vDict0_eq h
    exact nc se_dnil rfl
  | .ite t a b, sc, e, h, X, hX => by
    simp only [chkE] at h
    split at h
    · rename_i et ea eb e1
      simp only [Bool.and_eq_true] at h
      obtain ⟨p, rfl⟩ := vIf_eq e1
      exact nc (se_ite (chkT_ok t h.1.1 hX).1 (chkE_ok a h.1.2 hX).1 (chkE_ok b h.2 hX).1) rfl
    · cases h
  | .andv a b, sc, e, h, X, hX => by
    simp only [chkE] at h
    split at h
    · rename_i e1 e2 es p v1
      simp only [Bool.and_eq_true] at h
      rw [vBool_eq v1]
      exact nc (se_and (chkE_ok a h.1 hX).1 (chkE_ok b h.2 hX).1) rfl
    · cases h
  | .orv a b, sc, e, h, X, hX => by
    simp only [chkE] at h
    split at h
    · rename_i e1 e2 es p v1
      simp only [Bool.and_eq_true] at h
      rw [vBool_eq v1]
      exact nc (se_or (chkE_ok a h.1 hX).1 (chkE_ok b h.2 hX).1) rfl
    · cases h
  | .orT a b, sc, e, h, X, hX => by
    simp only [chkE] at h
    split at h
    · rename_i e1 e2 es p v1
      simp only [Bool.and_eq_true] at h
      rw [vBool_eq v1]
      exact nc (se_orT (chkE_ok a h.1 hX).1 (chkE_ok b h.2 hX).1) rfl
    · cases h
  | .one a, sc, e, h, X, hX => by
    simp only [chkE] at h
    split at h
    · rename_i e1 p v1
      rw [vBool_eq v1]
      exact nc (se_one (chkE_ok a h hX).1) rfl
    · cases h
  | .notv a, sc, e, h, X, hX => by
    simp only [chkE] at h
    split at h
    · rename_i x v1
      obtain ⟨p, rfl⟩ := vUn_eq v1
      exact nc (se_not (chkE_ok a h hX).1) rfl
    · cases h
  | .neg a, sc, e, h, X, hX => by
    simp only [chkE] at h
    split at h
    · rename_i x v1
      obtain ⟨p, rfl⟩ := vUn_eq v1
      exact nc (se_neg (chkE_ok a h hX).1) rfl
    · cases h
  | .cmp o a b, sc, e, h, X, hX => by
    simp only [chkE] at h
    split at h
    · rename_i e1 p e2 v1
      simp only [Bool.and_eq_true, decide_eq_true_eq, Bool.not_eq_true'] at h
      obtain ⟨⟨⟨rfl, h2⟩, h3⟩, h4⟩ := h
      obtain ⟨q, rfl⟩ := vCmp_eq v1
      exact ⟨se_cmp hX.ok (chkE_ok a h3 hX).1 (chkE_ok b h4 hX).1 h2, fun _ => st_cmp hX.ok (chkE_ok a h3 hX).1 (chkE_ok b h4 hX).1 h2⟩
    · cases h
  | .chain o o' a b c, sc, e, h, X, hX => by
    simp only [chkE] at h
    split at h
    · rename_i e1 p p' e2 e3 v1
      simp only [Bool.and_eq_true, decide_eq_true_eq, Bool.not_eq_true'] at h
      obtain ⟨⟨⟨⟨⟨rfl, rfl⟩, h2⟩, h3⟩, h4⟩, h5⟩ := h
      obtain ⟨q, rfl⟩ := vCmp_eq v1
      exact ⟨se_chain hX.ok (chkE_ok a h3 hX).1 (chkE_ok b h4 hX).1 (chkE_ok c h5 hX).1 h2, fun _ => st_chain hX.ok (chkE_ok a h3 hX).1 (chkE_ok b h4 hX).1 (chkE_ok c h5 hX).1 h2⟩
    · cases h
  | .bin o a b, sc, e, h, X, hX => by
    simp only [chkE] at h
    split at h
    · rename_i e1 p e2 v1
      simp only [Bool.and_eq_true, decide_eq_true_eq] at h
      obtain ⟨⟨rfl, h3⟩, h4⟩ := h
      obtain ⟨q, rfl⟩ := vBin_eq v1
      exact nc (se_bin hX.ok (chkE_ok a h3 hX).1 (chkE_ok b h4 hX).1) rfl
    · cases h
  | .idx a b, sc, e, h, X, hX => by
    simp only [chkE] at h
    split at h
    · rename_i e1 e2 v1
      simp only [Bool.and_eq_true, Bool.not_eq_true'] at h
      obtain ⟨q, rfl⟩ := vSub_eq v1
      exact nc (se_idx hX.ok (chkE_ok a h.1.2 hX).1 (chkE_ok b h.2 hX).1 h.1.1) rfl
    · cases h
  | .slc a l hh, sc, e, h, X, hX => by
    simp only [chkE] at h
    split at h
    · rename_i e1 e2 v1
      split at h
      · rename_i lo hi v2
        simp only [Bool.and_eq_true] at h
        obtain ⟨q, rfl⟩ := vSub_eq v1
        obtain ⟨q2, z⟩ := vSlice_eq v2
        rw [show e2 = _ from z]
        exact nc (se_slc (chkE_ok a h.1.1 hX).1 (chkO_ok l h.1.2 hX) (chkO_ok hh h.2 hX)) rfl
      · cases h
    · cases h
  | .callP f a, sc, e, h, X, hX => by
    simp only [chkE] at h
    split at h
    · rename_i x e1 es v1
      simp only [Bool.and_eq_true, decide_eq_true_eq] at h
      obtain ⟨⟨⟨⟨⟨rfl, h2⟩, h3⟩, h4⟩, h5⟩, h6⟩ := h
      obtain ⟨p, q, rfl⟩ := vCallN_eq v1
      obtain ⟨d, hd⟩ := findSome h2
      exact nc (se_callP hX.ok hd rfl (hX.gl h3) (chkA_ok a h6 hX).1 h5 (fineN_eq h4).1) rfl
    · cases h
  | .callM f a, sc, e, h, X, hX => by
    simp only [chkE] at h
    split at h
    · rename_i x e1 es v1
      simp only [Bool.and_eq_true, decide_eq_true_eq] at h
      obtain ⟨⟨⟨⟨⟨rfl, h2⟩, h3⟩, h4⟩, h5⟩, h6⟩ := h
      obtain ⟨p, q, rfl⟩ := vCallN_eq v1
      obtain ⟨d, hd⟩ := findSome h2
      exact nc (se_callM hX.ok hd rfl (hX.gl h3) (chkA_ok a h6 hX).1 h5 (fineN_eq h4).1) rfl
    · cases h
  | .callK f ks pm a, sc, e, h, X, hX => by
    simp only [chkE] at h
    split at h
    · rename_i fe kws pos v1
      split at h
      · rename_i x p d v2 hd
        simp only [Bool.and_eq_true, decide_eq_true_eq, hasKw] at h
        obtain ⟨⟨⟨⟨⟨⟨rfl, h2⟩, h3⟩, h4⟩, h5⟩, h6⟩, h7⟩ := h
        rw [vCall_eq v1]
        rw [show fe = _ from vName_eq v2]
        exact nc (se_callK hX.ok hd rfl (hX.gl h2) h4 (chkK_ok a h7 hX) (fun ρ M ws M' q => (aLen_ok q).trans h6) h5 (fineN_eq h3).1) rfl
      · cases h
    · cases h
  | .mk a, sc, e, h, X, hX => by
    simp only [chkE] at h
    exact nc (se_mk (chkE_ok a h hX).1) rfl
  | .blt b a, sc, e, h, X, hX => by
    simp only [chkE] at h
    split at h
    · rename_i x e1 es v1
      simp only [Bool.and_eq_true, decide_eq_true_eq] at h
      obtain ⟨⟨⟨rfl, h2⟩, h3⟩, h4⟩ := h
      obtain ⟨p, q, rfl⟩ := vCallN_eq v1
      exact nc (se_blt hX.ok (chkA_ok a h4 hX).1 (hX.gl h2) h3) rfl
    · cases h
  | .isi a ts, sc, e, h, X, hX => by
    simp only [chkE] at h
    split at h
    · rename_i x e1 e2 v1
      simp only [Bool.and_eq_true, decide_eq_true_eq, Bool.not_eq_true'] at h
      obtain ⟨⟨⟨⟨rfl, h2⟩, h3⟩, h4⟩, h5⟩ := h
      obtain ⟨p, q, rfl⟩ := vCallN_eq v1
      split at h5
      · rename_i es v2
        simp only [Bool.and_eq_true, decide_eq_true_eq, Bool.not_eq_true'] at h5
        obtain ⟨j, p2, z⟩ := vTuple_eq v2
        rw [z]
        exact nc (se_isi hX.ok (chkE_ok a h4 hX).1 h3 (hX.gl h2) (tys_ok hX h5.1.1) h5.1.2 (fun z => by rw [z] at h5; cases h5.2)) rfl
      · have t := tys_ok hX h5
        cases ts with
        | nil => exact t.elim
        | cons t1 ts =>
          cases ts with
          | cons t2 ts => exact t.2.2.elim
          | nil =>
            obtain ⟨⟨p2, z⟩, g, _⟩ := t
            rw [z]
            exact nc (se_isi1 hX.ok (chkE_ok a h4 hX).1 h3 (hX.gl h2) g) rfl
    · cases h
  | .lc own g it c el, sc, e, h, X, hX => by
    simp only [chkE] at h
    split at h
    · rename_i elt gens scope pos v1
      split at h
      · rename_i tg iter ifs v2
        simp only [Bool.and_eq_true, Bool.not_eq_true'] at h
        obtain ⟨⟨⟨⟨⟨⟨h1, h2⟩, h3⟩, h4⟩, h5⟩, h6⟩, h7⟩ := h
        obtain ⟨b1, b2⟩ := blkOk_eq h1
        have z : e = .ListComp elt gens scope pos := vLC_eq v1
        rw [z, show gens = _ from vGen_eq v2]
        exact nc (se_lc hX.ok (chkI_ok it h5 hX) (by rw [hX.hn, hX.hsc]; exact b1) b2 (hasB_eq h2) (fun s H C0 cl fp => (chkG_ok (hX.blk b1.kind s H C0 cl fp).ok hX.hn (StOk.blk s H C0 cl fp) h3).2)
          (fun s H C0 cl fp => chkC_ok c h6 (hX.blk b1.kind s H C0 cl fp)) (fun s H C0 cl fp => (chkE_ok el h7 (hX.blk b1.kind s H C0 cl fp)).1) h4) rfl
      · cases h
    · cases h
  | .dc own g it c ke ve, sc, e, h, X, hX => by
    simp only [chkE] at h
    split at h
    · rename_i kx vx gens scope pos v1
      split at h
      · rename_i tg iter ifs v2
        simp only [Bool.and_eq_true, Bool.not_eq_true'] at h
        obtain ⟨⟨⟨⟨⟨⟨⟨h1, h2⟩, h3⟩, h4⟩, h5⟩, h6⟩, h7⟩, h8⟩ := h
        obtain ⟨b1, b2⟩ := blkOk_eq h1
        have z : e = .DictComp kx vx gens scope pos := vDC_eq v1
        rw [z, show gens = _ from vGen_eq v2]
        exact nc (se_dc hX.ok (chkI_ok it h5 hX) (by rw [hX.hn, hX.hsc]; exact b1) b2 (hasB_eq h2) (fun s H C0 cl fp => (chkG_ok (hX.blk b1.kind s H C0 cl fp).ok hX.hn (StOk.blk s H C0 cl fp) h3).2)
          (fun s H C0 cl fp => chkC_ok c h6 (hX.blk b1.kind s H C0 cl fp)) (fun s H C0 cl fp => (chkE_ok ke h7 (hX.blk b1.kind s H C0 cl fp)).1) (fun s H C0 cl fp => (chkE_ok ve h8 (hX.blk b1.kind s H C0 cl fp)).1) h4) rfl
      · cases h
    · cases h
  | .get1 a b, sc, e, h, X, hX => by
    simp only [chkE] at h
    split at h
    · rename_i x m e1 l v1
      simp only [Bool.and_eq_true, decide_eq_true_eq, Bool.not_eq_true'] at h
      obtain ⟨⟨⟨⟨⟨rfl, h2⟩, h3⟩, h4⟩, h5⟩, h6⟩ := h
      obtain ⟨p, q, rfl, hl⟩ := vMeth_eq v1
      exact nc (se_get1 hX.ok (chkE_ok a h5 hX).1 (chkE_ok b h6 hX).1 h3 h4 (hl.trans h2)) rfl
    · cases h
  | .get2 a b c, sc, e, h, X, hX => by
    simp only [chkE] at h
    split at h
    · rename_i x m e1 e2 l v1
      simp only [Bool.and_eq_true, decide_eq_true_eq, Bool.not_eq_true'] at h
      obtain ⟨⟨⟨⟨⟨⟨⟨rfl, h2⟩, h3⟩, h4⟩, h4'⟩, h5⟩, h6⟩, h7⟩ := h
      obtain ⟨p, q, rfl, hl⟩ := vMeth_eq v1
      exact nc (se_get2 hX.ok (chkE_ok a h5 hX).1 (chkE_ok b h6 hX).1 (chkE_ok c h7 hX).1 h3 h4 h4' (hl.trans h2)) rfl
    · cases h
  | .pop i a, sc, e, h, X, hX => by
    simp only [chkE] at h
    split at h
    · rename_i x m e1 l v1
      simp only [Bool.and_eq_true, decide_eq_true_eq, Bool.not_eq_true'] at h
      obtain ⟨⟨⟨⟨rfl, h2⟩, h3⟩, h4⟩, h5⟩ := h
      obtain ⟨p, q, rfl, hl⟩ := vMeth_eq v1
      split at h4
      · rename_i y p2 v2
        simp only [Bool.and_eq_true] at h4
        have z : x = .Name y p2 := vName_eq v2
        subst z
        exact nc (se_pop (se_slot (by rw [hX.hn]; exact nameAt_eq h4.1.1) (hX.vis h4.1.2) (fineN_eq h4.2).1 (fineN_eq h4.2).2) (chkE_ok a h5 hX).1 h3 (hl.trans h2)) rfl
      · cases h4
    · cases h
  | .sitems a, sc, e, h, X, hX => by
    simp only [chkE] at h
    split at h
    · rename_i x e1 v1
      split at h
      · rename_i ob m l v2
        simp only [Bool.and_eq_true, decide_eq_true_eq] at h
        obtain ⟨⟨⟨⟨⟨rfl, rfl⟩, h2⟩, h3⟩, h4⟩, h5⟩ := h
        obtain ⟨p, q, rfl⟩ := vCallN_eq v1
        obtain ⟨p2, q2, z, hl⟩ := vMeth_eq v2
        rw [show e1 = _ from z]
        exact nc (se_sitems hX.ok (chkE_ok a h5 hX).1 (hX.gl h4) h3 (hl.trans h2)) rfl
      · cases h
    · cases h
  | .litems a, sc, e, h, X, hX => by
    simp only [chkE] at h
    split at h
    · rename_i x e1 v1
      split at h
      · rename_i ob m l v2
        simp only [Bool.and_eq_true, decide_eq_true_eq] at h
        obtain ⟨⟨⟨⟨⟨rfl, rfl⟩, h2⟩, h3⟩, h4⟩, h5⟩ := h
        obtain ⟨p, q, rfl⟩ := vCallN_eq v1
        obtain ⟨p2, q2, z, hl⟩ := vMeth_eq v2
        rw [show e1 = _ from z]
        exact nc (se_litems hX.ok (chkE_ok a h5 hX).1 (hX.gl h4) h3 (hl.trans h2)) rfl
      · cases h
    · cases h
  | .lrng a, sc, e, h, X, hX => by
    simp only [chkE] at h
    split at h
    · rename_i x e1 v1
      split at h
      · rename_i y e2 v2
        simp only [Bool.and_eq_true, decide_eq_true_eq, Bool.not_eq_true'] at h
        obtain ⟨⟨⟨⟨⟨rfl, rfl⟩, h2⟩, h3⟩, h4⟩, h5⟩ := h
        obtain ⟨p, q, rfl⟩ := vCallN_eq v1
        obtain ⟨p2, q2, z⟩ := vCallN_eq v2
        rw [show e1 = _ from z]
        exact nc (se_lrng hX.ok (chkE_ok a h5 hX).1 h4 (hX.gl h3) (hX.gl h2)) rfl
      · cases h
    · cases h
  | .lrng2 a b, sc, e, h, X, hX => by
    simp only [chkE] at h
    split at h
    · rename_i x e1 v1
      split at h
      · rename_i y e2 e3 v2
        simp only [Bool.and_eq_true, decide_eq_true_eq, Bool.not_eq_true'] at h
        obtain ⟨⟨⟨⟨⟨⟨⟨rfl, rfl⟩, h2⟩, h3⟩, h4⟩, h4'⟩, h5⟩, h6⟩ := h
        obtain ⟨p, q, rfl⟩ := vCallN_eq v1
        obtain ⟨p2, q2, z⟩ := vCallN_eq v2
        rw [show e1 = _ from z]
        exact nc (se_lrng2 hX.ok (chkE_ok a h5 hX).1 (chkE_ok b h6 hX).1 h4 h4' (hX.gl h3) (hX.gl h2)) rfl
      · cases h
    · cases h
  | .nil, sc, e, h, X, hX => by simp [chkE] at h
  | .cons _ _, sc, e, h, X, hX => by simp [chkE] at h
  | .none_, sc, e, h, X, hX => by simp [chkE] at h
  | .rev _, sc, e, h, X, hX => by simp [chkE] at h
  | .rng1 _, sc, e, h, X, hX => by simp [chkE] at h
  | .rng2 _ _, sc, e, h, X, hX => by simp [chkE] at h
  | .zip _ _, sc, e, h, X, hX => by simp [chkE] at h
  | .enum _, sc, e, h, X, hX => by simp [chkE] at h
  | .items _, sc, e, h, X, hX => by simp [chkE] at h
  | .keys _, sc, e, h, X, hX => by simp [chkE] at h
  | .vals _, sc, e, h, X, hX => by simp [chkE] at h
  | .itv _, sc, e, h, X, hX => by simp [chkE] at h
theorem chkA_ok : ∀ (a : E) {sc : Scope} {es : List Expr}, chkA C.T C.G N a sc es = true → ∀ {X : Cx}, At C k N sc X → SA X (orc C.T k) es a ∧ noStars es = true
  | .nil, sc, es, h, X, hX => by
    simp only [chkA] at h
    rw [isEmptyL_eq h]
    exact ⟨sa_nil, rfl⟩
  | .cons a b, sc, es, h, X, hX => by
    simp only [chkA] at h
    split at h
    · rename_i e r
      simp only [Bool.and_eq_true, Bool.not_eq_true'] at h
      obtain ⟨r1, r2⟩ := chkA_ok b h.2 hX
      exact ⟨sa_cons (chkE_ok a h.1.2 hX).1 r1 h.1.1, by simp only [noStars, h.1.1, r2]; rfl⟩
    · cases h
  | .slot _, _, _, h, _, _ => by simp [chkA] at h
  | .cst _, _, _, h, _, _ => by simp [chkA] at h
  | .glob _ _, _, _, h, _, _ => by simp [chkA] at h
  | .tup _, _, _, h, _, _ => by simp [chkA] at h
  | .lst _, _, _, h, _, _ => by simp [chkA] at h
  | .dnil, _, _, h, _, _ => by simp [chkA] at h
  | .ite _ _ _, _, _, h, _, _ => by simp [chkA] at h
  | .andv _ _, _, _, h, _, _ => by simp [chkA] at h
  | .orv _ _, _, _, h, _, _ => by simp [chkA] at h
  | .orT _ _, _, _, h, _, _ => by simp [chkA] at h
  | .notv _, _, _, h, _, _ => by simp [chkA] at h
  | .cmp _ _ _, _, _, h, _, _ => by simp [chkA] at h
  | .chain _ _ _ _ _, _, _, h, _, _ => by simp [chkA] at h
  | .bin _ _ _, _, _, h, _, _ => by simp [chkA] at h
  | .neg _, _, _, h, _, _ => by simp [chkA] at h
  | .idx _ _, _, _, h, _, _ => by simp [chkA] at h
  | .slc _ _ _, _, _, h, _, _ => by simp [chkA] at h
  | .none_, _, _, h, _, _ => by simp [chkA] at h
  | .rev _, _, _, h, _, _ => by simp [chkA] at h
  | .callP _ _, _, _, h, _, _ => by simp [chkA] at h
  | .callM _ _, _, _, h, _, _ => by simp [chkA] at h
  | .callK _ _ _ _, _, _, h, _, _ => by simp [chkA] at h
  | .one _, _, _, h, _, _ => by simp [chkA] at h
  | .mk _, _, _, h, _, _ => by simp [chkA] at h
  | .blt _ _, _, _, h, _, _ => by simp [chkA] at h
  | .isi _ _, _, _, h, _, _ => by simp [chkA] at h
  | .lc _ _ _ _ _, _, _, h, _, _ => by simp [chkA] at h
  | .dc _ _ _ _ _ _, _, _, h, _, _ => by simp [chkA] at h
  | .get1 _ _, _, _, h, _, _ => by simp [chkA] at h
  | .get2 _ _ _, _, _, h, _, _ => by simp [chkA] at h
  | .rng1 _, _, _, h, _, _ => by simp [chkA] at h
  | .rng2 _ _, _, _, h, _, _ => by simp [chkA] at h
  | .zip _ _, _, _, h, _, _ => by simp [chkA] at h
  | .enum _, _, _, h, _, _ => by simp [chkA] at h
  | .items _, _, _, h, _, _ => by simp [chkA] at h
  | .keys _, _, _, h, _, _ => by simp [chkA] at h
  | .vals _, _, _, h, _, _ => by simp [chkA] at h
  | .itv _, _, _, h, _, _ => by simp [chkA] at h
  | .pop _ _, _, _, h, _, _ => by simp [chkA] at h
  | .sitems _, _, _, h, _, _ => by simp [chkA] at h
  | .lrng _, _, _, h, _, _ => by simp [chkA] at h
  | .lrng2 _ _, _, _, h, _, _ => by simp [chkA] at h
  | .litems _, _, _, h, _, _ => by simp [chkA] at h
theorem chkK_ok : ∀ (a : E) {sc : Scope} {es : List Keyword}, chkK C.T C.G N a sc es = true → ∀ {X : Cx}, At C k N sc X → SK X (orc C.T k) es a
  | .nil, sc, es, h, X, hX => by
    simp only [chkK] at h
    rw [isEmptyL_eq h]
    exact sk_nil
  | .cons a b, sc, es, h, X, hX => by
    simp only [chkK] at h
    split at h
    · rename_i kw r
      simp only [Bool.and_eq_true] at h
      cases kw
      exact sk_cons (chkE_ok a h.1 hX).1 (chkK_ok b h.2 hX)
    · cases h
  | .slot _, _, _, h, _, _ => by simp [chkK] at h
  | .cst _, _, _, h, _, _ => by simp [chkK] at h
  | .glob _ _, _, _, h, _, _ => by simp [chkK] at h
  | .tup _, _, _, h, _, _ => by simp [chkK] at h
  | .lst _, _, _, h, _, _ => by simp [chkK] at h
  | .dnil, _, _, h, _, _ => by simp [chkK] at h
  | .ite _ _ _, _, _, h, _, _ => by simp [chkK] at h
  | .andv _ _, _, _, h, _, _ => by simp [chkK] at h
  | .orv _ _, _, _, h, _, _ => by simp [chkK] at h
  | .orT _ _, _, _, h, _, _ => by simp [chkK] at h
  | .notv _, _, _, h, _, _ => by simp [chkK] at h
  | .cmp _ _ _, _, _, h, _, _ => by simp [chkK] at h
  | .chain _ _ _ _ _, _, _, h, _, _ => by simp [chkK] at h
  | .bin _ _ _, _, _, h, _, _ => by simp [chkK] at h
  | .neg _, _, _, h, _, _ => by simp [chkK] at h
  | .idx _ _, _, _, h, _, _ => by simp [chkK] at h
  | .slc _ _ _, _, _, h, _, _ => by simp [chkK] at h
  | .none_, _, _, h, _, _ => by simp [chkK] at h
  | .rev _, _, _, h, _, _ => by simp [chkK] at h
  | .callP _ _, _, _, h, _, _ => by simp [chkK] at h
  | .callM _ _, _, _, h, _, _ => by simp [chkK] at h
  | .callK _ _ _ _, _, _, h, _, _ => by simp [chkK] at h
  | .one _, _, _, h, _, _ => by simp [chkK] at h
  | .mk _, _, _, h, _, _ => by simp [chkK] at h
  | .blt _ _, _, _, h, _, _ => by simp [chkK] at h
  | .isi _ _, _, _, h, _, _ => by simp [chkK] at h
  | .lc _ _ _ _ _, _, _, h, _, _ => by simp [chkK] at h
  | .dc _ _ _ _ _ _, _, _, h, _, _ => by simp [chkK] at h
  | .get1 _ _, _, _, h, _, _ => by simp [chkK] at h
  | .get2 _ _ _, _, _, h, _, _ => by simp [chkK] at h
  | .rng1 _, _, _, h, _, _ => by simp [chkK] at h
  | .rng2 _ _, _, _, h, _, _ => by simp [chkK] at h
  | .zip _ _, _, _, h, _, _ => by simp [chkK] at h
  | .enum _, _, _, h, _, _ => by simp [chkK] at h
  | .items _, _, _, h, _, _ => by simp [chkK] at h
  | .keys _, _, _, h, _, _ => by simp [chkK] at h
  | .vals _, _, _, h, _, _ => by simp [chkK] at h
  | .itv _, _, _, h, _, _ => by simp [chkK] at h
  | .pop _ _, _, _, h, _, _ => by simp [chkK] at h
  | .sitems _, _, _, h, _, _ => by simp [chkK] at h
  | .lrng _, _, _, h, _, _ => by simp [chkK] at h
  | .lrng2 _ _, _, _, h, _, _ => by simp [chkK] at h
  | .litems _, _, _, h, _, _ => by simp [chkK] at h
theorem chkO_ok : ∀ (a : E) {sc : Scope} {e : Option Expr}, chkO C.T C.G N a sc e = true → ∀ {X : Cx}, At C k N sc X → SO X (orc C.T k) e a
  | .none_, sc, e, h, X, hX => by
    simp only [chkO] at h
    cases e with
    | none => exact so_none
    | some e => cases h
  | .cons a b, sc, e, h, X, hX => by
    simp only [chkO] at h
    split at h
    · rename_i e
      simp only [Bool.and_eq_true] at h
      rw [isNilE_eq h.1]
      exact so_some (chkE_ok a h.2 hX).1
    · cases h
  | .slot _, _, _, h, _, _ => by simp [chkO] at h
  | .cst _, _, _, h, _, _ => by simp [chkO] at h
  | .glob _ _, _, _, h, _, _ => by simp [chkO] at h
  | .nil, _, _, h, _, _ => by simp [chkO] at h
  | .tup _, _, _, h, _, _ => by simp [chkO] at h
  | .lst _, _, _, h, _, _ => by simp [chkO] at h
  | .dnil, _, _, h, _, _ => by simp [chkO] at h
  | .ite _ _ _, _, _, h, _, _ => by simp [chkO] at h
  | .andv _ _, _, _, h, _, _ => by simp [chkO] at h
  | .orv _ _, _, _, h, _, _ => by simp [chkO] at h
  | .orT _ _, _, _, h, _, _ => by simp [chkO] at h
  | .notv _, _, _, h, _, _ => by simp [chkO] at h
  | .cmp _ _ _, _, _, h, _, _ => by simp [chkO] at h
  | .chain _ _ _ _ _, _, _, h, _, _ => by simp [chkO] at h
  | .bin _ _ _, _, _, h, _, _ => by simp [chkO] at h
  | .neg _, _, _, h, _, _ => by simp [chkO] at h
  | .idx _ _, _, _, h, _, _ => by simp [chkO] at h
  | .slc _ _ _, _, _, h, _, _ => by simp [chkO] at h
  | .rev _, _, _, h, _, _ => by simp [chkO] at h
  | .callP _ _, _, _, h, _, _ => by simp [chkO] at h
  | .callM _ _, _, _, h, _, _ => by simp [chkO] at h
  | .callK _ _ _ _, _, _, h, _, _ => by simp [chkO] at h
  | .one _, _, _, h, _, _ => by simp [chkO] at h
  | .mk _, _, _, h, _, _ => by simp [chkO] at h
  | .blt _ _, _, _, h, _, _ => by simp [chkO] at h
  | .isi _ _, _, _, h, _, _ => by simp [chkO] at h
  | .lc _ _ _ _ _, _, _, h, _, _ => by simp [chkO] at h
  | .dc _ _ _ _ _ _, _, _, h, _, _ => by simp [chkO] at h
  | .get1 _ _, _, _, h, _, _ => by simp [chkO] at h
  | .get2 _ _ _, _, _, h, _, _ => by simp [chkO] at h
  | .rng1 _, _, _, h, _, _ => by simp [chkO] at h
  | .rng2 _ _, _, _, h, _, _ => by simp [chkO] at h
  | .zip _ _, _, _, h, _, _ => by simp [chkO] at h
  | .enum _, _, _, h, _, _ => by simp [chkO] at h
  | .items _, _, _, h, _, _ => by simp [chkO] at h
  | .keys _, _, _, h, _, _ => by simp [chkO] at h
  | .vals _, _, _, h, _, _ => by simp [chkO] at h
  | .itv _, _, _, h, _, _ => by simp [chkO] at h
  | .pop _ _, _, _, h, _, _ => by simp [chkO] at h
  | .sitems _, _, _, h, _, _ => by simp [chkO] at h
  | .lrng _, _, _, h, _, _ => by simp [chkO] at h
  | .lrng2 _ _, _, _, h, _, _ => by simp [chkO] at h
  | .litems _, _, _, h, _, _ => by simp [chkO] at h
theorem chkC_ok : ∀ (a : E) {sc : Scope} {es : List Expr}, chkC C.T C.G N a sc es = true → ∀ {X : Cx}, At C k N sc X → SC X (orc C.T k) es a
  | .nil, sc, es, h, X, hX => by
    simp only [chkC] at h
    rw [isEmptyL_eq h]
    exact sc_nil
  | .cons a b, sc, es, h, X, hX => by
    simp only [chkC] at h
    split at h
    · rename_i e
      simp only [Bool.and_eq_true] at h
      rw [isNilE_eq h.1]
      exact sc_one (chkT_ok a h.2 hX).1
    · cases h
  | .slot _, _, _, h, _, _ => by simp [chkC] at h
  | .cst _, _, _, h, _, _ => by simp [chkC] at h
  | .glob _ _, _, _, h, _, _ => by simp [chkC] at h
  | .tup _, _, _, h, _, _ => by simp [chkC] at h
  | .lst _, _, _, h, _, _ => by simp [chkC] at h
  | .dnil, _, _, h, _, _ => by simp [chkC] at h
  | .ite _ _ _, _, _, h, _, _ => by simp [chkC] at h
  | .andv _ _, _, _, h, _, _ => by simp [chkC] at h
  | .orv _ _, _, _, h, _, _ => by simp [chkC] at h
  | .orT _ _, _, _, h, _, _ => by simp [chkC] at h
  | .notv _, _, _, h, _, _ => by simp [chkC] at h
  | .cmp _ _ _, _, _, h, _, _ => by simp [chkC] at h
  | .chain _ _ _ _ _, _, _, h, _, _ => by simp [chkC] at h
  | .bin _ _ _, _, _, h, _, _ => by simp [chkC] at h
  | .neg _, _, _, h, _, _ => by simp [chkC] at h
  | .idx _ _, _, _, h, _, _ => by simp [chkC] at h
  | .slc _ _ _, _, _, h, _, _ => by simp [chkC] at h
  | .none_, _, _, h, _, _ => by simp [chkC] at h
  | .rev _, _, _, h, _, _ => by simp [chkC] at h
  | .callP _ _, _, _, h, _, _ => by simp [chkC] at h
  | .callM _ _, _, _, h, _, _ => by simp [chkC] at h
  | .callK _ _ _ _, _, _, h, _, _ => by simp [chkC] at h
  | .one _, _, _, h, _, _ => by simp [chkC] at h
  | .mk _, _, _, h, _, _ => by simp [chkC] at h
  | .blt _ _, _, _, h, _, _ => by simp [chkC] at h
  | .isi _ _, _, _, h, _, _ => by simp [chkC] at h
  | .lc _ _ _ _ _, _, _, h, _, _ => by simp [chkC] at h
  | .dc _ _ _ _ _ _, _, _, h, _, _ => by simp [chkC] at h
  | .get1 _ _, _, _, h, _, _ => by simp [chkC] at h
  | .get2 _ _ _, _, _, h, _, _ => by simp [chkC] at h
  | .rng1 _, _, _, h, _, _ => by simp [chkC] at h
  | .rng2 _ _, _, _, h, _, _ => by simp [chkC] at h
  | .zip _ _, _, _, h, _, _ => by simp [chkC] at h
  | .enum _, _, _, h, _, _ => by simp [chkC] at h
  | .items _, _, _, h, _, _ => by simp [chkC] at h
  | .keys _, _, _, h, _, _ => by simp [chkC] at h
  | .vals _, _, _, h, _, _ => by simp [chkC] at h
  | .itv _, _, _, h, _, _ => by simp [chkC] at h
  | .pop _ _, _, _, h, _, _ => by simp [chkC] at h
  | .sitems _, _, _, h, _, _ => by simp [chkC] at h
  | .lrng _, _, _, h, _, _ => by simp [chkC] at h
  | .lrng2 _ _, _, _, h, _, _ => by simp [chkC] at h
  | .litems _, _, _, h, _, _ => by simp [chkC] at h
theorem chkT_ok : ∀ (a : E) {sc : Scope} {e : Expr}, chkT C.T C.G N a sc e = true → ∀ {X : Cx}, At C k N sc X → ST X (orc C.T k) e a ∧ (isBoolE a = true → SW X (orc C.T k) e a)
  | .andv a b, sc, e, h, X, hX => by
    simp only [chkT] at h
    split at h
    · rename_i e1 e2 es p v1
      simp only [Bool.and_eq_true] at h
      rw [vBool_eq v1]
      have w := sw_and (chkT_ok a h.1.2 hX).1 ((chkT_ok b h.2 hX).2 h.1.1)
      exact ⟨w.st, fun _ => w⟩
    · cases h
  | .orv a b, sc, e, h, X, hX => by
    simp only [chkT] at h
    split at h
    · rename_i e1 e2 es p v1
      simp only [Bool.and_eq_true] at h
      rw [vBool_eq v1]
      have w := sw_or (chkT_ok a h.1.2 hX).1 ((chkT_ok b h.2 hX).2 h.1.1)
      exact ⟨w.st, fun _ => w⟩
    · cases h
  | .one a, sc, e, h, X, hX => by
    simp only [chkT] at h
    split at h
    · rename_i bo e1 p v1
      rw [vBool_eq v1]
      have w := sw_one (op := bo) (pos := p) (chkT_ok a h hX).1
      exact ⟨w.st, fun _ => w⟩
    · cases h
  | .notv a, sc, e, h, X, hX => by
    simp only [chkT] at h
    split at h
    · rename_i x v1
      obtain ⟨p, rfl⟩ := vUn_eq v1
      exact ⟨st_not (chkT_ok a h hX).1, fun z => by cases z⟩
    · cases h
  | .cons a b, sc, e, h, X, hX => by
    simp only [chkT, Bool.and_eq_true, Bool.or_eq_true] at h
    rw [isNilE_eq h.1.1]
    have r := chkE_ok a h.2 hX
    refine ⟨?_, fun z => by cases z⟩
    rcases h.1.2 with q | q
    · exact r.2 q
    · exact st_of r.1 (plainT_ok q)
  | .slot _, _, _, h, _, _ => by simp [chkT] at h
  | .cst _, _, _, h, _, _ => by simp [chkT] at h
  | .glob _ _, _, _, h, _, _ => by simp [chkT] at h
  | .nil, _, _, h, _, _ => by simp [chkT] at h
  | .tup _, _, _, h, _, _ => by simp [chkT] at h
  | .lst _, _, _, h, _, _ => by simp [chkT] at h
  | .dnil, _, _, h, _, _ => by simp [chkT] at h
  | .ite _ _ _, _, _, h, _, _ => by simp [chkT] at h
  | .orT _ _, _, _, h, _, _ => by simp [chkT] at h
  | .cmp _ _ _, _, _, h, _, _ => by simp [chkT] at h
  | .chain _ _ _ _ _, _, _, h, _, _ => by simp [chkT] at h
  | .bin _ _ _, _, _, h, _, _ => by simp [chkT] at h
  | .neg _, _, _, h, _, _ => by simp [chkT] at h
  | .idx _ _, _, _, h, _, _ => by simp [chkT] at h
  | .slc _ _ _, _, _, h, _, _ => by simp [chkT] at h
  | .none_, _, _, h, _, _ => by simp [chkT] at h
  | .rev _, _, _, h, _, _ => by simp [chkT] at h
  | .callP _ _, _, _, h, _, _ => by simp [chkT] at h
  | .callM _ _, _, _, h, _, _ => by simp [chkT] at h
  | .callK _ _ _ _, _, _, h, _, _ => by simp [chkT] at h
  | .mk _, _, _, h, _, _ => by simp [chkT] at h
  | .blt _ _, _, _, h, _, _ => by simp [chkT] at h
  | .isi _ _, _, _, h, _, _ => by simp [chkT] at h
  | .lc _ _ _ _ _, _, _, h, _, _ => by simp [chkT] at h
  | .dc _ _ _ _ _ _, _, _, h, _, _ => by simp [chkT] at h
  | .get1 _ _, _, _, h, _, _ => by simp [chkT] at h
  | .get2 _ _ _, _, _, h, _, _ => by simp [chkT] at h
  | .rng1 _, _, _, h, _, _ => by simp [chkT] at h
  | .rng2 _ _, _, _, h, _, _ => by simp [chkT] at h
  | .zip _ _, _, _, h, _, _ => by simp [chkT] at h
  | .enum _, _, _, h, _, _ => by simp [chkT] at h
  | .items _, _, _, h, _, _ => by simp [chkT] at h
  | .keys _, _, _, h, _, _ => by simp [chkT] at h
  | .vals _, _, _, h, _, _ => by simp [chkT] at h
  | .itv _, _, _, h, _, _ => by simp [chkT] at h
  | .pop _ _, _, _, h, _, _ => by simp [chkT] at h
  | .sitems _, _, _, h, _, _ => by simp [chkT] at h
  | .lrng _, _, _, h, _, _ => by simp [chkT] at h
  | .lrng2 _ _, _, _, h, _, _ => by simp [chkT] at h
  | .litems _, _, _, h, _, _ => by simp [chkT] at h
theorem chkI_ok : ∀ (a : E) {sc : Scope} {tg e : Expr}, chkI C.T C.G N a sc tg e = true → ∀ {X : Cx}, At C k N sc X → SI X (orc C.T k) tg e a
  | .itv a, sc, tg, e, h, X, hX => by
    simp only [chkI] at h
    exact si_itv (chkE_ok a h hX).1
  | .rng1 a, sc, tg, e, h, X, hX => by
    simp only [chkI] at h
    split at h
    · rename_i x e1 v1
      simp only [Bool.and_eq_true, decide_eq_true_eq, Bool.not_eq_true'] at h
      obtain ⟨⟨⟨rfl, h2⟩, h3⟩, h4⟩ := h
      obtain ⟨p, q, rfl⟩ := vCallN_eq v1
      exact si_rng1 hX.ok (chkE_ok a h4 hX).1 h3 (hX.gl h2)
    · cases h
  | .rng2 a b, sc, tg, e, h, X, hX => by
    simp only [chkI] at h
    split at h
    · rename_i x e1 e2 v1
      simp only [Bool.and_eq_true, decide_eq_true_eq, Bool.not_eq_true'] at h
      obtain ⟨⟨⟨⟨⟨rfl, h2⟩, h3⟩, h3'⟩, h4⟩, h5⟩ := h
      obtain ⟨p, q, rfl⟩ := vCallN_eq v1
      exact si_rng2 hX.ok (chkE_ok a h4 hX).1 (chkE_ok b h5 hX).1 h3 h3' (hX.gl h2)
    · cases h
  | .enum a, sc, tg, e, h, X, hX => by
    simp only [chkI] at h
    split at h
    · rename_i x e1 v1
      simp only [Bool.and_eq_true, decide_eq_true_eq, Bool.not_eq_true'] at h
      obtain ⟨⟨⟨⟨rfl, ht⟩, h2⟩, h3⟩, h4⟩ := h
      obtain ⟨p, q, rfl⟩ := vCallN_eq v1
      obtain ⟨es, z⟩ := Option.isSome_iff_exists.mp ht
      obtain ⟨j, p2, rfl⟩ := vTuple_eq z
      exact si_enum hX.ok (chkE_ok a h4 hX).1 h3 (hX.gl h2)
    · cases h
  | .zip a b, sc, tg, e, h, X, hX => by
    simp only [chkI] at h
    split at h
    · rename_i x e1 e2 v1
      simp only [Bool.and_eq_true, decide_eq_true_eq, Bool.not_eq_true'] at h
      obtain ⟨⟨⟨⟨⟨⟨rfl, ht⟩, h2⟩, h3⟩, h3'⟩, h4⟩, h5⟩ := h
      obtain ⟨p, q, rfl⟩ := vCallN_eq v1
      obtain ⟨es, z⟩ := Option.isSome_iff_exists.mp ht
      obtain ⟨j, p2, rfl⟩ := vTuple_eq z
      exact si_zip hX.ok (chkE_ok a h4 hX).1 (chkE_ok b h5 hX).1 h3 h3' (hX.gl h2)
    · cases h
  | .items a, sc, tg, e, h, X, hX => by
    simp only [chkI] at h
    split at h
    · rename_i x m l v1
      simp only [Bool.and_eq_true, decide_eq_true_eq, Bool.not_eq_true'] at h
      obtain ⟨⟨⟨⟨rfl, ht⟩, h2⟩, h3⟩, h4⟩ := h
      obtain ⟨p, q, rfl, hl⟩ := vMeth_eq v1
      obtain ⟨es, z⟩ := Option.isSome_iff_exists.mp ht
      obtain ⟨j, p2, rfl⟩ := vTuple_eq z
      exact si_items (chkE_ok a h4 hX).1 h3 (hl.trans h2)
    · cases h
  | .vals a, sc, tg, e, h, X, hX => by
    simp only [chkI] at h
    split at h
    · rename_i x m l v1
      simp only [Bool.and_eq_true, decide_eq_true_eq, Bool.not_eq_true'] at h
      obtain ⟨⟨⟨rfl, h2⟩, h3⟩, h4⟩ := h
      obtain ⟨p, q, rfl, hl⟩ := vMeth_eq v1
      exact si_vals (chkE_ok a h4 hX).1 h3 (hl.trans h2)
    · cases h
  | .slot _, _, _, _, h, _, _ => by simp [chkI] at h
  | .cst _, _, _, _, h, _, _ => by simp [chkI] at h
  | .glob _ _, _, _, _, h, _, _ => by simp [chkI] at h
  | .nil, _, _, _, h, _, _ => by simp [chkI] at h
  | .cons _ _, _, _, _, h, _, _ => by simp [chkI] at h
  | .tup _, _, _, _, h, _, _ => by simp [chkI] at h
  | .lst _, _, _, _, h, _, _ => by simp [chkI] at h
  | .dnil, _, _, _, h, _, _ => by simp [chkI] at h
  | .ite _ _ _, _, _, _, h, _, _ => by simp [chkI] at h
  | .andv _ _, _, _, _, h, _, _ => by simp [chkI] at h
  | .orv _ _, _, _, _, h, _, _ => by simp [chkI] at h
  | .orT _ _, _, _, _, h, _, _ => by simp [chkI] at h
  | .notv _, _, _, _, h, _, _ => by simp [chkI] at h
  | .cmp _ _ _, _, _, _, h, _, _ => by simp [chkI] at h
  | .chain _ _ _ _ _, _, _, _, h, _, _ => by simp [chkI] at h
  | .bin _ _ _, _, _, _, h, _, _ => by simp [chkI] at h
  | .neg _, _, _, _, h, _, _ => by simp [chkI] at h
  | .idx _ _, _, _, _, h, _, _ => by simp [chkI] at h
  | .slc _ _ _, _, _, _, h, _, _ => by simp [chkI] at h
  | .none_, _, _, _, h, _, _ => by simp [chkI] at h
  | .rev _, _, _, _, h, _, _ => by simp [chkI] at h
  | .callP _ _, _, _, _, h, _, _ => by simp [chkI] at h
  | .callM _ _, _, _, _, h, _, _ => by simp [chkI] at h
  | .callK _ _ _ _, _, _, _, h, _, _ => by simp [chkI] at h
  | .one _, _, _, _, h, _, _ => by simp [chkI] at h
  | .mk _, _, _, _, h, _, _ => by simp [chkI] at h
  | .blt _ _, _, _, _, h, _, _ => by simp [chkI] at h
  | .isi _ _, _, _, _, h, _, _ => by simp [chkI] at h
  | .lc _ _ _ _ _, _, _, _, h, _, _ => by simp [chkI] at h
  | .dc _ _ _ _ _ _, _, _, _, h, _, _ => by simp [chkI] at h
  | .get1 _ _, _, _, _, h, _, _ => by simp [chkI] at h
  | .get2 _ _ _, _, _, _, h, _, _ => by simp [chkI] at h
  | .keys _, _, _, _, h, _, _ => by simp [chkI] at h
  | .pop _ _, _, _, _, h, _, _ => by simp [chkI] at h
  | .sitems _, _, _, _, h, _, _ => by simp [chkI] at h
  | .lrng _, _, _, _, h, _, _ => by simp [chkI] at h
  | .lrng2 _ _, _, _, _, h, _, _ => by simp [chkI] at h
  | .litems _, _, _, _, h, _, _ => by simp [chkI] at h
end
end
end Rf

set_option Elab.async false
set_option linter.all false
set_option maxRecDepth 100000
set_option maxHeartbeats 4000000
namespace Rf
open PySem PySem.Spec L2

/-! ### statements -/
def vAssign : Stmt → Option (Expr × Expr)
  | .Assign [t] e _ => some (t, e)
  | _ => none
theorem vAssign_eq {s : Stmt} {r} (h : vAssign s = some r) : ∃ p, s = .Assign [r.1] r.2 p := by
  unfold vAssign at h
  split at h
  · cases h; exact ⟨_, rfl⟩
  · cases h
def vExprS : Stmt → Option Expr
  | .Expr e _ => some e
  | _ => none
theorem vExprS_eq {s : Stmt} {r} (h : vExprS s = some r) : ∃ p, s = .Expr r p := by cases s <;> cases h <;> exact ⟨_, rfl⟩
def vRet : Stmt → Option (Option Expr)
  | .Return e _ => some e
  | _ => none
theorem vRet_eq {s : Stmt} {r} (h : vRet s = some r) : ∃ p, s = .Return r p := by cases s <;> cases h <;> exact ⟨_, rfl⟩
def vIfS : Stmt → Option (Expr × List Stmt × List Stmt)
  | .If t a b _ => some (t, a, b)
  | _ => none
theorem vIfS_eq {s : Stmt} {r} (h : vIfS s = some r) : ∃ p, s = .If r.1 r.2.1 r.2.2 p := by cases s <;> cases h <;> exact ⟨_, rfl⟩
def vFor : Stmt → Option (Expr × Expr × List Stmt)
  | .For t i b [] _ => some (t, i, b)
  | _ => none
theorem vFor_eq {s : Stmt} {r} (h : vFor s = some r) : ∃ p, s = .For r.1 r.2.1 r.2.2 [] p := by
  unfold vFor at h
  split at h
  · cases h; exact ⟨_, rfl⟩
  · cases h
def vWhile : Stmt → Option (Expr × List Stmt)
  | .While t b [] _ => some (t, b)
  | _ => none
theorem vWhile_eq {s : Stmt} {r} (h : vWhile s = some r) : ∃ p, s = .While r.1 r.2 [] p := by
  unfold vWhile at h
  split at h
  · cases h; exact ⟨_, rfl⟩
  · cases h
def skipB : Stmt → Bool
  | .Pass _ => true
  | .Expr (.Constant (.str _) _ _) _ => true
  | _ => false
def dropLead : List Stmt → List Stmt
  | [] => []
  | st :: r => if skipB st = true then dropLead r else st :: r
theorem skip_ps {X : Cx} {st : Stmt} (h : skipB st = true) : PS X st tNext := by
  unfold skipB at h
  split at h
  · exact ps_pass
  · exact ps_doc
  · cases h
theorem dropLead_ok {X : Cx} {o : Orc} {S : S} : ∀ {sts : List Stmt}, SS X o (dropLead sts) S → SS X o sts S
  | [], h => h
  | st :: r, h => by
    unfold dropLead at h
    split at h
    · rename_i q
      exact ss_skip (skip_ps q) (dropLead_ok h)
    · exact h
/-- is the comprehension stored from within its block? -/
def swB (sc : Scope) (x : Str) (px : Pos) : Expr → Bool
  | .ListComp _ _ scope pos => isLoc sc x && (px.line == pos.line) && !(scope.names.any fun (n, k) => n == x && (k == .local || k == .cell))
  | .SetComp _ _ scope pos => isLoc sc x && (px.line == pos.line) && !(scope.names.any fun (n, k) => n == x && (k == .local || k == .cell))
  | .DictComp _ _ _ scope pos => isLoc sc x && (px.line == pos.line) && !(scope.names.any fun (n, k) => n == x && (k == .local || k == .cell))
  | _ => false
theorem isLoc_beq {env : Env} {x : Str} : (env.kindOf x == some .local) = isLoc env.scope x := by
  show (env.scope.names.lookup x == some .local) = _
  unfold isLoc
  split
  · rename_i e; rw [e]; rfl
  · rename_i e
    cases q : env.scope.names.lookup x with
    | none => rfl
    | some k => cases k <;> first | rfl | exact absurd q e
theorem sw_eq {e : Expr} {x : Str} {px : Pos} {n : Nat} {env : Env} (hk : env.scope.kind = .function) : swapsWith e (some (.Name x px)) n env = pure (swB env.scope x px e) := by
  have hb : (env.blockKind == .function) = true := by unfold Env.blockKind; rw [hk]; rfl
  cases e <;> first | rfl | skip
  all_goals
    unfold swapsWith swB
    simp only [hb, isLoc_beq, Expr.pos, Bool.true_and]
/-- a target that is no local name -/
def notLocT (sc : Scope) (t : Expr) : Bool := match vName t with
  | some (x, _) => !isLoc sc x
  | none => true
def plainStoresS (sc : Scope) (es : List Expr) (v : Expr) : Bool := plainStores es v || es.any (notLocT sc)
theorem filterMap_lt {α β : Type} {f : α → Option β} : ∀ {l : List α} {a : α}, a ∈ l → f a = none → (l.filterMap f).length < l.length
  | b :: l, a, h, e => by
    have le : (l.filterMap f).length ≤ l.length := List.length_filterMap_le ..
    rcases List.mem_cons.mp h with rfl | h
    · rw [List.filterMap_cons, e, List.length_cons]; show (l.filterMap f).length < _; omega
    · have := filterMap_lt h e
      rw [List.filterMap_cons, List.length_cons]
      cases f b with
      | none => show (l.filterMap f).length < _; omega
      | some c => show (c :: l.filterMap f).length < _; rw [List.length_cons]; omega
theorem stores_noneS {es : List Expr} {n : Nat} {tp : Pos} {v : Expr} {env : Env} (h : plainStoresS env.scope es v = true) : swappedStores [.Tuple es n tp] v env = pure none := by
  unfold plainStoresS at h
  rw [Bool.or_eq_true] at h
  rcases h with h | h
  · exact stores_none h
  · obtain ⟨t, tm, ht⟩ := List.any_eq_true.mp h
    cases v with
    | Tuple vs m vp =>
      unfold swappedStores
      have key : ∀ line : Nat, ((es.filterMap fun
          | .Name id pos => if env.kindOf id == some .local && pos.line == line then some id else none
          | _ => none).length != es.length) = true := fun line => by
        rw [bne_iff_ne]
        refine Nat.ne_of_lt (filterMap_lt tm ?_)
        unfold notLocT at ht
        cases t with
        | Name x p =>
          have ht : (!isLoc env.scope x) = true := ht
          rw [Bool.not_eq_true', ← isLoc_beq] at ht
          simp only [ht, Bool.false_and]
          rfl
        | _ => rfl
      dsimp only
      split
      · rfl
      · split
        · rfl
        · exact if_pos (by rw [Bool.or_eq_true]; exact .inl (key _))
    | _ => rfl
def isLcE : E → Bool
  | .lc .. => true
  | _ => false
def isDcE : E → Bool
  | .dc .. => true
  | _ => false
def unMk : E → E
  | .mk a => a
  | a => a
def tyPar2 (N : List Str) (sc : Scope) (i j : Nat) (t1 t2 : Expr) : Bool := match vName t1, vName t2 with
  | some (x, px), some (y, py) => nameAt N i x && nameAt N j y && isLoc sc x && isLoc sc y && (py.line == px.line) && !decide (x = y) && !decide (i = j)
  | _, _ => false
def tyPar3 (N : List Str) (sc : Scope) (i j l : Nat) (t1 t2 t3 : Expr) : Bool := match vName t1, vName t2, vName t3 with
  | some (x, px), some (y, py), some (z, pz) => nameAt N i x && nameAt N j y && nameAt N l z && isLoc sc x && isLoc sc y && isLoc sc z && (py.line == px.line) && (pz.line == px.line) && !decide (x = y) && !decide (x = z) && !decide (y = z) && !decide (i = j) && !decide (i = l) && !decide (j = l)
  | _, _, _ => false
def notAll (es : List Expr) : Bool := !es.all (foldedForSure 8) && !es.all (constantsAlone 8)
variable (T : List Def) (GG : List (Str × D)) (N : List Str)
def chkAsg (g : G) (a : E) (sc : Scope) (tg e : Expr) : Bool := match g with
  | .nm i => match vName tg with
    | some (x, px) => nameAt N i x && (isLoc sc x || isCellN sc x) && chkE T GG N a sc e && (!swB sc x px e || isLcE (unMk a) || isDcE (unMk a))
    | none => false
  | g => match vTuple tg with
    | some es => chkG N sc g tg && plainStoresS sc es e && chkE T GG N a sc e
    | none => false
def chkPar (is : List Nat) (a : E) (sc : Scope) (tg e : Expr) : Bool := match vTuple tg, vTuple e with
  | some [t1, t2], some [e1, e2] => (match is with
    | [i, j] => tyPar2 N sc i j t1 t2
    | _ => false) && notAll [e1, e2] && chkA T GG N a sc [e1, e2]
  | some [t1, t2, t3], some [e1, e2, e3] => (match is with
    | [i, j, l] => tyPar3 N sc i j l t1 t2 t3
    | _ => false) && notAll [e1, e2, e3] && chkA T GG N a sc [e1, e2, e3]
  | _, _ => false
mutual
def chk1 : S → Scope → Stmt → Bool
  | .asg g a, sc, st => match vAssign st with
    | some (tg, e) => chkAsg T GG N g a sc tg e
    | none => false
  | .par is a, sc, st => match vAssign st with
    | some (tg, e) => chkPar T GG N is a sc tg e
    | none => false
  | .seti i k a, sc, st => match vAssign st with
    | some (tg, e) => (match vSub tg with
      | some (ob, ix) => (match vName ob with
        | some (x, _) => nameAt N i x && isVis sc x && fineN x
        | none => false) && !isSlice ix && chkE T GG N k sc ix && chkE T GG N a sc e
      | none => false)
    | none => false
  | .app i a, sc, st => match vExprS st with
    | some ex => (match vMeth ex with
      | some (ob, m, [e1], l) => decide (m = ("append" : Str)) && l && !isStar e1 && (match vName ob with
        | some (x, _) => nameAt N i x && isVis sc x && fineN x
        | none => false) && chkE T GG N a sc e1
      | _ => false)
    | none => false
  | .upd i a, sc, st => match vExprS st with
    | some ex => (match vMeth ex with
      | some (ob, m, [e1], l) => decide (m = ("update" : Str)) && l && !isStar e1 && (match vName ob with
        | some (x, _) => nameAt N i x && isVis sc x && fineN x
        | none => false) && chkE T GG N a sc e1
      | _ => false)
    | none => false
  | .exp a, sc, st => match vExprS st with
    | some ex => !isComp ex && chkE T GG N a sc ex
    | none => false
  | .ret a, sc, st => match vRet st with
    | some (some e) => chkE T GG N a sc e
    | _ => false
  | .retN, sc, st => match vRet st with
    | some none => true
    | _ => false
  | .ite t a b, sc, st => match vIfS st with
    | some (et, ea, eb) => chkT T GG N t sc et && chkS a sc (dropLead ea) && chkS b sc (dropLead eb)
    | none => false
  | .for_ g it b, sc, st => match vFor st with
    | some (tg, iter, body) => chkG N sc g tg && !isSet iter && chkI T GG N it sc tg iter && chkS b sc (dropLead body)
    | none => false
  | .while_ t b, sc, st => match vWhile st with
    | some (et, body) => chkT T GG N t sc et && chkS b sc (dropLead body)
    | none => false
  | .never, _, _ => true
  | _, _, _ => false
def chkS : S → Scope → List Stmt → Bool
  | .nil, _, sts => isEmptyL sts
  | .seq a b, sc, sts => match a with
    | .frz _ => chkS b sc sts
    | a => match sts with
      | st :: r => chk1 a sc st && chkS b sc r
      | [] => false
  | .never, _, _ => true
  | _, _, _ => false
end
end Rf

set_option Elab.async false
set_option linter.all false
set_option maxRecDepth 100000
set_option maxHeartbeats 4000000
namespace Rf
open PySem PySem.Spec L2

section
variable {C : Ctx} {k : Nat} {N : List Str} {sc : Scope} {X : Cx}
theorem lc_parts {own : List Nat} {g : G} {it c el : E} {e : Expr} (h : chkE C.T C.G N (.lc own g it c el) sc e = true) : ∃ elt tg iter ifs scope pos, e = .ListComp elt [⟨tg, iter, ifs, 0⟩] scope pos ∧ blkOk N sc scope own = true ∧ hasB g own = true ∧ chkG N scope g tg = true ∧ isSet iter = false ∧
    chkI C.T C.G N it sc tg iter = true ∧ chkC C.T C.G N c (relS scope sc) ifs = true ∧ chkE C.T C.G N el (relS scope sc) elt = true := by
  simp only [chkE] at h
  split at h
  · rename_i elt gens scope pos v1
    split at h
    · rename_i tg iter ifs v2
      simp only [Bool.and_eq_true, Bool.not_eq_true'] at h
      obtain ⟨⟨⟨⟨⟨⟨h1, h2⟩, h3⟩, h4⟩, h5⟩, h6⟩, h7⟩ := h
      have z : e = .ListComp elt gens scope pos := vLC_eq v1
      rw [show gens = _ from vGen_eq v2] at z
      exact ⟨_, _, _, _, _, _, z, h1, h2, h3, h4, h5, h6, h7⟩
    · cases h
  · cases h
theorem dc_parts {own : List Nat} {g : G} {it c ke ve : E} {e : Expr} (h : chkE C.T C.G N (.dc own g it c ke ve) sc e = true) : ∃ kx vx tg iter ifs scope pos, e = .DictComp kx vx [⟨tg, iter, ifs, 0⟩] scope pos ∧ blkOk N sc scope own = true ∧ hasB g own = true ∧ chkG N scope g tg = true ∧ isSet iter = false ∧
    chkI C.T C.G N it sc tg iter = true ∧ chkC C.T C.G N c (relS scope sc) ifs = true ∧ chkE C.T C.G N ke (relS scope sc) kx = true ∧ chkE C.T C.G N ve (relS scope sc) vx = true := by
  simp only [chkE] at h
  split at h
  · rename_i kx vx gens scope pos v1
    split at h
    · rename_i tg iter ifs v2
      simp only [Bool.and_eq_true, Bool.not_eq_true'] at h
      obtain ⟨⟨⟨⟨⟨⟨⟨h1, h2⟩, h3⟩, h4⟩, h5⟩, h6⟩, h7⟩, h8⟩ := h
      have z : e = .DictComp kx vx gens scope pos := vDC_eq v1
      rw [show gens = _ from vGen_eq v2] at z
      exact ⟨_, _, _, _, _, _, _, z, h1, h2, h3, h4, h5, h6, h7, h8⟩
    · cases h
  · cases h
theorem chkAsg_ok (hX : At C k N sc X) (hs : StOk sc X) {g : G} {a : E} {tg e : Expr} {p : Pos} (h : chkAsg C.T C.G N g a sc tg e = true) : S1 X (orc C.T k) (.Assign [tg] e p) (.asg g a) := by
  unfold chkAsg at h
  split at h
  · rename_i i
    split at h
    · rename_i x px v1
      simp only [Bool.and_eq_true, Bool.or_eq_true, Bool.not_eq_true'] at h
      obtain ⟨⟨⟨h1, h2⟩, h3⟩, h4⟩ := h
      have z : tg = .Name x px := vName_eq v1
      subst z
      have hN : X.N[i]? = some x := by rw [hX.hn]; exact nameAt_eq h1
      by_cases w : swB sc x px e = true
      · have hl : X.env.scope.names.lookup x = some .local := by
          rw [hX.hsc]
          unfold swB at w
          split at w <;> first
            | (simp only [Bool.and_eq_true] at w; exact isLoc_eq w.1.1)
            | cases w
        have hk : X.env.scope.kind = .function := by rw [hX.hsc]; exact hX.fk
        rcases h4 with (h4 | h4) | h4
        · rw [w] at h4; cases h4
        · cases a with
          | lc own g' it c el =>
            obtain ⟨elt, tg', iter, ifs, scope, pos, rfl, c1, c2, c3, c4, c5, c6, c7⟩ := lc_parts h3
            simp only [swB, Bool.and_eq_true, Bool.not_eq_true'] at w
            obtain ⟨b1, b2⟩ := blkOk_eq c1
            exact s1_setLc hX.ok hN hl (chkI_ok it c5 hX) (by rw [hX.hn, hX.hsc]; exact b1) b2 (hasB_eq c2) (fun s H C0 cl fp => (chkG_ok (hX.blk b1.kind s H C0 cl fp).ok hX.hn (StOk.blk s H C0 cl fp) c3).2)
              (fun s H C0 cl fp => chkC_ok c c6 (hX.blk b1.kind s H C0 cl fp)) (fun s H C0 cl fp => (chkE_ok el c7 (hX.blk b1.kind s H C0 cl fp)).1) c4 hk w.1.2 w.2
          | mk a =>
            cases a with
            | lc own g' it c el =>
              simp only [chkE] at h3
              obtain ⟨elt, tg', iter, ifs, scope, pos, rfl, c1, c2, c3, c4, c5, c6, c7⟩ := lc_parts (by simp only [chkE]; exact h3)
              simp only [swB, Bool.and_eq_true, Bool.not_eq_true'] at w
              obtain ⟨b1, b2⟩ := blkOk_eq c1
              exact s1_setLcM hX.ok hN hl (chkI_ok it c5 hX) (by rw [hX.hn, hX.hsc]; exact b1) b2 (hasB_eq c2) (fun s H C0 cl fp => (chkG_ok (hX.blk b1.kind s H C0 cl fp).ok hX.hn (StOk.blk s H C0 cl fp) c3).2)
                (fun s H C0 cl fp => chkC_ok c c6 (hX.blk b1.kind s H C0 cl fp)) (fun s H C0 cl fp => (chkE_ok el c7 (hX.blk b1.kind s H C0 cl fp)).1) c4 hk w.1.2 w.2
            | _ => cases h4
          | _ => cases h4
        · cases a with
          | dc own g' it c ke ve =>
            obtain ⟨kx, vx, tg', iter, ifs, scope, pos, rfl, c1, c2, c3, c4, c5, c6, c7, c8⟩ := dc_parts h3
            simp only [swB, Bool.and_eq_true, Bool.not_eq_true'] at w
            obtain ⟨b1, b2⟩ := blkOk_eq c1
            exact s1_setDc hX.ok hN hl (chkI_ok it c5 hX) (by rw [hX.hn, hX.hsc]; exact b1) b2 (hasB_eq c2) (fun s H C0 cl fp => (chkG_ok (hX.blk b1.kind s H C0 cl fp).ok hX.hn (StOk.blk s H C0 cl fp) c3).2)
              (fun s H C0 cl fp => chkC_ok c c6 (hX.blk b1.kind s H C0 cl fp)) (fun s H C0 cl fp => (chkE_ok ke c7 (hX.blk b1.kind s H C0 cl fp)).1) (fun s H C0 cl fp => (chkE_ok ve c8 (hX.blk b1.kind s H C0 cl fp)).1) c4 hk w.1.2 w.2
          | mk a =>
            cases a with
            | dc own g' it c ke ve =>
              simp only [chkE] at h3
              obtain ⟨kx, vx, tg', iter, ifs, scope, pos, rfl, c1, c2, c3, c4, c5, c6, c7, c8⟩ := dc_parts (by simp only [chkE]; exact h3)
              simp only [swB, Bool.and_eq_true, Bool.not_eq_true'] at w
              obtain ⟨b1, b2⟩ := blkOk_eq c1
              exact s1_setDcM hX.ok hN hl (chkI_ok it c5 hX) (by rw [hX.hn, hX.hsc]; exact b1) b2 (hasB_eq c2) (fun s H C0 cl fp => (chkG_ok (hX.blk b1.kind s H C0 cl fp).ok hX.hn (StOk.blk s H C0 cl fp) c3).2)
                (fun s H C0 cl fp => chkC_ok c c6 (hX.blk b1.kind s H C0 cl fp)) (fun s H C0 cl fp => (chkE_ok ke c7 (hX.blk b1.kind s H C0 cl fp)).1) (fun s H C0 cl fp => (chkE_ok ve c8 (hX.blk b1.kind s H C0 cl fp)).1) c4 hk w.1.2 w.2
            | _ => cases h4
          | _ => cases h4
      · refine s1_setG hX.ok hN ?_ (chkE_ok a h3 hX).1 ?_
        · rcases h2 with q | q
          · exact .inl (hs.loc x (isLoc_eq q))
          · exact .inr (hs.cel x (isCellN_eq q))
        · rw [sw_eq (by rw [hX.hsc]; exact hX.fk), hX.hsc, Bool.not_eq_true] at *
          rw [w]
    · cases h
  · split at h
    · rename_i es v1
      simp only [Bool.and_eq_true] at h
      obtain ⟨j, tp, rfl⟩ := vTuple_eq v1
      exact s1_tup hX.ok (chkG_ok hX.ok hX.hn hs h.1.1).1 (chkE_ok a h.2 hX).1 (stores_noneS (by rw [hX.hsc]; exact h.1.2))
    · cases h
theorem chkPar_ok (hX : At C k N sc X) (hs : StOk sc X) {is : List Nat} {a : E} {tg e : Expr} {p : Pos} (h : chkPar C.T C.G N is a sc tg e = true) : S1 X (orc C.T k) (.Assign [tg] e p) (.par is a) := by
  have hk : X.env.scope.kind = .function := by rw [hX.hsc]; exact hX.fk
  have loc : ∀ {x : Str}, isLoc sc x = true → X.env.scope.names.lookup x = some .local := fun q => hs.loc _ (isLoc_eq q)
  have nm : ∀ {i : Nat} {x : Str}, nameAt N i x = true → X.N[i]? = some x := fun q => by rw [hX.hn]; exact nameAt_eq q
  unfold chkPar at h
  split at h
  · rename_i t1 t2 e1 e2 v1 v2
    simp only [Bool.and_eq_true] at h
    obtain ⟨⟨h1, h2⟩, h3⟩ := h
    split at h1
    · rename_i i j
      unfold tyPar2 at h1
      split at h1
      · rename_i x px y py n1 n2
        simp only [Bool.and_eq_true, Bool.not_eq_true', decide_eq_false_iff_not] at h1
        obtain ⟨⟨⟨⟨⟨⟨a1, a2⟩, a3⟩, a4⟩, a5⟩, a6⟩, a7⟩ := h1
        obtain ⟨j1, p1, rfl⟩ := vTuple_eq v1
        obtain ⟨j2, p2, rfl⟩ := vTuple_eq v2
        have z1 : t1 = .Name x px := vName_eq n1
        have z2 : t2 = .Name y py := vName_eq n2
        subst z1 z2
        simp only [notAll, Bool.and_eq_true, Bool.not_eq_true'] at h2
        obtain ⟨r1, r2⟩ := chkA_ok a h3 hX
        exact s1_par2 hX.ok (nm a1) (nm a2) (loc a3) (loc a4) a7 hk a5 a6 r2 h2.1 h2.2 r1
      · cases h1
    · cases h1
  · rename_i t1 t2 t3 e1 e2 e3 v1 v2
    simp only [Bool.and_eq_true] at h
    obtain ⟨⟨h1, h2⟩, h3⟩ := h
    split at h1
    · rename_i i j l
      unfold tyPar3 at h1
      split at h1
      · rename_i x px y py z pz n1 n2 n3
        simp only [Bool.and_eq_true, Bool.not_eq_true', decide_eq_false_iff_not] at h1
        obtain ⟨⟨⟨⟨⟨⟨⟨⟨⟨⟨⟨⟨⟨a1, a2⟩, a2'⟩, a3⟩, a4⟩, a4'⟩, a5⟩, a5'⟩, a6⟩, a6'⟩, a6''⟩, a7⟩, a7'⟩, a7''⟩ := h1
        obtain ⟨j1, p1, rfl⟩ := vTuple_eq v1
        obtain ⟨j2, p2, rfl⟩ := vTuple_eq v2
        have z1 : t1 = .Name x px := vName_eq n1
        have z2 : t2 = .Name y py := vName_eq n2
        have z3 : t3 = .Name z pz := vName_eq n3
        subst z1 z2 z3
        simp only [notAll, Bool.and_eq_true, Bool.not_eq_true'] at h2
        obtain ⟨r1, r2⟩ := chkA_ok a h3 hX
        exact s1_par3 hX.ok (nm a1) (nm a2) (nm a2') (loc a3) (loc a4) (loc a4') a7 a7' a7'' hk a5 a5' a6 a6' a6'' r2 h2.1 h2.2 r1
      · cases h1
    · cases h1
  · cases h
mutual
theorem chk1_ok : ∀ (s : S) {sc : Scope} {st : Stmt}, chk1 C.T C.G N s sc st = true → ∀ {X : Cx}, At C k N sc X → StOk sc X → S1 X (orc C.T k) st s
  | .asg g a, sc, st, h, X, hX, hs => by
    simp only [chk1] at h
    split at h
    · rename_i tg e v1
      obtain ⟨p, rfl⟩ := vAssign_eq v1
      exact chkAsg_ok hX hs h
    · cases h
  | .par is a, sc, st, h, X, hX, hs => by
    simp only [chk1] at h
    split at h
    · rename_i tg e v1
      obtain ⟨p, rfl⟩ := vAssign_eq v1
      exact chkPar_ok hX hs h
    · cases h
  | .seti i k' a, sc, st, h, X, hX, hs => by
    simp only [chk1] at h
    split at h
    · rename_i tg e v1
      split at h
      · rename_i ob ix v2
        simp only [Bool.and_eq_true, Bool.not_eq_true'] at h
        obtain ⟨⟨⟨h1, h2⟩, h3⟩, h4⟩ := h
        obtain ⟨p, rfl⟩ := vAssign_eq v1
        obtain ⟨p2, z⟩ := vSub_eq v2
        have z : tg = .Subscript ob ix p2 := z
        subst z
        split at h1
        · rename_i x px v3
          simp only [Bool.and_eq_true] at h1
          have z : ob = .Name x px := vName_eq v3
          subst z
          exact s1_seti hX.ok (se_slot (by rw [hX.hn]; exact nameAt_eq h1.1.1) (hX.vis h1.1.2) (fineN_eq h1.2).1 (fineN_eq h1.2).2) (chkE_ok k' h3 hX).1 (chkE_ok a h4 hX).1 h2
        · cases h1
      · cases h
    · cases h
  | .app i a, sc, st, h, X, hX, hs => by
    simp only [chk1] at h
    split at h
    · rename_i ex v1
      split at h
      · rename_i ob m e1 l v2
        simp only [Bool.and_eq_true, Bool.not_eq_true', decide_eq_true_eq] at h
        obtain ⟨⟨⟨⟨rfl, h2⟩, h3⟩, h4⟩, h5⟩ := h
        obtain ⟨p, rfl⟩ := vExprS_eq v1
        obtain ⟨p2, q2, z, hl⟩ := vMeth_eq v2
        subst z
        split at h4
        · rename_i x px v3
          simp only [Bool.and_eq_true] at h4
          have z : ob = .Name x px := vName_eq v3
          subst z
          exact s1_app (se_slot (by rw [hX.hn]; exact nameAt_eq h4.1.1) (hX.vis h4.1.2) (fineN_eq h4.2).1 (fineN_eq h4.2).2) (chkE_ok a h5 hX).1 h3 (hl.trans h2)
        · cases h4
      · cases h
    · cases h
  | .upd i a, sc, st, h, X, hX, hs => by
    simp only [chk1] at h
    split at h
    · rename_i ex v1
      split at h
      · rename_i ob m e1 l v2
        simp only [Bool.and_eq_true, Bool.not_eq_true', decide_eq_true_eq] at h
        obtain ⟨⟨⟨⟨rfl, h2⟩, h3⟩, h4⟩, h5⟩ := h
        obtain ⟨p, rfl⟩ := vExprS_eq v1
        obtain ⟨p2, q2, z, hl⟩ := vMeth_eq v2
        subst z
        split at h4
        · rename_i x px v3
          simp only [Bool.and_eq_true] at h4
          have z : ob = .Name x px := vName_eq v3
          subst z
          exact s1_upd (se_slot (by rw [hX.hn]; exact nameAt_eq h4.1.1) (hX.vis h4.1.2) (fineN_eq h4.2).1 (fineN_eq h4.2).2) (chkE_ok a h5 hX).1 h3 (hl.trans h2)
        · cases h4
      · cases h
    · cases h
  | .exp a, sc, st, h, X, hX, hs => by
    simp only [chk1] at h
    split at h
    · rename_i ex v1
      simp only [Bool.and_eq_true, Bool.not_eq_true'] at h
      obtain ⟨p, rfl⟩ := vExprS_eq v1
      exact s1_exp (chkE_ok a h.2 hX).1 h.1
    · cases h
  | .ret a, sc, st, h, X, hX, hs => by
    simp only [chk1] at h
    split at h
    · rename_i e v1
      obtain ⟨p, rfl⟩ := vRet_eq v1
      exact s1_ret (chkE_ok a h hX).1
    · cases h
  | .retN, sc, st, h, X, hX, hs => by
    simp only [chk1] at h
    split at h
    · rename_i v1
      obtain ⟨p, rfl⟩ := vRet_eq v1
      exact s1_retN
    · cases h
  | .ite t a b, sc, st, h, X, hX, hs => by
    simp only [chk1] at h
    split at h
    · rename_i et ea eb v1
      simp only [Bool.and_eq_true] at h
      obtain ⟨p, rfl⟩ := vIfS_eq v1
      exact s1_ite (chkT_ok t h.1.1 hX).1 (dropLead_ok (chkS_ok a h.1.2 hX hs)) (dropLead_ok (chkS_ok b h.2 hX hs))
    · cases h
  | .for_ g it b, sc, st, h, X, hX, hs => by
    simp only [chk1] at h
    split at h
    · rename_i tg iter body v1
      simp only [Bool.and_eq_true, Bool.not_eq_true'] at h
      obtain ⟨p, rfl⟩ := vFor_eq v1
      exact s1_for hX.ok (chkI_ok it h.1.2 hX) (chkG_ok hX.ok hX.hn hs h.1.1.1).2 (dropLead_ok (chkS_ok b h.2 hX hs)) h.1.1.2
    · cases h
  | .while_ t b, sc, st, h, X, hX, hs => by
    simp only [chk1] at h
    split at h
    · rename_i et body v1
      simp only [Bool.and_eq_true] at h
      obtain ⟨p, rfl⟩ := vWhile_eq v1
      exact s1_while hX.ok (chkT_ok t h.1 hX).1 (dropLead_ok (chkS_ok b h.2 hX hs))
    · cases h
  | .never, sc, st, h, X, hX, hs => s1_never
  | .nil, sc, st, h, X, hX, hs => by simp [chk1] at h
  | .seq _ _, sc, st, h, X, hX, hs => by simp [chk1] at h
  | .frz _, sc, st, h, X, hX, hs => by simp [chk1] at h
theorem chkS_ok : ∀ (s : S) {sc : Scope} {sts : List Stmt}, chkS C.T C.G N s sc sts = true → ∀ {X : Cx}, At C k N sc X → StOk sc X → SS X (orc C.T k) sts s
  | .nil, sc, sts, h, X, hX, hs => by
    simp only [chkS] at h
    rw [isEmptyL_eq h]
    exact ss_nil
  | .seq a b, sc, sts, h, X, hX, hs => by
    cases a with
    | frz i =>
      simp only [chkS] at h
      exact ss_frz (chkS_ok b h hX hs)
    | _ =>
      simp only [chkS] at h
      split at h
      · rename_i st r
        simp only [Bool.and_eq_true] at h
        exact ss_seq (chk1_ok _ h.1 hX hs) (chkS_ok b h.2 hX hs)
      · cases h
  | .never, sc, sts, h, X, hX, hs => ss_never
  | .asg _ _, sc, sts, h, X, hX, hs => by simp [chkS] at h
  | .par _ _, sc, sts, h, X, hX, hs => by simp [chkS] at h
  | .seti _ _ _, sc, sts, h, X, hX, hs => by simp [chkS] at h
  | .app _ _, sc, sts, h, X, hX, hs => by simp [chkS] at h
  | .upd _ _, sc, sts, h, X, hX, hs => by simp [chkS] at h
  | .exp _, sc, sts, h, X, hX, hs => by simp [chkS] at h
  | .frz _, sc, sts, h, X, hX, hs => by simp [chkS] at h
  | .ret _, sc, sts, h, X, hX, hs => by simp [chkS] at h
  | .retN, sc, sts, h, X, hX, hs => by simp [chkS] at h
  | .ite _ _ _, sc, sts, h, X, hX, hs => by simp [chkS] at h
  | .for_ _ _ _, sc, sts, h, X, hX, hs => by simp [chkS] at h
  | .while_ _ _, sc, sts, h, X, hX, hs => by simp [chkS] at h
end
end
end Rf

set_option Elab.async false
set_option linter.all false
set_option maxRecDepth 100000
set_option maxHeartbeats 4000000
namespace Rf
open PySem PySem.Spec L2

/-! ### a def keeps what its term promises -/
section
variable {K : Frag}
theorem RepDs.get' {R : Hp} {xs : List D} {vs : List V} (r : RepDs K R xs vs) {i : Nat} {x : D} (h : xs[i]? = some x) : ∃ v, vs[i]? = some v ∧ RepD K R x v := r.get h
theorem env_pure {R : Hp} {xs : List D} {vs : List V} {d : Def} (rs : RepDs K R xs vs) (hl : xs.length = d.ps.length) {H : Hp} (s : Sub R H) : Rel K R [] (envOf d (xs.map .d)) [] (L2.start d.N vs) H := by
  refine ⟨s, rfl, fun n nd a e _ => by simp [cellAt] at e, fun n m nd nd' a e _ _ _ => by simp [cellAt] at e, fun i w e => ?_, ?_⟩
  · unfold wAt envOf at e
    by_cases hi : i < xs.length
    · rw [List.getElem?_append_left (by simpa using hi), List.map_map, List.getElem?_map] at e
      obtain ⟨x, hx⟩ : ∃ x, xs[i]? = some x := ⟨xs[i], List.getElem?_eq_getElem hi⟩
      rw [hx] at e
      cases e
      obtain ⟨v, h1, h2⟩ := rs.get hx
      refine ⟨v, ?_, h2⟩
      unfold L2.start
      rw [List.getElem?_append_left (by rw [List.length_map, ← rs.length]; exact hi), List.getElem?_map, h1]
      rfl
    · rw [List.getElem?_append_right (by simpa using hi), List.getElem?_replicate] at e
      split at e
      · rename_i q; split at q <;> cases q
      · cases e
  · unfold envOf L2.start
    simp only [List.length_append, List.length_map, List.length_replicate]
    rw [← rs.length, hl]
theorem env_cells {R : Hp} {φ : List Addr} {ws : List W} {vs : List V} {d : Def} {M : Store} {H : Hp} (r : Rel K R φ [] M [] H) (rs : RepWs K R φ ws vs) (hl : ws.length = d.ps.length) : Rel K R φ (envOf d ws) M (L2.start d.N vs) H := by
  have len : ws.length = vs.length := Paired.length rs
  have get : ∀ {ws : List W} {vs : List V} {i : Nat} {w : W}, RepWs K R φ ws vs → ws[i]? = some w → ∃ v, vs[i]? = some v ∧ RepW K R φ w v := by
    intro ws
    induction ws with
    | nil => intro vs i w _ e; simp at e
    | cons a t ih =>
      intro vs i w p e
      cases p with
      | cons p ps =>
        cases i with
        | zero => simp at e; subst e; exact ⟨_, rfl, p⟩
        | succ i => obtain ⟨v, h1, h2⟩ := ih ps (by simpa using e); exact ⟨v, by simpa using h1, h2⟩
  refine ⟨r.sub, r.len, r.cells, r.inj, fun i w e => ?_, ?_⟩
  · unfold wAt envOf at e
    by_cases hi : i < ws.length
    · rw [List.getElem?_append_left (by simpa using hi), List.getElem?_map] at e
      obtain ⟨x, hx⟩ : ∃ x, ws[i]? = some x := ⟨ws[i], List.getElem?_eq_getElem hi⟩
      rw [hx] at e
      cases e
      obtain ⟨v, h1, h2⟩ := get rs hx
      refine ⟨v, ?_, h2⟩
      unfold L2.start
      rw [List.getElem?_append_left (by rw [List.length_map, ← len]; exact hi), List.getElem?_map, h1]
      rfl
    · rw [List.getElem?_append_right (by simpa using hi), List.getElem?_replicate] at e
      split at e
      · rename_i q; split at q <;> cases q
      · cases e
  · unfold envOf L2.start
    simp only [List.length_append, List.length_map, List.length_replicate]
    rw [← len, hl]
theorem ext_pure {R R' : Hp} {H H' : Hp} {φ' : List Addr} {M' : Store} (x : Ext R [] [] H R' φ' M' H') : Ext R [] [] H R' [] [] H' :=
  ⟨x.le, List.prefix_refl _, Nat.le_refl _, x.new, x.fr, fun a ⟨n, nd, e, _⟩ => by simp [cellAt] at e, x.dom⟩
theorem repR_pure {R' : Hp} {H H' : Hp} {φ' : List Addr} {M' : Store} {x : D} {fr : Bool} {v : V} (p : RepR K R' φ' M' H' H (.d x, fr) v) : RepR K R' [] [] H' H (.d x, fr) v := by
  unfold RepR at p ⊢
  split at p
  · rename_i hq
    rw [if_pos hq]
    obtain ⟨d, a, e1, e2, e3, nd, e4, e5, e6, _⟩ := p
    exact ⟨d, a, e1, e2, e3, nd, e4, e5, e6, fun ⟨n, nd, e, _⟩ => by simp [cellAt] at e⟩
  · rename_i hq
    rw [if_neg hq]
    exact p
theorem cell_take {M : Store} {n j : Nat} {nd : Node} (h : cellAt (M.take n) j = some nd) : cellAt M j = some nd ∧ j < n := by
  have z := cellAt_some h
  have hl := cellAt_lt h
  rw [List.length_take] at hl
  have hj : j < n := by omega
  rw [List.getElem?_take_of_lt hj] at z
  exact ⟨cellAt_of z, hj⟩
theorem back_cells {R R' : Hp} {H H' : Hp} {φ φ' : List Addr} {M M' : Store} {ρ' : REnv} {σ' : L2.St} (hl : φ.length = M.length) (r : Rel K R' φ' ρ' M' σ' H') (x : Ext R φ M H R' φ' M' H') :
    Rel K R' φ [] (M'.take M.length) [] H' ∧ Ext R φ M H R' φ (M'.take M.length) H' := by
  have ph : ∀ {j : Nat} {a : Addr}, j < M.length → φ[j]? = some a → φ'[j]? = some a := fun {j a} h e => by
    obtain ⟨t, z⟩ := x.pre
    rw [← z, List.getElem?_append_left (by rw [hl]; exact h)]; exact e
  have lv : ∀ {a}, Live φ (M'.take M.length) a → Live φ' M' a := fun {a} ⟨n, nd, e, q⟩ => by
    obtain ⟨e1, e2⟩ := cell_take e
    exact ⟨n, nd, e1, ph e2 q⟩
  have tl : (M'.take M.length).length = M.length := by rw [List.length_take, Nat.min_eq_left x.mlen]
  refine ⟨⟨r.sub, by rw [tl]; exact hl, fun n nd a e q => ?_, fun n m nd nd' a e1 e2 q1 q2 => ?_, fun i w e => by simp [wAt] at e, rfl⟩, ⟨x.le, List.prefix_refl _, by rw [tl]; exact Nat.le_refl _, x.new, x.fr, fun a l => x.liv a (lv l), x.dom⟩⟩
  · obtain ⟨e1, e2⟩ := cell_take e
    exact r.cells n nd a e1 (ph e2 q)
  · obtain ⟨a1, a2⟩ := cell_take e1
    obtain ⟨b1, b2⟩ := cell_take e2
    exact r.inj n m nd nd' a a1 b1 (ph a2 q1) (ph b2 q2)
theorem repR_cells {R R' : Hp} {H H' : Hp} {φ φ' : List Addr} {M M' : Store} (hl : φ.length = M.length) (x : Ext R φ M H R' φ' M' H') {y : D} {fr : Bool} {v : V} (p : RepR K R' φ' M' H' H (.d y, fr) v) : RepR K R' φ (M'.take M.length) H' H (.d y, fr) v := by
  unfold RepR at p ⊢
  split at p
  · rename_i hq
    rw [if_pos hq]
    obtain ⟨d, a, e1, e2, e3, nd, e4, e5, e6, e7⟩ := p
    refine ⟨d, a, e1, e2, e3, nd, e4, e5, e6, fun ⟨n, nd, e, q⟩ => e7 ?_⟩
    obtain ⟨a1, a2⟩ := cell_take e
    obtain ⟨t, z⟩ := x.pre
    exact ⟨n, nd, a1, by rw [← z, List.getElem?_append_left (by rw [hl]; exact a2)]; exact q⟩
  · rename_i hq
    rw [if_neg hq]
    exact p
end

/-! ### the table of a module's defs -/
def argNames : List Arg → List Str
  | [] => []
  | a :: r => a.arg :: argNames r
def scOk (N P : List Str) (sc : Scope) : Bool :=
  decide (sc.kind = .function) && !sc.isCoroutine && !sc.isGenerator && decide N.Nodup && decide (N.take P.length = P) && P.all (fun x => isLoc sc x || isCellN sc x) && sc.names.all (fun y => !decide (y.2 = .free))
theorem scOk_eq {N P : List Str} {sc : Scope} (h : scOk N P sc = true) : FnScope N P sc := by
  unfold scOk at h
  simp only [Bool.and_eq_true, Bool.not_eq_true', decide_eq_true_eq, List.all_eq_true, Bool.or_eq_true, decide_eq_false_iff_not] at h
  obtain ⟨⟨⟨⟨⟨⟨h1, h2⟩, h3⟩, h4⟩, h5⟩, h6⟩, h7⟩ := h
  refine ⟨h1, h2, h3, h4, h5, fun x hx => ?_, h7⟩
  rcases h6 x hx with q | q
  · exact .inl (isLoc_eq q)
  · exact .inr (isCellN_eq q)
def chkDef (C : Ctx) (d : Def) (st : Stmt) : Bool := scOk d.N d.ps (defScope st) && chkS C.T C.G d.N d.body (defScope st) (dropLead (defBody st))
/-- how its arguments bind -/
def BindOk (d : Def) (st : Stmt) : Prop := ∀ (kV doc pm : Value) (an : Option Addr) (cdv ct : Value),
  (∀ us : List Value, us.length = d.ps.length → bindArgs (PySem.W.fnOf d.name d.name (defArgs st) (defBody st) (defScope st) .none kV doc pm an cdv ct) ⟨us, []⟩ = pure (d.ps.zip us)) ∧
  ∀ q ∈ d.kwo, ∀ ws : List Value, ws.length = q.1.length → bindArgs (PySem.W.fnOf d.name d.name (defArgs st) (defBody st) (defScope st) .none kV doc pm an cdv ct) ⟨[], q.1.zip ws⟩ = pure (d.ps.zip (q.2.filterMap fun j => ws[j]?))
/-- it stands in the module -/
def DefIn (K : Frag) (f : Str) (st : Stmt) : Prop := ∃ (fa : Addr) (oc : Value) (od an : Option Addr) (osl : Array (Option Value)) (kV doc pm cdv ct : Value), PySem.W.nsIn K mainGlobals f = some (some (.ref fa)) ∧
  K.lookup fa = some ⟨oc, od, .func (PySem.W.fnOf f f (defArgs st) (defBody st) (defScope st) .none kV doc pm an cdv ct), osl⟩ ∧ PySem.W.codeIn K cdv f = true ∧ PySem.W.keepIn K (.ref fa) = true
theorem DefIn.mk {K : Frag} {f : Str} {st : Stmt} {fa : Addr} {oc : Value} {od an : Option Addr} {osl : Array (Option Value)} {kV doc pm cdv ct : Value} (a : PySem.W.nsIn K mainGlobals f = some (some (.ref fa)))
    (l : K.lookup fa = some ⟨oc, od, .func (PySem.W.fnOf f f (defArgs st) (defBody st) (defScope st) .none kV doc pm an cdv ct), osl⟩) (c : PySem.W.codeIn K cdv f = true) (k : PySem.W.keepIn K (.ref fa) = true) : DefIn K f st := ⟨fa, oc, od, an, osl, kV, doc, pm, cdv, ct, a, l, c, k⟩
/-- a def and its text -/
abbrev Row := Def × Stmt
def AllR (P : Row → Prop) : List Row → Prop
  | [] => True
  | r :: rs => P r ∧ AllR P rs
theorem AllR.mem {P : Row → Prop} : ∀ {rs : List Row}, AllR P rs → ∀ r ∈ rs, P r
  | [], _, _, h => by cases h
  | a :: rs, h, r, hm => by
    rcases List.mem_cons.mp hm with rfl | hm
    · exact h.1
    · exact AllR.mem h.2 r hm
theorem findDef_mem : ∀ {rs : List Row} {f : Str} {d : Def}, findDef (rs.map (·.1)) f = some d → ∃ st, (d, st) ∈ rs ∧ d.name = f
  | [], _, _, h => by cases h
  | (e, st) :: rs, f, d, h => by
    simp only [List.map_cons, findDef] at h
    split at h
    · rename_i q
      cases h
      exact ⟨st, List.mem_cons_self, q⟩
    · obtain ⟨st', h1, h2⟩ := findDef_mem h
      exact ⟨st', List.mem_cons_of_mem _ h1, h2⟩
structure Tab (rs : List Row) (G : List (Str × D)) (K : Frag) (mg : Str → Option Value) : Prop where
  chk : rs.all (fun r => chkDef ⟨rs.map (·.1), G⟩ r.1 r.2) = true
  bind : AllR (fun r => BindOk r.1 r.2) rs
  here : AllR (fun r => DefIn K r.1.name r.2) rs
  glb : ∀ f v, PySem.W.nsIn K mainGlobals f = some (some v) → mg f = some v
  blt : ∀ x ∈ bltNames, mg x = none
  glob : ∀ x d, (x, d) ∈ G → ∃ u v, mg x = some u ∧ RelV v u ∧ ∀ R, RepD K R d v
section
variable {P : Program} {w : World} {K : Frag} {mg : Str → Option Value} {base : Heap} {rs : List Row} {G : List (Str × D)}
theorem body_ok {C : Ctx} {k : Nat} {X : Cx} {d : Def} {st : Stmt} (hX : XOk C k X) (hN : X.N = d.N) (hsc : X.env.scope = defScope st) (hf : X.fn = fun _ => true) (hc : chkDef C d st = true) {ρ : REnv} {M : Store} {out : Out} (ev : evS (orc C.T k) d.body ρ M = some out)
    {R : Hp} {φ : List Addr} {σ : L2.St} {H : Hp} (rel : Rel X.K R φ ρ M σ H) {D : Ends} (p : Post X R φ M H D out) : wSs X (defBody st) D σ H := by
  unfold chkDef at hc
  rw [Bool.and_eq_true] at hc
  have sc := scOk_eq hc.1
  have at' : At C k d.N (defScope st) X := ⟨hX, hN, hsc, sc.kind⟩
  have so : StOk (defScope st) X := ⟨fun x h => by rw [hsc]; exact h, fun x h => ⟨by rw [hsc]; exact h, by rw [hf]⟩⟩
  exact dropLead_ok (chkS_ok d.body hc.2 at' so) ρ M out ev R φ σ H rel D p
theorem defs_ok (T : Tab rs G K mg) : ∀ k f d, findDef (rs.map (·.1)) f = some d → ∃ fa fd, mg f = some (.ref fa) ∧ PySem.W.keepIn K (.ref fa) = true ∧ Binds K fd d.ps [] ∧
    (∀ q ∈ d.kwo, ∀ (s : Shared) (ws : List Value), K.In s.heap → ws.length = q.1.length → BindsTo s fd ⟨[], q.1.zip ws⟩ (d.ps.zip (q.2.filterMap fun j => ws[j]?))) ∧
    FnOk P w K mg base CX0 k fa fd d.ps (spD K (orc (rs.map (·.1)) k) f) ∧ ∃ oc od osl, K.lookup fa = some ⟨oc, od, .func fd, osl⟩
  | k, f, d, hf => by
    obtain ⟨st, hm, hn⟩ := findDef_mem hf
    subst hn
    have bd := T.bind.mem _ hm
    obtain ⟨fa, oc, od, an, osl, kV, doc, pm, cdv, ct, a, l, c, kp⟩ := T.here.mem _ hm
    have ck : chkDef ⟨rs.map (·.1), G⟩ d st = true := (List.all_eq_true.mp T.chk) _ hm
    have F := fun_mk (x := d.name) (qual := d.name) (st := st) l c kp
    have bd' := bd kV doc pm an cdv ct
    have sc : FnScope d.N d.ps (defScope st) := by
      unfold chkDef at ck
      rw [Bool.and_eq_true] at ck
      exact scOk_eq ck.1
    have len : ∀ k vs H Q E, spD K (orc (rs.map (·.1)) k) d.name vs H Q E → vs.length = d.ps.length := by
      intro k vs H Q E h
      rcases h with ⟨R, xs, r, rx, _, e, _⟩ | ⟨R, φ, ws, M, r, M', _, rw', e, _⟩
      · rw [← rx.length]; exact orc_len hf e
      · rw [← Paired.length rw']
        cases k with
        | zero => cases e
        | succ k =>
          have e : runM (orc (rs.map (·.1)) k) (rs.map (·.1)) d.name ws M = some (r, M') := e
          unfold runM at e
          rw [hf] at e
          simp only [] at e
          split at e
          · assumption
          · cases e
    refine ⟨fa, _, T.glb _ _ a, kp, .all fun us hl => bd'.1 us hl, fun q hq s ws _ hl => .of_eq (bd'.2 q hq ws hl), ?_, oc, od, osl, l⟩
    cases k with
    | zero =>
      refine ⟨len 0, fun A outer s H args us vs Q E _ _ _ _ h => ?_⟩
      rcases h with ⟨R, xs, r, rx, _, e, _⟩ | ⟨R, φ, ws, M, r, M', _, rw', e, _⟩ <;> cases e
    | succ k =>
      refine F.ok sc (len (k + 1)) fun cdv A outer s H vs Q E hr h => ⟨_, wSs_pss, ?_⟩
      have hX : XOk ⟨rs.map (·.1), G⟩ k (cxOf CX0 P w K mg base d.N d.name (defScope st) fa cdv A outer s H E).nox :=
        ⟨rfl, rfl, hr, sc.nd, T.blt, T.glob, fun f' d' hf' => let ⟨a1, a2, a3, a4, a5, a6, a7, _⟩ := defs_ok T k f' d' hf'; ⟨a1, a2, a3, a4, a5, a6, a7⟩⟩
      rcases h with ⟨R, xs, r, rx, hs, e, q⟩ | ⟨R, φ, ws, M, r, M', r0, rx, e, q⟩
      · have e : runP (orc (rs.map (·.1)) k) (rs.map (·.1)) d.name xs = some r := e
        unfold runP at e
        rw [hf] at e
        simp only [] at e
        split at e
        · rename_i hl
          split at e
          · rename_i x fr M1 ev
            cases e
            exact body_ok hX rfl rfl rfl ck ev (env_pure rx hl hs) fun R' φ' H' v r' x' p' => q R' H' v r'.sub (ext_pure x') (repR_pure p')
          · rename_i ρ1 M1 ev
            cases e
            exact body_ok hX rfl rfl rfl ck ev (env_pure rx hl hs) fun R' φ' σ' H' r' x' => q R' H' _ r'.sub (ext_pure x') (.frz .non)
          · cases e
        · cases e
      · have e : runM (orc (rs.map (·.1)) k) (rs.map (·.1)) d.name ws M = some (r, M') := e
        unfold runM at e
        rw [hf] at e
        simp only [] at e
        split at e
        · rename_i hl
          split at e
          · rename_i x fr M1 ev
            cases e
            exact body_ok hX rfl rfl rfl ck ev (env_cells r0 rx hl) fun R' φ' H' v r' x' p' => by
              obtain ⟨r2, x2⟩ := back_cells r0.len r' x'
              exact q R' φ H' v r2 x2 (repR_cells r0.len x' p')
          · rename_i ρ1 M1 ev
            cases e
            exact body_ok hX rfl rfl rfl ck ev (env_cells r0 rx hl) fun R' φ' σ' H' r' x' => by
              obtain ⟨r2, x2⟩ := back_cells r0.len r' x'
              exact q R' φ H' _ r2 x2 (.frz .non)
          · cases e
        · cases e
end
/-- the law's own def -/
def spLaw (K : Frag) : Sp := fun vs H Q _ => ∃ (a : Addr) (ns : List Int), vs = [.ref a] ∧ SqL K H a (ns.map V.int) ∧ ns.length ≤ 63 ∧ ∀ H', Q (.bl true) H'
theorem law_ok {P : Program} {w : World} {K : Frag} {mg : Str → Option Value} {rs : List Row} {G : List (Str × D)} (T : Tab rs G K mg) {k : Nat} {f x : Str} {d : Def} (hf : findDef (rs.map (·.1)) f = some d) (hp : d.ps = [x]) {fa : Addr} (hfa : mg f = some (.ref fa))
    (ev : ∀ ns : List Int, ns.length ≤ 63 → (orc (rs.map (·.1)) k).p f [.scr ns] = some (.bl true, false)) :
    ∃ fd : FuncData, (∀ (s : Shared) (u : Value), BindsTo s fd ⟨[u], []⟩ [(x, u)]) ∧ ∀ base : Heap, K.In base → base.Ns mainGlobals mg → FnOk P w K mg base CX0 k fa fd [x] (spLaw K) := by
  obtain ⟨st, hm, hn⟩ := findDef_mem hf
  subst hn
  have bd := T.bind.mem _ hm
  obtain ⟨fb, oc, od, an, osl, kV, doc, pm, cdv, ct, a, l, c, kp⟩ := T.here.mem _ hm
  have e1 := T.glb _ _ a
  rw [hfa] at e1
  cases e1
  refine ⟨_, fun s u => .of_eq (((bd kV doc pm an cdv ct).1 [u] (by rw [hp]; rfl)).trans (by rw [hp]; rfl)), fun base _ _ => ?_⟩
  obtain ⟨fc, fd, h1, _, _, _, F, oc', od', osl', l'⟩ := defs_ok (P := P) (w := w) (base := base) T k d.name d hf
  rw [hfa] at h1
  cases h1
  rw [l] at l'
  cases l'
  rw [← hp]
  refine F.imp fun vs H Q E h => ?_
  obtain ⟨a, ns, rfl, hs, hl, q⟩ := h
  refine .inl ⟨fun b => if b = a then H a else none, [.scr ns], _, .cons (.scr ?_) .nil, fun b o e => ?_, ev ns hl, fun R' H' v _ _ p => ?_⟩
  · rcases hs with (s | ⟨o, s⟩) | s
    · exact .inl (.inl (by show (if a = a then H a else none) = _; rw [if_pos rfl]; exact s))
    · exact .inl (.inr ⟨o, by show (if a = a then H a else none) = _; rw [if_pos rfl]; exact s⟩)
    · exact .inr s
  · have e : (if b = a then H a else none) = some o := e
    split at e
    · rename_i hb; subst hb; exact .inl e
    · cases e
  · unfold RepR at p
    rw [if_neg Bool.false_ne_true] at p
    cases p
    exact q H'
/-- the row's walk, from the table and the plain law -/
theorem walk {l : PySem.W.OpenLaw} {q : Program} {loose : List Str} {XP : (Str → Option Value) → Heap → Prop} {YP : World → Heap → Prop} {d : DefRec} {K : Params → Frag} {k : Nat} {x : Str} {dd : Def} {rs : List Row} {G : List (Str × D)} (hn : l.most = some 63) (hdf : d.params.defaults = []) (hr : Room k callerA)
    (hY : ∀ (w : World) (h : Heap), YP w h → (K w.params).In h) (hf : findDef (rs.map (·.1)) d.name = some dd) (hp : dd.ps = [x])
    (T : ∀ (w : World) (mg : Str → Option Value) (h : Heap), (K w.params).In h → h.Ns mainGlobals mg → Tab rs G (K w.params) mg)
    (ev : ∀ ns : List Int, ns.length ≤ 63 → (orc (rs.map (·.1)) k).p d.name [.scr ns] = some (.bl true, false)) :
    PySem.W.WalkO q loose XP YP l.row.toRowW d [] (fun f vs => PySem.call f vs) :=
  L2.walk_of (n := 63) (k := k) (x := x) (CX := fun _ => CX0) (sp := fun w => spLaw (K w.params)) hn (by decide) hdf hr hY (fun w mg fa h KX Gl hfa => law_ok (T w mg h KX Gl) hf hp hfa ev) (fun _ _ a ns hl _ hS => ⟨a, ns, rfl, hS, hl, fun _ => rfl⟩) fun _ _ _ _ _ z => z
theorem globS_mk {K : Frag} {x s : Str} {t : Tok} (a : PySem.W.nsIn K mainGlobals x = some (some (.str s t))) : ∃ v u, PySem.W.nsIn K mainGlobals x = some (some u) ∧ RelV v u ∧ ∀ R, RepD K R (.str s) v :=
  ⟨.str s, .str s t, a, ⟨t, rfl⟩, fun _ => .str s⟩
theorem globI_mk {K : Frag} {x : Str} {n : Int} {t : Tok} (a : PySem.W.nsIn K mainGlobals x = some (some (.int n t))) : ∃ v u, PySem.W.nsIn K mainGlobals x = some (some u) ∧ RelV v u ∧ ∀ R, RepD K R (.int n) v :=
  ⟨.int n, .int n t, a, ⟨t, rfl⟩, fun _ => .int n⟩
theorem mem_split {α : Type} {a b : α} {l : List α} (h : a ∈ b :: l) : a = b ∨ a ∈ l := List.mem_cons.mp h
theorem tab_mk {rs : List Row} {G : List (Str × D)} {K : Frag} {mg : Str → Option Value} {h : Heap} (KX : K.In h) (N : h.Ns mainGlobals mg) (chk : rs.all (fun r => chkDef ⟨rs.map (·.1), G⟩ r.1 r.2) = true) (bind : AllR (fun r => BindOk r.1 r.2) rs) (here : AllR (fun r => DefIn K r.1.name r.2) rs)
    (blt : ∀ x ∈ bltNames, PySem.W.nsIn K mainGlobals x = some none) (glob : ∀ x d, (x, d) ∈ G → ∃ v u, PySem.W.nsIn K mainGlobals x = some (some u) ∧ RelV v u ∧ ∀ R, RepD K R d v) : Tab rs G K mg :=
  ⟨chk, bind, here, fun f v e => PySem.W.mg_of KX N e, fun x hx => PySem.W.mg_none_of KX N (blt x hx), fun x d hm => let ⟨v, u, a, b, c⟩ := glob x d hm; ⟨u, v, PySem.W.mg_of KX N a, b, c⟩⟩
end Rf


set_option Elab.async false
set_option linter.all false
set_option maxRecDepth 100000
set_option maxHeartbeats 4000000
/-! Readings of the language from behind: what must hold so that what follows holds. -/
namespace Rf
open PySem L2
def oP {α : Type} (x : Option α) (Q : α → Prop) : Prop := match x with
  | some a => Q a
  | none => False
theorem oP_some {α : Type} (a : α) (Q : α → Prop) : oP (some a) Q = Q a := rfl
theorem oP_none {α : Type} (Q : α → Prop) : oP none Q = False := rfl
theorem oP.get {α : Type} {x : Option α} {Q : α → Prop} (h : oP x Q) : ∃ a, x = some a ∧ Q a := by
  cases x with
  | none => cases h
  | some a => exact ⟨a, rfl, h⟩
theorem oP.mk {α : Type} {x : Option α} {Q : α → Prop} {a : α} (h : x = some a) (q : Q a) : oP x Q := by rw [h]; exact q
theorem oP.imp {α : Type} {x : Option α} {Q Q' : α → Prop} (h : oP x Q) (i : ∀ a, Q a → Q' a) : oP x Q' := by
  cases x with
  | none => exact h
  | some a => exact i a h
theorem oP_ite {α : Type} {c : Prop} [Decidable c] {a : α} {Q : α → Prop} (h : c) (q : Q a) : oP (if c then some a else none) Q := by
  rw [if_pos h]; exact q
@[irreducible] def yE (o : Orc) (e : E) (ρ : REnv) (M : Store) (Q : W → Bool → Store → Prop) : Prop := oP (evE o e ρ M) fun r => Q r.1.1 r.1.2 r.2
@[irreducible] def yA (o : Orc) (e : E) (ρ : REnv) (M : Store) (Q : List W → Store → Prop) : Prop := oP (evA o e ρ M) fun r => Q r.1 r.2
@[irreducible] def yO (o : Orc) (e : E) (ρ : REnv) (M : Store) (Q : Option Int → Store → Prop) : Prop := oP (evO o e ρ M) fun r => Q r.1 r.2
@[irreducible] def yT (o : Orc) (e : E) (ρ : REnv) (M : Store) (Q : Bool → Store → Prop) : Prop := oP (evT o e ρ M) fun r => Q r.1 r.2
@[irreducible] def yC (o : Orc) (e : E) (ρ : REnv) (M : Store) (Q : Bool → Store → Prop) : Prop := oP (evC o e ρ M) fun r => Q r.1 r.2
@[irreducible] def yI (o : Orc) (e : E) (ρ : REnv) (M : Store) (Q : Bool → List D → Store → Prop) : Prop := oP (evI o e ρ M) fun r => Q r.1.1 r.1.2 r.2
@[irreducible] def yS (o : Orc) (s : S) (ρ : REnv) (M : Store) (Q : Out → Prop) : Prop := oP (evS o s ρ M) Q
section
variable {o : Orc} {ρ : REnv} {M : Store}
theorem yE.imp {e : E} {Q Q' : W → Bool → Store → Prop} (h : yE o e ρ M Q) (i : ∀ w f M, Q w f M → Q' w f M) : yE o e ρ M Q' := by
  unfold yE at *; exact oP.imp h fun _ => i _ _ _
theorem yS.imp {e : S} {Q Q' : Out → Prop} (h : yS o e ρ M Q) (i : ∀ w, Q w → Q' w) : yS o e ρ M Q' := by
  unfold yS at *; exact oP.imp h i
/-- data alone -/
def oD (w : W) (Q : D → Prop) : Prop := match w with
  | .d x => Q x
  | .cell _ => False
theorem oD_d (x : D) (Q : D → Prop) : oD (.d x) Q = Q x := rfl
/-! #### environments -/
theorem wAt_zero (w : W) (r : REnv) : wAt (some w :: r) 0 = some w := rfl
theorem wAt_succ (w : Option W) (r : REnv) (n : Nat) : wAt (w :: r) (n + 1) = wAt r n := by
  unfold wAt; rw [List.getElem?_cons_succ]
theorem putW_zero (w : Option W) (r : REnv) (u : W) : putW (w :: r) 0 u = some (some u :: r) := by
  unfold putW; rw [if_pos (by simp)]; rfl
theorem putW_succ (w : Option W) (r : REnv) (n : Nat) (u : W) : putW (w :: r) (n + 1) u = (putW r n u).map (w :: ·) := by
  unfold putW
  by_cases h : n < r.length
  · rw [if_pos h, if_pos (by rw [List.length_cons]; omega)]; rfl
  · rw [if_neg h, if_neg (by rw [List.length_cons]; omega)]; rfl
theorem map_some' {α β : Type} (f : α → β) (a : α) : Option.map f (some a) = some (f a) := rfl
theorem wipe_nil (r : REnv) : wipeR r [] = r := rfl
theorem wipe_cons (r : REnv) (v : Nat) (vs : List Nat) : wipeR r (v :: vs) = (wipeR r vs).set v none := rfl
theorem set_zero (w : Option W) (r : REnv) (u : Option W) : List.set (w :: r) 0 u = u :: r := rfl
theorem set_succ (w : Option W) (r : REnv) (n : Nat) (u : Option W) : List.set (w :: r) (n + 1) u = w :: List.set r n u := rfl
theorem vw_dd (x : D) : vw M (.d x) = some x := rfl
theorem evG_nm (i : Nat) (w : W) : evG (.nm i) w ρ = putW ρ i w := by unfold evG; rfl
theorem evG_tp (a : G) (xs : List D) : evG (.tp a) (.d (.tup xs)) ρ = evGs a xs ρ := by rw [evG]
theorem evG_tl (a : G) (xs : List D) : evG (.tp a) (.d (.lst xs)) ρ = evGs a xs ρ := by rw [evG]
theorem evGs_nil : evGs .tnil [] ρ = some ρ := by rw [evGs]
theorem evGs_cons (a b : G) (x : D) (xs : List D) : evGs (.tcons a b) (x :: xs) ρ = (evG a (.d x) ρ).bind fun ρ1 => evGs b xs ρ1 := by
  rw [evGs]; cases evG a (.d x) ρ <;> rfl
theorem some_bind' {α β : Type} (a : α) (f : α → Option β) : (some a).bind f = f a := rfl
theorem evGI_f (g : G) (x : D) : evGI false g x ρ = evG g (.d x) ρ := by unfold evGI; rfl
theorem evGI_t (a : G) (xs : List D) : evGI true (.tp a) (.tup xs) ρ = evGs a xs ρ := by unfold evGI; rfl
/-! #### expressions -/
variable {Q : W → Bool → Store → Prop}
theorem yE_slot (i : Nat) : yE o (.slot i) ρ M Q = oP (wAt ρ i) fun w => Q w false M := by
  unfold yE; rw [evE]; cases wAt ρ i <;> rfl
theorem yE_cst (x : D) : yE o (.cst x) ρ M Q = Q (.d x) false M := by unfold yE; rw [evE]; rfl
theorem yE_glob (n : Str) (x : D) : yE o (.glob n x) ρ M Q = Q (.d x) false M := by unfold yE; rw [evE]; rfl
theorem yE_dnil : yE o .dnil ρ M Q = Q (.d (.dic [])) true M := by unfold yE; rw [evE]; rfl
theorem yE_one (a : E) : yE o (.one a) ρ M Q = yE o a ρ M Q := by unfold yE; rw [evE]
theorem yE_tup (a : E) : yE o (.tup a) ρ M Q = yA o a ρ M fun ws M1 => oP (allD ws) fun xs => xs.length ≤ big ∧ Q (.d (.tup xs)) false M1 := by
  unfold yE yA; rw [evE]
  rcases evA o a ρ M with _ | ⟨ws, M1⟩
  · rfl
  · show oP (match allD ws with | some xs => _ | none => _) _ = oP (allD ws) _
    cases allD ws with
    | none => rfl
    | some xs =>
      show oP (if xs.length ≤ big then _ else _) _ = _
      by_cases h : xs.length ≤ big
      · rw [if_pos h]; exact propext ⟨fun q => ⟨h, q⟩, fun q => q.2⟩
      · rw [if_neg h]; exact propext ⟨fun q => q.elim, fun q => h q.1⟩
theorem yE_lst (a : E) : yE o (.lst a) ρ M Q = yA o a ρ M fun ws M1 => oP (allD ws) fun xs => xs.length ≤ big ∧ Q (.d (.lst xs)) true M1 := by
  unfold yE yA; rw [evE]
  rcases evA o a ρ M with _ | ⟨ws, M1⟩
  · rfl
  · show oP (match allD ws with | some xs => _ | none => _) _ = oP (allD ws) _
    cases allD ws with
    | none => rfl
    | some xs =>
      show oP (if xs.length ≤ big then _ else _) _ = _
      by_cases h : xs.length ≤ big
      · rw [if_pos h]; exact propext ⟨fun q => ⟨h, q⟩, fun q => q.2⟩
      · rw [if_neg h]; exact propext ⟨fun q => q.elim, fun q => h q.1⟩
theorem yE_ite (t a b : E) : yE o (.ite t a b) ρ M Q = yT o t ρ M fun c M1 => if c = true then yE o a ρ M1 Q else yE o b ρ M1 Q := by
  unfold yE yT; rw [evE]
  rcases evT o t ρ M with _ | ⟨_ | _, M1⟩ <;> rfl
theorem yE_andv (a b : E) : yE o (.andv a b) ρ M Q = yE o a ρ M fun w _ M1 => oD w fun x => match x with
    | .bl c => if c = true then yE o b ρ M1 Q else Q (.d (.bl false)) false M1
    | _ => False := by
  unfold yE; rw [evE]
  rcases evE o a ρ M with _ | ⟨⟨⟨x⟩ | n, f⟩, M1⟩
  · rfl
  · cases x with
    | bl c => cases c <;> rfl
    | _ => rfl
  · rfl
theorem yE_orv (a b : E) : yE o (.orv a b) ρ M Q = yE o a ρ M fun w _ M1 => oD w fun x => match x with
    | .bl c => if c = true then Q (.d (.bl true)) false M1 else yE o b ρ M1 Q
    | _ => False := by
  unfold yE; rw [evE]
  rcases evE o a ρ M with _ | ⟨⟨⟨x⟩ | n, f⟩, M1⟩
  · rfl
  · cases x with
    | bl c => cases c <;> rfl
    | _ => rfl
  · rfl
theorem yE_orT (a b : E) : yE o (.orT a b) ρ M Q = yE o a ρ M fun w f M1 => oD w fun x => oP (truD x) fun c => if c = true then Q (.d x) f M1 else yE o b ρ M1 Q := by
  unfold yE; rw [evE]
  rcases evE o a ρ M with _ | ⟨⟨⟨x⟩ | n, f⟩, M1⟩
  · rfl
  · show oP (match truD x with | some true => _ | some false => _ | none => _) _ = oP (truD x) _
    rcases truD x with _ | _ | _ <;> rfl
  · rfl
theorem yE_notv (a : E) : yE o (.notv a) ρ M Q = yE o a ρ M fun w _ M1 => oP (vw M1 w) fun x => oP (truD x) fun c => Q (.d (.bl (!c))) false M1 := by
  unfold yE; rw [evE]
  rcases evE o a ρ M with _ | ⟨⟨w, f⟩, M1⟩
  · rfl
  · show oP (match vw M1 w with | some x => _ | none => _) _ = oP (vw M1 w) _
    rcases vw M1 w with _ | x
    · rfl
    · show oP (match truD x with | some b => _ | none => _) _ = oP (truD x) _
      rcases truD x with _ | _ <;> rfl
theorem yE_cmp (p : COp) (a b : E) : yE o (.cmp p a b) ρ M Q = yE o a ρ M fun u _ M1 => yE o b ρ M1 fun v _ M2 => oP (vw M2 u) fun x => oP (vw M2 v) fun y => oP (opCmp p x y) fun r => Q (.d (.bl r)) false M2 := by
  unfold yE; rw [evE]
  rcases evE o a ρ M with _ | ⟨⟨u, f⟩, M1⟩
  · rfl
  · show oP (match evE o b ρ M1 with | some ((v, _), M2) => _ | none => _) _ = oP (evE o b ρ M1) _
    rcases evE o b ρ M1 with _ | ⟨⟨v, f2⟩, M2⟩
    · rfl
    · show oP (match vw M2 u, vw M2 v with | some x, some y => _ | _, _ => _) _ = oP (vw M2 u) fun x => oP (vw M2 v) _
      rcases vw M2 u with _ | x
      · rfl
      · rcases vw M2 v with _ | y
        · rfl
        · show oP (match opCmp p x y with | some r => _ | none => _) _ = oP (opCmp p x y) _
          rcases opCmp p x y with _ | r <;> rfl
theorem yE_chain (p q : COp) (a b c : E) : yE o (.chain p q a b c) ρ M Q = yE o a ρ M fun u _ M1 => yE o b ρ M1 fun v _ M2 => oP (vw M2 u) fun x => oP (vw M2 v) fun y => oP (opCmp p x y) fun r => if r = true then yE o c ρ M2 fun w _ M3 => oP (vw M3 v) fun y => oP (vw M3 w) fun z => oP (opCmp q y z) fun r => Q (.d (.bl r)) false M3 else Q (.d (.bl false)) false M2 := by
  unfold yE; rw [evE]
  rcases evE o a ρ M with _ | ⟨⟨u, f⟩, M1⟩
  · rfl
  · show oP (match evE o b ρ M1 with | some ((v, _), M2) => _ | none => _) _ = oP (evE o b ρ M1) _
    rcases evE o b ρ M1 with _ | ⟨⟨v, f2⟩, M2⟩
    · rfl
    · show oP (match vw M2 u, vw M2 v with | some x, some y => _ | _, _ => _) _ = oP (vw M2 u) fun x => oP (vw M2 v) _
      rcases vw M2 u with _ | x
      · rfl
      · rcases vw M2 v with _ | y
        · rfl
        · show oP (match opCmp p x y with | some false => _ | some true => _ | none => _) _ = oP (opCmp p x y) _
          rcases opCmp p x y with _ | _ | _
          · rfl
          · rfl
          · show oP (match evE o c ρ M2 with | some ((w, _), M3) => _ | none => _) _ = oP (evE o c ρ M2) _
            rcases evE o c ρ M2 with _ | ⟨⟨w, f2⟩, M3⟩
            · rfl
            · show oP (match vw M3 v, vw M3 w with | some x, some y => _ | _, _ => _) _ = oP (vw M3 v) fun x => oP (vw M3 w) _
              rcases vw M3 v with _ | x
              · rfl
              · rcases vw M3 w with _ | y
                · rfl
                · show oP (match opCmp q x y with | some r => _ | none => _) _ = oP (opCmp q x y) _
                  rcases opCmp q x y with _ | r <;> rfl
theorem yE_bin (p : BOp) (a b : E) : yE o (.bin p a b) ρ M Q = yE o a ρ M fun u _ M1 => yE o b ρ M1 fun v _ M2 => oP (vw M2 u) fun x => oP (vw M2 v) fun y => oP (opBin p x y) fun r => Q (.d r.1) r.2 M2 := by
  unfold yE; rw [evE]
  rcases evE o a ρ M with _ | ⟨⟨u, f⟩, M1⟩
  · rfl
  · show oP (match evE o b ρ M1 with | some ((v, _), M2) => _ | none => _) _ = oP (evE o b ρ M1) _
    rcases evE o b ρ M1 with _ | ⟨⟨v, f2⟩, M2⟩
    · rfl
    · show oP (match vw M2 u, vw M2 v with | some x, some y => _ | _, _ => _) _ = oP (vw M2 u) fun x => oP (vw M2 v) _
      rcases vw M2 u with _ | x
      · rfl
      · rcases vw M2 v with _ | y
        · rfl
        · show oP (match opBin p x y with | some r => _ | none => _) _ = oP (opBin p x y) _
          rcases opBin p x y with _ | r <;> rfl
theorem yE_neg (a : E) : yE o (.neg a) ρ M Q = yE o a ρ M fun w _ M1 => oD w fun x => match x with
    | .int i => Q (.d (.int (-i))) false M1
    | _ => False := by
  unfold yE; rw [evE]
  rcases evE o a ρ M with _ | ⟨⟨⟨x⟩ | n, f⟩, M1⟩
  · rfl
  · cases x <;> rfl
  · rfl
theorem yE_idx (a k : E) : yE o (.idx a k) ρ M Q = yE o a ρ M fun u _ M1 => yE o k ρ M1 fun v _ M2 => oP (vw M2 u) fun x => oP (vw M2 v) fun y => oP (idxD x y) fun r => Q (.d r) false M2 := by
  unfold yE; rw [evE]
  rcases evE o a ρ M with _ | ⟨⟨u, f⟩, M1⟩
  · rfl
  · show oP (match evE o k ρ M1 with | some ((v, _), M2) => _ | none => _) _ = oP (evE o k ρ M1) _
    rcases evE o k ρ M1 with _ | ⟨⟨v, f2⟩, M2⟩
    · rfl
    · show oP (match vw M2 u, vw M2 v with | some x, some y => _ | _, _ => _) _ = oP (vw M2 u) fun x => oP (vw M2 v) _
      rcases vw M2 u with _ | x
      · rfl
      · rcases vw M2 v with _ | y
        · rfl
        · show oP (match idxD x y with | some r => _ | none => _) _ = oP (idxD x y) _
          rcases idxD x y with _ | r <;> rfl
theorem yE_slc (a lo hi : E) : yE o (.slc a lo hi) ρ M Q = yE o a ρ M fun u _ M1 => yO o lo ρ M1 fun l M2 => yO o hi ρ M2 fun h M3 => oP (vw M3 u) fun x => oP (slcD x l h) fun r => Q (.d r.1) r.2 M3 := by
  unfold yE yO; rw [evE]
  rcases evE o a ρ M with _ | ⟨⟨u, f⟩, M1⟩
  · rfl
  · show oP (match evO o lo ρ M1 with | some (l, M2) => _ | none => _) _ = oP (evO o lo ρ M1) _
    rcases evO o lo ρ M1 with _ | ⟨l, M2⟩
    · rfl
    · show oP (match evO o hi ρ M2 with | some (l, M2) => _ | none => _) _ = oP (evO o hi ρ M2) _
      rcases evO o hi ρ M2 with _ | ⟨h, M3⟩
      · rfl
      · show oP (match vw M3 u with | some x => _ | none => _) _ = oP (vw M3 u) _
        rcases vw M3 u with _ | x
        · rfl
        · show oP (match slcD x l h with | some r => _ | none => _) _ = oP (slcD x l h) _
          rcases slcD x l h with _ | r <;> rfl
theorem yE_callP (f : Str) (a : E) : yE o (.callP f a) ρ M Q = yA o a ρ M fun ws M1 => oP (vws M1 ws) fun xs => oP (o.p f xs) fun r => (!anyCell ws || (isAtom r.1 && lstCells M1 ws)) = true ∧ Q (.d r.1) r.2 M1 := by
  unfold yE yA; rw [evE]
  rcases evA o a ρ M with _ | ⟨ws, M1⟩
  · rfl
  · show oP (match vws M1 ws with | some xs => _ | none => _) _ = oP (vws M1 ws) _
    rcases vws M1 ws with _ | xs
    · rfl
    · show oP (match o.p f xs with | some r => _ | none => _) _ = oP (o.p f xs) _
      rcases o.p f xs with _ | r
      · rfl
      · show oP (if (!anyCell ws || (isAtom r.1 && lstCells M1 ws)) = true then _ else _) _ = _
        by_cases h : (!anyCell ws || (isAtom r.1 && lstCells M1 ws)) = true
        · rw [if_pos h]; exact propext ⟨fun q => ⟨h, q⟩, fun q => q.2⟩
        · rw [if_neg h]; exact propext ⟨fun q => q.elim, fun q => h q.1⟩
theorem yE_callK (f : Str) (ks : List Str) (pm : List Nat) (a : E) : yE o (.callK f ks pm a) ρ M Q = yA o a ρ M fun ws M1 => oP (allD ws) fun xs => oP (o.p f (pm.filterMap fun j => xs[j]?)) fun r => Q (.d r.1) r.2 M1 := by
  unfold yE yA; rw [evE]
  rcases evA o a ρ M with _ | ⟨ws, M1⟩
  · rfl
  · show oP (match allD ws with | some xs => _ | none => _) _ = oP (allD ws) _
    rcases allD ws with _ | xs
    · rfl
    · show oP (match o.p f (pm.filterMap fun j => xs[j]?) with | some r => _ | none => _) _ = oP (o.p f (pm.filterMap fun j => xs[j]?)) _
      rcases o.p f (pm.filterMap fun j => xs[j]?) with _ | r <;> rfl
theorem yE_callM (f : Str) (a : E) : yE o (.callM f a) ρ M Q = yA o a ρ M fun ws M1 => oP (o.m f ws M1) fun r => Q r.1.1 r.1.2 r.2 := by
  unfold yE yA; rw [evE]
  rcases evA o a ρ M with _ | ⟨ws, M1⟩ <;> rfl
theorem yE_mk (a : E) : yE o (.mk a) ρ M Q = yE o a ρ M fun w f M1 => oD w fun x => f = true ∧ oP (asNode x) fun nd => Q (.cell M1.length) false (M1 ++ [some nd]) := by
  unfold yE; rw [evE]
  rcases evE o a ρ M with _ | ⟨⟨⟨x⟩ | n, f⟩, M1⟩
  · rfl
  · cases f with
    | false => exact propext ⟨fun q => q.elim, fun q => by cases q.1⟩
    | true =>
      show oP (match asNode x with | some nd => _ | none => _) _ = (true = true ∧ oP (asNode x) _)
      rcases asNode x with _ | nd
      · exact propext ⟨fun q => q.elim, fun q => q.2.elim⟩
      · exact propext ⟨fun q => ⟨rfl, q⟩, fun q => q.2⟩
  · rfl
theorem yE_blt (b : BI) (a : E) : yE o (.blt b a) ρ M Q = yA o a ρ M fun ws M1 => oP (vws M1 ws) fun xs => oP (evB b xs) fun r => Q (.d r.1) r.2 M1 := by
  unfold yE yA; rw [evE]
  rcases evA o a ρ M with _ | ⟨ws, M1⟩
  · rfl
  · show oP (match vws M1 ws with | some xs => _ | none => _) _ = oP (vws M1 ws) _
    rcases vws M1 ws with _ | xs
    · rfl
    · show oP (match evB b xs with | some r => _ | none => _) _ = oP (evB b xs) _
      rcases evB b xs with _ | r <;> rfl
theorem yE_isi (a : E) (ts : List TyN) : yE o (.isi a ts) ρ M Q = yE o a ρ M fun w _ M1 => oP (vw M1 w) fun x => oP (isTys x ts) fun c => Q (.d (.bl c)) false M1 := by
  unfold yE; rw [evE]
  rcases evE o a ρ M with _ | ⟨⟨w, f⟩, M1⟩
  · rfl
  · show oP (match vw M1 w with | some x => _ | none => _) _ = oP (vw M1 w) _
    rcases vw M1 w with _ | x
    · rfl
    · show oP (match isTys x ts with | some b => _ | none => _) _ = oP (isTys x ts) _
      rcases isTys x ts with _ | _ <;> rfl
theorem yE_sitems (a : E) : yE o (.sitems a) ρ M Q = yE o a ρ M fun w _ M1 => oD w fun x => match x with
    | .dic kvs => oP (sortD (pairsD kvs)) fun ys => Q (.d (.lst ys)) true M1
    | _ => False := by
  unfold yE; rw [evE]
  rcases evE o a ρ M with _ | ⟨⟨⟨x⟩ | n, f⟩, M1⟩
  · rfl
  · cases x with
    | dic kvs =>
      show oP (match sortD (pairsD kvs) with | some ys => _ | none => _) _ = oP (sortD (pairsD kvs)) _
      rcases sortD (pairsD kvs) with _ | _ <;> rfl
    | _ => rfl
  · rfl
theorem yE_litems (a : E) : yE o (.litems a) ρ M Q = yE o a ρ M fun w _ M1 => oD w fun x => match x with
    | .dic kvs => kvs.length ≤ big ∧ Q (.d (.lst (pairsD kvs))) true M1
    | _ => False := by
  unfold yE; rw [evE]
  rcases evE o a ρ M with _ | ⟨⟨⟨x⟩ | n, f⟩, M1⟩
  · rfl
  · cases x with
    | dic kvs =>
      show oP (if kvs.length ≤ big then _ else _) _ = (kvs.length ≤ big ∧ _)
      by_cases h : kvs.length ≤ big
      · rw [if_pos h]; exact propext ⟨fun q => ⟨h, q⟩, fun q => q.2⟩
      · rw [if_neg h]; exact propext ⟨fun q => q.elim, fun q => h q.1⟩
    | _ => rfl
  · rfl
theorem yE_lrng (a : E) : yE o (.lrng a) ρ M Q = yE o a ρ M fun w _ M1 => oD w fun x => match x with
    | .int j => (decide (0 ≤ j) && decide (j ≤ 65536)) = true ∧ Q (.d (.lst (rngD 0 j.toNat))) true M1
    | _ => False := by
  unfold yE; rw [evE]
  rcases evE o a ρ M with _ | ⟨⟨⟨x⟩ | n, f⟩, M1⟩
  · rfl
  · cases x with
    | int j =>
      show oP (if (decide (0 ≤ j) && decide (j ≤ 65536)) = true then _ else _) _ = ((decide (0 ≤ j) && decide (j ≤ 65536)) = true ∧ _)
      by_cases h : (decide (0 ≤ j) && decide (j ≤ 65536)) = true
      · rw [if_pos h]; exact propext ⟨fun q => ⟨h, q⟩, fun q => q.2⟩
      · rw [if_neg h]; exact propext ⟨fun q => q.elim, fun q => h q.1⟩
    | _ => rfl
  · rfl
theorem yE_get1 (a k : E) : yE o (.get1 a k) ρ M Q = yE o a ρ M fun u _ M1 => (∃ kvs, vw M1 u = some (.dic kvs)) ∧ yE o k ρ M1 fun v _ M2 => oD v fun v => oP (vw M2 u) fun x => match x with
    | .dic kvs => oP (keyOf v) fun k => Q (.d ((getK k kvs).getD .non)) false M2
    | _ => False := by
  unfold yE; rw [evE]
  rcases evE o a ρ M with _ | ⟨⟨u, f⟩, M1⟩
  · rfl
  · show oP (match vw M1 u with | some (.dic _) => _ | _ => _) _ = ((∃ kvs, vw M1 u = some (.dic kvs)) ∧ oP (evE o k ρ M1) _)
    rcases h : vw M1 u with _ | x
    · exact propext ⟨fun q => q.elim, fun ⟨⟨_, q⟩, _⟩ => by cases q⟩
    · cases x with
      | dic kvs =>
        rw [show (∃ kvs_1, some (D.dic kvs) = some (D.dic kvs_1)) = True from propext ⟨fun _ => trivial, fun _ => ⟨_, rfl⟩⟩, true_and]
        show oP (match evE o k ρ M1 with | some ((.d v, _), M2) => _ | _ => _) _ = oP (evE o k ρ M1) _
        rcases evE o k ρ M1 with _ | ⟨⟨⟨v⟩ | n, f⟩, M2⟩
        · rfl
        · show oP (match vw M2 u, keyOf v with | some (.dic kvs), some k => _ | _, _ => _) _ = oP (vw M2 u) _
          rcases vw M2 u with _ | y
          · rfl
          · cases y with
            | dic kvs => rcases keyOf v with _ | k <;> rfl
            | _ => rfl
        · rfl
      | _ => exact propext ⟨fun q => q.elim, fun ⟨⟨_, q⟩, _⟩ => by cases q⟩
/-! #### arguments, parts of slices, tests, what is walked -/
theorem yA_nil {Q : List W → Store → Prop} : yA o .nil ρ M Q = Q [] M := by unfold yA; rw [evA]; rfl
theorem yA_cons {Q : List W → Store → Prop} (a b : E) : yA o (.cons a b) ρ M Q = yE o a ρ M fun w _ M1 => yA o b ρ M1 fun ws M2 => Q (w :: ws) M2 := by
  unfold yA yE; rw [evA]
  rcases evE o a ρ M with _ | ⟨⟨w, f⟩, M1⟩
  · rfl
  · show oP (match evA o b ρ M1 with | some (ws, M2) => _ | none => _) _ = oP (evA o b ρ M1) _
    rcases evA o b ρ M1 with _ | ⟨ws, M2⟩ <;> rfl
theorem yO_none {Q : Option Int → Store → Prop} : yO o .none_ ρ M Q = Q none M := by unfold yO; rw [evO]; rfl
theorem yO_some {Q : Option Int → Store → Prop} (a : E) : yO o (.cons a .nil) ρ M Q = yE o a ρ M fun w _ M1 => oD w fun x => match x with
    | .int i => Q (some i) M1
    | _ => False := by
  unfold yO yE; rw [evO]
  rcases evE o a ρ M with _ | ⟨⟨⟨x⟩ | n, f⟩, M1⟩
  · rfl
  · cases x <;> rfl
  · rfl
theorem yT_andv {Q : Bool → Store → Prop} (a b : E) : yT o (.andv a b) ρ M Q = yT o a ρ M fun c M1 => if c = true then yT o b ρ M1 Q else Q false M1 := by
  unfold yT; rw [evT]
  rcases evT o a ρ M with _ | ⟨_ | _, M1⟩ <;> rfl
theorem yT_orv {Q : Bool → Store → Prop} (a b : E) : yT o (.orv a b) ρ M Q = yT o a ρ M fun c M1 => if c = true then Q true M1 else yT o b ρ M1 Q := by
  unfold yT; rw [evT]
  rcases evT o a ρ M with _ | ⟨_ | _, M1⟩ <;> rfl
theorem yT_notv {Q : Bool → Store → Prop} (a : E) : yT o (.notv a) ρ M Q = yT o a ρ M fun c M1 => Q (!c) M1 := by
  unfold yT; rw [evT]
  rcases evT o a ρ M with _ | ⟨c, M1⟩ <;> rfl
theorem yT_one {Q : Bool → Store → Prop} (a : E) : yT o (.one a) ρ M Q = yT o a ρ M Q := by unfold yT; rw [evT]
theorem yT_val {Q : Bool → Store → Prop} (a : E) : yT o (.cons a .nil) ρ M Q = yE o a ρ M fun w _ M1 => oP (vw M1 w) fun x => oP (truD x) fun c => Q c M1 := by
  unfold yT yE; rw [evT]
  rcases evE o a ρ M with _ | ⟨⟨w, f⟩, M1⟩
  · rfl
  · show oP (match vw M1 w with | some x => _ | none => _) _ = oP (vw M1 w) _
    rcases vw M1 w with _ | x
    · rfl
    · show oP (match truD x with | some b => _ | none => _) _ = oP (truD x) _
      rcases truD x with _ | _ <;> rfl
theorem yC_nil {Q : Bool → Store → Prop} : yC o .nil ρ M Q = Q true M := by unfold yC; rw [evC]; rfl
theorem yC_cons {Q : Bool → Store → Prop} (a b : E) : yC o (.cons a b) ρ M Q = yT o a ρ M fun c M1 => if c = true then yC o b ρ M1 Q else Q false M1 := by
  unfold yC yT; rw [evC]
  rcases evT o a ρ M with _ | ⟨_ | _, M1⟩ <;> rfl
section
variable {Q : Bool → List D → Store → Prop}
theorem yI_itv (a : E) : yI o (.itv a) ρ M Q = yE o a ρ M fun w _ M1 => oD w fun x => oP (itemsD x) fun xs => Q false xs M1 := by
  unfold yI yE; rw [evI]
  rcases evE o a ρ M with _ | ⟨⟨⟨x⟩ | n, f⟩, M1⟩
  · rfl
  · show oP (match itemsD x with | some xs => _ | none => _) _ = oP (itemsD x) _
    rcases itemsD x with _ | _ <;> rfl
  · rfl
theorem yI_rng1 (a : E) : yI o (.rng1 a) ρ M Q = yE o a ρ M fun w _ M1 => oD w fun x => match x with
    | .int j => ok62 j = true ∧ Q false (rngD 0 j.toNat) M1
    | _ => False := by
  unfold yI yE; rw [evI]
  rcases evE o a ρ M with _ | ⟨⟨⟨x⟩ | n, f⟩, M1⟩
  · rfl
  · cases x with
    | int j =>
      show oP (if ok62 j = true then _ else _) _ = (ok62 j = true ∧ Q false (rngD 0 j.toNat) M1)
      by_cases h : ok62 j = true
      · rw [if_pos h]; exact propext ⟨fun q => ⟨h, q⟩, fun q => q.2⟩
      · rw [if_neg h]; exact propext ⟨fun q => q.elim, fun q => h q.1⟩
    | _ => rfl
  · rfl
theorem yI_rng2 (a b : E) : yI o (.rng2 a b) ρ M Q = yE o a ρ M fun w _ M1 => oD w fun x => match x with
    | .int i => yE o b ρ M1 fun w _ M2 => oD w fun y => match y with
      | .int j => (ok62 i && ok62 j) = true ∧ Q false (rngD i (j - i).toNat) M2
      | _ => False
    | _ => False := by
  unfold yI yE; rw [evI]
  rcases evE o a ρ M with _ | ⟨⟨⟨x⟩ | n, f⟩, M1⟩
  · rfl
  · cases x with
    | int i =>
      show oP (match evE o b ρ M1 with | some ((.d (.int j), _), M2) => _ | _ => _) _ = oP (evE o b ρ M1) _
      rcases evE o b ρ M1 with _ | ⟨⟨⟨y⟩ | n, f⟩, M2⟩
      · rfl
      · cases y with
        | int j =>
          show oP (if (ok62 i && ok62 j) = true then _ else _) _ = ((ok62 i && ok62 j) = true ∧ _)
          by_cases h : (ok62 i && ok62 j) = true
          · rw [if_pos h]; exact propext ⟨fun q => ⟨h, q⟩, fun q => q.2⟩
          · rw [if_neg h]; exact propext ⟨fun q => q.elim, fun q => h q.1⟩
        | _ => rfl
      · rfl
    | _ => rfl
  · rfl
theorem yI_zip (a b : E) : yI o (.zip a b) ρ M Q = yE o a ρ M fun u _ M1 => oD u fun x => yE o b ρ M1 fun v _ M2 => oD v fun y => match x, y with
    | .lst xs, .lst ys => Q true (zipD xs ys) M2
    | .tup xs, .tup ys => Q true (zipD xs ys) M2
    | _, _ => False := by
  unfold yI yE; rw [evI]
  rcases evE o a ρ M with _ | ⟨⟨⟨x⟩ | n, f⟩, M1⟩
  · rfl
  · show oP (match evE o b ρ M1 with | some ((.d y, _), M2) => _ | _ => _) _ = oP (evE o b ρ M1) _
    rcases evE o b ρ M1 with _ | ⟨⟨⟨y⟩ | n, f⟩, M2⟩
    · rfl
    · cases x <;> cases y <;> rfl
    · rfl
  · rfl
theorem yI_enum (a : E) : yI o (.enum a) ρ M Q = yE o a ρ M fun w _ M1 => oD w fun x => match x with
    | .lst xs => Q true (enumD 0 xs) M1
    | .tup xs => Q true (enumD 0 xs) M1
    | _ => False := by
  unfold yI yE; rw [evI]
  rcases evE o a ρ M with _ | ⟨⟨⟨x⟩ | n, f⟩, M1⟩
  · rfl
  · cases x <;> rfl
  · rfl
theorem yI_items (a : E) : yI o (.items a) ρ M Q = yE o a ρ M fun w _ M1 => oD w fun x => match x with
    | .dic kvs => Q true (kvs.map (fun p => .tup [ofKey p.1, p.2])) M1
    | _ => False := by
  unfold yI yE; rw [evI]
  rcases evE o a ρ M with _ | ⟨⟨⟨x⟩ | n, f⟩, M1⟩
  · rfl
  · cases x <;> rfl
  · rfl
theorem yI_vals (a : E) : yI o (.vals a) ρ M Q = yE o a ρ M fun w _ M1 => oD w fun x => match x with
    | .dic kvs => Q false (kvs.map (·.2)) M1
    | _ => False := by
  unfold yI yE; rw [evI]
  rcases evE o a ρ M with _ | ⟨⟨⟨x⟩ | n, f⟩, M1⟩
  · rfl
  · cases x <;> rfl
  · rfl
end
/-! #### statements -/
section
variable {Q : Out → Prop}
theorem yS_nil : yS o .nil ρ M Q = Q (.nx ρ M) := by unfold yS; rw [evS]; rfl
theorem yS_seq (a b : S) : yS o (.seq a b) ρ M Q = yS o a ρ M fun out => match out with
    | .nx ρ1 M1 => yS o b ρ1 M1 Q
    | .rt w f M1 => Q (.rt w f M1) := by
  unfold yS; rw [evS]
  rcases evS o a ρ M with _ | ⟨ρ1, M1⟩ | ⟨w, f, M1⟩ <;> rfl
theorem yS_asg (g : G) (e : E) : yS o (.asg g e) ρ M Q = yE o e ρ M fun w _ M1 => oP (evG g w ρ) fun ρ1 => Q (.nx ρ1 M1) := by
  unfold yS yE; rw [evS]
  rcases evE o e ρ M with _ | ⟨⟨w, f⟩, M1⟩
  · rfl
  · show oP (match evG g w ρ with | some ρ1 => _ | none => _) _ = oP (evG g w ρ) _
    rcases evG g w ρ with _ | _ <;> rfl
theorem yS_par (is : List Nat) (a : E) : yS o (.par is a) ρ M Q = yA o a ρ M fun ws M1 => oP (puts is ws ρ) fun ρ1 => Q (.nx ρ1 M1) := by
  unfold yS yA; rw [evS]
  rcases evA o a ρ M with _ | ⟨ws, M1⟩
  · rfl
  · show oP (match puts is ws ρ with | some ρ1 => _ | none => _) _ = oP (puts is ws ρ) _
    rcases puts is ws ρ with _ | _ <;> rfl
theorem puts_nil : puts [] [] ρ = some ρ := rfl
theorem puts_cons (i : Nat) (is : List Nat) (w : W) (ws : List W) : puts (i :: is) (w :: ws) ρ = (putW ρ i w).bind fun ρ1 => puts is ws ρ1 := by
  rw [puts]; rcases putW ρ i w with _ | _ <;> rfl
theorem yS_exp (e : E) : yS o (.exp e) ρ M Q = yE o e ρ M fun _ _ M1 => Q (.nx ρ M1) := by
  unfold yS yE; rw [evS]
  rcases evE o e ρ M with _ | ⟨⟨w, f⟩, M1⟩ <;> rfl
theorem yS_ret (e : E) : yS o (.ret e) ρ M Q = yE o e ρ M fun w f M1 => Q (.rt w f M1) := by
  unfold yS yE; rw [evS]
  rcases evE o e ρ M with _ | ⟨⟨w, f⟩, M1⟩ <;> rfl
theorem yS_retN : yS o .retN ρ M Q = Q (.rt (.d .non) false M) := by unfold yS; rw [evS]; rfl
theorem yS_ite (t : E) (a b : S) : yS o (.ite t a b) ρ M Q = yT o t ρ M fun c M1 => if c = true then yS o a ρ M1 Q else yS o b ρ M1 Q := by
  unfold yS yT; rw [evS]
  rcases evT o t ρ M with _ | ⟨_ | _, M1⟩ <;> rfl
end
end
end Rf

set_option Elab.async false
set_option linter.all false
set_option maxRecDepth 100000
set_option maxHeartbeats 4000000
namespace Rf
open PySem L2
def oN (w : W) (Q : Nat → Prop) : Prop := match w with
  | .cell n => Q n
  | .d _ => False
def oL (nd : Node) (Q : List D → Prop) : Prop := match nd with
  | .lst xs => Q xs
  | .dic _ => False
def oK (nd : Node) (Q : List (Key × D) → Prop) : Prop := match nd with
  | .dic xs => Q xs
  | .lst _ => False
theorem oN_c (n : Nat) (Q : Nat → Prop) : oN (.cell n) Q = Q n := rfl
theorem oL_l (xs : List D) (Q : List D → Prop) : oL (.lst xs) Q = Q xs := rfl
theorem oK_d (xs : List (Key × D)) (Q : List (Key × D) → Prop) : oK (.dic xs) Q = Q xs := rfl
theorem cellAt_end {M : Store} {nd : Node} : cellAt (M ++ [some nd]) M.length = some nd := by
  unfold cellAt; simp
theorem cell_zero (nd : Node) (M : Store) : cellAt (some nd :: M) 0 = some nd := rfl
theorem cell_succ (x : Option Node) (M : Store) (n : Nat) : cellAt (x :: M) (n + 1) = cellAt M n := by unfold cellAt; rw [List.getElem?_cons_succ]
theorem cellAt_app {M : Store} {x : Option Node} {j : Nat} (h : j < M.length) : cellAt (M ++ [x]) j = cellAt M j := by
  unfold cellAt; rw [List.getElem?_append_left h]
theorem toD_lst (xs : List D) : Node.toD (.lst xs) = .lst xs := rfl
theorem toD_dic (xs : List (Key × D)) : Node.toD (.dic xs) = .dic xs := rfl
theorem asNode_lst (xs : List D) : asNode (.lst xs) = some (.lst xs) := rfl
theorem asNode_dic (xs : List (Key × D)) : asNode (.dic xs) = some (.dic xs) := rfl
theorem vw_cell (M : Store) (n : Nat) : vw M (.cell n) = (cellAt M n).map Node.toD := rfl
theorem vws_nil (M : Store) : vws M [] = some [] := rfl
theorem vws_cons (M : Store) (w : W) (ws : List W) : vws M (w :: ws) = (vw M w).bind fun x => (vws M ws).map (x :: ·) := by
  rw [vws]; rcases vw M w with _ | x
  · rfl
  · rcases vws M ws with _ | xs <;> rfl
theorem allD_nil : allD [] = some [] := rfl
theorem allD_cons (x : D) (ws : List W) : allD (.d x :: ws) = (allD ws).map (x :: ·) := by
  rw [allD]; show (match some x, allD ws with | some x, some xs => some (x :: xs) | _, _ => none) = _
  rcases allD ws with _ | xs <;> rfl
theorem anyCell_nil : anyCell [] = false := rfl
theorem anyCell_d (x : D) (ws : List W) : anyCell (.d x :: ws) = anyCell ws := rfl
theorem anyCell_c (x : Nat) (ws : List W) : anyCell (.cell x :: ws) = true := rfl
section
variable {o : Orc} {ρ : REnv} {M : Store}
section
variable {Q : Out → Prop}
theorem yS_app (i : Nat) (e : E) : yS o (.app i e) ρ M Q = oP (wAt ρ i) fun w => oN w fun n => oP (cellAt M n) fun nd => oL nd fun _ => yE o e ρ M fun w _ M1 => oD w fun x => oP (cellAt M1 n) fun nd => oL nd fun xs => xs.length ≤ big ∧ Q (.nx ρ (M1.set n (some (.lst (xs ++ [x]))))) := by
  unfold yS yE; rw [evS]
  rcases wAt ρ i with _ | ⟨x | n⟩
  · rfl
  · rfl
  · show oP (match cellAt M n with | some (.lst _) => _ | _ => _) _ = oP (cellAt M n) _
    rcases cellAt M n with _ | ⟨xs | ks⟩
    · rfl
    · show oP (match evE o e ρ M with | some ((.d x, _), M1) => _ | _ => _) _ = oP (evE o e ρ M) _
      rcases evE o e ρ M with _ | ⟨⟨⟨x⟩ | m, f⟩, M1⟩
      · rfl
      · show oP (match cellAt M1 n with | some (.lst _) => _ | _ => _) _ = oP (cellAt M1 n) _
        rcases cellAt M1 n with _ | ⟨xs | ks⟩
        · rfl
        · show oP (if xs.length ≤ big then _ else _) _ = (xs.length ≤ big ∧ _)
          by_cases h : xs.length ≤ big
          · rw [if_pos h]; exact propext ⟨fun q => ⟨h, q⟩, fun q => q.2⟩
          · rw [if_neg h]; exact propext ⟨fun q => q.elim, fun q => h q.1⟩
        · rfl
      · rfl
    · rfl
theorem yS_upd (i : Nat) (e : E) : yS o (.upd i e) ρ M Q = oP (wAt ρ i) fun w => oN w fun n => oP (cellAt M n) fun nd => oK nd fun _ => yE o e ρ M fun w _ M1 => oD w fun x => match x with
    | .dic more => oP (cellAt M1 n) fun nd => oK nd fun kvs => kvs.length + more.length ≤ big ∧ Q (.nx ρ (M1.set n (some (.dic (mergK kvs more)))))
    | _ => False := by
  unfold yS yE; rw [evS]
  rcases wAt ρ i with _ | ⟨x | n⟩
  · rfl
  · rfl
  · show oP (match cellAt M n with | some (.dic _) => _ | _ => _) _ = oP (cellAt M n) _
    rcases cellAt M n with _ | ⟨xs | ks⟩
    · rfl
    · rfl
    · show oP (match evE o e ρ M with | some ((.d (.dic more), _), M1) => _ | _ => _) _ = oP (evE o e ρ M) _
      rcases evE o e ρ M with _ | ⟨⟨⟨x⟩ | m, f⟩, M1⟩
      · rfl
      · cases x with
        | dic more =>
          show oP (match cellAt M1 n with | some (.dic _) => _ | _ => _) _ = oP (cellAt M1 n) _
          rcases cellAt M1 n with _ | ⟨xs | ks⟩
          · rfl
          · rfl
          · show oP (if ks.length + more.length ≤ big then _ else _) _ = (ks.length + more.length ≤ big ∧ _)
            by_cases h : ks.length + more.length ≤ big
            · rw [if_pos h]; exact propext ⟨fun q => ⟨h, q⟩, fun q => q.2⟩
            · rw [if_neg h]; exact propext ⟨fun q => q.elim, fun q => h q.1⟩
        | _ => rfl
      · rfl
theorem yS_frz (i : Nat) : yS o (.frz i) ρ M Q = oP (wAt ρ i) fun w => oN w fun n => oP (cellAt M n) fun nd => Q (.nx (ρ.set i (some (.d nd.toD))) (M.set n none)) := by
  unfold yS; rw [evS]
  rcases wAt ρ i with _ | ⟨x | n⟩
  · rfl
  · rfl
  · show oP (match cellAt M n with | some nd => _ | none => _) _ = oP (cellAt M n) _
    rcases cellAt M n with _ | nd <;> rfl
/-- a store at a place or a key -/
def oSet (nd : Node) (y x : D) (Q : Node → Prop) : Prop := match nd, y with
  | .lst xs, .int j => oP (ixN xs.length j) fun j => Q (.lst (xs.set j x))
  | .dic kvs, y => oP (keyOf y) fun k => kvs.length ≤ big ∧ Q (.dic (setK k x kvs))
  | _, _ => False
theorem oSet_l (xs : List D) (j : Int) (x : D) (Q : Node → Prop) : oSet (.lst xs) (.int j) x Q = oP (ixN xs.length j) fun j => Q (.lst (xs.set j x)) := rfl
theorem oSet_d (kvs : List (Key × D)) (y x : D) (Q : Node → Prop) : oSet (.dic kvs) y x Q = oP (keyOf y) fun k => kvs.length ≤ big ∧ Q (.dic (setK k x kvs)) := rfl
theorem yS_seti (i : Nat) (k e : E) : yS o (.seti i k e) ρ M Q = yE o e ρ M fun w _ M1 => oD w fun x => oP (wAt ρ i) fun w => oN w fun n => yE o k ρ M1 fun w _ M2 => oD w fun y => oP (cellAt M2 n) fun nd => oSet nd y x fun nd => Q (.nx ρ (M2.set n (some nd))) := by
  unfold yS yE; rw [evS]
  rcases evE o e ρ M with _ | ⟨⟨⟨x⟩ | m, f⟩, M1⟩
  · rfl
  · show oP (match wAt ρ i, evE o k ρ M1 with | some (.cell n), some ((.d y, _), M2) => _ | _, _ => _) _ = oP (wAt ρ i) _
    rcases wAt ρ i with _ | ⟨z | n⟩
    · rfl
    · rfl
    · show oP (match some (W.cell n), evE o k ρ M1 with | some (.cell n), some ((.d y, _), M2) => _ | _, _ => _) _ = oP (evE o k ρ M1) _
      rcases evE o k ρ M1 with _ | ⟨⟨⟨y⟩ | m, f⟩, M2⟩
      · rfl
      · show oP (match cellAt M2 n, y with | some (.lst xs), .int j => _ | some (.dic kvs), y => _ | _, _ => _) _ = oP (cellAt M2 n) _
        rcases cellAt M2 n with _ | ⟨xs | kvs⟩
        · rfl
        · cases y with
          | int j =>
            show oP (match ixN xs.length j with | some j => _ | none => _) _ = oP (ixN xs.length j) _
            rcases ixN xs.length j with _ | j <;> rfl
          | _ => rfl
        · show oP (match keyOf y with | some k => _ | none => _) _ = oP (keyOf y) _
          rcases keyOf y with _ | k
          · rfl
          · show oP (if kvs.length ≤ big then _ else _) _ = (kvs.length ≤ big ∧ _)
            by_cases h : kvs.length ≤ big
            · rw [if_pos h]; exact propext ⟨fun q => ⟨h, q⟩, fun q => q.2⟩
            · rw [if_neg h]; exact propext ⟨fun q => q.elim, fun q => h q.1⟩
      · rfl
  · rfl
/-- a walk -/
theorem yFor {body : REnv → Store → Option Out} {pr : Bool} {g : G} (I : Nat → REnv → Store → Prop) (Q : Out → Prop) : ∀ (xs : List D) (n : Nat) (ρ : REnv) (M : Store),
    (∀ i x ρ M, xs[i]? = some x → I (n + i) ρ M → oP (evGI pr g x ρ) fun ρ1 => oP (body ρ1 M) fun out => match out with
      | .nx ρ2 M2 => I (n + i + 1) ρ2 M2
      | .rt w f M2 => Q (.rt w f M2)) → I n ρ M → (∀ ρ M, I (n + xs.length) ρ M → Q (.nx ρ M)) → oP (forL body pr g xs ρ M) Q
  | [], n, ρ, M, _, p, q => q ρ M p
  | x :: xs, n, ρ, M, h, p, q => by
    obtain ⟨ρ1, e1, h1⟩ := (h 0 x ρ M rfl p).get
    obtain ⟨out, e2, h2⟩ := h1.get
    unfold forL
    rw [e1]
    simp only [e2]
    cases out with
    | nx ρ2 M2 =>
      refine yFor I Q xs (n + 1) ρ2 M2 (fun i y ρ M e p => ?_) h2 (fun ρ M p => q ρ M ?_)
      · have := h (i + 1) y ρ M (by simpa using e) (by rw [show n + (i + 1) = n + 1 + i by omega]; exact p)
        rw [show n + (i + 1) = n + 1 + i by omega] at this
        exact this
      · rw [List.length_cons, show n + (xs.length + 1) = n + 1 + xs.length by omega]; exact p
    | rt w f M2 => exact h2
theorem yS_for {g : G} {it : E} {b : S} (I : Nat → REnv → Store → Prop) (h : yI o it ρ M fun pr xs M1 => I 0 ρ M1 ∧ (∀ i x ρ M, xs[i]? = some x → I i ρ M → oP (evGI pr g x ρ) fun ρ1 => yS o b ρ1 M fun out => match out with
      | .nx ρ2 M2 => I (i + 1) ρ2 M2
      | .rt w f M2 => Q (.rt w f M2)) ∧ ∀ ρ M, I xs.length ρ M → Q (.nx ρ M)) : yS o (.for_ g it b) ρ M Q := by
  unfold yI yS at h
  obtain ⟨⟨⟨pr, xs⟩, M1⟩, e, h1, h2, h3⟩ := oP.get h
  unfold yS
  rw [evS, e]
  refine yFor I Q xs 0 ρ M1 (fun i x ρ M e p => ?_) h1 (fun ρ M p => h3 ρ M (by rw [Nat.zero_add] at p; exact p))
  rw [Nat.zero_add] at p ⊢
  exact h2 i x ρ M e p
end
section
variable {Q : W → Bool → Store → Prop}
theorem yE_pop (i : Nat) (a : E) : yE o (.pop i a) ρ M Q = oP (wAt ρ i) fun w => oN w fun n => oP (cellAt M n) fun nd => oL nd fun _ => yE o a ρ M fun w _ M1 => oD w fun x => match x with
    | .int k => oP (cellAt M1 n) fun nd => oL nd fun xs => oP (ixN xs.length k) fun j => oP xs[j]? fun x => xs.length ≤ big ∧ Q (.d x) false (M1.set n (some (.lst (xs.eraseIdx j))))
    | _ => False := by
  unfold yE; rw [evE]
  rcases wAt ρ i with _ | ⟨x | n⟩
  · rfl
  · rfl
  · show oP (match cellAt M n with | some (.lst _) => _ | _ => _) _ = oP (cellAt M n) _
    rcases cellAt M n with _ | ⟨xs | ks⟩
    · rfl
    · show oP (match evE o a ρ M with | some ((.d (.int k), _), M1) => _ | _ => _) _ = oP (evE o a ρ M) _
      rcases evE o a ρ M with _ | ⟨⟨⟨x⟩ | m, f⟩, M1⟩
      · rfl
      · cases x with
        | int k =>
          show oP (match cellAt M1 n with | some (.lst xs) => _ | _ => _) _ = oP (cellAt M1 n) _
          rcases cellAt M1 n with _ | ⟨xs | ks⟩
          · rfl
          · show oP (match ixN xs.length k with | some j => _ | none => _) _ = oP (ixN xs.length k) _
            rcases ixN xs.length k with _ | j
            · rfl
            · show oP (match xs[j]? with | some j => _ | none => _) _ = oP xs[j]? _
              rcases xs[j]? with _ | x
              · rfl
              · show oP (if xs.length ≤ big then _ else _) _ = (xs.length ≤ big ∧ _)
                by_cases h : xs.length ≤ big
                · rw [if_pos h]; exact propext ⟨fun q => ⟨h, q⟩, fun q => q.2⟩
                · rw [if_neg h]; exact propext ⟨fun q => q.elim, fun q => h q.1⟩
          · rfl
        | _ => rfl
      · rfl
    · rfl
/-- a comprehension that writes nothing, over a list of things that are laid as data -/
theorem lcPure {α : Type} {pr : Bool} {g : G} {own : List Nat} {cond : REnv → Store → Option (Bool × Store)} {el : REnv → Store → Option RW} (en : α → D) (p : α → Bool) (f : α → D) : ∀ (l : List α) (acc : List D),
    (∀ a ∈ l, oP (evGI pr g (en a) (wipeR ρ own)) fun ρ1 => oP (cond ρ1 M) fun r => r.1 = p a ∧ r.2 = M ∧ (p a = true → oP (el ρ1 M) fun r => r.1.1 = .d (f a) ∧ r.2 = M)) → lcL pr g own cond el ρ (l.map en) acc M = some (acc ++ (l.filter p).map f, M)
  | [], acc, _ => by simp [lcL]
  | a :: l, acc, h => by
    obtain ⟨ρ1, e1, h1⟩ := (h a List.mem_cons_self).get
    obtain ⟨⟨c, M1⟩, e2, h2, h3, h4⟩ := h1.get
    have h2 : c = p a := h2
    have h3 : M = M1 := h3.symm
    subst h3
    rw [List.map_cons]
    unfold lcL
    simp only [e1, e2]
    cases hp : p a with
    | false =>
      rw [hp] at h2
      subst h2
      rw [List.filter_cons_of_neg (by rw [hp]; exact Bool.false_ne_true)]
      exact lcPure en p f l acc fun b hb => h b (List.mem_cons_of_mem _ hb)
    | true =>
      rw [hp] at h2
      subst h2
      obtain ⟨⟨⟨w, fr⟩, M2⟩, e3, h5, h6⟩ := (h4 hp).get
      have h5 : w = .d (f a) := h5
      have h6 : M = M2 := h6.symm
      rw [h5, ← h6] at e3
      simp only [e3]
      rw [List.filter_cons_of_pos hp, lcPure en p f l (acc ++ [f a]) fun b hb => h b (List.mem_cons_of_mem _ hb)]
      simp
theorem yE_lc {α : Type} {own : List Nat} {g : G} {it c el : E} (l : List α) (en : α → D) (p : α → Bool) (f : α → D) (h : yI o it ρ M fun pr xs M1 => xs = l.map en ∧ l.length ≤ big ∧ (∀ a ∈ l, oP (evGI pr g (en a) (wipeR ρ own)) fun ρ1 => yC o c ρ1 M1 fun b M2 => b = p a ∧ M2 = M1 ∧ (p a = true → yE o el ρ1 M1 fun w _ M2 => w = .d (f a) ∧ M2 = M1)) ∧ Q (.d (.lst ((l.filter p).map f))) true M1) : yE o (.lc own g it c el) ρ M Q := by
  unfold yI at h
  try unfold yC at h
  try unfold yE at h
  obtain ⟨⟨⟨pr, xs⟩, M1⟩, e, h1, h2, h3, h4⟩ := oP.get h
  have h1 : xs = l.map en := h1
  subst h1
  have h2 : (l.map en).length ≤ big := by rw [List.length_map]; exact h2
  unfold yE
  rw [evE, e]
  simp only [h2, if_true]
  rw [lcPure (M := M1) en p f l [] h3]
  exact h4
/-- the same without a condition -/
theorem yE_lm {α : Type} {own : List Nat} {g : G} {it el : E} (l : List α) (en : α → D) (f : α → D) (h : yI o it ρ M fun pr xs M1 => xs = l.map en ∧ l.length ≤ big ∧ (∀ a ∈ l, oP (evGI pr g (en a) (wipeR ρ own)) fun ρ1 => yE o el ρ1 M1 fun w _ M2 => w = .d (f a) ∧ M2 = M1) ∧ Q (.d (.lst (l.map f))) true M1) : yE o (.lc own g it .nil el) ρ M Q := by
  refine yE_lc l en (fun _ => true) f ?_
  unfold yI at *
  refine oP.imp h fun r ⟨h1, h2, h3, h4⟩ => ⟨h1, h2, fun a ha => (h3 a ha).imp fun ρ1 q => ?_, ?_⟩
  · rw [yC_nil]; exact ⟨rfl, rfl, fun _ => q⟩
  · rw [List.filter_eq_self.mpr fun _ _ => rfl]; exact h4
/-- a comprehension that may write -/
theorem lcWrite {pr : Bool} {g : G} {own : List Nat} {cond : REnv → Store → Option (Bool × Store)} {el : REnv → Store → Option RW} (I : Nat → List D → Store → Prop) (Q : List D → Store → Prop) : ∀ (xs acc : List D) (n : Nat) (M : Store),
    (∀ i x acc M, xs[i]? = some x → I (n + i) acc M → oP (evGI pr g x (wipeR ρ own)) fun ρ1 => oP (cond ρ1 M) fun r => if r.1 = true then oP (el ρ1 r.2) fun r => oD r.1.1 fun y => I (n + i + 1) (acc ++ [y]) r.2 else I (n + i + 1) acc r.2) →
    I n acc M → (∀ acc M, I (n + xs.length) acc M → Q acc M) → oP (lcL pr g own cond el ρ xs acc M) fun r => Q r.1 r.2
  | [], acc, n, M, _, p, q => q acc M p
  | x :: xs, acc, n, M, h, p, q => by
    obtain ⟨ρ1, e1, h1⟩ := (h 0 x acc M rfl p).get
    obtain ⟨⟨c, M1⟩, e2, h2⟩ := h1.get
    have next : ∀ (acc' : List D) (M' : Store), I (n + 1) acc' M' → oP (lcL pr g own cond el ρ xs acc' M') fun r => Q r.1 r.2 := fun acc' M' p' =>
      lcWrite I Q xs acc' (n + 1) M' (fun i y acc M e p => by
        have := h (i + 1) y acc M (by simpa using e) (by rw [show n + (i + 1) = n + 1 + i by omega]; exact p)
        rw [show n + (i + 1) = n + 1 + i by omega] at this
        exact this) p' (fun acc M p => q acc M (by rw [List.length_cons, show n + (xs.length + 1) = n + 1 + xs.length by omega]; exact p))
    unfold lcL
    simp only [e1, e2]
    cases c with
    | false => exact next acc M1 h2
    | true =>
      obtain ⟨⟨⟨w, fr⟩, M2⟩, e3, h3⟩ := (show oP (el ρ1 M1) _ from h2).get
      cases w with
      | cell n => exact h3.elim
      | d y => simp only [e3]; exact next (acc ++ [y]) M2 h3
theorem yE_lcW {own : List Nat} {g : G} {it c el : E} (I : Nat → List D → Store → Prop) (h : yI o it ρ M fun pr xs M1 => xs.length ≤ big ∧ I 0 [] M1 ∧ (∀ i x acc M, xs[i]? = some x → I i acc M → oP (evGI pr g x (wipeR ρ own)) fun ρ1 => yC o c ρ1 M fun b M1 => if b = true then yE o el ρ1 M1 fun w _ M2 => oD w fun y => I (i + 1) (acc ++ [y]) M2 else I (i + 1) acc M1) ∧
    ∀ acc M, I xs.length acc M → Q (.d (.lst acc)) true M) : yE o (.lc own g it c el) ρ M Q := by
  unfold yI at h
  try unfold yC at h
  try unfold yE at h
  obtain ⟨⟨⟨pr, xs⟩, M1⟩, e, h1, h2, h3, h4⟩ := oP.get h
  have h1 : xs.length ≤ big := h1
  unfold yE
  rw [evE, e]
  simp only [h1, if_true]
  obtain ⟨⟨ys, M2⟩, e2, h5⟩ := (lcWrite (ρ := ρ) (pr := pr) (g := g) (own := own) (cond := fun ρ M => evC o c ρ M) (el := fun ρ M => evE o el ρ M) I (fun ys M => Q (.d (.lst ys)) true M) xs [] 0 M1 (fun i x acc M e p => by
    rw [Nat.zero_add] at p ⊢
    exact h3 i x acc M e p) h2 (fun acc M p => h4 acc M (by rw [Nat.zero_add] at p; exact p))).get
  rw [e2]
  exact h5
/-- a dict comprehension that writes nothing -/
theorem dcPure {α : Type} {pr : Bool} {g : G} {own : List Nat} {cond : REnv → Store → Option (Bool × Store)} {ke ve : REnv → Store → Option RW} (en : α → D) (p : α → Bool) (f : α → Key × D) : ∀ (l : List α) (acc : List (Key × D)),
    (∀ a ∈ l, oP (evGI pr g (en a) (wipeR ρ own)) fun ρ1 => oP (cond ρ1 M) fun r => r.1 = p a ∧ r.2 = M ∧ (p a = true → oP (ke ρ1 M) fun r => r.1.1 = .d (ofKey (f a).1) ∧ r.2 = M ∧ oP (ve ρ1 M) fun r => r.1.1 = .d (f a).2 ∧ r.2 = M)) → dcL pr g own cond ke ve ρ (l.map en) acc M = some (mergK acc ((l.filter p).map f), M)
  | [], acc, _ => by simp [dcL, mergK]
  | a :: l, acc, h => by
    obtain ⟨ρ1, e1, h1⟩ := (h a List.mem_cons_self).get
    obtain ⟨⟨c, M1⟩, e2, h2, h3, h4⟩ := h1.get
    have h2 : c = p a := h2
    have h3 : M = M1 := h3.symm
    subst h3
    rw [List.map_cons]
    unfold dcL
    simp only [e1, e2]
    cases hp : p a with
    | false =>
      rw [hp] at h2
      subst h2
      rw [List.filter_cons_of_neg (by rw [hp]; exact Bool.false_ne_true)]
      exact dcPure en p f l acc fun b hb => h b (List.mem_cons_of_mem _ hb)
    | true =>
      rw [hp] at h2
      subst h2
      obtain ⟨⟨⟨w, fr⟩, M2⟩, e3, h5, h6, h7⟩ := (h4 hp).get
      have h5 : w = .d (ofKey (f a).1) := h5
      have h6 : M = M2 := h6.symm
      rw [h5, ← h6] at e3
      obtain ⟨⟨⟨w, fr⟩, M2⟩, e4, h8, h9⟩ := h7.get
      have h8 : w = .d (f a).2 := h8
      have h9 : M = M2 := h9.symm
      rw [h8, ← h9] at e4
      have hk : keyOf (ofKey (f a).1) = some (f a).1 := by cases (f a).1 <;> rfl
      simp only [e3, hk, e4]
      rw [List.filter_cons_of_pos hp, dcPure en p f l (setK (f a).1 (f a).2 acc) fun b hb => h b (List.mem_cons_of_mem _ hb)]
      rfl
theorem yE_dc {α : Type} {own : List Nat} {g : G} {it c ke ve : E} (l : List α) (en : α → D) (p : α → Bool) (f : α → Key × D) (h : yI o it ρ M fun pr xs M1 => xs = l.map en ∧ l.length ≤ big ∧ (∀ a ∈ l, oP (evGI pr g (en a) (wipeR ρ own)) fun ρ1 => yC o c ρ1 M1 fun b M2 => b = p a ∧ M2 = M1 ∧ (p a = true → yE o ke ρ1 M1 fun w _ M2 => w = .d (ofKey (f a).1) ∧ M2 = M1 ∧ yE o ve ρ1 M1 fun w _ M2 => w = .d (f a).2 ∧ M2 = M1)) ∧ Q (.d (.dic (mergK [] ((l.filter p).map f)))) true M1) : yE o (.dc own g it c ke ve) ρ M Q := by
  unfold yI at h
  try unfold yC at h
  try unfold yE at h
  obtain ⟨⟨⟨pr, xs⟩, M1⟩, e, h1, h2, h3, h4⟩ := oP.get h
  have h1 : xs = l.map en := h1
  subst h1
  have h2 : (l.map en).length ≤ big := by rw [List.length_map]; exact h2
  unfold yE
  rw [evE, e]
  simp only [h2, if_true]
  rw [dcPure (M := M1) en p f l [] h3]
  exact h4
end
/-- a while loop: an invariant with a measure -/
theorem yWhile {test : REnv → Store → Option (Bool × Store)} {body : REnv → Store → Option Out} (I : Nat → REnv → Store → Prop) (Q : Out → Prop)
    (st : ∀ n ρ M, I n ρ M → oP (test ρ M) fun r => if r.1 = true then oP (body ρ r.2) fun out => match out with
      | .nx ρ2 M2 => ∃ m, m < n ∧ I m ρ2 M2
      | .rt w f M2 => Q (.rt w f M2) else Q (.nx ρ r.2)) : ∀ (fuel n : Nat) (ρ : REnv) (M : Store), n < fuel → I n ρ M → oP (whL test body fuel ρ M) Q
  | 0, n, ρ, M, h, _ => by omega
  | fuel + 1, n, ρ, M, h, p => by
    obtain ⟨⟨c, M1⟩, e1, h1⟩ := (st n ρ M p).get
    unfold whL
    simp only [e1]
    cases c with
    | false => exact h1
    | true =>
      obtain ⟨out, e2, h2⟩ := (show oP (body ρ M1) _ from h1).get
      simp only [e2]
      cases out with
      | nx ρ2 M2 =>
        obtain ⟨m, hm, p2⟩ := h2
        exact yWhile I Q st fuel m ρ2 M2 (by omega) p2
      | rt w f M2 => exact h2
theorem yS_while {Q : Out → Prop} {t : E} {b : S} (I : Nat → REnv → Store → Prop) {n : Nat} (hn : n < 65536) (h0 : I n ρ M)
    (st : ∀ n ρ M, I n ρ M → yT o t ρ M fun c M1 => if c = true then yS o b ρ M1 fun out => match out with
      | .nx ρ2 M2 => ∃ m, m < n ∧ I m ρ2 M2
      | .rt w f M2 => Q (.rt w f M2) else Q (.nx ρ M1)) : yS o (.while_ t b) ρ M Q := by
  unfold yT at st
  unfold yS at *
  rw [evS]
  exact yWhile I Q st big n ρ M hn h0
end
/-! #### calls -/
theorem pCall {T : List Def} {k : Nat} {d : Def} (hf : findDef T d.name = some d) {xs : List D} (hl : xs.length = d.ps.length) {Q : Res → Prop} (h : yS (orc T k) d.body (envOf d (xs.map .d)) [] fun out => match out with
    | .rt w f _ => oD w fun x => Q (x, f)
    | .nx _ _ => Q (.non, false)) : oP ((orc T (k + 1)).p d.name xs) Q := by
  unfold yS at h
  obtain ⟨out, e, h⟩ := oP.get h
  show oP (runP (orc T k) T d.name xs) Q
  unfold runP
  rw [hf]
  simp only [hl, if_true, e]
  cases out with
  | nx ρ M => exact h
  | rt w f M => cases w with
    | cell n => exact h.elim
    | d x => exact h
theorem mCall {T : List Def} {k : Nat} {d : Def} (hf : findDef T d.name = some d) {ws : List W} (hl : ws.length = d.ps.length) {M : Store} {Q : RW → Prop} (h : yS (orc T k) d.body (envOf d ws) M fun out => match out with
    | .rt w f M1 => oD w fun x => Q ((.d x, f), M1.take M.length)
    | .nx _ M1 => Q ((.d .non, false), M1.take M.length)) : oP ((orc T (k + 1)).m d.name ws M) Q := by
  unfold yS at h
  obtain ⟨out, e, h⟩ := oP.get h
  show oP (runM (orc T k) T d.name ws M) Q
  unfold runM
  rw [hf]
  simp only [hl, if_true, e]
  cases out with
  | nx ρ M => exact h
  | rt w f M => cases w with
    | cell n => exact h.elim
    | d x => exact h
end Rf

set_option Elab.async false
set_option linter.all false
set_option maxRecDepth 100000
set_option maxHeartbeats 4000000
namespace Rf
open PySem L2
/-! ### operators on known kinds -/
theorem k_nf : (!false) = true := rfl
theorem k_nt : (!true) = false := rfl
theorem k_nn (b : Bool) : (!!b) = b := by cases b <;> rfl
theorem k_to (b : Bool) : (true || b) = true := rfl
theorem k_fo (b : Bool) : (false || b) = b := rfl
theorem k_ta (b : Bool) : (true && b) = b := rfl
theorem k_fa (b : Bool) : (false && b) = false := rfl
theorem k_it {α : Sort _} (a b : α) : (if true = true then a else b) = a := rfl
theorem k_if {α : Sort _} (a b : α) : (if false = true then a else b) = b := rfl
theorem k_tt : (true = true) = True := by simp
theorem k_ft : (false = true) = False := by simp
theorem k_Ta (p : Prop) : (True ∧ p) = p := by simp
theorem k_aT (p : Prop) : (p ∧ True) = p := by simp
theorem k_big : big = 65536 := rfl
theorem k_lc {α : Type} (x : α) (xs : List α) : (x :: xs).length = xs.length + 1 := rfl
theorem k_ln {α : Type} : ([] : List α).length = 0 := rfl
theorem k_lm {α β : Type} (f : α → β) (xs : List α) : (xs.map f).length = xs.length := List.length_map ..
theorem o_eq (x y : D) : opCmp .eq x y = eqC x y := by unfold opCmp; rfl
theorem o_ne (x y : D) : opCmp .ne x y = (eqC x y).map (!·) := by unfold opCmp; rfl
theorem o_lt (i j : Int) : opCmp .lt (.int i) (.int j) = some (decide (i < j)) := rfl
theorem o_lts (i j : Str) : opCmp .lt (.str i) (.str j) = some (ltS i j) := rfl
theorem o_le (i j : Int) : opCmp .le (.int i) (.int j) = some (decide (i ≤ j)) := rfl
theorem o_gt (i j : Int) : opCmp .gt (.int i) (.int j) = some (decide (j < i)) := rfl
theorem o_ge (i j : Int) : opCmp .ge (.int i) (.int j) = some (decide (j ≤ i)) := rfl
theorem o_is (x y : D) : opCmp .is_ x y = isC x y := by unfold opCmp; rfl
theorem o_isnt (x y : D) : opCmp .isnt x y = (isC x y).map (!·) := by unfold opCmp; rfl
theorem o_in (x y : D) : opCmp .inn x y = inC x y := by unfold opCmp; rfl
theorem o_notin (x y : D) : opCmp .notin x y = (inC x y).map (!·) := by unfold opCmp; rfl
theorem e_ss (a b : Str) : eqC (.str a) (.str b) = some (a == b) := by unfold eqC; rw [if_pos (by simp [scalD])]; simp [eqD]
theorem e_ii (a b : Int) : eqC (.int a) (.int b) = some (a == b) := by unfold eqC; rw [if_pos (by simp [scalD])]; simp [eqD]
theorem e_bb (a b : Bool) : eqC (.bl a) (.bl b) = some (a == b) := by unfold eqC; rw [if_pos (by simp [scalD])]; simp [eqD]
theorem e_nn : eqC .non .non = some true := by unfold eqC; rw [if_pos (by simp [scalD])]; simp [eqD]
theorem e_ns (a : Str) : eqC .non (.str a) = some false := by unfold eqC; rw [if_pos (by simp [scalD])]; simp [eqD]
theorem e_sn (a : Str) : eqC (.str a) .non = some false := by unfold eqC; rw [if_pos (by simp [scalD])]; simp [eqD]
theorem e_ni (a : Int) : eqC .non (.int a) = some false := by unfold eqC; rw [if_pos (by simp [scalD])]; simp [eqD]
theorem e_in (a : Int) : eqC (.int a) .non = some false := by unfold eqC; rw [if_pos (by simp [scalD])]; simp [eqD]
theorem e_dd (a b : List (Key × D)) : eqC (.dic a) (.dic b) = (hitsD b a).map (a.length == b.length && ·) := by unfold eqC; rw [if_neg (by simp [scalD, okD, flat])]; rfl
theorem e_ok {x y : D} (h1 : okD x = true) (h2 : okD y = true) : eqC x y = some (eqD x y) := by unfold eqC; rw [h1, h2]; simp
theorem i_n : isC .non .non = some true := rfl
theorem i_s (a : Str) : isC (.str a) .non = some false := rfl
theorem i_i (a : Int) : isC (.int a) .non = some false := rfl
theorem i_b (a : Bool) : isC (.bl a) .non = some false := rfl
theorem i_t (a : List D) : isC (.tup a) .non = some false := rfl
theorem i_l (a : List D) : isC (.lst a) .non = some false := rfl
theorem i_bb (a b : Bool) : isC (.bl a) (.bl b) = some (a == b) := rfl
theorem t_n : truD .non = some false := rfl
theorem t_b (b : Bool) : truD (.bl b) = some b := rfl
theorem t_i (i : Int) : truD (.int i) = some (i != 0) := rfl
theorem t_l (xs : List D) : truD (.lst xs) = some (!xs.isEmpty) := rfl
theorem t_t (xs : List D) : truD (.tup xs) = some (!xs.isEmpty) := rfl
theorem x_dic (kvs : List (Key × D)) (s : Str) : idxD (.dic kvs) (.str s) = getK (.inr s) kvs := rfl
theorem x_dicI (kvs : List (Key × D)) (s : Int) : idxD (.dic kvs) (.int s) = getK (.inl s) kvs := rfl
theorem x_tup (xs : List D) (i : Int) : idxD (.tup xs) (.int i) = atI xs i := rfl
theorem x_lst (xs : List D) (i : Int) : idxD (.lst xs) (.int i) = atI xs i := rfl
theorem atI_nat {α : Type} {xs : List α} {n : Nat} : atI xs (n : Int) = xs[n]? := by
  unfold atI ixN
  rw [if_pos (Int.natCast_nonneg n)]
  by_cases h : n < xs.length
  · rw [if_pos (by omega)]; simp
  · rw [if_neg (by omega), List.getElem?_eq_none (by omega)]; rfl
theorem at_0 {α : Type} (x : α) (xs : List α) : atI (x :: xs) 0 = some x := (atI_nat (n := 0)).trans rfl
theorem at_1 {α : Type} (x y : α) (xs : List α) : atI (x :: y :: xs) 1 = some y := (atI_nat (n := 1)).trans rfl
theorem at_2 {α : Type} (x y z : α) (xs : List α) : atI (x :: y :: z :: xs) 2 = some z := (atI_nat (n := 2)).trans rfl
theorem at_3 {α : Type} (x y z w : α) (xs : List α) : atI (x :: y :: z :: w :: xs) 3 = some w := (atI_nat (n := 3)).trans rfl
theorem d_in (kvs : List (Key × D)) (s : Str) : inC (.str s) (.dic kvs) = some (getK (.inr s) kvs).isSome := rfl
theorem d_inI (kvs : List (Key × D)) (s : Int) : inC (.int s) (.dic kvs) = some (getK (.inl s) kvs).isSome := rfl
theorem k_of (s : Str) : keyOf (.str s) = some (.inr s) := rfl
theorem k_ofI (s : Int) : keyOf (.int s) = some (.inl s) := rfl
theorem it_l (xs : List D) : itemsD (.lst xs) = some xs := rfl
theorem it_t (xs : List D) : itemsD (.tup xs) = some xs := rfl
theorem it_d (xs : List (Key × D)) : itemsD (.dic xs) = some (xs.map fun p => ofKey p.1) := rfl
theorem b_addI (i j : Int) : opBin .add (.int i) (.int j) = some (.int (i + j), false) := rfl
theorem b_subI (i j : Int) : opBin .sub (.int i) (.int j) = some (.int (i - j), false) := rfl
theorem oP_some2 {α : Type} {c : Prop} [Decidable c] {a : α} {Q : α → Prop} : oP (if c then some a else none) Q = (c ∧ Q a) := by
  by_cases h : c
  · rw [if_pos h]; exact propext ⟨fun q => ⟨h, q⟩, fun q => q.2⟩
  · rw [if_neg h]; exact propext ⟨fun q => q.elim, fun q => h q.1⟩
theorem b_addL (i j : List D) (Q : Res → Prop) : oP (opBin .add (.lst i) (.lst j)) Q = (i.length + j.length ≤ 65536 ∧ Q (.lst (i ++ j), true)) := oP_some2
theorem b_addT (i j : List D) (Q : Res → Prop) : oP (opBin .add (.tup i) (.tup j)) Q = (i.length + j.length ≤ 65536 ∧ Q (.tup (i ++ j), false)) := oP_some2
theorem b_addS (i j : Str) (Q : Res → Prop) : oP (opBin .add (.str i) (.str j)) Q = (i.length + j.length ≤ 65536 ∧ Q (.str (i ++ j), false)) := oP_some2
theorem b_mod (i j : Int) (Q : Res → Prop) : oP (opBin .mod (.int i) (.int j)) Q = (j ≠ 0 ∧ Q (.int (i.fmod j), false)) := oP_some2
theorem b_fdiv (i j : Int) (Q : Res → Prop) : oP (opBin .fdiv (.int i) (.int j)) Q = ((j ≠ 0 ∧ j.natAbs < 1073741824) ∧ Q (.int (i.fdiv j), false)) := oP_some2
theorem b_mul (i j : Int) (Q : Res → Prop) : oP (opBin .mul (.int i) (.int j)) Q = (mulOk i j = true ∧ Q (.int (i * j), false)) := oP_some2
/-! ### built-ins -/
theorem f_lenL (xs : List D) : evB .len [.lst xs] = some (.int xs.length, false) := rfl
theorem f_lenT (xs : List D) : evB .len [.tup xs] = some (.int xs.length, false) := rfl
theorem f_lenD (xs : List (Key × D)) : evB .len [.dic xs] = some (.int xs.length, false) := rfl
theorem f_lenS (xs : List Int) : evB .len [.scr xs] = some (.int xs.length, false) := rfl
theorem f_int (i : Int) : evB .int [.int i] = some (.int i, false) := rfl
theorem f_intB (i : Bool) : evB .int [.bl i] = some (.int (if i then 1 else 0), false) := rfl
theorem f_tupL (xs : List D) : evB .tuple [.lst xs] = some (.tup xs, false) := rfl
theorem f_tupT (xs : List D) : evB .tuple [.tup xs] = some (.tup xs, false) := rfl
theorem f_lstL (xs : List D) : evB .list [.lst xs] = some (.lst xs, true) := rfl
theorem f_lstT (xs : List D) : evB .list [.tup xs] = some (.lst xs, true) := rfl
theorem f_dicD (xs : List (Key × D)) : evB .dict [.dic xs] = some (.dic xs, true) := rfl
theorem f_dicL (xs : List D) (Q : Res → Prop) : oP (evB .dict [.lst xs]) Q = oP (pairsOf xs) fun ps => ps.length ≤ 65536 ∧ Q (.dic (mergK [] ps), true) := by
  show oP (match pairsOf xs with | some ps => _ | none => _) Q = _
  rcases pairsOf xs with _ | ps
  · rfl
  · exact oP_some2
theorem f_dicT (xs : List D) (Q : Res → Prop) : oP (evB .dict [.tup xs]) Q = oP (pairsOf xs) fun ps => ps.length ≤ 65536 ∧ Q (.dic (mergK [] ps), true) := by
  show oP (match pairsOf xs with | some ps => _ | none => _) Q = _
  rcases pairsOf xs with _ | ps
  · rfl
  · exact oP_some2
theorem f_sort (xs : List D) (Q : Res → Prop) : oP (evB .sorted [.lst xs]) Q = oP (sortD xs) fun ys => Q (.lst ys, true) := by
  show oP (match sortD xs with | some ps => _ | none => _) Q = _
  rcases sortD xs with _ | ps <;> rfl
theorem f_sortT (xs : List D) (Q : Res → Prop) : oP (evB .sorted [.tup xs]) Q = oP (sortD xs) fun ys => Q (.lst ys, true) := by
  show oP (match sortD xs with | some ps => _ | none => _) Q = _
  rcases sortD xs with _ | ps <;> rfl
theorem f_all (xs : List D) (Q : Res → Prop) : oP (evB .all [.lst xs]) Q = oP (blsOf xs) fun bs => Q (.bl (bs.all id), false) := by
  show oP (match blsOf xs with | some ps => _ | none => _) Q = _
  rcases blsOf xs with _ | ps <;> rfl
theorem f_any (xs : List D) (Q : Res → Prop) : oP (evB .any [.lst xs]) Q = oP (blsOf xs) fun bs => Q (.bl (bs.any id), false) := by
  show oP (match blsOf xs with | some ps => _ | none => _) Q = _
  rcases blsOf xs with _ | ps <;> rfl
theorem f_sum (xs : List D) (Q : Res → Prop) : oP (evB .sum [.lst xs]) Q = oP (intsOf xs) fun bs => Q (.int bs.sum, false) := by
  show oP (match intsOf xs with | some ps => _ | none => _) Q = _
  rcases intsOf xs with _ | ps <;> rfl
theorem bls_map {α : Type} (f : α → Bool) : ∀ l : List α, blsOf (l.map fun a => .bl (f a)) = some (l.map f)
  | [] => rfl
  | a :: l => by rw [List.map_cons, blsOf, bls_map f l]; rfl
theorem ints_map {α : Type} (f : α → Int) : ∀ l : List α, intsOf (l.map fun a => .int (f a)) = some (l.map f)
  | [] => rfl
  | a :: l => by rw [List.map_cons, intsOf, ints_map f l]; rfl
theorem strs_map {α : Type} (f : α → Str) : ∀ l : List α, strsOf (l.map fun a => .str (f a)) = some (l.map f)
  | [] => rfl
  | a :: l => by rw [List.map_cons, strsOf, strs_map f l]; rfl
/-- is in a list of texts -/
theorem mem_strs (x : Str) : ∀ l : List Str, memD (.str x) (l.map .str) = decide (x ∈ l)
  | [] => rfl
  | a :: l => by
    rw [List.map_cons, memD, mem_strs x l]
    show ((a == x) || decide (x ∈ l)) = decide (x ∈ a :: l)
    by_cases h : a = x
    · subst h; simp
    · have : (a == x) = false := by simpa using h
      rw [this]
      have h2 : (x ∈ a :: l) = (x ∈ l) := by
        rw [List.mem_cons]
        exact propext ⟨fun q => q.resolve_left fun z => h z.symm, .inr⟩
      simp only [h2, Bool.false_or]
theorem atom_strs : ∀ l : List Str, allAtom (l.map .str) = true
  | [] => rfl
  | a :: l => by rw [List.map_cons, allAtom, atom_strs l]; rfl
theorem in_strs (x : Str) (l : List Str) : inC (.str x) (.lst (l.map .str)) = some (decide (x ∈ l)) := by
  simp only [inC, atom_strs, mem_strs, isAtom, Bool.true_and, Bool.true_or, if_true]
theorem in_strsT (x : Str) (l : List Str) : inC (.str x) (.tup (l.map .str)) = some (decide (x ∈ l)) := by
  simp only [inC, atom_strs, mem_strs, isAtom, Bool.true_and, Bool.true_or, if_true]
theorem bind_none' {α β : Type} (f : α → Option β) : (none : Option α).bind f = none := rfl
end Rf

set_option Elab.async false
set_option linter.all false
set_option maxRecDepth 100000
set_option maxHeartbeats 4000000
namespace Rf
open PySem L2
def d_tupled : Def where
  name := "tupled"
  ps := ["thing"]
  N := ["thing", "part"]
  kwo := []
  body := (.seq (.ret (.ite (.cons (.isi (.slot 0) [.list, .tuple]) .nil) (.blt .tuple (.cons (.lc [1] (.nm 1) (.itv (.slot 0)) .nil (.callP "tupled" (.cons (.slot 1) .nil))) .nil)) (.slot 0)))
    .nil)
def d_is_name : Def where
  name := "is_name"
  ps := ["thing"]
  N := ["thing", "letter"]
  kwo := []
  body := (.seq (.ite (.orv (.notv (.cons (.isi (.slot 0) [.str]) .nil)) (.one (.notv (.cons (.chain .le .le (.cst (.int 1)) (.blt .len (.cons (.slot 0) .nil)) (.glob "MOST_LETTERS" (.int 8))) .nil))))
    (.seq (.ret (.cst (.bl false)))
    .nil)
    .nil)
    (.seq (.ret (.blt .all (.cons (.lc [1] (.nm 1) (.itv (.slot 0)) .nil (.cmp .inn (.slot 1) (.glob "LETTERS" (.str "abcdefghijklmnopqrstuvwxyz")))) .nil)))
    .nil))
def d_law_box : Def where
  name := "_law_box"
  ps := ["_law_script", "_law_k"]
  N := ["_law_script", "_law_k", "_law_cell"]
  kwo := []
  body := (.seq (.asg (.nm 2) (.ite (.cons (.cmp .lt (.slot 1) (.blt .len (.cons (.slot 0) .nil))) .nil) (.idx (.slot 0) (.slot 1)) (.cst (.int 0))))
    (.seq (.ret (.lst (.cons (.bin .mul (.blt .abs (.cons (.slot 2) .nil)) (.blt .int (.cons (.cmp .ge (.blt .abs (.cons (.slot 2) .nil)) (.bin .pow (.cst (.int 10)) (.cst (.int 18)))) .nil))) (.cons (.bin .add (.bin .add (.bin .mod (.blt .int (.cons (.slot 2) .nil)) (.cst (.int 2305843009213693951))) (.bin .mul (.cst (.int 39373)) (.slot 1))) (.cst (.int 109))) (.cons (.cst (.int 0)) .nil)))))
    .nil))
def d_law_take : Def where
  name := "_law_take"
  ps := ["_law_box_here", "_law_below"]
  N := ["_law_box_here", "_law_below", "_law_drawn", "_law_once", "_law_far", "_law_twice"]
  kwo := []
  body := (.seq (.ite (.cons (.cmp .gt (.idx (.slot 0) (.cst (.int 0))) (.cst (.int 0))) .nil)
    (.seq (.asg (.nm 2) (.bin .mod (.blt .int (.cons (.idx (.slot 0) (.cst (.int 0))) .nil)) (.slot 1)))
    (.seq (.seti 0 (.cst (.int 0)) (.bin .fdiv (.idx (.slot 0) (.cst (.int 0))) (.slot 1)))
    (.seq (.ret (.slot 2))
    .nil)))
    .nil)
    (.seq (.seti 0 (.cst (.int 2)) (.bin .add (.idx (.slot 0) (.cst (.int 2))) (.cst (.int 1))))
    (.seq (.asg (.nm 3) (.bin .mod (.blt .int (.cons (.bin .mul (.bin .add (.idx (.slot 0) (.cst (.int 1))) (.bin .mul (.cst (.int 48271)) (.idx (.slot 0) (.cst (.int 2))))) (.bin .add (.cst (.int 39373)) (.idx (.slot 0) (.cst (.int 2))))) .nil)) (.cst (.int 2147483647))))
    (.seq (.asg (.nm 4) (.bin .add (.bin .mod (.blt .int (.cons (.slot 3) .nil)) (.cst (.int 40009))) (.cst (.int 7))))
    (.seq (.asg (.nm 5) (.bin .mod (.blt .int (.cons (.bin .mul (.bin .add (.bin .add (.slot 3) (.idx (.slot 0) (.cst (.int 2)))) (.bin .fdiv (.idx (.slot 0) (.cst (.int 1))) (.cst (.int 1000003)))) (.slot 4)) .nil)) (.cst (.int 2147483629))))
    (.seq (.ret (.bin .mod (.blt .int (.cons (.bin .fdiv (.bin .mod (.blt .int (.cons (.bin .add (.bin .mul (.slot 5) (.cst (.int 48271))) (.slot 3)) .nil)) (.cst (.int 2147483587))) (.cst (.int 64))) .nil)) (.slot 1)))
    .nil))))))
def d_law_cells : Def where
  name := "_law_cells"
  ps := ["_law_script", "_law_most"]
  N := ["_law_script", "_law_most", "_law_cells_here", "_law_k", "_law_cell", "_law_at_so"]
  kwo := []
  body := (.seq (.asg (.nm 2) (.mk (.orT (.blt .list (.cons (.slc (.slot 0) .none_ (.cons (.slot 1) .nil)) .nil)) (.one (.lst (.cons (.cst (.int 0)) .nil))))))
    (.seq (.for_ (.tp (.tcons (.nm 3) (.tcons (.nm 4) .tnil))) (.enum (.slc (.slot 0) (.cons (.slot 1) .nil) (.cons (.cst (.int 63)) .nil)))
    (.seq (.asg (.nm 5) (.bin .mod (.blt .int (.cons (.slot 3) .nil)) (.slot 1)))
    (.seq (.seti 2 (.slot 5) (.bin .add (.idx (.slot 2) (.slot 5)) (.bin .mul (.slot 4) (.bin .add (.slot 3) (.cst (.int 2))))))
    .nil)))
    (.seq (.frz 2)
    (.seq (.ret (.slot 2))
    .nil))))
def d_law_of : Def where
  name := "_law_of"
  ps := ["_law_box_here", "_law_some"]
  N := ["_law_box_here", "_law_some"]
  kwo := []
  body := (.seq (.ret (.idx (.slot 1) (.callM "_law_take" (.cons (.slot 0) (.cons (.blt .len (.cons (.slot 1) .nil)) .nil)))))
    .nil)
def d_law_lists : Def where
  name := "_law_lists"
  ps := ["_law_matter"]
  N := ["_law_matter", "_law_bit"]
  kwo := []
  body := (.seq (.ret (.ite (.cons (.isi (.slot 0) [.list, .tuple]) .nil) (.lc [1] (.nm 1) (.itv (.slot 0)) .nil (.callP "_law_lists" (.cons (.slot 1) .nil))) (.slot 0)))
    .nil)
def d_law_same : Def where
  name := "_law_same"
  ps := ["_law_found", "_law_due"]
  N := ["_law_found", "_law_due", "_law_mine", "_law_its"]
  kwo := []
  body := (.seq (.ite (.cons (.isi (.slot 1) [.list, .tuple]) .nil)
    (.seq (.ite (.orv (.cons (.cmp .ne (.isi (.slot 0) [.list]) (.isi (.slot 1) [.list])) .nil) (.one (.cons (.cmp .ne (.isi (.slot 0) [.tuple]) (.isi (.slot 1) [.tuple])) .nil)))
    (.seq (.ret (.cst (.bl false)))
    .nil)
    .nil)
    (.seq (.ret (.andv (.cmp .eq (.blt .len (.cons (.slot 0) .nil)) (.blt .len (.cons (.slot 1) .nil))) (.one (.blt .all (.cons (.lc [2,3] (.tp (.tcons (.nm 2) (.tcons (.nm 3) .tnil))) (.zip (.slot 0) (.slot 1)) .nil (.callP "_law_same" (.cons (.slot 2) (.cons (.slot 3) .nil)))) .nil)))))
    .nil))
    .nil)
    (.seq (.ite (.orv (.cons (.cmp .is_ (.slot 1) (.cst .non)) .nil) (.one (.cons (.isi (.slot 1) [.bool, .str]) .nil)))
    (.seq (.ret (.andv (.cmp .eq (.slot 0) (.slot 1)) (.andv (.cmp .eq (.isi (.slot 0) [.bool]) (.isi (.slot 1) [.bool])) (.one (.cmp .eq (.cmp .is_ (.slot 0) (.cst .non)) (.cmp .is_ (.slot 1) (.cst .non)))))))
    .nil)
    .nil)
    (.seq (.ret (.andv (.isi (.slot 0) [.int]) (.andv (.notv (.isi (.slot 0) [.bool])) (.one (.cmp .eq (.slot 0) (.slot 1))))))
    .nil)))
def d_law_grown : Def where
  name := "_law_grown"
  ps := ["_law_box_here", "_law_many", "_law_locked"]
  N := ["_law_box_here", "_law_many", "_law_locked", "_law_left", "_law_rows", "_law_turn", "_law_parent_so"]
  kwo := []
  body := (.seq (.asg (.nm 3) (.mk (.lst (.cons (.cst (.str "a")) (.cons (.cst (.str "b")) (.cons (.cst (.str "c")) (.cons (.cst (.str "d")) (.cons (.cst (.str "e")) (.cons (.cst (.str "f")) (.cons (.cst (.str "g")) (.cons (.cst (.str "ab")) (.cons (.cst (.str "ba")) (.cons (.cst (.str "h")) (.cons (.cst (.str "m")) (.cons (.cst (.str "z")) .nil)))))))))))))))
    (.seq (.asg (.nm 4) (.mk (.lst (.cons (.tup (.cons (.pop 3 (.callM "_law_take" (.cons (.slot 0) (.cons (.blt .len (.cons (.slot 3) .nil)) .nil)))) (.cons (.cst .non) (.cons (.cst (.bl false)) .nil)))) .nil))))
    (.seq (.for_ (.nm 5) (.rng1 (.bin .sub (.slot 1) (.cst (.int 1))))
    (.seq (.asg (.nm 6) (.idx (.callM "_law_of" (.cons (.slot 0) (.cons (.slot 4) .nil))) (.cst (.int 0))))
    (.seq (.app 4 (.tup (.cons (.pop 3 (.callM "_law_take" (.cons (.slot 0) (.cons (.blt .len (.cons (.slot 3) .nil)) .nil)))) (.cons (.slot 6) (.cons (.cmp .lt (.callM "_law_take" (.cons (.slot 0) (.cons (.cst (.int 12)) .nil))) (.slot 2)) .nil)))))
    .nil)))
    (.seq (.frz 4)
    (.seq (.ret (.blt .tuple (.cons (.slot 4) .nil)))
    .nil)))))
def d_law_wished_k00 : Def where
  name := "_law_wished"
  ps := ["_law_box_here", "_law_tree_so", "_law_many", "_law_values"]
  N := ["_law_box_here", "_law_tree_so", "_law_many", "_law_values", "_law_left", "_law_found", "_law_turn", "_law_row"]
  kwo := []
  body := (.seq (.par [4, 5] (.cons (.mk (.lc [7] (.nm 7) (.itv (.slot 1)) .nil (.idx (.slot 7) (.cst (.int 0))))) (.cons (.mk (.lst .nil)) .nil)))
    (.seq (.for_ (.nm 6) (.rng1 (.slot 2))
    (.seq (.ite (.cons (.cmp .ne (.slot 4) (.lst .nil)) .nil)
    (.seq (.app 5 (.tup (.cons (.pop 4 (.callM "_law_take" (.cons (.slot 0) (.cons (.blt .len (.cons (.slot 4) .nil)) .nil)))) (.cons (.callM "_law_of" (.cons (.slot 0) (.cons (.slot 3) .nil))) .nil))))
    .nil)
    .nil)
    .nil))
    (.seq (.frz 5)
    (.seq (.ret (.blt .tuple (.cons (.blt .sorted (.cons (.slot 5) .nil)) .nil)))
    .nil))))
def d_law_wished : Def where
  name := "_law_wished"
  ps := ["_law_box_here", "_law_tree_so", "_law_many", "_law_values_here"]
  N := ["_law_box_here", "_law_tree_so", "_law_many", "_law_values_here", "_law_left", "_law_found", "_law_turn", "_law_row"]
  kwo := []
  body := (.seq (.par [4, 5] (.cons (.mk (.lc [7] (.nm 7) (.itv (.slot 1)) .nil (.idx (.slot 7) (.cst (.int 0))))) (.cons (.mk (.lst .nil)) .nil)))
    (.seq (.for_ (.nm 6) (.rng1 (.slot 2))
    (.seq (.ite (.cons (.cmp .ne (.slot 4) (.lst .nil)) .nil)
    (.seq (.app 5 (.tup (.cons (.pop 4 (.callM "_law_take" (.cons (.slot 0) (.cons (.blt .len (.cons (.slot 4) .nil)) .nil)))) (.cons (.callM "_law_of" (.cons (.slot 0) (.cons (.slot 3) .nil))) .nil))))
    .nil)
    .nil)
    .nil))
    (.seq (.frz 5)
    (.seq (.ret (.blt .tuple (.cons (.blt .sorted (.cons (.slot 5) .nil)) .nil)))
    .nil))))
def d_law_planned : Def where
  name := "_law_planned"
  ps := ["_law_box_here", "_law_tree_so", "_law_values"]
  N := ["_law_box_here", "_law_tree_so", "_law_values", "_law_found", "_law_name", "_law_parent_so", "_law_is_locked"]
  kwo := []
  body := (.seq (.asg (.nm 3) (.mk (.lst (.cons (.tup (.cons (.idx (.idx (.slot 1) (.cst (.int 0))) (.cst (.int 0))) (.cons (.callM "_law_of" (.cons (.slot 0) (.cons (.slot 2) .nil))) .nil))) .nil))))
    (.seq (.for_ (.tp (.tcons (.nm 4) (.tcons (.nm 5) (.tcons (.nm 6) .tnil)))) (.itv (.slc (.slot 1) (.cons (.cst (.int 1)) .nil) .none_))
    (.seq (.ite (.andv (.notv (.cons (.slot 6) .nil)) (.one (.cons (.cmp .eq (.callM "_law_take" (.cons (.slot 0) (.cons (.cst (.int 3)) .nil))) (.cst (.int 0))) .nil)))
    (.seq (.app 3 (.tup (.cons (.slot 4) (.cons (.callM "_law_of" (.cons (.slot 0) (.cons (.slot 2) .nil))) .nil))))
    .nil)
    .nil)
    .nil))
    (.seq (.frz 3)
    (.seq (.ret (.blt .tuple (.cons (.blt .sorted (.cons (.slot 3) .nil)) .nil)))
    .nil))))
def d_law_k00 : Def where
  name := "law"
  ps := ["_law_script"]
  N := ["_law_script", "_law_cells_here", "_law_k"]
  kwo := []
  body := (.seq (.asg (.nm 1) (.callP "_law_cells" (.cons (.slot 0) (.cons (.cst (.int 3)) .nil))))
    (.seq (.ret (.blt .all (.cons (.lc [2] (.nm 2) (.rng1 (.blt .len (.cons (.slot 1) .nil))) .nil (.callM "_law_right" (.cons (.mk (.callP "_law_box" (.cons (.slot 1) (.cons (.slot 2) .nil)))) .nil))) .nil)))
    .nil))
def d_names_of : Def where
  name := "names_of"
  ps := ["tree"]
  N := ["tree", "row"]
  kwo := []
  body := (.seq (.ret (.lc [1] (.nm 1) (.itv (.slot 0)) .nil (.idx (.slot 1) (.cst (.int 0)))))
    .nil)
def d_root_of : Def where
  name := "root_of"
  ps := ["tree"]
  N := ["tree"]
  kwo := []
  body := (.seq (.ret (.idx (.idx (.slot 0) (.cst (.int 0))) (.cst (.int 0))))
    .nil)
def d_parents : Def where
  name := "parents"
  ps := ["tree"]
  N := ["tree", "row"]
  kwo := []
  body := (.seq (.ret (.dc [1] (.nm 1) (.itv (.callP "tupled" (.cons (.slot 0) .nil))) .nil (.idx (.slot 1) (.cst (.int 0))) (.idx (.slot 1) (.cst (.int 1)))))
    .nil)
def d_values_by : Def where
  name := "values_by"
  ps := ["tree", "plan"]
  N := ["tree", "plan", "written", "found", "name", "parent"]
  kwo := []
  body := (.seq (.par [2, 3] (.cons (.blt .dict (.cons (.callP "tupled" (.cons (.slot 1) .nil)) .nil)) (.cons (.mk .dnil) .nil)))
    (.seq (.for_ (.tp (.tcons (.nm 4) (.tcons (.nm 5) .tnil))) (.items (.callP "parents" (.cons (.slot 0) .nil)))
    (.seq (.seti 3 (.slot 4) (.ite (.cons (.cmp .inn (.slot 4) (.slot 2)) .nil) (.idx (.slot 2) (.slot 4)) (.idx (.slot 3) (.slot 5))))
    .nil))
    (.seq (.frz 3)
    (.seq (.ret (.slot 3))
    .nil))))
def d_value_of : Def where
  name := "value_of"
  ps := ["tree", "plan", "folder"]
  N := ["tree", "plan", "folder"]
  kwo := [(["folder", "plan", "tree"], [2, 1, 0]), (["plan", "folder", "tree"], [2, 0, 1])]
  body := (.seq (.ret (.idx (.callP "values_by" (.cons (.slot 0) (.cons (.slot 1) .nil))) (.slot 2)))
    .nil)
def d_serves : Def where
  name := "serves"
  ps := ["tree", "wants", "plan"]
  N := ["tree", "wants", "plan", "values", "folder", "value"]
  kwo := [(["plan", "wants", "tree"], [2, 1, 0]), (["wants", "plan", "tree"], [2, 0, 1])]
  body := (.seq (.asg (.nm 3) (.callP "values_by" (.cons (.slot 0) (.cons (.slot 2) .nil))))
    (.seq (.ret (.blt .all (.cons (.lc [4,5] (.tp (.tcons (.nm 4) (.tcons (.nm 5) .tnil))) (.itv (.slot 1)) .nil (.cmp .eq (.idx (.slot 3) (.slot 4)) (.slot 5))) .nil)))
    .nil))
def d_law_given : Def where
  name := "_law_given"
  ps := ["_law_tree_so", "_law_plan_so"]
  N := ["_law_tree_so", "_law_plan_so", "_law_written", "_law_found", "_law_name", "_law_parent_so", "_law_is_locked"]
  kwo := []
  body := (.seq (.par [2, 3] (.cons (.blt .dict (.cons (.slot 1) .nil)) (.cons (.mk .dnil) .nil)))
    (.seq (.for_ (.tp (.tcons (.nm 4) (.tcons (.nm 5) (.tcons (.nm 6) .tnil)))) (.itv (.slot 0))
    (.seq (.seti 3 (.slot 4) (.ite (.cons (.cmp .inn (.slot 4) (.slot 2)) .nil) (.idx (.slot 2) (.slot 4)) (.idx (.slot 3) (.slot 5))))
    .nil))
    (.seq (.frz 3)
    (.seq (.ret (.slot 3))
    .nil))))
def d_law_lean_k04 : Def where
  name := "_law_lean"
  ps := ["_law_tree_so", "_law_given_here"]
  N := ["_law_tree_so", "_law_given_here", "_law_found", "_law_name", "_law_parent_so", "_law_is_locked"]
  kwo := []
  body := (.seq (.asg (.nm 2) (.mk (.lst .nil)))
    (.seq (.for_ (.tp (.tcons (.nm 3) (.tcons (.nm 4) (.tcons (.nm 5) .tnil)))) (.itv (.slot 0))
    (.seq (.ite (.orv (.cons (.cmp .is_ (.slot 4) (.cst .non)) .nil) (.one (.cons (.cmp .ne (.idx (.slot 1) (.slot 3)) (.idx (.slot 1) (.slot 4))) .nil)))
    (.seq (.ite (.cons (.slot 5) .nil)
    (.seq (.ret (.cst .non))
    .nil)
    .nil)
    (.seq (.app 2 (.tup (.cons (.slot 3) (.cons (.idx (.slot 1) (.slot 3)) .nil))))
    .nil))
    .nil)
    .nil))
    (.seq (.frz 2)
    (.seq (.ret (.blt .tuple (.cons (.blt .sorted (.cons (.slot 2) .nil)) .nil)))
    .nil))))
def d_law_lean : Def where
  name := "_law_lean"
  ps := ["_law_tree_so", "_law_given"]
  N := ["_law_tree_so", "_law_given", "_law_found", "_law_name", "_law_parent_so", "_law_is_locked"]
  kwo := []
  body := (.seq (.asg (.nm 2) (.mk (.lst .nil)))
    (.seq (.for_ (.tp (.tcons (.nm 3) (.tcons (.nm 4) (.tcons (.nm 5) .tnil)))) (.itv (.slot 0))
    (.seq (.ite (.orv (.cons (.cmp .is_ (.slot 4) (.cst .non)) .nil) (.one (.cons (.cmp .ne (.idx (.slot 1) (.slot 3)) (.idx (.slot 1) (.slot 4))) .nil)))
    (.seq (.ite (.cons (.slot 5) .nil)
    (.seq (.ret (.cst .non))
    .nil)
    .nil)
    (.seq (.app 2 (.tup (.cons (.slot 3) (.cons (.idx (.slot 1) (.slot 3)) .nil))))
    .nil))
    .nil)
    .nil))
    (.seq (.frz 2)
    (.seq (.ret (.blt .tuple (.cons (.blt .sorted (.cons (.slot 2) .nil)) .nil)))
    .nil))))
def d_law_right_k19 : Def where
  name := "_law_right"
  ps := ["_law_box_here"]
  N := ["_law_box_here", "_law_turn", "_law_tree_so", "_law_plan_so", "_law_wants_so", "_law_rows", "_law_some", "_law_asks", "_law_name", "_law_told", "_law_due"]
  kwo := []
  body := (.seq (.for_ (.nm 1) (.rng1 (.cst (.int 3)))
    (.seq (.asg (.nm 2) (.callM "_law_grown" (.cons (.slot 0) (.cons (.bin .add (.cst (.int 1)) (.callM "_law_take" (.cons (.slot 0) (.cons (.cst (.int 12)) .nil)))) (.cons (.cst (.int 3)) .nil)))))
    (.seq (.ite (.orv (.notv (.cons (.callM "_law_bolted_right" (.cons (.slot 0) (.cons (.slot 2) .nil))) .nil)) (.one (.notv (.cons (.callM "_law_free_right" (.cons (.slot 0) (.cons (.slot 2) .nil))) .nil))))
    (.seq (.ret (.cst (.bl false)))
    .nil)
    .nil)
    (.seq (.par [3, 4] (.cons (.callM "_law_planned" (.cons (.slot 0) (.cons (.slot 2) (.cons (.lst (.cons (.cst (.str "a")) (.cons (.cst (.str "b")) .nil))) .nil)))) (.cons (.callM "_law_wished" (.cons (.slot 0) (.cons (.slot 2) (.cons (.cst (.int 3)) (.cons (.lst (.cons (.cst (.str "a")) (.cons (.cst (.str "b")) .nil))) .nil))))) .nil)))
    (.seq (.par [5, 6, 7] (.cons (.callP "_law_lists" (.cons (.slot 2) .nil)) (.cons (.callP "_law_lists" (.cons (.slot 3) .nil)) (.cons (.callP "_law_lists" (.cons (.slot 4) .nil)) .nil))))
    (.seq (.asg (.nm 8) (.idx (.callM "_law_of" (.cons (.slot 0) (.cons (.slot 2) .nil))) (.cst (.int 0))))
    (.seq (.asg (.nm 9) (.mk (.lst (.cons (.callK "value_of" ["plan", "folder", "tree"] [2, 0, 1] (.cons (.slot 6) (.cons (.slot 8) (.cons (.slot 5) .nil)))) (.cons (.callP "value_of" (.cons (.slot 2) (.cons (.slot 6) (.cons (.slot 8) .nil)))) .nil)))))
    (.seq (.frz 9)
    (.seq (.asg (.nm 9) (.mk (.bin .add (.slot 9) (.lst (.cons (.callK "serves" ["wants", "plan", "tree"] [2, 0, 1] (.cons (.slot 7) (.cons (.slot 6) (.cons (.slot 5) .nil)))) (.cons (.callP "serves" (.cons (.slot 2) (.cons (.slot 7) (.cons (.slot 3) .nil)))) .nil))))))
    (.seq (.frz 9)
    (.seq (.asg (.nm 9) (.mk (.bin .add (.slot 9) (.lst (.cons (.callK "is_lean" ["plan", "tree"] [1, 0] (.cons (.slot 6) (.cons (.slot 2) .nil))) (.cons (.callK "tidied" ["plan", "tree"] [1, 0] (.cons (.slot 3) (.cons (.slot 5) .nil))) .nil))))))
    (.seq (.app 9 (.callK "values_of" ["plan", "tree"] [1, 0] (.cons (.slot 6) (.cons (.slot 5) .nil))))
    (.seq (.frz 9)
    (.seq (.asg (.nm 10) (.bin .add (.bin .mul (.lst (.cons (.callP "value_of" (.cons (.slot 2) (.cons (.slot 3) (.cons (.slot 8) .nil)))) .nil)) (.cst (.int 2))) (.bin .mul (.lst (.cons (.callP "serves" (.cons (.slot 2) (.cons (.slot 4) (.cons (.slot 3) .nil)))) .nil)) (.cst (.int 2)))))
    (.seq (.asg (.nm 10) (.bin .add (.slot 10) (.lst (.cons (.callP "is_lean" (.cons (.slot 2) (.cons (.slot 3) .nil))) (.cons (.callP "tidied" (.cons (.slot 2) (.cons (.slot 3) .nil))) (.cons (.callP "values_of" (.cons (.slot 2) (.cons (.slot 3) .nil))) .nil))))))
    (.seq (.ite (.orv (.notv (.cons (.callP "_law_same" (.cons (.slot 9) (.cons (.slot 10) .nil))) .nil)) (.one (.cons (.cmp .ne (.lst (.cons (.slot 5) (.cons (.slot 6) (.cons (.slot 7) .nil)))) (.callP "_law_lists" (.cons (.lst (.cons (.slot 2) (.cons (.slot 3) (.cons (.slot 4) .nil)))) .nil))) .nil)))
    (.seq (.ret (.cst (.bl false)))
    .nil)
    .nil)
    .nil))))))))))))))))
    (.seq (.ret (.cst (.bl true)))
    .nil))
def d_ascends : Def where
  name := "ascends"
  ps := ["parts"]
  N := ["parts", "one", "other"]
  kwo := []
  body := (.seq (.ret (.blt .all (.cons (.lc [1,2] (.tp (.tcons (.nm 1) (.tcons (.nm 2) .tnil))) (.zip (.slot 0) (.slc (.slot 0) (.cons (.cst (.int 1)) .nil) .none_)) .nil (.cmp .lt (.slot 1) (.slot 2))) .nil)))
    .nil)
def d_are_pairs : Def where
  name := "are_pairs"
  ps := ["thing", "names"]
  N := ["thing", "names", "pair"]
  kwo := []
  body := (.seq (.ite (.notv (.cons (.isi (.slot 0) [.tuple]) .nil))
    (.seq (.ret (.cst (.bl false)))
    .nil)
    .nil)
    (.seq (.for_ (.nm 2) (.itv (.slot 0))
    (.seq (.ite (.orv (.notv (.cons (.isi (.slot 2) [.tuple]) .nil)) (.orv (.cons (.cmp .ne (.blt .len (.cons (.slot 2) .nil)) (.cst (.int 2))) .nil) (.one (.notv (.cons (.callP "is_name" (.cons (.idx (.slot 2) (.cst (.int 1))) .nil)) .nil)))))
    (.seq (.ret (.cst (.bl false)))
    .nil)
    .nil)
    (.seq (.ite (.orv (.notv (.cons (.isi (.idx (.slot 2) (.cst (.int 0))) [.str]) .nil)) (.one (.cons (.cmp .notin (.idx (.slot 2) (.cst (.int 0))) (.slot 1)) .nil)))
    (.seq (.ret (.cst (.bl false)))
    .nil)
    .nil)
    .nil)))
    (.seq (.ret (.callP "ascends" (.cons (.lc [2] (.nm 2) (.itv (.slot 0)) .nil (.idx (.slot 2) (.cst (.int 0)))) .nil)))
    .nil)))
def d_is_plan : Def where
  name := "is_plan"
  ps := ["tree", "thing"]
  N := ["tree", "thing", "row", "name", "value"]
  kwo := [(["thing", "tree"], [1, 0])]
  body := (.seq (.ite (.notv (.cons (.callP "are_pairs" (.cons (.slot 1) (.cons (.lc [2] (.nm 2) (.itv (.slot 0)) (.cons (.notv (.cons (.idx (.slot 2) (.cst (.int 2))) .nil)) .nil) (.idx (.slot 2) (.cst (.int 0)))) .nil))) .nil))
    (.seq (.ret (.cst (.bl false)))
    .nil)
    .nil)
    (.seq (.ret (.cmp .inn (.callP "root_of" (.cons (.slot 0) .nil)) (.lc [3,4] (.tp (.tcons (.nm 3) (.tcons (.nm 4) .tnil))) (.itv (.slot 1)) .nil (.slot 3))))
    .nil))
def d_values_of : Def where
  name := "values_of"
  ps := ["tree", "plan"]
  N := ["tree", "plan"]
  kwo := [(["plan", "tree"], [1, 0])]
  body := (.seq (.ret (.sitems (.callP "values_by" (.cons (.slot 0) (.cons (.slot 1) .nil)))))
    .nil)
def d_is_row : Def where
  name := "is_row"
  ps := ["thing", "names"]
  N := ["thing", "names"]
  kwo := []
  body := (.seq (.ite (.orv (.notv (.cons (.isi (.slot 0) [.tuple]) .nil)) (.orv (.cons (.cmp .ne (.blt .len (.cons (.slot 0) .nil)) (.cst (.int 3))) .nil) (.orv (.notv (.cons (.callP "is_name" (.cons (.idx (.slot 0) (.cst (.int 0))) .nil)) .nil)) (.one (.cons (.cmp .inn (.idx (.slot 0) (.cst (.int 0))) (.slot 1)) .nil)))))
    (.seq (.ret (.cst (.bl false)))
    .nil)
    .nil)
    (.seq (.ite (.notv (.cons (.isi (.idx (.slot 0) (.cst (.int 2))) [.bool]) .nil))
    (.seq (.ret (.cst (.bl false)))
    .nil)
    .nil)
    (.seq (.ite (.cons (.cmp .eq (.blt .len (.cons (.slot 1) .nil)) (.cst (.int 0))) .nil)
    (.seq (.ret (.andv (.cmp .is_ (.idx (.slot 0) (.cst (.int 1))) (.cst .non)) (.one (.notv (.idx (.slot 0) (.cst (.int 2)))))))
    .nil)
    .nil)
    (.seq (.ret (.andv (.isi (.idx (.slot 0) (.cst (.int 1))) [.str]) (.one (.cmp .inn (.idx (.slot 0) (.cst (.int 1))) (.slot 1)))))
    .nil))))
def d_is_tree : Def where
  name := "is_tree"
  ps := ["thing"]
  N := ["thing", "names", "row"]
  kwo := [(["thing"], [0])]
  body := (.seq (.ite (.orv (.notv (.cons (.isi (.slot 0) [.tuple]) .nil)) (.one (.cons (.cmp .eq (.blt .len (.cons (.slot 0) .nil)) (.cst (.int 0))) .nil)))
    (.seq (.ret (.cst (.bl false)))
    .nil)
    .nil)
    (.seq (.asg (.nm 1) (.mk (.lst .nil)))
    (.seq (.for_ (.nm 2) (.itv (.slot 0))
    (.seq (.ite (.notv (.cons (.callM "is_row" (.cons (.slot 2) (.cons (.slot 1) .nil))) .nil))
    (.seq (.ret (.cst (.bl false)))
    .nil)
    .nil)
    (.seq (.app 1 (.idx (.slot 2) (.cst (.int 0))))
    .nil)))
    (.seq (.ret (.cst (.bl true)))
    .nil))))
def d_are_wants : Def where
  name := "are_wants"
  ps := ["tree", "thing"]
  N := ["tree", "thing"]
  kwo := [(["thing", "tree"], [1, 0])]
  body := (.seq (.ret (.callP "are_pairs" (.cons (.slot 1) (.cons (.callP "names_of" (.cons (.slot 0) .nil)) .nil))))
    .nil)
def d_law_upward : Def where
  name := "_law_upward"
  ps := ["_law_tree_so", "_law_plan_so", "_law_name"]
  N := ["_law_tree_so", "_law_plan_so", "_law_name", "_law_above", "_law_written", "_law_row"]
  kwo := []
  body := (.seq (.par [3, 4] (.cons (.blt .dict (.cons (.lc [5] (.nm 5) (.itv (.slot 0)) .nil (.tup (.cons (.idx (.slot 5) (.cst (.int 0))) (.cons (.idx (.slot 5) (.cst (.int 1))) .nil)))) .nil)) (.cons (.blt .dict (.cons (.slot 1) .nil)) .nil)))
    (.seq (.while_ (.cons (.cmp .notin (.slot 2) (.slot 4)) .nil)
    (.seq (.asg (.nm 2) (.idx (.slot 3) (.slot 2)))
    .nil))
    (.seq (.ret (.idx (.slot 4) (.slot 2)))
    .nil)))
def d_lean_of : Def where
  name := "lean_of"
  ps := ["tree", "values"]
  N := ["tree", "values", "above", "some", "name"]
  kwo := []
  body := (.seq (.asg (.nm 2) (.callP "parents" (.cons (.slot 0) .nil)))
    (.seq (.asg (.nm 3) (.lc [4] (.nm 4) (.itv (.slot 2)) (.cons (.orv (.cons (.cmp .is_ (.idx (.slot 2) (.slot 4)) (.cst .non)) .nil) (.one (.cons (.cmp .ne (.idx (.slot 1) (.slot 4)) (.idx (.slot 1) (.idx (.slot 2) (.slot 4)))) .nil))) .nil) (.slot 4)))
    (.seq (.ret (.blt .tuple (.cons (.blt .sorted (.cons (.lc [4] (.nm 4) (.itv (.slot 3)) .nil (.tup (.cons (.slot 4) (.cons (.idx (.slot 1) (.slot 4)) .nil)))) .nil)) .nil)))
    .nil)))
def d_tidied : Def where
  name := "tidied"
  ps := ["tree", "plan"]
  N := ["tree", "plan"]
  kwo := [(["plan", "tree"], [1, 0])]
  body := (.seq (.ret (.callP "lean_of" (.cons (.slot 0) (.cons (.callP "values_by" (.cons (.slot 0) (.cons (.slot 1) .nil))) .nil))))
    .nil)
def d_is_lean : Def where
  name := "is_lean"
  ps := ["tree", "plan"]
  N := ["tree", "plan"]
  kwo := [(["plan", "tree"], [1, 0])]
  body := (.seq (.ret (.cmp .eq (.callP "tidied" (.cons (.slot 0) (.cons (.slot 1) .nil))) (.callP "tupled" (.cons (.slot 1) .nil))))
    .nil)
def d_law_is_lean : Def where
  name := "_law_is_lean"
  ps := ["_law_tree_so", "_law_plan_so"]
  N := ["_law_tree_so", "_law_plan_so", "_law_given_here", "_law_pair", "_law_rest", "_law_own"]
  kwo := []
  body := (.seq (.asg (.nm 2) (.callP "_law_given" (.cons (.slot 0) (.cons (.slot 1) .nil))))
    (.seq (.for_ (.nm 3) (.itv (.slot 1))
    (.seq (.asg (.nm 4) (.lc [5] (.nm 5) (.itv (.slot 1)) (.cons (.cons (.cmp .ne (.slot 5) (.slot 3)) .nil) .nil) (.slot 5)))
    (.seq (.ite (.andv (.cons (.cmp .ne (.idx (.slot 3) (.cst (.int 0))) (.idx (.idx (.slot 0) (.cst (.int 0))) (.cst (.int 0)))) .nil) (.one (.cons (.cmp .eq (.callP "_law_given" (.cons (.slot 0) (.cons (.slot 4) .nil))) (.slot 2)) .nil)))
    (.seq (.ret (.cst (.bl false)))
    .nil)
    .nil)
    .nil)))
    (.seq (.ret (.cst (.bl true)))
    .nil)))
def d_law_fuller : Def where
  name := "_law_fuller"
  ps := ["_law_box_here", "_law_tree_so", "_law_plan_so"]
  N := ["_law_box_here", "_law_tree_so", "_law_plan_so", "_law_given_here", "_law_written", "_law_name", "_law_above", "_law_bolted"]
  kwo := []
  body := (.seq (.par [3, 4] (.cons (.callP "_law_given" (.cons (.slot 1) (.cons (.slot 2) .nil))) (.cons (.mk (.blt .dict (.cons (.slot 2) .nil))) .nil)))
    (.seq (.for_ (.tp (.tcons (.nm 5) (.tcons (.nm 6) (.tcons (.nm 7) .tnil)))) (.itv (.slot 1))
    (.seq (.ite (.andv (.notv (.cons (.slot 7) .nil)) (.andv (.cons (.cmp .notin (.slot 5) (.slot 4)) .nil) (.one (.cons (.cmp .eq (.callM "_law_take" (.cons (.slot 0) (.cons (.cst (.int 2)) .nil))) (.cst (.int 0))) .nil))))
    (.seq (.seti 4 (.slot 5) (.idx (.slot 3) (.slot 5)))
    .nil)
    .nil)
    .nil))
    (.seq (.frz 4)
    (.seq (.ret (.blt .tuple (.cons (.sitems (.slot 4)) .nil)))
    .nil))))
def d_law_bolted_right : Def where
  name := "_law_bolted_right"
  ps := ["_law_box_here", "_law_tree_so"]
  N := ["_law_box_here", "_law_tree_so", "_law_rows", "_law_word_so", "_law_plan_so", "_law_names", "_law_told", "_law_due", "_law_k", "_law_row", "_law_name"]
  kwo := []
  body := (.seq (.asg (.nm 2) (.blt .tuple (.cons (.lc [8,9] (.tp (.tcons (.nm 8) (.tcons (.nm 9) .tnil))) (.enum (.slot 1)) .nil (.bin .add (.slc (.slot 9) .none_ (.cons (.cst (.int 2)) .nil)) (.tup (.cons (.cmp .gt (.blt .int (.cons (.slot 8) .nil)) (.cst (.int 0))) .nil)))) .nil)))
    (.seq (.asg (.nm 3) (.callM "_law_of" (.cons (.slot 0) (.cons (.lst (.cons (.cst (.str "a")) (.cons (.cst (.str "zz")) (.cons (.cst (.str "none")) .nil)))) .nil))))
    (.seq (.asg (.tp (.tcons (.nm 4) (.tcons (.nm 5) .tnil))) (.tup (.cons (.tup (.cons (.tup (.cons (.idx (.idx (.slot 2) (.cst (.int 0))) (.cst (.int 0))) (.cons (.slot 3) .nil))) .nil)) (.cons (.blt .sorted (.cons (.lc [9] (.nm 9) (.itv (.slot 2)) .nil (.idx (.slot 9) (.cst (.int 0)))) .nil)) .nil))))
    (.seq (.asg (.nm 6) (.mk (.lst (.cons (.callP "is_tree" (.cons (.slot 2) .nil)) (.cons (.callP "is_plan" (.cons (.slot 2) (.cons (.slot 4) .nil))) (.cons (.callP "is_lean" (.cons (.slot 2) (.cons (.slot 4) .nil))) (.cons (.callP "tidied" (.cons (.slot 2) (.cons (.slot 4) .nil))) .nil)))))))
    (.seq (.app 6 (.callP "values_of" (.cons (.slot 2) (.cons (.slot 4) .nil))))
    (.seq (.asg (.nm 7) (.lst (.cons (.cst (.bl true)) (.cons (.cst (.bl true)) (.cons (.cst (.bl true)) (.cons (.slot 4) (.cons (.lc [10] (.nm 10) (.itv (.slot 5)) .nil (.tup (.cons (.slot 10) (.cons (.slot 3) .nil)))) .nil)))))))
    (.seq (.app 6 (.lc [9] (.nm 9) (.itv (.slc (.slot 2) (.cons (.cst (.int 1)) .nil) .none_)) .nil (.callP "is_plan" (.cons (.slot 2) (.cons (.blt .tuple (.cons (.blt .sorted (.cons (.bin .add (.slot 4) (.tup (.cons (.tup (.cons (.idx (.slot 9) (.cst (.int 0))) (.cons (.cst (.str "a")) .nil))) .nil))) .nil)) .nil)) .nil)))))
    (.seq (.frz 6)
    (.seq (.ret (.callP "_law_same" (.cons (.slot 6) (.cons (.bin .add (.slot 7) (.lst (.cons (.bin .mul (.lst (.cons (.cst (.bl false)) .nil)) (.bin .sub (.blt .len (.cons (.slot 2) .nil)) (.cst (.int 1)))) .nil))) .nil))))
    .nil)))))))))
def d_law_free_right : Def where
  name := "_law_free_right"
  ps := ["_law_box_here", "_law_tree_so"]
  N := ["_law_box_here", "_law_tree_so", "_law_rows", "_law_given", "_law_every", "_law_lean_so", "_law_told", "_law_row"]
  kwo := []
  body := (.seq (.asg (.nm 2) (.blt .tuple (.cons (.lc [7] (.nm 7) (.itv (.slot 1)) .nil (.bin .add (.slc (.slot 7) .none_ (.cons (.cst (.int 2)) .nil)) (.tup (.cons (.cst (.bl false)) .nil)))) .nil)))
    (.seq (.asg (.nm 3) (.blt .dict (.cons (.lc [7] (.nm 7) (.itv (.slot 2)) .nil (.tup (.cons (.idx (.slot 7) (.cst (.int 0))) (.cons (.callM "_law_of" (.cons (.slot 0) (.cons (.lst (.cons (.cst (.str "a")) (.cons (.cst (.str "b")) (.cons (.cst (.str "c")) .nil)))) .nil))) .nil)))) .nil)))
    (.seq (.asg (.nm 4) (.blt .tuple (.cons (.sitems (.slot 3)) .nil)))
    (.seq (.asg (.nm 5) (.callP "_law_lean" (.cons (.slot 2) (.cons (.slot 3) .nil))))
    (.seq (.asg (.nm 6) (.lst (.cons (.callP "is_plan" (.cons (.slot 2) (.cons (.slot 4) .nil))) (.cons (.callP "are_wants" (.cons (.slot 2) (.cons (.slot 4) .nil))) (.cons (.callP "serves" (.cons (.slot 2) (.cons (.slot 4) (.cons (.slot 4) .nil)))) (.cons (.callP "values_of" (.cons (.slot 2) (.cons (.slot 4) .nil))) .nil))))))
    (.seq (.ite (.orv (.notv (.cons (.callP "_law_same" (.cons (.slot 6) (.cons (.lst (.cons (.cst (.bl true)) (.cons (.cst (.bl true)) (.cons (.cst (.bl true)) (.cons (.blt .list (.cons (.slot 4) .nil)) .nil))))) .nil))) .nil)) (.one (.notv (.cons (.callP "_law_same" (.cons (.callP "tidied" (.cons (.slot 2) (.cons (.slot 4) .nil))) (.cons (.slot 5) .nil))) .nil))))
    (.seq (.ret (.cst (.bl false)))
    .nil)
    .nil)
    (.seq (.asg (.nm 6) (.lst (.cons (.callP "serves" (.cons (.slot 2) (.cons (.slot 4) (.cons (.slot 5) .nil)))) (.cons (.callP "is_lean" (.cons (.slot 2) (.cons (.slot 5) .nil))) (.cons (.callP "values_of" (.cons (.slot 2) (.cons (.slot 5) .nil))) .nil)))))
    (.seq (.ret (.callP "_law_same" (.cons (.slot 6) (.cons (.lst (.cons (.cst (.bl true)) (.cons (.cst (.bl true)) (.cons (.blt .list (.cons (.slot 4) .nil)) .nil)))) .nil))))
    .nil))))))))
end Rf

set_option Elab.async false
set_option linter.all false
set_option maxRecDepth 100000
set_option maxHeartbeats 4000000
namespace Rf
open PySem L2

/-! ### the box that a law draws from -/
structure Box (M : Store) (c : Nat) (e : Nat) : Prop where
  at' : ∃ a b d : Int, cellAt M c = some (.lst [.int a, .int b, .int d]) ∧ 0 ≤ a ∧ 0 ≤ b ∧ b < 2 ^ 62 ∧ 0 ≤ d ∧ d ≤ e
theorem cellAt_set {M : Store} {c : Nat} {nd nd' : Node} (h : cellAt M c = some nd) : cellAt (M.set c (some nd')) c = some nd' := by
  have hl : c < M.length := by
    unfold cellAt at h
    split at h
    · rename_i e; exact (List.getElem?_eq_some_iff.mp e).1
    · cases h
  unfold cellAt
  rw [List.getElem?_set_self hl]
theorem mulOk_l {i j : Int} (h : 0 ≤ i) (h2 : i < 2 ^ 64) : mulOk i j = true := by
  unfold mulOk
  have : (decide (-(2 ^ 64) < i) && decide (i < 2 ^ 64)) = true := by
    rw [Bool.and_eq_true, decide_eq_true_eq, decide_eq_true_eq]; omega
  rw [this]; rfl
theorem mulOk_r {i j : Int} (h : 0 ≤ j) (h2 : j < 2 ^ 64) : mulOk i j = true := by
  unfold mulOk
  have : (decide (-(2 ^ 64) < j) && decide (j < 2 ^ 64)) = true := by
    rw [Bool.and_eq_true, decide_eq_true_eq, decide_eq_true_eq]; omega
  rw [this, Bool.or_true]
theorem fmod_pos {i n : Int} (h : 0 < n) : 0 ≤ i.fmod n ∧ i.fmod n < n := ⟨Int.fmod_nonneg_of_pos i h, Int.fmod_lt_of_pos i h⟩
theorem fdiv_nn {a n : Int} (ha : 0 ≤ a) (hn : 0 < n) : 0 ≤ a.fdiv n := Int.fdiv_nonneg ha (by omega)
theorem cellAt_ne {M : Store} {c j : Nat} {x : Option Node} (h : j ≠ c) : cellAt (M.set c x) j = cellAt M j := by
  unfold cellAt
  rw [List.getElem?_set_ne (fun z => h z.symm)]
theorem mulOk_a (X : Int) : mulOk X 48271 = true := mulOk_r (by decide) (by decide)
theorem mulOk_b (X Y : Int) : mulOk X (Y.fmod 40009 + 7) = true := by
  have := fmod_pos (i := Y) (n := 40009) (by decide)
  exact mulOk_r (by omega) (by omega)
theorem take_ok {T : List Def} {k : Nat} (hf : findDef T "_law_take" = some d_law_take) {M : Store} {c e : Nat} (b : Box M c e) (he : e < 2 ^ 40) {n : Int} (hn : 0 < n) (hn2 : n < 1000000) :
    ∃ r M', (orc T (k + 1)).m "_law_take" [.cell c, .d (.int n)] M = some ((.d (.int r), false), M') ∧ 0 ≤ r ∧ r < n ∧ Box M' c (e + 1) ∧ M'.length = M.length ∧ ∀ j, j ≠ c → cellAt M' j = cellAt M j := by
  obtain ⟨a, b, d, hc, ha, hb, hb2, hd, hd2⟩ := b.at'
  show ∃ r M', runM (orc T k) T "_law_take" [.cell c, .d (.int n)] M = _ ∧ _
  unfold runM
  rw [hf]
  by_cases h0 : 0 < a
  · have hn0 : n ≠ 0 := by omega
    have hna : n.natAbs < 1073741824 := by omega
    simp [d_law_take, envOf, evS, evE, evA, evT, evG, putW, wAt, vw, vws, hc, Node.toD, idxD, atI, ixN, opCmp, opBin, evB, truD, h0, hn0, hna, cellAt_set hc]
    refine ⟨_, _, ⟨rfl, rfl⟩, (fmod_pos hn).1, (fmod_pos hn).2, ?_⟩
    rw [List.take_of_length_le (by rw [List.length_set]; exact Nat.le_refl _)]
    refine ⟨⟨_, _, _, cellAt_set hc, fdiv_nn ha hn, hb, hb2, hd, by omega⟩, List.length_set, fun j hj => cellAt_ne hj⟩
  · have hn0 : n ≠ 0 := by omega
    have hna : n.natAbs < 1073741824 := by omega
    have m1 : mulOk 48271 (d + 1) = true := mulOk_l (by omega) (by omega)
    have m2 : mulOk (b + 48271 * (d + 1)) (39373 + (d + 1)) = true := mulOk_r (by omega) (by omega)
    simp [d_law_take, envOf, evS, evE, evA, evT, evG, putW, wAt, vw, vws, hc, Node.toD, idxD, atI, ixN, opCmp, opBin, evB, truD, h0, hn0, hna, cellAt_set hc, m1, m2, mulOk_a, mulOk_b]
    refine ⟨_, _, ⟨rfl, rfl⟩, (fmod_pos hn).1, (fmod_pos hn).2, ?_⟩
    rw [List.take_of_length_le (by rw [List.length_set]; exact Nat.le_refl _)]
    refine ⟨⟨_, _, _, cellAt_set hc, ha, hb, hb2, by omega, by omega⟩, List.length_set, fun j hj => cellAt_ne hj⟩
end Rf

set_option Elab.async false
set_option linter.all false
set_option maxRecDepth 100000
set_option maxHeartbeats 4000000
namespace Rf
open PySem L2
theorem forL_inv {body : REnv → Store → Option Out} {pr : Bool} {g : G} (P : Nat → REnv → Store → Prop) : ∀ (xs : List D) (n : Nat) (ρ : REnv) (M : Store),
    (∀ i x ρ M, xs[i]? = some x → P (n + i) ρ M → ∃ ρ1 ρ2 M2, evGI pr g x ρ = some ρ1 ∧ body ρ1 M = some (.nx ρ2 M2) ∧ P (n + i + 1) ρ2 M2) → P n ρ M → ∃ ρ' M', forL body pr g xs ρ M = some (.nx ρ' M') ∧ P (n + xs.length) ρ' M'
  | [], n, ρ, M, _, p => ⟨ρ, M, rfl, p⟩
  | x :: xs, n, ρ, M, h, p => by
    obtain ⟨ρ1, ρ2, M2, e1, e2, p2⟩ := h 0 x ρ M rfl p
    obtain ⟨ρ', M', e3, p3⟩ := forL_inv P xs (n + 1) ρ2 M2 (fun i y ρ M e q => by
      have := h (i + 1) y ρ M (by simpa using e) (by rw [show n + (i + 1) = n + 1 + i by omega]; exact q)
      rw [show n + (i + 1) = n + 1 + i by omega] at this
      exact this) p2
    refine ⟨ρ', M', ?_, by rw [List.length_cons, show n + (xs.length + 1) = n + 1 + xs.length by omega]; exact p3⟩
    unfold forL
    rw [e1]
    simp only [e2]
    exact e3
theorem mulOk_p (X : Int) (p : Prop) [Decidable p] : mulOk X (if p then 1 else 0) = true := by
  split
  · exact mulOk_r (by decide) (by decide)
  · exact mulOk_r (by decide) (by decide)
theorem bit_nn {X : Int} {p : Prop} [Decidable p] (h : 0 ≤ X) : 0 ≤ X * (if p then 1 else 0) := by
  split <;> omega
theorem abs_nn (c : Int) : 0 ≤ (if c < 0 then -c else c) := by split <;> omega
/-- the box that _law_box gives -/
theorem box_ok {T : List Def} {k : Nat} (hf : findDef T "_law_box" = some d_law_box) {is : List Int} {j : Nat} (hj : j ≤ 1000) : ∃ a b : Int, (orc T (k + 1)).p "_law_box" [.lst (is.map .int), .int j] = some (.lst [.int a, .int b, .int 0], true) ∧ 0 ≤ a ∧ 0 ≤ b ∧ b < 2 ^ 62 := by
  show ∃ a b : Int, runP (orc T k) T "_law_box" _ = _ ∧ _
  unfold runP
  rw [hf]
  have m0 : mulOk 39373 (j : Int) = true := mulOk_l (by decide) (by decide)
  by_cases h : (j : Int) < is.length
  · have hj' : j < is.length := by omega
    have e : atI (is.map D.int) (j : Int) = some (.int is[j]) := by
      unfold atI ixN
      rw [List.length_map, if_pos (by omega), if_pos (by omega)]
      simp [hj']
    have hb := fmod_pos (i := is[j]) (n := 2305843009213693951) (by decide)
    simp [d_law_box, envOf, evS, evE, evA, evT, evG, putW, wAt, vw, vws, idxD, opCmp, opBin, evB, truD, h, e, m0, mulOk_p, allD, isD, big]
    exact ⟨_, _, ⟨rfl, rfl⟩, bit_nn (abs_nn _), by omega, by omega⟩
  · have hb := fmod_pos (i := 0) (n := 2305843009213693951) (by decide)
    have z : mulOk 0 0 = true := by decide
    simp [d_law_box, envOf, evS, evE, evA, evT, evG, putW, wAt, vw, vws, idxD, opCmp, opBin, evB, truD, h, m0, z, mulOk_p, allD, isD, big]
    exact ⟨0, _, ⟨rfl, rfl⟩, by decide, by omega, by omega⟩
theorem vw_d (M : Store) (x : D) : vw M (.d x) = some x := rfl
/-- a draw from a list or a tuple -/
theorem of_core {T : List Def} {k : Nat} (hf : findDef T "_law_take" = some d_law_take) (hf2 : findDef T "_law_of" = some d_law_of) {M : Store} {c e : Nat} (b : Box M c e) (he : e < 2 ^ 40) {w : W} {v : D} {xs : List D} (hw : ∀ M', (∀ j, j ≠ c → cellAt M' j = cellAt M j) → vw M' w = some v) (hw0 : vw M w = some v)
    (hv : v = .lst xs ∨ v = .tup xs) (hn : xs ≠ []) (hl : xs.length < 1000000) :
    ∃ x M', x ∈ xs ∧ (orc T (k + 2)).m "_law_of" [.cell c, w] M = some ((.d x, false), M') ∧ Box M' c (e + 1) ∧ M'.length = M.length ∧ ∀ j, j ≠ c → cellAt M' j = cellAt M j := by
  have hp : 0 < (xs.length : Int) := by
    cases xs with
    | nil => exact absurd rfl hn
    | cons a r => simp
  obtain ⟨r, M', e1, r0, r1, b', lm, ot⟩ := take_ok (k := k) hf b he hp (by omega)
  have hr : r.toNat < xs.length := by omega
  have ea : atI xs r = some xs[r.toNat] := by
    unfold atI ixN
    rw [if_pos r0, if_pos (by omega)]
    simp [hr]
  refine ⟨xs[r.toNat], M', List.getElem_mem hr, ?_, b', lm, ot⟩
  show runM (orc T (k + 1)) T "_law_of" [.cell c, w] M = _
  have hlen : evB .len [v] = some (.int xs.length, false) := by rcases hv with rfl | rfl <;> rfl
  have hix : idxD v (.int r) = some xs[r.toNat] := by rcases hv with rfl | rfl <;> exact ea
  have hw' := hw M' ot
  unfold runM
  rw [hf2]
  have lt : List.take M.length M' = M' := List.take_of_length_le (by omega)
  have hvv : vws M [w] = some [v] := by unfold vws; rw [hw0]; rfl
  simp only [d_law_of, evS, evE, evA, envOf, List.length_cons, List.length_nil, List.map_cons, List.map_nil, List.cons_append, List.nil_append, wAt, List.getElem?_cons_zero, List.getElem?_cons_succ, hvv, hlen, e1, hw', vw_d, hix, lt, if_true]
end Rf

set_option Elab.async false
set_option linter.all false
set_option maxRecDepth 100000
set_option maxHeartbeats 4000000
namespace Rf
open PySem L2
theorem cut_take {ns : List Int} {m : Nat} : cut ns none (some (m : Int)) = ns.take m := by
  unfold cut
  rw [HT.sIx_none, HT.sIx_nat, Nat.sub_zero, List.drop_zero]
  exact List.take_eq_take_iff.mpr (by omega)
theorem cut_nil {ns : List Int} {m : Nat} {h : Int} (hl : ns.length ≤ m) : cut ns (some (m : Int)) (some h) = [] := by
  unfold cut
  rw [HT.sIx_nat, List.drop_eq_nil_of_le (by omega), List.take_nil]
theorem atI_int {is : List Int} {r : Int} (h0 : 0 ≤ r) (h1 : r < is.length) : atI (is.map D.int) r = some (.int (is[r.toNat]'(by omega))) := by
  have hr : r.toNat < is.length := by omega
  unfold atI ixN
  rw [List.length_map, if_pos h0, if_pos h1]
  simp [hr]
theorem ixN_ok {n : Nat} {r : Int} (h0 : 0 ≤ r) (h1 : r < n) : ixN n r = some r.toNat := by
  unfold ixN
  rw [if_pos h0, if_pos h1]
theorem enumD_get' : ∀ {xs : List D} {n i : Nat} {x : D}, (enumD n xs)[i]? = some x → ∃ y, xs[i]? = some y ∧ x = .tup [.int (n + i : Nat), y]
  | [], _, _, _, h => by simp [enumD] at h
  | y :: r, n, 0, x, h => by simp [enumD] at h; exact ⟨y, rfl, by rw [← h]; simp⟩
  | y :: r, n, i + 1, x, h => by
    obtain ⟨z, z1, z2⟩ := enumD_get' (xs := r) (n := n + 1) (i := i) (x := x) (by simpa [enumD] using h)
    exact ⟨z, by simpa using z1, by rw [z2]; congr 3; omega⟩
theorem seq_nx {o : Orc} {a b : S} {ρ ρ1 : REnv} {M M1 : Store} (h : evS o a ρ M = some (.nx ρ1 M1)) : evS o (.seq a b) ρ M = evS o b ρ1 M1 := by
  simp only [evS, h]
theorem seq_rt {o : Orc} {a b : S} {ρ : REnv} {M M1 : Store} {w : W} {fr : Bool} (h : evS o a ρ M = some (.rt w fr M1)) : evS o (.seq a b) ρ M = some (.rt w fr M1) := by
  simp only [evS, h]
theorem for_nx {o : Orc} {g : G} {it : E} {b : S} {ρ : REnv} {M M1 : Store} {pr : Bool} {xs : List D} {out : Out} (h : evI o it ρ M = some ((pr, xs), M1)) (l : forL (fun ρ M => evS o b ρ M) pr g xs ρ M1 = some out) : evS o (.for_ g it b) ρ M = some out := by
  simp only [evS, h]
  exact l
theorem cell_step {o : Orc} {s : D} {m ii z v : Int} {c : Option W} {L : List D} {j : Nat} (hm : m ≠ 0) (hat : atI L (ii.fmod m) = some (.int v)) (hix : ixN L.length (ii.fmod m) = some j) (mo : mulOk z (ii + 2) = true) :
    evS o (.seq (.asg (.nm 5) (.bin .mod (.blt .int (.cons (.slot 3) .nil)) (.slot 1))) (.seq (.seti 2 (.slot 5) (.bin .add (.idx (.slot 2) (.slot 5)) (.bin .mul (.slot 4) (.bin .add (.slot 3) (.cst (.int 2)))))) .nil)) [some (.d s), some (.d (.int m)), some (.cell 0), some (.d (.int ii)), some (.d (.int z)), c] [some (.lst L)] =
      some (.nx [some (.d s), some (.d (.int m)), some (.cell 0), some (.d (.int ii)), some (.d (.int z)), some (.d (.int (ii.fmod m)))] [some (.lst (L.set j (.int (v + z * (ii + 2)))))]) := by
  simp [evS, evE, evA, evG, putW, wAt, vw, vws, evB, opBin, hm, cellAt, Node.toD, idxD, hat, hix, mo]
theorem cells_ok {T : List Def} {k : Nat} (hf : findDef T "_law_cells" = some d_law_cells) {ns : List Int} {m : Nat} (hm : 0 < m) (hm2 : m ≤ 1000) (hns : ns.length ≤ 63) :
    ∃ is : List Int, (orc T (k + 1)).p "_law_cells" [.scr ns, .int m] = some (.lst (is.map .int), false) ∧ is ≠ [] ∧ is.length ≤ m := by
  show ∃ is : List Int, runP (orc T k) T "_law_cells" _ = _ ∧ _
  unfold runP
  rw [hf]
  -- the list at the start
  obtain ⟨A, hA, hA2, hA3, hA4⟩ : ∃ A : List Int, evE (orc T k) (.mk (.orT (.blt .list (.cons (.slc (.slot 0) .none_ (.cons (.slot 1) .nil)) .nil)) (.one (.lst (.cons (.cst (.int 0)) .nil))))) [some (.d (.scr ns)), some (.d (.int m)), none, none, none, none] [] = some ((.cell 0, false), [some (.lst (A.map .int))]) ∧ A ≠ [] ∧ A.length ≤ m ∧ (m < ns.length → A.length = m) := by
    by_cases h : ns = []
    · subst h
      refine ⟨[0], ?_, by simp, hm, fun h => by simp at h⟩
      simp [evE, evA, evO, wAt, slcD, vw, vws, evB, truD, cut_take, asNode, allD, isD, big]
    · have hne : ns.take m ≠ [] := by
        cases ns with
        | nil => exact absurd rfl h
        | cons a r => cases m with
          | zero => omega
          | succ m => simp
      refine ⟨ns.take m, ?_, hne, List.length_take_le _ _, fun h => by rw [List.length_take]; omega⟩
      have h2 : ((ns.map D.int).take m).isEmpty = false := by
        rw [← List.map_take]
        cases q : ns.take m with
        | nil => exact absurd q hne
        | cons a r => rfl
      simp [evE, evA, evO, wAt, slcD, vw, vws, evB, truD, cut_take, asNode, h2]
  -- the walk
  have loop : ∃ ρ' M', forL (fun ρ M => evS (orc T k) (.seq (.asg (.nm 5) (.bin .mod (.blt .int (.cons (.slot 3) .nil)) (.slot 1))) (.seq (.seti 2 (.slot 5) (.bin .add (.idx (.slot 2) (.slot 5)) (.bin .mul (.slot 4) (.bin .add (.slot 3) (.cst (.int 2)))))) .nil)) ρ M) true
      (.tp (.tcons (.nm 3) (.tcons (.nm 4) .tnil))) (enumD 0 ((cut ns (some (m : Int)) (some 63)).map .int)) [some (.d (.scr ns)), some (.d (.int m)), some (.cell 0), none, none, none] [some (.lst (A.map .int))] = some (.nx ρ' M') ∧
      ∃ (is : List Int) (a b c : Option W), ρ' = [some (.d (.scr ns)), some (.d (.int m)), some (.cell 0), a, b, c] ∧ M' = [some (.lst (is.map .int))] ∧ is.length = A.length := by
    have := forL_inv (body := fun ρ M => evS (orc T k) (.seq (.asg (.nm 5) (.bin .mod (.blt .int (.cons (.slot 3) .nil)) (.slot 1))) (.seq (.seti 2 (.slot 5) (.bin .add (.idx (.slot 2) (.slot 5)) (.bin .mul (.slot 4) (.bin .add (.slot 3) (.cst (.int 2)))))) .nil)) ρ M) (pr := true) (g := .tp (.tcons (.nm 3) (.tcons (.nm 4) .tnil)))
      (fun _ ρ M => ∃ (is : List Int) (a b c : Option W), ρ = [some (.d (.scr ns)), some (.d (.int m)), some (.cell 0), a, b, c] ∧ M = [some (.lst (is.map .int))] ∧ is.length = A.length)
      (enumD 0 ((cut ns (some (m : Int)) (some 63)).map .int)) 0 [some (.d (.scr ns)), some (.d (.int m)), some (.cell 0), none, none, none] [some (.lst (A.map .int))] ?_ ⟨A, none, none, none, rfl, rfl, rfl⟩
    · obtain ⟨ρ', M', e, p⟩ := this
      exact ⟨ρ', M', e, p⟩
    · rintro i x ρ M hx ⟨is, a, b, c, rfl, rfl, hl⟩
      obtain ⟨y, hy, rfl⟩ := enumD_get' hx
      rw [List.getElem?_map] at hy
      obtain ⟨z, hz, rfl⟩ := Option.map_eq_some_iff.mp hy
      have hml : m < ns.length := by
        by_cases q : m < ns.length
        · exact q
        · rw [cut_nil (by omega)] at hz; simp at hz
      have hAl := hA4 hml
      have il : i < 1000 := by
        have := (List.getElem?_eq_some_iff.mp hz).1
        unfold cut at this
        rw [List.length_take, List.length_drop] at this
        omega
      have hm0 : (m : Int) ≠ 0 := by omega
      have fm := fmod_pos (i := ((0 + i : Nat) : Int)) (n := (m : Int)) (by omega)
      have hat := atI_int (is := is) (r := ((0 + i : Nat) : Int).fmod m) fm.1 (by rw [hl, hAl]; exact fm.2)
      have hix := ixN_ok (n := is.length) (r := ((0 + i : Nat) : Int).fmod m) fm.1 (by rw [hl, hAl]; exact fm.2)
      have mo : mulOk z (((0 + i : Nat) : Int) + 2) = true := mulOk_r (by omega) (by omega)
      refine ⟨[some (.d (.scr ns)), some (.d (.int m)), some (.cell 0), some (.d (.int ((0 + i : Nat) : Int))), some (.d (.int z)), c], [some (.d (.scr ns)), some (.d (.int m)), some (.cell 0), some (.d (.int ((0 + i : Nat) : Int))), some (.d (.int z)), some (.d (.int (((0 + i : Nat) : Int).fmod m)))],
        [some (.lst ((is.set (((0 + i : Nat) : Int).fmod m).toNat (is[(((0 + i : Nat) : Int).fmod m).toNat]'(by omega) + z * (((0 + i : Nat) : Int) + 2))).map .int))], ?_, ?_, ⟨_, _, _, _, rfl, rfl, by rw [List.length_set]; exact hl⟩⟩
      · rfl
      · rw [List.map_set]
        exact cell_step hm0 hat (by rw [List.length_map]; exact hix) mo
  obtain ⟨ρ', M', lp, is, a, b, c, rfl, rfl, hl⟩ := loop
  refine ⟨is, ?_, fun z => by subst z; simp at hl; exact hA2 (List.length_eq_zero_iff.mp hl.symm), by omega⟩
  have s1 : evS (orc T k) (.asg (.nm 2) (.mk (.orT (.blt .list (.cons (.slc (.slot 0) .none_ (.cons (.slot 1) .nil)) .nil)) (.one (.lst (.cons (.cst (.int 0)) .nil)))))) [some (.d (.scr ns)), some (.d (.int m)), none, none, none, none] [] = some (.nx [some (.d (.scr ns)), some (.d (.int m)), some (.cell 0), none, none, none] [some (.lst (A.map .int))]) := by
    unfold evS
    rw [hA]
    rfl
  have s2 : evI (orc T k) (.enum (.slc (.slot 0) (.cons (.slot 1) .nil) (.cons (.cst (.int 63)) .nil))) [some (.d (.scr ns)), some (.d (.int m)), some (.cell 0), none, none, none] [some (.lst (A.map .int))] = some ((true, enumD 0 ((cut ns (some (m : Int)) (some 63)).map .int)), [some (.lst (A.map .int))]) := by
    simp [evI, evE, evO, wAt, vw, slcD]
  have fin : evS (orc T k) d_law_cells.body [some (.d (.scr ns)), some (.d (.int m)), none, none, none, none] [] = some (.rt (.d (.lst (is.map .int))) false [none]) := by
    show evS (orc T k) (.seq _ _) _ _ = _
    rw [seq_nx s1, seq_nx (for_nx s2 lp)]
    simp [evS, evE, wAt, cellAt, Node.toD]
  have env : envOf d_law_cells ([D.scr ns, D.int m].map .d) = [some (.d (.scr ns)), some (.d (.int m)), none, none, none, none] := rfl
  show (if _ then (match evS (orc T k) d_law_cells.body (envOf d_law_cells ([D.scr ns, D.int m].map .d)) [] with
      | some (.rt (.d x) fr _) => some (x, fr)
      | some (.nx _ _) => some (.non, false)
      | _ => none) else none) = _
  rw [env, fin]
  rfl
end Rf

set_option Elab.async false
set_option linter.all false
set_option maxRecDepth 100000
set_option maxHeartbeats 4000000
namespace Rf
open PySem L2
theorem lcL_pure {pr : Bool} {g : G} {own : List Nat} {cond : REnv → Store → Option (Bool × Store)} {el : REnv → Store → Option RW} {ρ : REnv} {M : Store} (f : D → D) : ∀ (xs acc : List D),
    (∀ x ∈ xs, ∃ ρ1 fr, evGI pr g x (wipeR ρ own) = some ρ1 ∧ cond ρ1 M = some (true, M) ∧ el ρ1 M = some ((.d (f x), fr), M)) → lcL pr g own cond el ρ xs acc M = some (acc ++ xs.map f, M)
  | [], acc, _ => by simp [lcL]
  | x :: xs, acc, h => by
    obtain ⟨ρ1, fr, e1, e2, e3⟩ := h x List.mem_cons_self
    unfold lcL
    simp only [e1, e2, e3]
    rw [lcL_pure f xs (acc ++ [f x]) fun y hy => h y (List.mem_cons_of_mem _ hy)]
    simp
theorem dep_mem {x : D} : ∀ {xs : List D}, x ∈ xs → dep x ≤ deps xs
  | y :: r, h => by
    unfold deps
    rcases List.mem_cons.mp h with rfl | h
    · exact Nat.le_max_left _ _
    · exact Nat.le_trans (dep_mem h) (Nat.le_max_right _ _)
  | [], h => by cases h
theorem flat_mem {x : D} : ∀ {xs : List D}, flats xs = true → x ∈ xs → flat x = true
  | y :: r, f, h => by
    simp only [flats, Bool.and_eq_true] at f
    rcases List.mem_cons.mp h with rfl | h
    · exact f.1
    · exact flat_mem f.2 h
  | [], _, h => by cases h
mutual
/-- how long the lists within are -/
def wid : D → Nat
  | .lst xs => max xs.length (wids xs)
  | .tup xs => max xs.length (wids xs)
  | _ => 0
def wids : List D → Nat
  | [] => 0
  | x :: xs => max (wid x) (wids xs)
end
theorem wid_mem {x : D} : ∀ {xs : List D}, x ∈ xs → wid x ≤ wids xs
  | y :: r, h => by
    unfold wids
    rcases List.mem_cons.mp h with rfl | h
    · exact Nat.le_max_left _ _
    · exact Nat.le_trans (wid_mem h) (Nat.le_max_right _ _)
  | [], h => by cases h
theorem zipD_self : ∀ (xs : List D), zipD xs xs = xs.map fun x => .tup [x, x]
  | [] => rfl
  | x :: xs => by unfold zipD; rw [zipD_self xs]; rfl
theorem bls_true : ∀ (xs : List D), blsOf (xs.map fun _ => D.bl true) = some (xs.map fun _ => true)
  | [] => rfl
  | x :: xs => by rw [List.map_cons]; unfold blsOf; rw [bls_true xs]; rfl
theorem blt1 {o : Orc} {b : BI} {a : E} {ρ : REnv} {M M1 : Store} {v : D} {fr : Bool} {r : Res} (h : evE o a ρ M = some ((.d v, fr), M1)) (e : evB b [v] = some r) : evE o (.blt b (.cons a .nil)) ρ M = some ((.d r.1, r.2), M1) := by
  simp only [evE, evA, h, vws, vw_d, e]
theorem lc_eq {o : Orc} {own : List Nat} {g : G} {it c el : E} {ρ : REnv} {M M1 M2 : Store} {pr : Bool} {xs ys : List D} (h : evI o it ρ M = some ((pr, xs), M1)) (hl : xs.length ≤ big) (l : lcL pr g own (fun ρ M => evC o c ρ M) (fun ρ M => evE o el ρ M) ρ xs [] M1 = some (ys, M2)) :
    evE o (.lc own g it c el) ρ M = some ((.d (.lst ys), true), M2) := by
  simp only [evE, h, hl, if_true]
  rw [l]
theorem and_t {o : Orc} {a b : E} {ρ : REnv} {M M1 : Store} {fr : Bool} (h : evE o a ρ M = some ((.d (.bl true), fr), M1)) : evE o (.andv a b) ρ M = evE o b ρ M1 := by
  simp only [evE, h]
theorem one_t {o : Orc} {a : E} {ρ : REnv} {M : Store} : evE o (.one a) ρ M = evE o a ρ M := by
  simp only [evE]
theorem ret_eq {o : Orc} {a : E} {ρ : REnv} {M M1 : Store} {w : W} {fr : Bool} (h : evE o a ρ M = some ((w, fr), M1)) : evS o (.ret a) ρ M = some (.rt w fr M1) := by
  simp only [evS, h]
theorem if_t {o : Orc} {t : E} {a b : S} {ρ : REnv} {M M1 : Store} (h : evT o t ρ M = some (true, M1)) : evS o (.ite t a b) ρ M = evS o a ρ M1 := by
  simp only [evS, h]
theorem if_f {o : Orc} {t : E} {a b : S} {ρ : REnv} {M M1 : Store} (h : evT o t ρ M = some (false, M1)) : evS o (.ite t a b) ρ M = evS o b ρ M1 := by
  simp only [evS, h]
theorem nil_eq {o : Orc} {ρ : REnv} {M : Store} : evS o .nil ρ M = some (.nx ρ M) := by
  simp only [evS]
theorem runP_rt {o : Orc} {T : List Def} {f : Str} {d : Def} {xs : List D} {x : D} {fr : Bool} {M : Store} (hf : findDef T f = some d) (hl : xs.length = d.ps.length) (h : evS o d.body (envOf d (xs.map .d)) [] = some (.rt (.d x) fr M)) : runP o T f xs = some (x, fr) := by
  unfold runP
  rw [hf]
  simp only [hl, if_true, h]
theorem all_true (xs : List D) : evB .all [.lst (xs.map fun _ => D.bl true)] = some (.bl true, false) := by
  simp only [evB, bls_true]
  simp
theorem same_ok {T : List Def} (hf : findDef T "_law_same" = some d_law_same) : ∀ (k : Nat) (x : D), dep x < k → flat x = true → wid x ≤ big → (orc T k).p "_law_same" [x, x] = some (.bl true, false)
  | 0, x, h, _, _ => by omega
  | k + 1, x, h, f, w => by
    have ih := same_ok hf k
    show runP (orc T k) T "_law_same" [x, x] = _
    unfold runP
    rw [hf]
    have seqcase : ∀ xs : List D, (x = .lst xs ∨ x = .tup xs) → (∀ y ∈ xs, (orc T k).p "_law_same" [y, y] = some (.bl true, false)) → xs.length ≤ big →
        evE (orc T k) (.blt .all (.cons (.lc [2,3] (.tp (.tcons (.nm 2) (.tcons (.nm 3) .tnil))) (.zip (.slot 0) (.slot 1)) .nil (.callP "_law_same" (.cons (.slot 2) (.cons (.slot 3) .nil)))) .nil)) [some (.d x), some (.d x), none, none] [] = some ((.d (.bl true), false), []) := by
      intro xs hx hy hl
      have hz : evI (orc T k) (.zip (.slot 0) (.slot 1)) [some (.d x), some (.d x), none, none] [] = some ((true, xs.map fun y => .tup [y, y]), []) := by
        rcases hx with rfl | rfl <;> simp [evI, evE, wAt, zipD_self]
      have hl2 : lcL true (.tp (.tcons (.nm 2) (.tcons (.nm 3) .tnil))) [2,3] (fun ρ M => evC (orc T k) .nil ρ M) (fun ρ M => evE (orc T k) (.callP "_law_same" (.cons (.slot 2) (.cons (.slot 3) .nil))) ρ M) [some (.d x), some (.d x), none, none] (xs.map fun y => .tup [y, y]) [] [] = some ([] ++ (xs.map fun y => D.tup [y, y]).map fun _ => D.bl true, []) := by
        refine lcL_pure (fun _ => .bl true) _ _ fun z hz => ?_
        obtain ⟨y, hy', rfl⟩ := List.mem_map.mp hz
        refine ⟨[some (.d x), some (.d x), some (.d y), some (.d y)], false, rfl, by simp [evC], ?_⟩
        simp [evE, evA, wAt, vw, vws, hy y hy', anyCell]
      exact blt1 (lc_eq hz (by rw [List.length_map]; exact hl) hl2) (by rw [List.nil_append]; exact all_true _)
    have seqend : ∀ xs : List D, (x = .lst xs ∨ x = .tup xs) → (∀ y ∈ xs, (orc T k).p "_law_same" [y, y] = some (.bl true, false)) → xs.length ≤ big → evS (orc T k) d_law_same.body [some (.d x), some (.d x), none, none] [] = some (.rt (.d (.bl true)) false []) := by
      intro xs hx hy hl
      have sc := seqcase xs hx hy hl
      have t1 : evT (orc T k) (.cons (.isi (.slot 1) [.list, .tuple]) .nil) [some (.d x), some (.d x), none, none] [] = some (true, []) := by
        rcases hx with rfl | rfl <;> simp [evT, evE, wAt, vw, isTys, isTy, truD]
      have t2 : evT (orc T k) (.orv (.cons (.cmp .ne (.isi (.slot 0) [.list]) (.isi (.slot 1) [.list])) .nil) (.one (.cons (.cmp .ne (.isi (.slot 0) [.tuple]) (.isi (.slot 1) [.tuple])) .nil))) [some (.d x), some (.d x), none, none] [] = some (false, []) := by
        rcases hx with rfl | rfl <;> simp [evT, evE, wAt, vw, isTys, isTy, truD, opCmp, eqC, scalD, eqD]
      have t3 : evE (orc T k) (.cmp .eq (.blt .len (.cons (.slot 0) .nil)) (.blt .len (.cons (.slot 1) .nil))) [some (.d x), some (.d x), none, none] [] = some ((.d (.bl true), false), []) := by
        rcases hx with rfl | rfl <;> simp [evE, evA, wAt, vw, vws, evB, opCmp, eqC, scalD, eqD]
      show evS (orc T k) (.seq (.ite _ _ _) _) _ _ = _
      refine seq_rt ((if_t t1).trans ?_)
      rw [seq_nx ((if_f t2).trans nil_eq)]
      exact seq_rt (ret_eq ((and_t t3).trans (one_t.trans sc)))
    cases x with
    | non => simp [d_law_same, envOf, evS, evE, evA, evT, wAt, vw, vws, isTys, isTy, opCmp, isC, truD, eqC, scalD, eqD]
    | bl b => simp [d_law_same, envOf, evS, evE, evA, evT, wAt, vw, vws, isTys, isTy, opCmp, isC, truD, eqC, scalD, eqD]
    | int i => simp [d_law_same, envOf, evS, evE, evA, evT, wAt, vw, vws, isTys, isTy, opCmp, isC, truD, eqC, scalD, eqD]
    | str s => simp [d_law_same, envOf, evS, evE, evA, evT, wAt, vw, vws, isTys, isTy, opCmp, isC, truD, eqC, scalD, eqD]
    | dic _ => simp [flat] at f
    | scr _ => simp [flat] at f
    | lst xs =>
      simp only [flat] at f
      simp only [dep] at h
      simp only [wid] at w
      have := seqend xs (.inl rfl) (fun y hy => ih y (by have := dep_mem hy; omega) (flat_mem f hy) (by have := wid_mem hy; omega)) (by omega)
      rw [← hf] 
      exact runP_rt hf rfl this
    | tup xs =>
      simp only [flat] at f
      simp only [dep] at h
      simp only [wid] at w
      have := seqend xs (.inr rfl) (fun y hy => ih y (by have := dep_mem hy; omega) (flat_mem f hy) (by have := wid_mem hy; omega)) (by omega)
      rw [← hf]
      exact runP_rt hf rfl this
end Rf

set_option Elab.async false
set_option linter.all false
set_option maxRecDepth 100000
set_option maxHeartbeats 4000000
namespace Rf
open PySem L2
mutual
def listsF : D → D
  | .lst xs => .lst (listsFs xs)
  | .tup xs => .lst (listsFs xs)
  | x => x
def listsFs : List D → List D
  | [] => []
  | x :: xs => listsF x :: listsFs xs
end
mutual
def tupF : D → D
  | .lst xs => .tup (tupFs xs)
  | .tup xs => .tup (tupFs xs)
  | x => x
def tupFs : List D → List D
  | [] => []
  | x :: xs => tupF x :: tupFs xs
end
theorem listsFs_map : ∀ xs : List D, listsFs xs = xs.map listsF
  | [] => rfl
  | x :: xs => by unfold listsFs; rw [listsFs_map xs]; rfl
theorem tupFs_map : ∀ xs : List D, tupFs xs = xs.map tupF
  | [] => rfl
  | x :: xs => by unfold tupFs; rw [tupFs_map xs]; rfl
def isSeq : D → Bool
  | .lst _ => true
  | .tup _ => true
  | _ => false
theorem itv_slot {o : Orc} {ρ : REnv} {M : Store} {i : Nat} {x : D} {xs : List D} (h : wAt ρ i = some (.d x)) (e : itemsD x = some xs) : evI o (.itv (.slot i)) ρ M = some ((false, xs), M) := by
  simp only [evI, evE, h, e]
theorem ite_t {o : Orc} {t a b : E} {ρ : REnv} {M M1 : Store} (h : evT o t ρ M = some (true, M1)) : evE o (.ite t a b) ρ M = evE o a ρ M1 := by
  simp only [evE, h]
theorem ite_f {o : Orc} {t a b : E} {ρ : REnv} {M M1 : Store} (h : evT o t ρ M = some (false, M1)) : evE o (.ite t a b) ρ M = evE o b ρ M1 := by
  simp only [evE, h]
theorem lists_ok {T : List Def} (hf : findDef T "_law_lists" = some d_law_lists) : ∀ (k : Nat) (x : D), dep x < k → flat x = true → wid x ≤ big → (orc T k).p "_law_lists" [x] = some (listsF x, isSeq x)
  | 0, x, h, _, _ => by omega
  | k + 1, x, h, f, w => by
    have ih := lists_ok hf k
    have seqcase : ∀ xs : List D, (x = .lst xs ∨ x = .tup xs) → (∀ y ∈ xs, (orc T k).p "_law_lists" [y] = some (listsF y, isSeq y)) → xs.length ≤ big → (orc T (k + 1)).p "_law_lists" [x] = some (.lst (listsFs xs), true) := by
      intro xs hx hy hl
      have t1 : evT (orc T k) (.cons (.isi (.slot 0) [.list, .tuple]) .nil) [some (.d x), none] [] = some (true, []) := by
        rcases hx with rfl | rfl <;> simp [evT, evE, wAt, vw, isTys, isTy, truD]
      have hi : evI (orc T k) (.itv (.slot 0)) [some (.d x), none] [] = some ((false, xs), []) := itv_slot rfl (by rcases hx with rfl | rfl <;> rfl)
      have hl2 : lcL false (.nm 1) [1] (fun ρ M => evC (orc T k) .nil ρ M) (fun ρ M => evE (orc T k) (.callP "_law_lists" (.cons (.slot 1) .nil)) ρ M) [some (.d x), none] xs [] [] = some ([] ++ xs.map listsF, []) := by
        refine lcL_pure listsF _ _ fun y hy' => ⟨[some (.d x), some (.d y)], isSeq y, rfl, by simp [evC], ?_⟩
        simp [evE, evA, wAt, vw, vws, hy y hy', anyCell]
      refine runP_rt (M := []) hf rfl (seq_rt (ret_eq ((ite_t t1).trans ?_)))
      rw [listsFs_map]
      exact lc_eq hi hl hl2
    have atom : isSeq x = false → (∀ M, evT (orc T k) (.cons (.isi (.slot 0) [.list, .tuple]) .nil) [some (.d x), none] M = some (false, M)) → (orc T (k + 1)).p "_law_lists" [x] = some (x, false) := by
      intro _ h1
      refine runP_rt (M := []) hf rfl (seq_rt (ret_eq ((ite_f (h1 [])).trans ?_)))
      simp [evE, wAt]
    cases x with
    | non => exact atom rfl (by simp [evT, evE, wAt, vw, isTys, isTy, truD])
    | bl b => exact atom rfl (by simp [evT, evE, wAt, vw, isTys, isTy, truD])
    | int i => exact atom rfl (by simp [evT, evE, wAt, vw, isTys, isTy, truD])
    | str s => exact atom rfl (by simp [evT, evE, wAt, vw, isTys, isTy, truD])
    | dic _ => simp [flat] at f
    | scr _ => simp [flat] at f
    | lst xs =>
      simp only [flat] at f
      simp only [dep] at h
      simp only [wid] at w
      exact seqcase xs (.inl rfl) (fun y hy => ih y (by have := dep_mem hy; omega) (flat_mem f hy) (by have := wid_mem hy; omega)) (by omega)
    | tup xs =>
      simp only [flat] at f
      simp only [dep] at h
      simp only [wid] at w
      exact seqcase xs (.inr rfl) (fun y hy => ih y (by have := dep_mem hy; omega) (flat_mem f hy) (by have := wid_mem hy; omega)) (by omega)
theorem tupled_ok {T : List Def} (hf : findDef T "tupled" = some d_tupled) : ∀ (k : Nat) (x : D), dep x < k → flat x = true → wid x ≤ big → (orc T k).p "tupled" [x] = some (tupF x, false)
  | 0, x, h, _, _ => by omega
  | k + 1, x, h, f, w => by
    have ih := tupled_ok hf k
    have seqcase : ∀ xs : List D, (x = .lst xs ∨ x = .tup xs) → (∀ y ∈ xs, (orc T k).p "tupled" [y] = some (tupF y, false)) → xs.length ≤ big → (orc T (k + 1)).p "tupled" [x] = some (.tup (tupFs xs), false) := by
      intro xs hx hy hl
      have t1 : evT (orc T k) (.cons (.isi (.slot 0) [.list, .tuple]) .nil) [some (.d x), none] [] = some (true, []) := by
        rcases hx with rfl | rfl <;> simp [evT, evE, wAt, vw, isTys, isTy, truD]
      have hi : evI (orc T k) (.itv (.slot 0)) [some (.d x), none] [] = some ((false, xs), []) := itv_slot rfl (by rcases hx with rfl | rfl <;> rfl)
      have hl2 : lcL false (.nm 1) [1] (fun ρ M => evC (orc T k) .nil ρ M) (fun ρ M => evE (orc T k) (.callP "tupled" (.cons (.slot 1) .nil)) ρ M) [some (.d x), none] xs [] [] = some ([] ++ xs.map tupF, []) := by
        refine lcL_pure tupF _ _ fun y hy' => ⟨[some (.d x), some (.d y)], false, rfl, by simp [evC], ?_⟩
        simp [evE, evA, wAt, vw, vws, hy y hy', anyCell]
      refine runP_rt (M := []) hf rfl (seq_rt (ret_eq ((ite_t t1).trans ?_)))
      rw [tupFs_map]
      exact blt1 (b := .tuple) (lc_eq hi hl hl2) (by rw [List.nil_append]; rfl)
    have atom : isSeq x = false → (∀ M, evT (orc T k) (.cons (.isi (.slot 0) [.list, .tuple]) .nil) [some (.d x), none] M = some (false, M)) → (orc T (k + 1)).p "tupled" [x] = some (x, false) := by
      intro _ h1
      refine runP_rt (M := []) hf rfl (seq_rt (ret_eq ((ite_f (h1 [])).trans ?_)))
      simp [evE, wAt]
    cases x with
    | non => exact atom rfl (by simp [evT, evE, wAt, vw, isTys, isTy, truD])
    | bl b => exact atom rfl (by simp [evT, evE, wAt, vw, isTys, isTy, truD])
    | int i => exact atom rfl (by simp [evT, evE, wAt, vw, isTys, isTy, truD])
    | str s => exact atom rfl (by simp [evT, evE, wAt, vw, isTys, isTy, truD])
    | dic _ => simp [flat] at f
    | scr _ => simp [flat] at f
    | lst xs =>
      simp only [flat] at f
      simp only [dep] at h
      simp only [wid] at w
      exact seqcase xs (.inl rfl) (fun y hy => ih y (by have := dep_mem hy; omega) (flat_mem f hy) (by have := wid_mem hy; omega)) (by omega)
    | tup xs =>
      simp only [flat] at f
      simp only [dep] at h
      simp only [wid] at w
      exact seqcase xs (.inr rfl) (fun y hy => ih y (by have := dep_mem hy; omega) (flat_mem f hy) (by have := wid_mem hy; omega)) (by omega)
end Rf

set_option Elab.async false
set_option linter.all false
set_option maxRecDepth 100000
set_option maxHeartbeats 4000000
namespace Rf
open PySem L2
theorem Box.keep {M M' : Store} {c e : Nat} (b : Box M c e) (h : cellAt M' c = cellAt M c) : Box M' c e := by
  obtain ⟨a, b', d, hc, r⟩ := b.at'
  exact ⟨a, b', d, by rw [h]; exact hc, r⟩
theorem Box.mono {M : Store} {c e e' : Nat} (b : Box M c e) (h : e ≤ e') : Box M c e' := by
  obtain ⟨a, b', d, hc, h1, h2, h3, h4, h5⟩ := b.at'
  exact ⟨a, b', d, hc, h1, h2, h3, h4, by omega⟩
theorem cellAt_lt' {M : Store} {n : Nat} {nd : Node} (h : cellAt M n = some nd) : n < M.length := by
  unfold cellAt at h
  split at h
  · rename_i e; exact (List.getElem?_eq_some_iff.mp e).1
  · cases h
abbrev takeLen (i : Nat) : E := .callM "_law_take" (.cons (.slot 0) (.cons (.blt .len (.cons (.slot i) .nil)) .nil))
theorem slot_eq {o : Orc} {ρ : REnv} {M : Store} {i : Nat} {w : W} (h : wAt ρ i = some w) : evE o (.slot i) ρ M = some ((w, false), M) := by
  simp only [evE, h]
theorem len_cell {o : Orc} {ρ : REnv} {M : Store} {i n : Nat} {xs : List D} (h : wAt ρ i = some (.cell n)) (hc : cellAt M n = some (.lst xs)) : evE o (.blt .len (.cons (.slot i) .nil)) ρ M = some ((.d (.int xs.length), false), M) := by
  simp only [evE, evA, h, vws, vw, hc, Option.map_some, Node.toD, evB]
theorem callM2 {o : Orc} {f : Str} {a b : E} {ρ : REnv} {M M1 M2 : Store} {w1 w2 : W} {f1 f2 : Bool} {r : Option RW} (h1 : evE o a ρ M = some ((w1, f1), M1)) (h2 : evE o b ρ M1 = some ((w2, f2), M2)) (h : o.m f [w1, w2] M2 = r) : evE o (.callM f (.cons a (.cons b .nil))) ρ M = r := by
  simp only [evE, evA, h1, h2, h]
theorem take_at {T : List Def} {k : Nat} (hf : findDef T "_law_take" = some d_law_take) {ρ : REnv} {M : Store} {c e : Nat} (b : Box M c e) (he : e < 2 ^ 40) (h0 : wAt ρ 0 = some (.cell c)) {n : Int} (hn : 0 < n) (hn2 : n < 1000000) {a : E} (ha : evE (orc T (k + 1)) a ρ M = some ((.d (.int n), false), M)) :
    ∃ r M', evE (orc T (k + 1)) (.callM "_law_take" (.cons (.slot 0) (.cons a .nil))) ρ M = some ((.d (.int r), false), M') ∧ 0 ≤ r ∧ r < n ∧ Box M' c (e + 1) ∧ M'.length = M.length ∧ ∀ j, j ≠ c → cellAt M' j = cellAt M j := by
  obtain ⟨r, M', e1, r0, r1, b', lm, ot⟩ := take_ok (k := k) hf b he hn hn2
  exact ⟨r, M', callM2 (slot_eq h0) ha e1, r0, r1, b', lm, ot⟩
theorem pick_ok {T : List Def} {k : Nat} (hf : findDef T "_law_take" = some d_law_take) {ρ : REnv} {M : Store} {c e i n : Nat} {xs : List D} (b : Box M c e) (he : e < 2 ^ 40) (h0 : wAt ρ 0 = some (.cell c)) (hi : wAt ρ i = some (.cell n)) (hc : cellAt M n = some (.lst xs)) (hnc : n ≠ c) (hx : xs ≠ []) (hl : xs.length ≤ 1000) :
    ∃ j x M', xs[j]? = some x ∧ evE (orc T (k + 1)) (.pop i (takeLen i)) ρ M = some ((.d x, false), M') ∧ Box M' c (e + 1) ∧ cellAt M' n = some (.lst (xs.eraseIdx j)) ∧ M'.length = M.length ∧ ∀ j, j ≠ c → j ≠ n → cellAt M' j = cellAt M j := by
  have hp : 0 < (xs.length : Int) := by
    cases xs with
    | nil => exact absurd rfl hx
    | cons a r => simp
  obtain ⟨r, M', e1, r0, r1, b', lm, ot⟩ := take_at (k := k) hf b he h0 hp (by omega) (len_cell hi hc)
  have hr : r.toNat < xs.length := by omega
  have hc' : cellAt M' n = some (.lst xs) := by rw [ot n hnc]; exact hc
  have hx' : xs[r.toNat]? = some xs[r.toNat] := List.getElem?_eq_getElem hr
  have hb : xs.length ≤ big := by unfold big; omega
  refine ⟨r.toNat, xs[r.toNat], M'.set n (some (.lst (xs.eraseIdx r.toNat))), hx', ?_, b'.keep (cellAt_ne (fun z => hnc z.symm)), cellAt_set hc', by rw [List.length_set]; exact lm, fun j h1 h2 => by rw [cellAt_ne h2]; exact ot j h1⟩
  unfold takeLen
  rw [evE]
  simp only [hi, hc, e1, hc', ixN_ok r0 r1, hx', hb, if_true]
/-- a row of a tree -/
abbrev TRow := Str × Option Str × Bool
def optD : Option Str → D
  | none => .non
  | some p => .str p
def rowD (r : TRow) : D := .tup [.str r.1, optD r.2.1, .bl r.2.2]
def pool : List Str := ["a", "b", "c", "d", "e", "f", "g", "ab", "ba", "h", "m", "z"]
/-- the rows of a tree that a law grows: fresh names, parents above -/
inductive Tree : List TRow → Prop
  | one (a : Str) : Tree [(a, none, false)]
  | more {rs : List TRow} (a p : Str) (l : Bool) : Tree rs → a ∉ rs.map (·.1) → p ∈ rs.map (·.1) → Tree (rs ++ [(a, some p, l)])
end Rf

set_option Elab.async false
set_option linter.all false
set_option maxRecDepth 100000
set_option maxHeartbeats 4000000
namespace Rf
open PySem L2
abbrev bodyG : S := .seq (.asg (.nm 6) (.idx (.callM "_law_of" (.cons (.slot 0) (.cons (.slot 4) .nil))) (.cst (.int 0))))
    (.seq (.app 4 (.tup (.cons (.pop 3 (takeLen 3)) (.cons (.slot 6) (.cons (.cmp .lt (.callM "_law_take" (.cons (.slot 0) (.cons (.cst (.int 12)) .nil))) (.slot 2)) .nil)))))
    .nil)
structure GInv (M0 : Store) (c e : Nat) (i : Nat) (M : Store) (rs : List TRow) (left : List Str) : Prop where
  cl : cellAt M M0.length = some (.lst (left.map .str))
  cr : cellAt M (M0.length + 1) = some (.lst (rs.map rowD))
  tree : Tree rs
  len : rs.length = i + 1
  sum : left.length + rs.length = 12
  nd : left.Nodup
  new : ∀ x ∈ left, x ∉ rs.map (·.1)
  lp : ∀ x ∈ left, x ∈ pool
  rp : ∀ r ∈ rs, r.1 ∈ pool
  box : Box M c (e + 1 + 3 * i)
  ml : M.length = M0.length + 2
  old : ∀ j, j < M0.length → j ≠ c → cellAt M j = cellAt M0 j
theorem of_at {T : List Def} {k : Nat} (hf : findDef T "_law_take" = some d_law_take) (hf2 : findDef T "_law_of" = some d_law_of) {ρ : REnv} {M : Store} {c e i n : Nat} {xs : List D} (b : Box M c e) (he : e < 2 ^ 40) (h0 : wAt ρ 0 = some (.cell c)) (hi : wAt ρ i = some (.cell n)) (hc : cellAt M n = some (.lst xs)) (hnc : n ≠ c) (hx : xs ≠ []) (hl : xs.length ≤ 1000) :
    ∃ x M', x ∈ xs ∧ evE (orc T (k + 2)) (.callM "_law_of" (.cons (.slot 0) (.cons (.slot i) .nil))) ρ M = some ((.d x, false), M') ∧ Box M' c (e + 1) ∧ M'.length = M.length ∧ ∀ j, j ≠ c → cellAt M' j = cellAt M j := by
  have hv : vw M (.cell n) = some (.lst xs) := by simp only [vw, hc, Option.map_some, Node.toD]
  obtain ⟨x, M', m, e1, b', lm, ot⟩ := of_core (k := k) hf hf2 b he (w := .cell n) (v := .lst xs) (fun M' h => by simp only [vw, h n hnc, hc, Option.map_some, Node.toD]) hv (.inl rfl) hx (by omega)
  exact ⟨x, M', m, callM2 (slot_eq h0) (slot_eq hi) e1, b', lm, ot⟩
theorem erase_map {α β : Type} (f : α → β) : ∀ (xs : List α) (j : Nat), (xs.map f).eraseIdx j = (xs.eraseIdx j).map f
  | [], j => by simp
  | x :: xs, 0 => rfl
  | x :: xs, j + 1 => by
    show f x :: (xs.map f).eraseIdx j = f x :: (xs.eraseIdx j).map f
    rw [erase_map f xs j]
theorem erase_not {α : Type} : ∀ {xs : List α} {j : Nat} {x : α}, xs.Nodup → xs[j]? = some x → x ∉ xs.eraseIdx j
  | [], j, x, _, h => by simp at h
  | y :: ys, 0, x, nd, h => by
    simp at h; subst h
    exact (List.nodup_cons.mp nd).1
  | y :: ys, j + 1, x, nd, h => by
    have nd' := List.nodup_cons.mp nd
    have h : ys[j]? = some x := by simpa using h
    show x ∉ y :: ys.eraseIdx j
    intro z
    rcases List.mem_cons.mp z with z | z
    · exact nd'.1 (z ▸ List.mem_of_getElem? h)
    · exact erase_not nd'.2 h z
theorem erase_mem {α : Type} {x : α} : ∀ {xs : List α} {j : Nat}, x ∈ xs.eraseIdx j → x ∈ xs := fun h => List.mem_of_mem_eraseIdx h
theorem step_g {T : List Def} {k : Nat} (hf : findDef T "_law_take" = some d_law_take) (hf2 : findDef T "_law_of" = some d_law_of) {M0 M : Store} {c e i : Nat} (hcl : c < M0.length) (he : e + 100 < 2 ^ 40) (hi : i < 11) {rs : List TRow} {left : List Str} (I : GInv M0 c e i M rs left) {n l t : Int} {s6 : Option W} :
    ∃ rs' left' M' s6', evS (orc T (k + 2)) bodyG [some (.cell c), some (.d (.int n)), some (.d (.int l)), some (.cell M0.length), some (.cell (M0.length + 1)), some (.d (.int t)), s6] M =
      some (.nx [some (.cell c), some (.d (.int n)), some (.d (.int l)), some (.cell M0.length), some (.cell (M0.length + 1)), some (.d (.int t)), s6'] M') ∧ GInv M0 c e (i + 1) M' rs' left' := by
  have rne : rs.map rowD ≠ [] := by
    intro z
    have := congrArg List.length z
    rw [List.length_map, I.len] at this
    simp at this
  obtain ⟨x, M1, xm, e1, b1, l1, o1⟩ := of_at (k := k) hf hf2 (ρ := [some (.cell c), some (.d (.int n)), some (.d (.int l)), some (.cell M0.length), some (.cell (M0.length + 1)), some (.d (.int t)), s6]) I.box (by omega) rfl (i := 4) rfl I.cr (by omega) rne (by rw [List.length_map, I.len]; omega)
  obtain ⟨r, rm, rfl⟩ := List.mem_map.mp xm
  have lne : left.map D.str ≠ [] := by
    intro z
    have h0 : left.length = 0 := by
      have := congrArg List.length z
      simpa using this
    have h1 := I.sum
    have h2 := I.len
    omega
  have cl1 : cellAt M1 M0.length = some (.lst (left.map .str)) := by rw [o1 _ (by omega)]; exact I.cl
  have cr1 : cellAt M1 (M0.length + 1) = some (.lst (rs.map rowD)) := by rw [o1 _ (by omega)]; exact I.cr
  have hll : left.length ≤ 12 := by have := I.sum; omega
  obtain ⟨j, y, M2, jy, e2, b2, cl2, l2, o2⟩ := pick_ok (k := k + 1) hf (ρ := [some (.cell c), some (.d (.int n)), some (.d (.int l)), some (.cell M0.length), some (.cell (M0.length + 1)), some (.d (.int t)), some (.d (.str r.1))]) (i := 3) b1 (by omega) rfl rfl cl1 (by omega) lne (by rw [List.length_map]; omega)
  rw [List.getElem?_map] at jy
  obtain ⟨a, ja, rfl⟩ := Option.map_eq_some_iff.mp jy
  obtain ⟨q, M3, e3, q0, q1, b3, l3, o3⟩ := take_at (k := k + 1) hf (ρ := [some (.cell c), some (.d (.int n)), some (.d (.int l)), some (.cell M0.length), some (.cell (M0.length + 1)), some (.d (.int t)), some (.d (.str r.1))]) b2 (by omega) rfl (n := 12) (by decide) (by decide) (a := .cst (.int 12)) (by simp [evE])
  have cr3 : cellAt M3 (M0.length + 1) = some (.lst (rs.map rowD)) := by rw [o3 _ (by omega), o2 _ (by omega) (by omega)]; exact cr1
  have am : a ∈ left := List.mem_of_getElem? ja
  refine ⟨rs ++ [(a, some r.1, decide (q < l))], left.eraseIdx j, M3.set (M0.length + 1) (some (.lst ((rs ++ [(a, some r.1, decide (q < l))]).map rowD))), some (.d (.str r.1)), ?_, ?_⟩
  · have s1 : evS (orc T (k + 2)) (.asg (.nm 6) (.idx (.callM "_law_of" (.cons (.slot 0) (.cons (.slot 4) .nil))) (.cst (.int 0)))) [some (.cell c), some (.d (.int n)), some (.d (.int l)), some (.cell M0.length), some (.cell (M0.length + 1)), some (.d (.int t)), s6] M =
        some (.nx [some (.cell c), some (.d (.int n)), some (.d (.int l)), some (.cell M0.length), some (.cell (M0.length + 1)), some (.d (.int t)), some (.d (.str r.1))] M1) := by
      rw [evS, evE, e1]
      simp [evE, vw, rowD, idxD, atI, ixN, evG, putW]
    refine (seq_nx s1).trans ?_
    have s2 : evE (orc T (k + 2)) (.tup (.cons (.pop 3 (takeLen 3)) (.cons (.slot 6) (.cons (.cmp .lt (.callM "_law_take" (.cons (.slot 0) (.cons (.cst (.int 12)) .nil))) (.slot 2)) .nil)))) [some (.cell c), some (.d (.int n)), some (.d (.int l)), some (.cell M0.length), some (.cell (M0.length + 1)), some (.d (.int t)), some (.d (.str r.1))] M1 = some ((.d (rowD (a, some r.1, decide (q < l))), false), M3) := by
      rw [evE, evA, e2]
      simp only []
      rw [evA, slot_eq rfl]
      simp only []
      rw [evA, evE, e3]
      simp only []
      rw [slot_eq rfl]
      simp [evA, vw, opCmp, allD, isD, big, rowD, optD]
    have s3 : evS (orc T (k + 2)) (.app 4 (.tup (.cons (.pop 3 (takeLen 3)) (.cons (.slot 6) (.cons (.cmp .lt (.callM "_law_take" (.cons (.slot 0) (.cons (.cst (.int 12)) .nil))) (.slot 2)) .nil))))) [some (.cell c), some (.d (.int n)), some (.d (.int l)), some (.cell M0.length), some (.cell (M0.length + 1)), some (.d (.int t)), some (.d (.str r.1))] M1 =
        some (.nx [some (.cell c), some (.d (.int n)), some (.d (.int l)), some (.cell M0.length), some (.cell (M0.length + 1)), some (.d (.int t)), some (.d (.str r.1))] (M3.set (M0.length + 1) (some (.lst ((rs ++ [(a, some r.1, decide (q < l))]).map rowD))))) := by
      have hw : wAt [some (W.cell c), some (.d (.int n)), some (.d (.int l)), some (.cell M0.length), some (.cell (M0.length + 1)), some (.d (.int t)), some (.d (.str r.1))] 4 = some (.cell (M0.length + 1)) := rfl
      have hb : (rs.map rowD).length ≤ big := by rw [List.length_map, I.len]; unfold big; omega
      rw [evS]
      simp only [hw, cr1, s2, cr3, hb, if_true, List.map_append, List.map_cons, List.map_nil]
    exact (seq_nx s3).trans nil_eq
  · refine ⟨?_, cellAt_set cr3, .more a r.1 _ I.tree (I.new a am) (List.mem_map.mpr ⟨r, rm, rfl⟩), by rw [List.length_append, I.len]; rfl, ?_, I.nd.sublist (List.eraseIdx_sublist ..), fun x hx z => ?_, fun x hx => I.lp x (erase_mem hx), fun s hs => ?_, ?_, by rw [List.length_set, l3, l2, l1, I.ml], fun jj h1 h2 => ?_⟩
    · rw [cellAt_ne (by omega), o3 _ (by omega), cl2, erase_map]
    · have hj := (List.getElem?_eq_some_iff.mp ja).1
      have := I.sum
      rw [List.length_eraseIdx, if_pos hj, List.length_append, List.length_singleton]
      omega
    · rw [List.map_append, List.mem_append] at z
      rcases z with z | z
      · exact I.new x (erase_mem hx) z
      · have hxa : x = a := by simpa using z
        subst hxa
        exact erase_not I.nd ja hx
    · rcases List.mem_append.mp hs with hs | hs
      · exact I.rp s hs
      · have : s = (a, some r.1, decide (q < l)) := by simpa using hs
        rw [this]; exact I.lp a am
    · exact (b3.keep (cellAt_ne (by omega))).mono (by omega)
    · rw [cellAt_ne (by omega), o3 _ h2, o2 _ h2 (by omega), o1 _ h2]
      exact I.old jj h1 h2
end Rf

set_option Elab.async false
set_option linter.all false
set_option maxRecDepth 100000
set_option maxHeartbeats 4000000
namespace Rf
open PySem L2
theorem cellAt_take {M : Store} {n j : Nat} (h : j < n) : cellAt (M.take n) j = cellAt M j := by
  unfold cellAt
  rw [List.getElem?_take_of_lt h]
theorem rng_get {lo : Int} {n i : Nat} {x : D} (h : (rngD lo n)[i]? = some x) : i < n ∧ x = .int (lo + i) := by
  unfold rngD at h
  rw [List.getElem?_map] at h
  obtain ⟨j, h1, rfl⟩ := Option.map_eq_some_iff.mp h
  obtain ⟨h2, h3⟩ := List.getElem?_eq_some_iff.mp h1
  rw [List.getElem_range] at h3
  subst h3
  rw [List.length_range] at h2
  exact ⟨h2, rfl⟩
theorem rng_length {lo : Int} {n : Nat} : (rngD lo n).length = n := by unfold rngD; rw [List.length_map, List.length_range]
theorem runM_rt {o : Orc} {T : List Def} {f : Str} {d : Def} {ws : List W} {x : D} {fr : Bool} {M M1 : Store} (hf : findDef T f = some d) (hl : ws.length = d.ps.length) (h : evS o d.body (envOf d ws) M = some (.rt (.d x) fr M1)) : runM o T f ws M = some ((.d x, fr), M1.take M.length) := by
  unfold runM
  rw [hf]
  simp only [hl, if_true, h]
theorem grown_ok {T : List Def} {k : Nat} (hf : findDef T "_law_take" = some d_law_take) (hf2 : findDef T "_law_of" = some d_law_of) (hg : findDef T "_law_grown" = some d_law_grown) {M : Store} {c e : Nat} (b : Box M c e) (he : e + 200 < 2 ^ 40) {n : Nat} (h1 : 1 ≤ n) (h12 : n ≤ 12) {l : Int} :
    ∃ rs M', (orc T (k + 3)).m "_law_grown" [.cell c, .d (.int n), .d (.int l)] M = some ((.d (.tup (rs.map rowD)), false), M') ∧ Tree rs ∧ rs.length = n ∧ (∀ r ∈ rs, r.1 ∈ pool) ∧ Box M' c (e + 40) ∧ M'.length = M.length ∧ ∀ j, j < M.length → j ≠ c → cellAt M' j = cellAt M j := by
  have hcl : c < M.length := by obtain ⟨_, _, _, hc, _⟩ := b.at'; exact cellAt_lt' hc
  -- the names
  have s1 : evS (orc T (k + 2)) (.asg (.nm 3) (.mk (.lst (.cons (.cst (.str "a")) (.cons (.cst (.str "b")) (.cons (.cst (.str "c")) (.cons (.cst (.str "d")) (.cons (.cst (.str "e")) (.cons (.cst (.str "f")) (.cons (.cst (.str "g")) (.cons (.cst (.str "ab")) (.cons (.cst (.str "ba")) (.cons (.cst (.str "h")) (.cons (.cst (.str "m")) (.cons (.cst (.str "z")) .nil))))))))))))))) [some (.cell c), some (.d (.int n)), some (.d (.int l)), none, none, none, none] M =
      some (.nx [some (.cell c), some (.d (.int n)), some (.d (.int l)), some (.cell M.length), none, none, none] (M ++ [some (.lst (pool.map .str))])) := by
    simp [evS, evE, evA, allD, isD, big, asNode, evG, putW, pool]
  have b1 : Box (M ++ [some (.lst (pool.map .str))]) c e := b.keep (cellAt_app hcl)
  obtain ⟨j, y, M2, jy, e2, b2, cl2, l2, o2⟩ := pick_ok (k := k + 1) hf (ρ := [some (.cell c), some (.d (.int n)), some (.d (.int l)), some (.cell M.length), none, none, none]) (i := 3) b1 (by omega) rfl rfl cellAt_end (by omega) (by decide) (by decide)
  rw [List.getElem?_map] at jy
  obtain ⟨a, ja, rfl⟩ := Option.map_eq_some_iff.mp jy
  rw [List.length_append, List.length_singleton] at l2
  have s2 : evS (orc T (k + 2)) (.asg (.nm 4) (.mk (.lst (.cons (.tup (.cons (.pop 3 (takeLen 3)) (.cons (.cst .non) (.cons (.cst (.bl false)) .nil)))) .nil)))) [some (.cell c), some (.d (.int n)), some (.d (.int l)), some (.cell M.length), none, none, none] (M ++ [some (.lst (pool.map .str))]) =
      some (.nx [some (.cell c), some (.d (.int n)), some (.d (.int l)), some (.cell M.length), some (.cell (M.length + 1)), none, none] (M2 ++ [some (.lst ([(a, none, false)].map rowD))])) := by
    rw [evS, evE, evE, evA, evE, evA, e2]
    simp [evE, evA, allD, isD, big, asNode, evG, putW, rowD, optD, l2]
  have am : a ∈ pool := List.mem_of_getElem? ja
  have I0 : GInv M c e 0 (M2 ++ [some (.lst ([(a, none, false)].map rowD))]) [(a, none, false)] (pool.eraseIdx j) := by
    refine ⟨?_, ?_, .one a, rfl, ?_, List.Nodup.sublist (List.eraseIdx_sublist ..) (by decide), fun x hx z => ?_, fun x hx => erase_mem hx, fun r hr => ?_, ?_, by rw [List.length_append, l2]; rfl, fun jj h3 h4 => ?_⟩
    · rw [cellAt_app (by omega), cl2, erase_map]
    · rw [← l2]; exact cellAt_end
    · have hj := (List.getElem?_eq_some_iff.mp ja).1
      rw [List.length_eraseIdx, if_pos hj]
      rfl
    · have : x = a := by simpa using z
      subst this
      exact erase_not (by decide) ja hx
    · have : r = (a, none, false) := by simpa using hr
      rw [this]; exact am
    · exact (b2.keep (cellAt_app (by omega))).mono (by omega)
    · rw [cellAt_app (by omega), o2 _ h4 (by omega), cellAt_app h3]
  -- the loop
  obtain ⟨ρ', M3, lp, rs, left, t, s6, rfl, I⟩ := forL_inv (body := fun ρ M => evS (orc T (k + 2)) bodyG ρ M) (pr := false) (g := .nm 5)
    (fun i ρ M' => ∃ (rs : List TRow) (left : List Str) (t s6 : Option W), ρ = [some (.cell c), some (.d (.int n)), some (.d (.int l)), some (.cell M.length), some (.cell (M.length + 1)), t, s6] ∧ GInv M c e i M' rs left)
    (rngD 0 (n - 1)) 0 [some (.cell c), some (.d (.int n)), some (.d (.int l)), some (.cell M.length), some (.cell (M.length + 1)), none, none] (M2 ++ [some (.lst ([(a, none, false)].map rowD))])
    (by
      rintro i x ρ M' hx ⟨rs, left, t, s6, rfl, I⟩
      obtain ⟨hi, rfl⟩ := rng_get hx
      obtain ⟨rs', left', M'', s6', e, I'⟩ := step_g (k := k) hf hf2 hcl (by omega) (by omega) I (n := n) (l := l) (t := 0 + i) (s6 := s6)
      exact ⟨_, _, M'', rfl, e, rs', left', _, s6', rfl, I'⟩)
    ⟨_, _, none, none, rfl, I0⟩
  rw [Nat.zero_add, rng_length] at I
  have s3i : evI (orc T (k + 2)) (.rng1 (.bin .sub (.slot 1) (.cst (.int 1)))) [some (.cell c), some (.d (.int n)), some (.d (.int l)), some (.cell M.length), some (.cell (M.length + 1)), none, none] (M2 ++ [some (.lst ([(a, none, false)].map rowD))]) = some ((false, rngD 0 (n - 1)), M2 ++ [some (.lst ([(a, none, false)].map rowD))]) := by
    have ok : ok62 ((n : Int) - 1) = true := by
      unfold ok62
      rw [Bool.and_eq_true, decide_eq_true_eq, decide_eq_true_eq]; omega
    have tn : ((n : Int) - 1).toNat = n - 1 := by omega
    simp [evI, evE, wAt, vw, opBin, ok, tn]
  refine ⟨rs, (M3.set (M.length + 1) none).take M.length, ?_, I.tree, by rw [I.len]; omega, I.rp, ?_, ?_, fun jj h3 h4 => ?_⟩
  · refine runM_rt hg rfl ?_
    refine (seq_nx s1).trans ((seq_nx s2).trans ((seq_nx (for_nx s3i lp)).trans ?_))
    have fr : evS (orc T (k + 2)) (.frz 4) [some (.cell c), some (.d (.int n)), some (.d (.int l)), some (.cell M.length), some (.cell (M.length + 1)), t, s6] M3 = some (.nx [some (.cell c), some (.d (.int n)), some (.d (.int l)), some (.cell M.length), some (.d (.lst (rs.map rowD))), t, s6] (M3.set (M.length + 1) none)) := by
      have hw : wAt [some (W.cell c), some (.d (.int n)), some (.d (.int l)), some (.cell M.length), some (.cell (M.length + 1)), t, s6] 4 = some (.cell (M.length + 1)) := rfl
      rw [evS]
      simp only [hw, I.cr]
      rfl
    refine (seq_nx fr).trans (seq_rt (ret_eq (blt1 (b := .tuple) (v := .lst (rs.map rowD)) (r := (.tup (rs.map rowD), false)) (slot_eq rfl) rfl)))
  · exact (I.box.keep ((cellAt_take hcl).trans (cellAt_ne (by omega)))).mono (by omega)
  · rw [List.length_take, List.length_set, I.ml]; omega
  · rw [cellAt_take h3, cellAt_ne (by omega)]
    exact I.old jj h3 h4
end Rf

set_option Elab.async false
set_option linter.all false
set_option maxRecDepth 100000
set_option maxHeartbeats 4000000
namespace Rf
open PySem L2
abbrev Pair := Str × Str
def pairD (p : Pair) : D := .tup [.str p.1, .str p.2]
theorem okD_pair {p : Pair} (h1 : strOkD p.1 = true) (h2 : strOkD p.2 = true) : okD (pairD p) = true := by
  simp [okD, pairD, flat, flats, h1, h2, dep, deps]
theorem alike_pair (p q : Pair) : alikeD (pairD p) (pairD q) = true := by
  simp [alikeD, pairD, toPy, toPys, PySem.W.alike, PySem.W.alikeAll]
theorem sort_pairs {us : List Pair} (h : ∀ p ∈ us, strOkD p.1 = true ∧ strOkD p.2 = true) (hl : us.length ≤ big) : sortD (us.map pairD) = some ((us.map pairD).mergeSort leD) := by
  have so : sortOk (us.map pairD) = true := by
    unfold sortOk
    rw [List.length_map]
    simp only [Bool.and_eq_true, decide_eq_true_eq, List.all_eq_true, Bool.or_eq_true]
    refine ⟨⟨⟨fun x hx => ?_, fun x hx y hy => ?_⟩, .inl fun x hx => ?_⟩, hl⟩
    · obtain ⟨p, hp, rfl⟩ := List.mem_map.mp hx
      exact okD_pair (h p hp).1 (h p hp).2
    · obtain ⟨p, _, rfl⟩ := List.mem_map.mp hx
      obtain ⟨q, _, rfl⟩ := List.mem_map.mp hy
      exact alike_pair p q
    · obtain ⟨p, _, rfl⟩ := List.mem_map.mp hx
      rfl
  unfold sortD
  rw [if_pos so]
theorem pool_ok : ∀ x ∈ pool, strOkD x = true := by decide +kernel
abbrev ofVals : E := .callM "_law_of" (.cons (.slot 0) (.cons (.slot 2) .nil))
theorem of_d {T : List Def} {k : Nat} (hf : findDef T "_law_take" = some d_law_take) (hf2 : findDef T "_law_of" = some d_law_of) {ρ : REnv} {M : Store} {c e i : Nat} {xs : List D} (b : Box M c e) (he : e < 2 ^ 40) (h0 : wAt ρ 0 = some (.cell c)) (hi : wAt ρ i = some (.d (.lst xs))) (hx : xs ≠ []) (hl : xs.length ≤ 1000) :
    ∃ x M', x ∈ xs ∧ evE (orc T (k + 2)) (.callM "_law_of" (.cons (.slot 0) (.cons (.slot i) .nil))) ρ M = some ((.d x, false), M') ∧ Box M' c (e + 1) ∧ M'.length = M.length ∧ ∀ j, j ≠ c → cellAt M' j = cellAt M j := by
  obtain ⟨x, M', m, e1, b', lm, ot⟩ := of_core (k := k) hf hf2 b he (w := .d (.lst xs)) (v := .lst xs) (fun _ _ => rfl) rfl (.inl rfl) hx (by omega)
  exact ⟨x, M', m, callM2 (slot_eq h0) (slot_eq hi) e1, b', lm, ot⟩
abbrev bodyP : S := .seq (.ite (.andv (.notv (.cons (.slot 6) .nil)) (.one (.cons (.cmp .eq (.callM "_law_take" (.cons (.slot 0) (.cons (.cst (.int 3)) .nil))) (.cst (.int 0))) .nil)))
    (.seq (.app 3 (.tup (.cons (.slot 4) (.cons ofVals .nil))))
    .nil)
    .nil)
    .nil
structure PInv (M0 : Store) (c e : Nat) (vs : List Str) (i : Nat) (M : Store) (us : List Pair) : Prop where
  cu : cellAt M M0.length = some (.lst (us.map pairD))
  len : us.length ≤ i + 1
  val : ∀ p ∈ us, p.2 ∈ vs
  box : Box M c (e + 1 + 2 * i)
  ml : M.length = M0.length + 1
  old : ∀ j, j < M0.length → j ≠ c → cellAt M j = cellAt M0 j
/-- one turn: the pair of this folder is added, or nothing is -/
theorem step_p {T : List Def} {k : Nat} (hf : findDef T "_law_take" = some d_law_take) (hf2 : findDef T "_law_of" = some d_law_of) {M0 M : Store} {c e i : Nat} (hcl : c < M0.length) (he : e + 100 < 2 ^ 40) (hi : i < 40) {vs : List Str} (hv : vs ≠ []) (hvl : vs.length ≤ 100) {us : List Pair} (I : PInv M0 c e vs i M us) {t a p : D} {nm : Str} {lk : Bool} :
    ∃ us' M', evS (orc T (k + 2)) bodyP [some (.cell c), some (.d t), some (.d (.lst (vs.map .str))), some (.cell M0.length), some (.d (.str nm)), some (.d p), some (.d (.bl lk))] M =
      some (.nx [some (.cell c), some (.d t), some (.d (.lst (vs.map .str))), some (.cell M0.length), some (.d (.str nm)), some (.d p), some (.d (.bl lk))] M') ∧ PInv M0 c e vs (i + 1) M' us' ∧ (us' = us ∨ ∃ v, us' = us ++ [(nm, v)]) := by
  cases lk with
  | true =>
    refine ⟨us, M, ?_, ⟨I.cu, by have := I.len; omega, I.val, I.box.mono (by omega), I.ml, I.old⟩, .inl rfl⟩
    refine (seq_nx ((if_f ?_).trans nil_eq)).trans nil_eq
    simp [evT, evE, wAt, vw, truD]
  | false =>
    obtain ⟨q, M1, e1, q0, q1, b1, l1, o1⟩ := take_at (k := k + 1) hf (ρ := [some (.cell c), some (.d t), some (.d (.lst (vs.map .str))), some (.cell M0.length), some (.d (.str nm)), some (.d p), some (.d (.bl false))]) I.box (by omega) rfl (n := 3) (by decide) (by decide) (a := .cst (.int 3)) (by simp [evE])
    have tt : evT (orc T (k + 2)) (.andv (.notv (.cons (.slot 6) .nil)) (.one (.cons (.cmp .eq (.callM "_law_take" (.cons (.slot 0) (.cons (.cst (.int 3)) .nil))) (.cst (.int 0))) .nil))) [some (.cell c), some (.d t), some (.d (.lst (vs.map .str))), some (.cell M0.length), some (.d (.str nm)), some (.d p), some (.d (.bl false))] M = some (q == 0, M1) := by
      have n1 : evT (orc T (k + 2)) (.notv (.cons (.slot 6) .nil)) [some (.cell c), some (.d t), some (.d (.lst (vs.map .str))), some (.cell M0.length), some (.d (.str nm)), some (.d p), some (.d (.bl false))] M = some (true, M) := by
        simp [evT, evE, wAt, vw, truD]
      rw [evT, n1]
      simp only []
      rw [evT, evT, evE, e1]
      simp [evE, vw, opCmp, eqC, scalD, eqD, truD]
    by_cases hq : q = 0
    · subst hq
      obtain ⟨x, M2, xm, e2, b2, l2, o2⟩ := of_d (k := k) hf hf2 (ρ := [some (.cell c), some (.d t), some (.d (.lst (vs.map .str))), some (.cell M0.length), some (.d (.str nm)), some (.d p), some (.d (.bl false))]) (i := 2) b1 (by omega) rfl rfl (by simpa using hv) (by rw [List.length_map]; omega)
      obtain ⟨v, vm, rfl⟩ := List.mem_map.mp xm
      have cu1 : cellAt M M0.length = some (.lst (us.map pairD)) := I.cu
      have cuA : cellAt M1 M0.length = some (.lst (us.map pairD)) := by rw [o1 _ (by omega)]; exact I.cu
      have cu2 : cellAt M2 M0.length = some (.lst (us.map pairD)) := by rw [o2 _ (by omega)]; exact cuA
      refine ⟨us ++ [(nm, v)], M2.set M0.length (some (.lst ((us ++ [(nm, v)]).map pairD))), ?_, ⟨cellAt_set cu2, by rw [List.length_append, List.length_singleton]; have := I.len; omega, fun z hz => ?_, (b2.keep (cellAt_ne (by omega))).mono (by omega), by rw [List.length_set, l2, l1, I.ml], fun j h1 h2 => by rw [cellAt_ne (by omega), o2 _ h2, o1 _ h2]; exact I.old j h1 h2⟩, .inr ⟨v, rfl⟩⟩
      · have s3 : evS (orc T (k + 2)) (.app 3 (.tup (.cons (.slot 4) (.cons ofVals .nil)))) [some (.cell c), some (.d t), some (.d (.lst (vs.map .str))), some (.cell M0.length), some (.d (.str nm)), some (.d p), some (.d (.bl false))] M1 =
            some (.nx [some (.cell c), some (.d t), some (.d (.lst (vs.map .str))), some (.cell M0.length), some (.d (.str nm)), some (.d p), some (.d (.bl false))] (M2.set M0.length (some (.lst ((us ++ [(nm, v)]).map pairD))))) := by
          have hw : wAt [some (W.cell c), some (.d t), some (.d (.lst (vs.map .str))), some (.cell M0.length), some (.d (.str nm)), some (.d p), some (.d (.bl false))] 3 = some (.cell M0.length) := rfl
          have hb : (us.map pairD).length ≤ big := by rw [List.length_map]; have := I.len; unfold big; omega
          have et : evE (orc T (k + 2)) (.tup (.cons (.slot 4) (.cons ofVals .nil))) [some (.cell c), some (.d t), some (.d (.lst (vs.map .str))), some (.cell M0.length), some (.d (.str nm)), some (.d p), some (.d (.bl false))] M1 = some ((.d (pairD (nm, v)), false), M2) := by
            rw [evE, evA, slot_eq rfl]
            simp only []
            rw [evA, e2]
            simp [evA, allD, isD, big, pairD]
          rw [evS]
          simp only [hw, cuA, et, cu2, hb, if_true, List.map_append, List.map_cons, List.map_nil]
        exact (seq_nx ((if_t tt).trans ((seq_nx s3).trans nil_eq))).trans nil_eq
      · rcases List.mem_append.mp hz with hz | hz
        · exact I.val z hz
        · have : z = (nm, v) := by simpa using hz
          rw [this]; exact vm
    · have tf : (q == 0) = false := by simpa using hq
      rw [tf] at tt
      exact ⟨us, M1, (seq_nx ((if_f tt).trans nil_eq)).trans nil_eq, ⟨by rw [o1 _ (by omega)]; exact I.cu, by have := I.len; omega, I.val, b1.mono (by omega), by rw [l1, I.ml], fun j h1 h2 => by rw [o1 _ h2]; exact I.old j h1 h2⟩, .inl rfl⟩
end Rf

set_option Elab.async false
set_option linter.all false
set_option maxRecDepth 100000
set_option maxHeartbeats 4000000
namespace Rf
open PySem L2
theorem cut_one {x : D} {xs : List D} : cut (x :: xs) (some 1) none = xs := by
  unfold cut
  rw [show (1 : Int) = ((1 : Nat) : Int) from rfl, HT.sIx_nat, HT.sIx_none]
  simp
theorem planned_ok {T : List Def} {k : Nat} (hf : findDef T "_law_take" = some d_law_take) (hf2 : findDef T "_law_of" = some d_law_of) (hg : findDef T "_law_planned" = some d_law_planned) {M : Store} {c e : Nat} (b : Box M c e) (he : e + 200 < 2 ^ 40) {r0 : TRow} {rest : List TRow} (hr : rest.length < 40) (hp : ∀ r ∈ r0 :: rest, strOkD r.1 = true)
    {vs : List Str} (hv : vs ≠ []) (hvl : vs.length ≤ 100) (hvo : ∀ v ∈ vs, strOkD v = true) :
    ∃ us M', (orc T (k + 3)).m "_law_planned" [.cell c, .d (.tup ((r0 :: rest).map rowD)), .d (.lst (vs.map .str))] M = some ((.d (.tup ((us.map pairD).mergeSort leD)), false), M') ∧ (us.map (·.1)).Sublist ((r0 :: rest).map (·.1)) ∧ (∃ v us', us = (r0.1, v) :: us') ∧ (∀ p ∈ us, p.2 ∈ vs) ∧
      Box M' c (e + 100) ∧ M'.length = M.length ∧ ∀ j, j < M.length → j ≠ c → cellAt M' j = cellAt M j := by
  have hcl : c < M.length := by obtain ⟨_, _, _, hc, _⟩ := b.at'; exact cellAt_lt' hc
  obtain ⟨x, M1, xm, e1, b1, l1, o1⟩ := of_d (k := k) hf hf2 (ρ := [some (.cell c), some (.d (.tup ((r0 :: rest).map rowD))), some (.d (.lst (vs.map .str))), none, none, none, none]) (i := 2) b (by omega) rfl rfl (by simpa using hv) (by rw [List.length_map]; omega)
  obtain ⟨v, vm, rfl⟩ := List.mem_map.mp xm
  have s1 : evS (orc T (k + 2)) (.asg (.nm 3) (.mk (.lst (.cons (.tup (.cons (.idx (.idx (.slot 1) (.cst (.int 0))) (.cst (.int 0))) (.cons ofVals .nil))) .nil)))) [some (.cell c), some (.d (.tup ((r0 :: rest).map rowD))), some (.d (.lst (vs.map .str))), none, none, none, none] M =
      some (.nx [some (.cell c), some (.d (.tup ((r0 :: rest).map rowD))), some (.d (.lst (vs.map .str))), some (.cell M.length), none, none, none] (M1 ++ [some (.lst ([(r0.1, v)].map pairD))])) := by
    have ei : evE (orc T (k + 2)) (.idx (.idx (.slot 1) (.cst (.int 0))) (.cst (.int 0))) [some (.cell c), some (.d (.tup ((r0 :: rest).map rowD))), some (.d (.lst (vs.map .str))), none, none, none, none] M = some ((.d (.str r0.1), false), M) := by
      simp [evE, wAt, vw, idxD, atI, ixN, rowD]
    rw [evS, evE, evE, evA, evE, evA, ei]
    simp only []
    rw [evA, e1]
    simp [evA, allD, isD, big, asNode, evG, putW, pairD, l1]
  have I0 : PInv M c e vs 0 (M1 ++ [some (.lst ([(r0.1, v)].map pairD))]) [(r0.1, v)] :=
    ⟨by rw [← l1]; exact cellAt_end, by simp, fun p hp => by
      have : p = (r0.1, v) := by simpa using hp
      rw [this]; exact vm, (b1.keep (cellAt_app (by omega))).mono (by omega), by rw [List.length_append, l1]; rfl, fun j h1 h2 => by rw [cellAt_app (by omega), o1 _ h2]⟩
  obtain ⟨ρ', M3, lp, us, s4, s5, s6, rfl, I, sb, hd⟩ := forL_inv (body := fun ρ M => evS (orc T (k + 2)) bodyP ρ M) (pr := false) (g := .tp (.tcons (.nm 4) (.tcons (.nm 5) (.tcons (.nm 6) .tnil))))
    (fun i ρ M' => ∃ (us : List Pair) (s4 s5 s6 : Option W), ρ = [some (.cell c), some (.d (.tup ((r0 :: rest).map rowD))), some (.d (.lst (vs.map .str))), some (.cell M.length), s4, s5, s6] ∧ PInv M c e vs i M' us ∧ (us.map (·.1)).Sublist (((r0 :: rest).take (i + 1)).map (·.1)) ∧ ∃ v us', us = (r0.1, v) :: us')
    (rest.map rowD) 0 [some (.cell c), some (.d (.tup ((r0 :: rest).map rowD))), some (.d (.lst (vs.map .str))), some (.cell M.length), none, none, none] (M1 ++ [some (.lst ([(r0.1, v)].map pairD))])
    (by
      rintro i x ρ M' hx ⟨us, s4, s5, s6, rfl, I, sb, v0, us0, hu⟩
      rw [List.getElem?_map] at hx
      obtain ⟨r, hr', rfl⟩ := Option.map_eq_some_iff.mp hx
      have hi := (List.getElem?_eq_some_iff.mp hr').1
      obtain ⟨us', M'', e, I', al⟩ := step_p (k := k) hf hf2 hcl (by omega) (by omega) hv hvl I (t := .tup ((r0 :: rest).map rowD)) (nm := r.1) (p := optD r.2.1) (lk := r.2.2) (a := .non)
      have tk : (r0 :: rest).take (0 + i + 1 + 1) = (r0 :: rest).take (0 + i + 1) ++ [r] := by
        rw [List.take_succ (i := 0 + i + 1)]
        have : (r0 :: rest)[0 + i + 1]? = some r := by rw [Nat.zero_add]; simpa using hr'
        rw [this]; rfl
      refine ⟨_, _, M'', rfl, e, us', _, _, _, rfl, I', ?_, ?_⟩
      · rw [tk, List.map_append]
        rcases al with rfl | ⟨v, rfl⟩
        · exact sb.trans (List.sublist_append_left _ _)
        · rw [List.map_append]
          exact sb.append (List.Sublist.refl _)
      · rcases al with rfl | ⟨v, rfl⟩
        · exact ⟨v0, us0, hu⟩
        · exact ⟨v0, us0 ++ [(r.1, v)], by rw [hu]; rfl⟩)
    ⟨_, none, none, none, rfl, I0, by simp, v, [], rfl⟩
  rw [Nat.zero_add, List.length_map] at I
  have s3i : evI (orc T (k + 2)) (.itv (.slc (.slot 1) (.cons (.cst (.int 1)) .nil) .none_)) [some (.cell c), some (.d (.tup ((r0 :: rest).map rowD))), some (.d (.lst (vs.map .str))), some (.cell M.length), none, none, none] (M1 ++ [some (.lst ([(r0.1, v)].map pairD))]) = some ((false, rest.map rowD), M1 ++ [some (.lst ([(r0.1, v)].map pairD))]) := by
    simp [evI, evE, evO, wAt, vw, slcD, itemsD, cut_one]
  have sb' : (us.map (·.1)).Sublist ((r0 :: rest).map (·.1)) := sb.trans ((List.take_sublist _ _).map _)
  have srt : sortD (us.map pairD) = some ((us.map pairD).mergeSort leD) := sort_pairs (fun p hp' => by
    have m : p.1 ∈ (r0 :: rest).map (·.1) := sb'.subset (List.mem_map.mpr ⟨p, hp', rfl⟩)
    obtain ⟨r, rm, re⟩ := List.mem_map.mp m
    exact ⟨re ▸ hp r rm, hvo _ (I.val p hp')⟩) (by have := I.len; unfold big; omega)
  refine ⟨us, (M3.set M.length none).take M.length, ?_, sb', hd, I.val, ?_, ?_, fun jj h3 h4 => ?_⟩
  · refine runM_rt hg rfl ?_
    refine (seq_nx s1).trans ((seq_nx (for_nx s3i lp)).trans ?_)
    have fr : evS (orc T (k + 2)) (.frz 3) [some (.cell c), some (.d (.tup ((r0 :: rest).map rowD))), some (.d (.lst (vs.map .str))), some (.cell M.length), s4, s5, s6] M3 = some (.nx [some (.cell c), some (.d (.tup ((r0 :: rest).map rowD))), some (.d (.lst (vs.map .str))), some (.d (.lst (us.map pairD))), s4, s5, s6] (M3.set M.length none)) := by
      have hw : wAt [some (W.cell c), some (.d (.tup ((r0 :: rest).map rowD))), some (.d (.lst (vs.map .str))), some (.cell M.length), s4, s5, s6] 3 = some (.cell M.length) := rfl
      rw [evS]
      simp only [hw, I.cu]
      rfl
    have es : evB .sorted [.lst (us.map pairD)] = some (.lst ((us.map pairD).mergeSort leD), true) := by
      simp only [evB, srt]
    refine (seq_nx fr).trans (seq_rt (ret_eq (blt1 (b := .tuple) (v := .lst ((us.map pairD).mergeSort leD)) (r := (.tup ((us.map pairD).mergeSort leD), false)) (blt1 (b := .sorted) (v := .lst (us.map pairD)) (slot_eq rfl) es) rfl)))
  · exact (I.box.keep ((cellAt_take hcl).trans (cellAt_ne (by omega)))).mono (by omega)
  · rw [List.length_take, List.length_set, I.ml]; omega
  · rw [cellAt_take h3, cellAt_ne (by omega)]
    exact I.old jj h3 h4
end Rf

set_option Elab.async false
set_option linter.all false
set_option maxRecDepth 100000
set_option maxHeartbeats 4000000
namespace Rf
open PySem L2
theorem getK_none {k : Key} : ∀ {kvs : List (Key × D)}, k ∉ kvs.map (·.1) → getK k kvs = none
  | [], _ => rfl
  | p :: r, h => by
    unfold getK
    rw [if_neg (fun z => h (by rw [List.map_cons, z]; exact List.mem_cons_self))]
    exact getK_none fun z => h (by rw [List.map_cons]; exact List.mem_cons_of_mem _ z)
theorem getK_some {k : Key} {v : D} : ∀ {kvs : List (Key × D)}, (kvs.map (·.1)).Nodup → (k, v) ∈ kvs → getK k kvs = some v
  | p :: r, nd, h => by
    rw [List.map_cons] at nd
    have nd' := List.nodup_cons.mp nd
    unfold getK
    rcases List.mem_cons.mp h with rfl | h
    · rw [if_pos rfl]
    · have hk : p.1 ≠ k := fun z => nd'.1 (by rw [z]; exact List.mem_map.mpr ⟨(k, v), h, rfl⟩)
      rw [if_neg hk]
      exact getK_some nd'.2 h
  | [], _, h => by cases h
theorem setK_new {k : Key} {v : D} {kvs : List (Key × D)} (h : k ∉ kvs.map (·.1)) : setK k v kvs = kvs ++ [(k, v)] := by
  unfold setK
  rw [getK_none h]
theorem mergK_new : ∀ (ps acc : List (Key × D)), ((acc ++ ps).map (·.1)).Nodup → mergK acc ps = acc ++ ps
  | [], acc, _ => by simp [mergK]
  | p :: ps, acc, nd => by
    show mergK (setK p.1 p.2 acc) ps = _
    have h : p.1 ∉ acc.map (·.1) := by
      intro z
      rw [List.map_append, List.nodup_append] at nd
      exact nd.2.2 p.1 z p.1 (by rw [List.map_cons]; exact List.mem_cons_self) rfl
    rw [setK_new h, mergK_new ps (acc ++ [(p.1, p.2)]) (by rw [List.append_assoc]; exact nd), List.append_assoc]
    rfl
def pk (us : List Pair) : List (Key × D) := us.map fun p => (.inr p.1, .str p.2)
theorem pairsOf_map : ∀ us : List Pair, pairsOf (us.map pairD) = some (pk us)
  | [] => rfl
  | p :: us => by
    rw [List.map_cons]
    unfold pairsOf
    rw [pairsOf_map us]
    rfl
/-- sorting pairs by their data is sorting a list of pairs -/
theorem sort_map (us : List Pair) : (us.map pairD).mergeSort leD = (us.mergeSort fun p q => leD (pairD p) (pairD q)).map pairD := by
  rw [List.map_mergeSort (s := leD)]
  intro a _ b _
  rfl
end Rf

set_option Elab.async false
set_option linter.all false
set_option maxRecDepth 100000
set_option maxHeartbeats 4000000
namespace Rf
open PySem L2
mutual
theorem tup_lists : ∀ x : D, tupF (listsF x) = tupF x
  | .lst xs => by simp only [listsF, tupF]; rw [tup_listss xs]
  | .tup xs => by simp only [listsF, tupF]; rw [tup_listss xs]
  | .non => rfl
  | .bl _ => rfl
  | .int _ => rfl
  | .str _ => rfl
  | .dic _ => rfl
  | .scr _ => rfl
theorem tup_listss : ∀ xs : List D, tupFs (listsFs xs) = tupFs xs
  | [] => rfl
  | x :: xs => by simp only [listsFs, tupFs]; rw [tup_lists x, tup_listss xs]
end
theorem tup_row (r : TRow) : tupF (rowD r) = rowD r := by
  obtain ⟨a, p, l⟩ := r
  cases p <;> rfl
theorem tup_pair (p : Pair) : tupF (pairD p) = pairD p := rfl
theorem tup_rows (rs : List TRow) : tupF (.tup (rs.map rowD)) = .tup (rs.map rowD) := by
  simp only [tupF, tupFs_map, List.map_map]
  congr 1
  exact List.map_congr_left fun r _ => tup_row r
theorem tup_pairs (us : List Pair) : tupF (.tup (us.map pairD)) = .tup (us.map pairD) := by
  simp only [tupF, tupFs_map, List.map_map]
  congr 1
theorem dcL_pure {pr : Bool} {g : G} {own : List Nat} {cond : REnv → Store → Option (Bool × Store)} {ke ve : REnv → Store → Option RW} {ρ : REnv} {M : Store} (f : D → Key × D) : ∀ (xs : List D) (acc : List (Key × D)),
    (∀ x ∈ xs, ∃ ρ1 kd f1 f2, evGI pr g x (wipeR ρ own) = some ρ1 ∧ cond ρ1 M = some (true, M) ∧ ke ρ1 M = some ((.d kd, f1), M) ∧ keyOf kd = some (f x).1 ∧ ve ρ1 M = some ((.d (f x).2, f2), M)) → dcL pr g own cond ke ve ρ xs acc M = some (mergK acc (xs.map f), M)
  | [], acc, _ => by simp [dcL, mergK]
  | x :: xs, acc, h => by
    obtain ⟨ρ1, kd, f1, f2, e1, e2, e3, e4, e5⟩ := h x List.mem_cons_self
    unfold dcL
    simp only [e1, e2, e3, e4, e5]
    rw [dcL_pure f xs (setK (f x).1 (f x).2 acc) fun y hy => h y (List.mem_cons_of_mem _ hy)]
    rfl
def pkRow (r : TRow) : Key × D := (.inr r.1, optD r.2.1)
theorem flat_rows {rs : List TRow} (h : ∀ r ∈ rs, strOkD r.1 = true ∧ ∀ p, r.2.1 = some p → strOkD p = true) : flats (rs.map rowD) = true := by
  induction rs with
  | nil => rfl
  | cons r rs ih =>
    rw [List.map_cons]
    simp only [flats, Bool.and_eq_true]
    refine ⟨?_, ih fun s hs => h s (List.mem_cons_of_mem _ hs)⟩
    have hr := h r List.mem_cons_self
    obtain ⟨a, p, l⟩ := r
    cases p with
    | none => simp [rowD, optD, flat, flats, hr.1]
    | some p => simp [rowD, optD, flat, flats, hr.1, hr.2 p rfl]
/-- what is above each folder, from a tree told as tuples or as lists -/
theorem parents_ok {T : List Def} {k : Nat} (hf : findDef T "tupled" = some d_tupled) (hg : findDef T "parents" = some d_parents) {x : D} {rs : List TRow} (hx : tupF x = .tup (rs.map rowD)) (hk : dep x < k) (fx : flat x = true) (wx : wid x ≤ big) (hl : rs.length ≤ 1000) (nd : (rs.map (·.1)).Nodup) :
    (orc T (k + 1)).p "parents" [x] = some (.dic (rs.map pkRow), true) := by
  have e1 := tupled_ok hf k x hk fx wx
  rw [hx] at e1
  have hi : evI (orc T k) (.itv (.callP "tupled" (.cons (.slot 0) .nil))) [some (.d x), none] [] = some ((false, rs.map rowD), []) := by
    simp [evI, evE, evA, wAt, vws, vw, e1, anyCell, itemsD]
  have hd : dcL false (.nm 1) [1] (fun ρ M => evC (orc T k) .nil ρ M) (fun ρ M => evE (orc T k) (.idx (.slot 1) (.cst (.int 0))) ρ M) (fun ρ M => evE (orc T k) (.idx (.slot 1) (.cst (.int 1))) ρ M) [some (.d x), none] (rs.map rowD) [] [] = some (mergK [] ((rs.map rowD).map fun d => match d with
      | .tup [.str a, p, _] => (.inr a, p)
      | _ => (.inl 0, .non)), []) := by
    refine dcL_pure _ _ _ fun y hy => ?_
    obtain ⟨r, _, rfl⟩ := List.mem_map.mp hy
    refine ⟨[some (.d x), some (.d (rowD r))], .str r.1, false, false, rfl, by simp [evC], ?_, rfl, ?_⟩
    · simp [evE, wAt, vw, idxD, atI, ixN, rowD]
    · simp [evE, wAt, vw, idxD, atI, ixN, rowD]
  rw [List.map_map, mergK_new _ _ (by
    rw [List.nil_append, List.map_map]
    have : (((fun x => x.1) ∘ ((fun d => match d with | .tup [.str a, p, _] => ((.inr a : Key), p) | _ => (.inl 0, .non)) ∘ rowD)) : TRow → Key) = (fun a => (.inr a : Key)) ∘ (fun r : TRow => r.1) := rfl
    rw [this, ← List.map_map]
    exact List.pairwise_map.mpr (List.Pairwise.imp (fun {a b} h e => h (by cases e; rfl)) nd))] at hd
  show runP (orc T k) T "parents" [x] = _
  refine runP_rt (M := []) hg rfl (seq_rt (ret_eq ?_))
  have hb : rs.length ≤ big := by unfold big; omega
  show evE (orc T k) (.dc _ _ _ _ _ _) [some (.d x), none] [] = _
  rw [evE, hi]
  simp only [List.length_map, hb, if_true]
  rw [hd]
  rfl
end Rf

set_option Elab.async false
set_option linter.all false
set_option maxRecDepth 100000
set_option maxHeartbeats 4000000
namespace Rf
open PySem L2
/-- what is found of a name among pairs -/
def look (x : Str) : List Pair → Option Str
  | [] => none
  | p :: r => if p.1 = x then some p.2 else look x r
theorem look_getK (x : Str) : ∀ us : List Pair, getK (.inr x) (pk us) = (look x us).map .str
  | [] => rfl
  | p :: us => by
    show getK (.inr x) ((.inr p.1, .str p.2) :: pk us) = _
    unfold getK look
    by_cases h : p.1 = x
    · rw [if_pos (by rw [h]), if_pos h]; rfl
    · rw [if_neg (fun z => h (Sum.inr.inj z)), if_neg h]; exact look_getK x us
theorem look_some {x v : Str} : ∀ {us : List Pair}, (us.map (·.1)).Nodup → (x, v) ∈ us → look x us = some v
  | p :: r, nd, h => by
    have nd' := List.nodup_cons.mp nd
    unfold look
    rcases List.mem_cons.mp h with rfl | h
    · rw [if_pos rfl]
    · rw [if_neg (fun z => nd'.1 (by show p.1 ∈ _; rw [z]; exact List.mem_map.mpr ⟨(x, v), h, rfl⟩))]
      exact look_some nd'.2 h
  | [], _, h => by cases h
theorem look_none {x : Str} : ∀ {us : List Pair}, x ∉ us.map (·.1) → look x us = none
  | [], _ => rfl
  | p :: r, h => by
    unfold look
    rw [if_neg (fun z => h (by rw [List.map_cons, z]; exact List.mem_cons_self))]
    exact look_none fun z => h (by rw [List.map_cons]; exact List.mem_cons_of_mem _ z)
theorem look_mem {x v : Str} : ∀ {us : List Pair}, look x us = some v → (x, v) ∈ us
  | [], h => by cases h
  | p :: r, h => by
    unfold look at h
    split at h
    · rename_i e; cases h; obtain ⟨a, b⟩ := p; cases e; exact List.mem_cons_self
    · exact List.mem_cons_of_mem _ (look_mem h)
theorem look_perm {x : Str} {us ws : List Pair} (p : us.Perm ws) (nd : (us.map (·.1)).Nodup) : look x us = look x ws := by
  cases h : look x us with
  | some v => exact (look_some ((p.map _).nodup_iff.mp nd) (p.mem_iff.mp (look_mem h))).symm
  | none =>
    cases h2 : look x ws with
    | none => rfl
    | some v =>
      have := look_some nd (p.mem_iff.mpr (look_mem h2))
      rw [h] at this; cases this
theorem look_append {x : Str} : ∀ {us ws : List Pair}, look x (us ++ ws) = match look x us with
    | some v => some v
    | none => look x ws
  | [], ws => rfl
  | p :: r, ws => by
    show (if p.1 = x then some p.2 else look x (r ++ ws)) = match (if p.1 = x then some p.2 else look x r) with
      | some v => some v
      | none => look x ws
    by_cases h : p.1 = x
    · rw [if_pos h, if_pos h]
    · rw [if_neg h, if_neg h]; exact look_append
/-- the values of all folders: written, or as the folder above has it -/
def stepV (us : List Pair) (acc : List Pair) (r : TRow) : List Pair := acc ++ [(r.1, match look r.1 us with
  | some v => v
  | none => match r.2.1 with
    | some p => (look p acc).getD ⟨#[]⟩
    | none => ⟨#[]⟩)]
def valsV (us : List Pair) (rs : List TRow) : List Pair := rs.foldl (stepV us) []
theorem valsV_snoc (us : List Pair) (rs : List TRow) (r : TRow) : valsV us (rs ++ [r]) = stepV us (valsV us rs) r := by
  unfold valsV
  rw [List.foldl_append]; rfl
theorem valsV_names (us : List Pair) : ∀ rs : List TRow, (valsV us rs).map (·.1) = rs.map (·.1) := by
  have go : ∀ (rs : List TRow) (acc : List Pair), (rs.foldl (stepV us) acc).map (·.1) = acc.map (·.1) ++ rs.map (·.1) := by
    intro rs
    induction rs with
    | nil => intro acc; simp
    | cons r rs ih =>
      intro acc
      rw [List.foldl_cons, ih]
      unfold stepV
      simp
  intro rs
  exact (go rs []).trans (by simp)
theorem Tree.nodup {rs : List TRow} (t : Tree rs) : (rs.map (·.1)).Nodup := by
  induction t with
  | one a => simp
  | more a p l _ h _ ih =>
    rw [List.map_append, List.nodup_append]
    refine ⟨ih, by simp, fun x hx y hy => ?_⟩
    have : y = a := by simpa using hy
    rw [this]
    rintro rfl
    exact h hx
end Rf

set_option Elab.async false
set_option linter.all false
set_option maxRecDepth 100000
set_option maxHeartbeats 4000000
namespace Rf
open PySem L2
theorem pk_names (us : List Pair) : (pk us).map (·.1) = (us.map (·.1)).map Sum.inr := by
  unfold pk
  rw [List.map_map, List.map_map]
  rfl
theorem nodup_inr {l : List Str} (h : l.Nodup) : (l.map (Sum.inr : Str → Key)).Nodup := List.pairwise_map.mpr (List.Pairwise.imp (fun {a b} h e => h (by cases e; rfl)) h)
theorem pk_snoc (us : List Pair) (p : Pair) : pk (us ++ [p]) = pk us ++ [(.inr p.1, .str p.2)] := by
  unfold pk
  rw [List.map_append]; rfl
abbrev bodyV : S := .seq (.seti 3 (.slot 4) (.ite (.cons (.cmp .inn (.slot 4) (.slot 2)) .nil) (.idx (.slot 2) (.slot 4)) (.idx (.slot 3) (.slot 5))))
    .nil
theorem vb_step {o : Orc} {x y : D} {us acc : List Pair} {r : TRow} (hn : r.1 ∉ acc.map (·.1)) (hl : acc.length ≤ 1000) (ok : (look r.1 us).isSome = true ∨ ∃ p, r.2.1 = some p ∧ (look p acc).isSome = true) :
    evS o bodyV [some (.d x), some (.d y), some (.d (.dic (pk us))), some (.cell 0), some (.d (.str r.1)), some (.d (optD r.2.1))] [some (.dic (pk acc))] =
      some (.nx [some (.d x), some (.d y), some (.d (.dic (pk us))), some (.cell 0), some (.d (.str r.1)), some (.d (optD r.2.1))] [some (.dic (pk (stepV us acc r)))]) := by
  have hk : (Sum.inr r.1 : Key) ∉ (pk acc).map (·.1) := by
    rw [pk_names]
    intro z
    obtain ⟨a, h1, h2⟩ := List.mem_map.mp z
    cases h2
    exact hn h1
  have hb : (pk acc).length ≤ big := by unfold pk; rw [List.length_map]; unfold big; omega
  have g1 := look_getK r.1 us
  cases hw : look r.1 us with
  | some v =>
    rw [hw] at g1
    have st : stepV us acc r = acc ++ [(r.1, v)] := by unfold stepV; rw [hw]
    rw [st, pk_snoc]
    simp [evS, evE, evT, wAt, vw, opCmp, inC, keyOf, g1, truD, idxD, cellAt, hb, setK_new hk]
  | none =>
    rw [hw] at g1
    rcases ok with ok | ⟨p, hp, ok⟩
    · rw [hw] at ok; cases ok
    · obtain ⟨v, hv⟩ := Option.isSome_iff_exists.mp ok
      have g2 := look_getK p acc
      rw [hv] at g2
      have st : stepV us acc r = acc ++ [(r.1, v)] := by unfold stepV; rw [hw, hp]; simp only [hv]; rfl
      rw [st, pk_snoc, hp]
      simp [evS, evE, evT, wAt, vw, opCmp, inC, keyOf, g1, g2, truD, idxD, cellAt, Node.toD, hb, setK_new hk, optD]
end Rf

set_option Elab.async false
set_option linter.all false
set_option maxRecDepth 100000
set_option maxHeartbeats 4000000
namespace Rf
open PySem L2
/-- every folder has a value: the top one's is written, the folder above comes first -/
def Rooted (us : List Pair) (rs : List TRow) : Prop := ∀ (i : Nat) (r : TRow), rs[i]? = some r → (look r.1 us).isSome = true ∨ ∃ p, r.2.1 = some p ∧ p ∈ (rs.take i).map (·.1)
theorem look_isSome {x : Str} : ∀ {us : List Pair}, x ∈ us.map (·.1) → (look x us).isSome = true
  | p :: r, h => by
    unfold look
    split
    · rfl
    · rename_i hne
      rw [List.map_cons] at h
      rcases List.mem_cons.mp h with h | h
      · exact absurd h.symm hne
      · exact look_isSome h
  | [], h => by cases h
theorem values_by_ok {T : List Def} {k : Nat} (hf : findDef T "tupled" = some d_tupled) (hp : findDef T "parents" = some d_parents) (hg : findDef T "values_by" = some d_values_by) {x y : D} {rs : List TRow} {us : List Pair}
    (hx : tupF x = .tup (rs.map rowD)) (hkx : dep x < k) (fx : flat x = true) (wx : wid x ≤ big) (hl : rs.length ≤ 1000) (nd : (rs.map (·.1)).Nodup)
    (hy : tupF y = .tup (us.map pairD)) (hky : dep y < k) (fy : flat y = true) (wy : wid y ≤ big) (hul : us.length ≤ 1000) (ndu : (us.map (·.1)).Nodup) (rt : Rooted us rs) :
    (orc T (k + 2)).p "values_by" [x, y] = some (.dic (pk (valsV us rs)), false) := by
  have ey := tupled_ok hf (k + 1) y (by omega) fy wy
  rw [hy] at ey
  have ep := parents_ok hf hp hx hkx fx wx hl nd
  have ndk : ((pk us).map (·.1)).Nodup := by rw [pk_names]; exact nodup_inr ndu
  have eb : evB .dict [.tup (us.map pairD)] = some (.dic (pk us), true) := by
    have hb : (pk us).length ≤ big := by unfold pk; rw [List.length_map]; unfold big; omega
    simp only [evB, pairsOf_map, hb, if_true]
    rw [mergK_new _ _ (by rw [List.nil_append]; exact ndk)]
    rfl
  have s1 : evS (orc T (k + 1)) (.par [2, 3] (.cons (.blt .dict (.cons (.callP "tupled" (.cons (.slot 1) .nil)) .nil)) (.cons (.mk .dnil) .nil))) [some (.d x), some (.d y), none, none, none, none] [] = some (.nx [some (.d x), some (.d y), some (.d (.dic (pk us))), some (.cell 0), none, none] [some (.dic [])]) := by
    have e1 : evE (orc T (k + 1)) (.callP "tupled" (.cons (.slot 1) .nil)) [some (.d x), some (.d y), none, none, none, none] [] = some ((.d (.tup (us.map pairD)), false), []) := by
      simp [evE, evA, wAt, vws, vw, ey, anyCell]
    have e2 := blt1 (b := .dict) e1 eb
    rw [evS, evA, e2]
    simp [evA, evE, asNode, puts, putW]
  have s2 : evI (orc T (k + 1)) (.items (.callP "parents" (.cons (.slot 0) .nil))) [some (.d x), some (.d y), some (.d (.dic (pk us))), some (.cell 0), none, none] [some (.dic [])] = some ((true, rs.map fun r => .tup [.str r.1, optD r.2.1]), [some (.dic [])]) := by
    have e1 : evE (orc T (k + 1)) (.callP "parents" (.cons (.slot 0) .nil)) [some (.d x), some (.d y), some (.d (.dic (pk us))), some (.cell 0), none, none] [some (.dic [])] = some ((.d (.dic (rs.map pkRow)), true), [some (.dic [])]) := by
      simp [evE, evA, wAt, vws, vw, ep, anyCell]
    rw [evI, e1]
    simp only [List.map_map]
    rfl
  obtain ⟨ρ', M', lp, s4, s5, rfl, rfl⟩ := forL_inv (body := fun ρ M => evS (orc T (k + 1)) bodyV ρ M) (pr := true) (g := .tp (.tcons (.nm 4) (.tcons (.nm 5) .tnil)))
    (fun i ρ M' => ∃ (s4 s5 : Option W), ρ = [some (.d x), some (.d y), some (.d (.dic (pk us))), some (.cell 0), s4, s5] ∧ M' = [some (.dic (pk (valsV us (rs.take i))))])
    (rs.map fun r => .tup [.str r.1, optD r.2.1]) 0 [some (.d x), some (.d y), some (.d (.dic (pk us))), some (.cell 0), none, none] [some (.dic [])]
    (by
      rintro i z ρ M' hz ⟨s4, s5, rfl, rfl⟩
      rw [List.getElem?_map] at hz
      obtain ⟨r, hr, rfl⟩ := Option.map_eq_some_iff.mp hz
      rw [Nat.zero_add]
      have hi := (List.getElem?_eq_some_iff.mp hr).1
      have tk : rs.take (i + 1) = rs.take i ++ [r] := by rw [List.take_succ, hr]; rfl
      have nn : r.1 ∉ (valsV us (rs.take i)).map (·.1) := by
        rw [valsV_names]
        intro w
        have nd2 : ((rs.take (i + 1)).map (·.1)).Nodup := nd.sublist ((List.take_sublist _ _).map _)
        rw [tk, List.map_append, List.nodup_append] at nd2
        exact nd2.2.2 r.1 w r.1 (by simp) rfl
      have ok : (look r.1 us).isSome = true ∨ ∃ p, r.2.1 = some p ∧ (look p (valsV us (rs.take i))).isSome = true := by
        rcases rt i r hr with q | ⟨p, q1, q2⟩
        · exact .inl q
        · exact .inr ⟨p, q1, look_isSome (by rw [valsV_names]; exact q2)⟩
      have vl : (valsV us (rs.take i)).length ≤ 1000 := by
        have := congrArg List.length (valsV_names us (rs.take i))
        rw [List.length_map, List.length_map, List.length_take] at this
        omega
      exact ⟨_, _, _, rfl, vb_step nn vl ok, _, _, rfl, by rw [tk, valsV_snoc]⟩)
    ⟨none, none, rfl, rfl⟩
  rw [Nat.zero_add, List.length_map, List.take_length] at lp
  show runP (orc T (k + 1)) T "values_by" [x, y] = _
  refine runP_rt (M := [none]) hg rfl ((seq_nx s1).trans ((seq_nx (for_nx s2 lp)).trans ?_))
  simp [evS, evE, wAt, cellAt, Node.toD]
end Rf

set_option Elab.async false
set_option linter.all false
set_option maxRecDepth 100000
set_option maxHeartbeats 4000000
namespace Rf
open PySem L2
theorem value_of_ok {T : List Def} {k : Nat} (hg : findDef T "value_of" = some d_value_of) {x y : D} {vals : List Pair} {nm v : Str} (e : (orc T k).p "values_by" [x, y] = some (.dic (pk vals), false)) (h : look nm vals = some v) : (orc T (k + 1)).p "value_of" [x, y, .str nm] = some (.str v, false) := by
  have g := look_getK nm vals
  rw [h] at g
  show runP (orc T k) T "value_of" _ = _
  refine runP_rt (M := []) hg rfl (seq_rt (ret_eq ?_))
  simp [evE, evA, wAt, vws, vw, envOf, d_value_of, e, anyCell, idxD, keyOf, g]
theorem pairs_pk (vals : List Pair) : pairsD (pk vals) = vals.map pairD := by
  unfold pairsD pk
  rw [List.map_map]
  rfl
theorem values_of_ok {T : List Def} {k : Nat} (hg : findDef T "values_of" = some d_values_of) {x y : D} {vals : List Pair} (e : (orc T k).p "values_by" [x, y] = some (.dic (pk vals), false)) (hs : ∀ p ∈ vals, strOkD p.1 = true ∧ strOkD p.2 = true) (hl : vals.length ≤ big) :
    (orc T (k + 1)).p "values_of" [x, y] = some (.lst ((vals.map pairD).mergeSort leD), true) := by
  have s := sort_pairs hs hl
  show runP (orc T k) T "values_of" _ = _
  refine runP_rt (M := []) hg rfl (seq_rt (ret_eq ?_))
  simp [evE, evA, wAt, vws, vw, envOf, d_values_of, e, anyCell, pairs_pk, s]
/-- the parent of a folder, in the tree -/
def above (x : Str) : List TRow → Option (Option Str)
  | [] => none
  | r :: rs => if r.1 = x then some r.2.1 else above x rs
end Rf

set_option Elab.async false
set_option linter.all false
set_option maxRecDepth 100000
set_option maxHeartbeats 4000000
namespace Rf
open PySem L2
theorem valsV_more (us : List Pair) : ∀ (rs : List TRow) (acc : List Pair), ∃ more, rs.foldl (stepV us) acc = acc ++ more
  | [], acc => ⟨[], by simp⟩
  | r :: rs, acc => by
    obtain ⟨m, h⟩ := valsV_more us rs (stepV us acc r)
    rw [List.foldl_cons, h]
    unfold stepV
    exact ⟨_, by rw [List.append_assoc]⟩
theorem valsV_pre (us : List Pair) (rs : List TRow) (i : Nat) : ∃ more, valsV us rs = valsV us (rs.take i) ++ more := by
  unfold valsV
  rw [← List.take_append_drop i rs, List.foldl_append]
  have := valsV_more us (rs.drop i) ((rs.take i).foldl (stepV us) [])
  simpa using this
theorem look_pre {us : List Pair} {rs : List TRow} {i : Nat} {x v : Str} (h : look x (valsV us (rs.take i)) = some v) : look x (valsV us rs) = some v := by
  obtain ⟨m, e⟩ := valsV_pre us rs i
  rw [e, look_append, h]
/-- the value of the i-th folder -/
theorem vals_at {us : List Pair} {rs : List TRow} (nd : (rs.map (·.1)).Nodup) {i : Nat} {r : TRow} (hr : rs[i]? = some r) : look r.1 (valsV us rs) = some (match look r.1 us with
  | some v => v
  | none => match r.2.1 with
    | some p => (look p (valsV us (rs.take i))).getD ⟨#[]⟩
    | none => ⟨#[]⟩) := by
  have tk : rs.take (i + 1) = rs.take i ++ [r] := by rw [List.take_succ, hr]; rfl
  refine look_pre (i := i + 1) ?_
  have nn : r.1 ∉ (valsV us (rs.take i)).map (·.1) := by
    rw [valsV_names]
    intro w
    have nd2 : ((rs.take (i + 1)).map (·.1)).Nodup := nd.sublist ((List.take_sublist _ _).map _)
    rw [tk, List.map_append, List.nodup_append] at nd2
    exact nd2.2.2 r.1 w r.1 (by simp) rfl
  rw [tk, valsV_snoc]
  unfold stepV
  rw [look_append, look_none nn]
  show (if r.1 = r.1 then _ else _) = _
  exact (if_pos rfl).trans rfl
theorem vals_written {us : List Pair} {rs : List TRow} (nd : (rs.map (·.1)).Nodup) {i : Nat} {r : TRow} (hr : rs[i]? = some r) {v : Str} (h : look r.1 us = some v) : look r.1 (valsV us rs) = some v := by
  rw [vals_at nd hr, h]
theorem vals_above {us : List Pair} {rs : List TRow} (nd : (rs.map (·.1)).Nodup) {i : Nat} {r : TRow} (hr : rs[i]? = some r) (h : look r.1 us = none) {p : Str} (hp : r.2.1 = some p) (hm : p ∈ (rs.take i).map (·.1)) : look r.1 (valsV us rs) = look p (valsV us rs) := by
  have := look_isSome (x := p) (us := valsV us (rs.take i)) (by rw [valsV_names]; exact hm)
  obtain ⟨v, hv⟩ := Option.isSome_iff_exists.mp this
  rw [vals_at nd hr, h, hp, look_pre hv]
  simp only [hv]
  rfl
end Rf

set_option Elab.async false
set_option linter.all false
set_option maxRecDepth 100000
set_option maxHeartbeats 4000000
namespace Rf
open PySem L2
theorem pkRow_get {rs : List TRow} (nd : (rs.map (·.1)).Nodup) {r : TRow} (h : r ∈ rs) : getK (.inr r.1) (rs.map pkRow) = some (optD r.2.1) := by
  refine getK_some ?_ (List.mem_map.mpr ⟨r, h, rfl⟩)
  rw [List.map_map]
  have : ((fun x : Key × D => x.1) ∘ pkRow : TRow → Key) = Sum.inr ∘ (fun r : TRow => r.1) := rfl
  rw [this, ← List.map_map]
  exact nodup_inr nd
theorem up_loop {o : Orc} {us : List Pair} {rs : List TRow} (nd : (rs.map (·.1)).Nodup) (rt : Rooted us rs) {a b : D} {s5 : Option W} : ∀ (i : Nat) (r : TRow), rs[i]? = some r → ∀ fuel, i < fuel → ∃ nm v, look nm us = some v ∧ look r.1 (valsV us rs) = some v ∧
    whL (fun ρ M => evT o (.cons (.cmp .notin (.slot 2) (.slot 4)) .nil) ρ M) (fun ρ M => evS o (.seq (.asg (.nm 2) (.idx (.slot 3) (.slot 2))) .nil) ρ M) fuel [some (.d a), some (.d b), some (.d (.str r.1)), some (.d (.dic (rs.map pkRow))), some (.d (.dic (pk us))), s5] [] =
      some (.nx [some (.d a), some (.d b), some (.d (.str nm)), some (.d (.dic (rs.map pkRow))), some (.d (.dic (pk us))), s5] []) := by
  intro i
  induction i using Nat.strongRecOn with
  | _ i ih =>
    intro r hr fuel hf
    cases fuel with
    | zero => omega
    | succ fuel =>
      have g := look_getK r.1 us
      cases hw : look r.1 us with
      | some v =>
        rw [hw] at g
        refine ⟨r.1, v, hw, vals_written nd hr hw, ?_⟩
        simp [whL, evT, evE, wAt, vw, opCmp, inC, keyOf, g, truD]
      | none =>
        rw [hw] at g
        rcases rt i r hr with q | ⟨p, q1, q2⟩
        · rw [hw] at q; cases q
        · obtain ⟨r', m', rfl⟩ := List.mem_map.mp q2
          obtain ⟨j, hj⟩ := List.mem_iff_getElem?.mp m'
          have hji : j < i := by
            have := (List.getElem?_eq_some_iff.mp hj).1
            rw [List.length_take] at this; omega
          have hj' : rs[j]? = some r' := by rw [List.getElem?_take_of_lt hji] at hj; exact hj
          obtain ⟨nm, v, h1, h2, h3⟩ := ih j hji r' hj' fuel (by omega)
          have g2 := pkRow_get nd (List.mem_of_getElem? hr)
          rw [q1] at g2
          refine ⟨nm, v, h1, by rw [vals_above nd hr hw q1 q2]; exact h2, ?_⟩
          rw [whL]
          have t1 : evT o (.cons (.cmp .notin (.slot 2) (.slot 4)) .nil) [some (.d a), some (.d b), some (.d (.str r.1)), some (.d (.dic (rs.map pkRow))), some (.d (.dic (pk us))), s5] [] = some (true, []) := by
            simp [evT, evE, wAt, vw, opCmp, inC, keyOf, g, truD]
          have t2 : evS o (.seq (.asg (.nm 2) (.idx (.slot 3) (.slot 2))) .nil) [some (.d a), some (.d b), some (.d (.str r.1)), some (.d (.dic (rs.map pkRow))), some (.d (.dic (pk us))), s5] [] = some (.nx [some (.d a), some (.d b), some (.d (.str r'.1)), some (.d (.dic (rs.map pkRow))), some (.d (.dic (pk us))), s5] []) := by
            simp [evS, evE, wAt, vw, idxD, keyOf, g2, optD, evG, putW]
          simp only [t1, t2]
          exact h3
end Rf

set_option Elab.async false
set_option linter.all false
set_option maxRecDepth 100000
set_option maxHeartbeats 4000000
namespace Rf
open PySem L2
def upD (r : TRow) : D := .tup [.str r.1, optD r.2.1]
theorem pairsOf_up : ∀ rs : List TRow, pairsOf (rs.map upD) = some (rs.map pkRow)
  | [] => rfl
  | r :: rs => by
    rw [List.map_cons]
    unfold pairsOf
    rw [pairsOf_up rs]
    rfl
theorem while_nx {o : Orc} {t : E} {b : S} {ρ : REnv} {M : Store} {out : Out} (h : whL (fun ρ M => evT o t ρ M) (fun ρ M => evS o b ρ M) big ρ M = some out) : evS o (.while_ t b) ρ M = some out := by
  simp only [evS]
  exact h
theorem upward_ok {T : List Def} {k : Nat} (hg : findDef T "_law_upward" = some d_law_upward) {rs : List TRow} {us : List Pair} (hl : rs.length ≤ 1000) (hul : us.length ≤ 1000) (nd : (rs.map (·.1)).Nodup) (ndu : (us.map (·.1)).Nodup) (rt : Rooted us rs) {i : Nat} {r : TRow} (hr : rs[i]? = some r) :
    ∃ v, look r.1 (valsV us rs) = some v ∧ (orc T (k + 1)).p "_law_upward" [.tup (rs.map rowD), .tup (us.map pairD), .str r.1] = some (.str v, false) := by
  obtain ⟨nm, v, h1, h2, h3⟩ := up_loop (o := orc T k) nd rt (a := .tup (rs.map rowD)) (b := .tup (us.map pairD)) (s5 := none) i r hr big (by have := (List.getElem?_eq_some_iff.mp hr).1; unfold big; omega)
  refine ⟨v, h2, ?_⟩
  have ndr : ((rs.map pkRow).map (·.1)).Nodup := by
    rw [List.map_map]
    have : ((fun x : Key × D => x.1) ∘ pkRow : TRow → Key) = Sum.inr ∘ (fun r : TRow => r.1) := rfl
    rw [this, ← List.map_map]
    exact nodup_inr nd
  have ndk : ((pk us).map (·.1)).Nodup := by rw [pk_names]; exact nodup_inr ndu
  have hb1 : rs.length ≤ big := by unfold big; omega
  have hb2 : us.length ≤ big := by unfold big; omega
  have i1 : evI (orc T k) (.itv (.slot 0)) [some (.d (.tup (rs.map rowD))), some (.d (.tup (us.map pairD))), some (.d (.str r.1)), none, none, none] [] = some ((false, rs.map rowD), []) := itv_slot rfl rfl
  have l1 : lcL false (.nm 5) [5] (fun ρ M => evC (orc T k) .nil ρ M) (fun ρ M => evE (orc T k) (.tup (.cons (.idx (.slot 5) (.cst (.int 0))) (.cons (.idx (.slot 5) (.cst (.int 1))) .nil))) ρ M) [some (.d (.tup (rs.map rowD))), some (.d (.tup (us.map pairD))), some (.d (.str r.1)), none, none, none] (rs.map rowD) [] [] = some ([] ++ (rs.map rowD).map fun d => match d with
      | .tup [a, p, _] => .tup [a, p]
      | x => x, []) := by
    refine lcL_pure _ _ _ fun y hy => ?_
    obtain ⟨q, _, rfl⟩ := List.mem_map.mp hy
    refine ⟨[some (.d (.tup (rs.map rowD))), some (.d (.tup (us.map pairD))), some (.d (.str r.1)), none, none, some (.d (rowD q))], false, rfl, by simp [evC], ?_⟩
    simp [evE, evA, wAt, vw, idxD, atI, ixN, rowD, allD, isD, big]
  rw [List.nil_append, List.map_map] at l1
  have e1 := lc_eq i1 (by rw [List.length_map]; exact hb1) l1
  have d1 : evB .dict [.lst (rs.map upD)] = some (.dic (rs.map pkRow), true) := by
    simp only [evB, pairsOf_up, List.length_map, hb1, if_true]
    rw [mergK_new _ _ (by rw [List.nil_append]; exact ndr)]
    rfl
  have d2 : evB .dict [.tup (us.map pairD)] = some (.dic (pk us), true) := by
    have : (pk us).length ≤ big := by unfold pk; rw [List.length_map]; exact hb2
    simp only [evB, pairsOf_map, this, if_true]
    rw [mergK_new _ _ (by rw [List.nil_append]; exact ndk)]
    rfl
  have f1 := blt1 (b := .dict) (v := .lst (rs.map upD)) e1 d1
  have f2 := blt1 (b := .dict) (o := orc T k) (ρ := [some (.d (.tup (rs.map rowD))), some (.d (.tup (us.map pairD))), some (.d (.str r.1)), none, none, none]) (M := []) (slot_eq (i := 1) rfl) d2
  have s1 : evS (orc T k) (.par [3, 4] (.cons (.blt .dict (.cons (.lc [5] (.nm 5) (.itv (.slot 0)) .nil (.tup (.cons (.idx (.slot 5) (.cst (.int 0))) (.cons (.idx (.slot 5) (.cst (.int 1))) .nil)))) .nil)) (.cons (.blt .dict (.cons (.slot 1) .nil)) .nil))) [some (.d (.tup (rs.map rowD))), some (.d (.tup (us.map pairD))), some (.d (.str r.1)), none, none, none] [] =
      some (.nx [some (.d (.tup (rs.map rowD))), some (.d (.tup (us.map pairD))), some (.d (.str r.1)), some (.d (.dic (rs.map pkRow))), some (.d (.dic (pk us))), none] []) := by
    rw [evS, evA, f1]
    simp only []
    rw [evA, f2]
    simp [evA, puts, putW]
  have g := look_getK nm us
  rw [h1] at g
  show runP (orc T k) T "_law_upward" _ = _
  refine runP_rt (M := []) hg rfl ((seq_nx s1).trans ((seq_nx (while_nx h3)).trans ?_))
  simp [evS, evE, wAt, vw, idxD, keyOf, g]
end Rf

set_option Elab.async false
set_option linter.all false
set_option maxRecDepth 100000
set_option maxHeartbeats 4000000
namespace Rf
open PySem L2
theorem Tree.up {rs : List TRow} (t : Tree rs) : (∃ a rest, rs = (a, none, false) :: rest) ∧ ∀ (i : Nat) (r : TRow), rs[i]? = some r → i = 0 ∨ ∃ p, r.2.1 = some p ∧ p ∈ (rs.take i).map (·.1) := by
  induction t with
  | one a =>
    refine ⟨⟨a, [], rfl⟩, fun i r h => ?_⟩
    have := (List.getElem?_eq_some_iff.mp h).1
    simp at this
    exact .inl this
  | @more rs a p l t _ hp ih =>
    obtain ⟨⟨b, rest, hb⟩, ih⟩ := ih
    refine ⟨⟨b, rest ++ [(a, some p, l)], by rw [hb]; rfl⟩, fun i r h => ?_⟩
    by_cases hi : i < rs.length
    · rw [List.getElem?_append_left hi] at h
      rw [List.take_append_of_le_length (by omega)]
      exact ih i r h
    · rw [List.getElem?_append_right (by omega)] at h
      have : i - rs.length < 1 := (List.getElem?_eq_some_iff.mp h).1
      have e : i = rs.length := by omega
      subst e
      rw [Nat.sub_self] at h
      simp at h
      subst h
      refine .inr ⟨p, rfl, ?_⟩
      rw [List.take_left']
      · exact hp
      · rfl
theorem Tree.rooted {rs : List TRow} (t : Tree rs) {us : List Pair} {r0 : TRow} {rest : List TRow} (h0 : rs = r0 :: rest) (hu : r0.1 ∈ us.map (·.1)) : Rooted us rs := fun i r hr => by
  rcases t.up.2 i r hr with rfl | q
  · rw [h0] at hr
    simp at hr
    subst hr
    exact .inl (look_isSome hu)
  · exact .inr q
end Rf

set_option Elab.async false
set_option linter.all false
set_option maxRecDepth 100000
set_option maxHeartbeats 4000000
namespace Rf
open PySem L2
/-- a comprehension whose items may write to the store -/
theorem lcL_st {pr : Bool} {g : G} {own : List Nat} {cond : REnv → Store → Option (Bool × Store)} {el : REnv → Store → Option RW} {ρ : REnv} (P : Nat → Store → Prop) (f : D → D) : ∀ (xs acc : List D) (n : Nat) (M : Store),
    (∀ i x M, xs[i]? = some x → P (n + i) M → ∃ ρ1 fr M2, evGI pr g x (wipeR ρ own) = some ρ1 ∧ cond ρ1 M = some (true, M) ∧ el ρ1 M = some ((.d (f x), fr), M2) ∧ P (n + i + 1) M2) → P n M → ∃ M', lcL pr g own cond el ρ xs acc M = some (acc ++ xs.map f, M') ∧ P (n + xs.length) M'
  | [], acc, n, M, _, p => ⟨M, by simp [lcL], p⟩
  | x :: xs, acc, n, M, h, p => by
    obtain ⟨ρ1, fr, M2, e1, e2, e3, p2⟩ := h 0 x M rfl p
    obtain ⟨M', e4, p4⟩ := lcL_st P f xs (acc ++ [f x]) (n + 1) M2 (fun i y M e q => by
      have := h (i + 1) y M (by simpa using e) (by rw [show n + (i + 1) = n + 1 + i by omega]; exact q)
      rw [show n + (i + 1) = n + 1 + i by omega] at this
      exact this) p2
    refine ⟨M', ?_, by rw [List.length_cons, show n + (xs.length + 1) = n + 1 + xs.length by omega]; exact p4⟩
    unfold lcL
    simp only [e1, e2, e3]
    rw [e4]
    simp
theorem flats_map {α : Type} (f : α → D) : ∀ {l : List α}, (∀ a ∈ l, flat (f a) = true) → flats (l.map f) = true
  | [], _ => rfl
  | a :: l, h => by
    rw [List.map_cons]
    simp only [flats, Bool.and_eq_true]
    exact ⟨h a List.mem_cons_self, flats_map f fun b hb => h b (List.mem_cons_of_mem _ hb)⟩
theorem deps_map {α : Type} (f : α → D) {n : Nat} : ∀ {l : List α}, (∀ a ∈ l, dep (f a) ≤ n) → deps (l.map f) ≤ n
  | [], _ => Nat.zero_le _
  | a :: l, h => by
    rw [List.map_cons]
    unfold deps
    exact Nat.max_le.mpr ⟨h a List.mem_cons_self, deps_map f fun b hb => h b (List.mem_cons_of_mem _ hb)⟩
theorem wids_map {α : Type} (f : α → D) {n : Nat} : ∀ {l : List α}, (∀ a ∈ l, wid (f a) ≤ n) → wids (l.map f) ≤ n
  | [], _ => Nat.zero_le _
  | a :: l, h => by
    rw [List.map_cons]
    unfold wids
    exact Nat.max_le.mpr ⟨h a List.mem_cons_self, wids_map f fun b hb => h b (List.mem_cons_of_mem _ hb)⟩
end Rf

set_option Elab.async false
set_option linter.all false
set_option maxRecDepth 100000
set_option maxHeartbeats 4000000
namespace Rf
open PySem L2
theorem Tree.parents_in {rs : List TRow} (t : Tree rs) : ∀ r ∈ rs, ∀ p, r.2.1 = some p → p ∈ rs.map (·.1) := by
  intro r hr p hp
  obtain ⟨i, hi⟩ := List.mem_iff_getElem?.mp hr
  rcases t.up.2 i r hi with rfl | ⟨q, q1, q2⟩
  · obtain ⟨a, rest, e⟩ := t.up.1
    rw [e] at hi
    simp at hi
    subst hi
    cases hp
  · rw [hp] at q1
    cases q1
    exact (List.take_sublist i rs).map _ |>.subset q2
/-- the measures of a grown tree's data -/
theorem rows_data {rs : List TRow} (t : Tree rs) (hp : ∀ r ∈ rs, strOkD r.1 = true) (hl : rs.length ≤ 40) : flat (.tup (rs.map rowD)) = true ∧ dep (.tup (rs.map rowD)) ≤ 2 ∧ wid (.tup (rs.map rowD)) ≤ 40 := by
  refine ⟨?_, ?_, ?_⟩
  · simp only [flat]
    refine flat_rows fun r hr => ⟨hp r hr, fun p e => ?_⟩
    obtain ⟨q, hq, rfl⟩ := List.mem_map.mp (t.parents_in r hr p e)
    exact hp q hq
  · simp only [dep]
    have := deps_map rowD (n := 1) (l := rs) fun r _ => by
      obtain ⟨a, p, l⟩ := r
      cases p <;> simp [rowD, optD, dep, deps]
    omega
  · simp only [wid, List.length_map]
    have := wids_map rowD (n := 3) (l := rs) fun r _ => by
      obtain ⟨a, p, l⟩ := r
      cases p <;> simp [rowD, optD, wid, wids]
    omega
theorem pairs_data {us : List Pair} (h : ∀ p ∈ us, strOkD p.1 = true ∧ strOkD p.2 = true) (hl : us.length ≤ 40) : flat (.tup (us.map pairD)) = true ∧ dep (.tup (us.map pairD)) ≤ 2 ∧ wid (.tup (us.map pairD)) ≤ 40 := by
  refine ⟨?_, ?_, ?_⟩
  · simp only [flat]
    exact flats_map pairD fun p hp => by simp [pairD, flat, flats, h p hp]
  · simp only [dep]
    have := deps_map pairD (n := 1) (l := us) fun p _ => by simp [pairD, dep, deps]
    omega
  · simp only [wid, List.length_map]
    have := wids_map pairD (n := 2) (l := us) fun p _ => by simp [pairD, wid, wids]
    omega
mutual
theorem flat_lists : ∀ x : D, flat (listsF x) = flat x
  | .lst xs => by simp only [listsF, flat]; exact flats_listss xs
  | .tup xs => by simp only [listsF, flat]; exact flats_listss xs
  | .non => rfl
  | .bl _ => rfl
  | .int _ => rfl
  | .str _ => rfl
  | .dic _ => rfl
  | .scr _ => rfl
theorem flats_listss : ∀ xs : List D, flats (listsFs xs) = flats xs
  | [] => rfl
  | x :: xs => by simp only [listsFs, flats]; rw [flat_lists x, flats_listss xs]
end
mutual
theorem dep_lists : ∀ x : D, dep (listsF x) = dep x
  | .lst xs => by simp only [listsF, dep]; rw [deps_listss xs]
  | .tup xs => by simp only [listsF, dep]; rw [deps_listss xs]
  | .non => rfl
  | .bl _ => rfl
  | .int _ => rfl
  | .str _ => rfl
  | .dic _ => rfl
  | .scr _ => rfl
theorem deps_listss : ∀ xs : List D, deps (listsFs xs) = deps xs
  | [] => rfl
  | x :: xs => by simp only [listsFs, deps]; rw [dep_lists x, deps_listss xs]
end
mutual
theorem wid_lists : ∀ x : D, wid (listsF x) = wid x
  | .lst xs => by simp only [listsF, wid]; rw [wids_listss xs, listsFs_map, List.length_map]
  | .tup xs => by simp only [listsF, wid]; rw [wids_listss xs, listsFs_map, List.length_map]
  | .non => rfl
  | .bl _ => rfl
  | .int _ => rfl
  | .str _ => rfl
  | .dic _ => rfl
  | .scr _ => rfl
theorem wids_listss : ∀ xs : List D, wids (listsFs xs) = wids xs
  | [] => rfl
  | x :: xs => by simp only [listsFs, wids]; rw [wid_lists x, wids_listss xs]
end
end Rf

set_option Elab.async false
set_option linter.all false
set_option maxRecDepth 100000
set_option maxHeartbeats 4000000
namespace Rf
open PySem L2
theorem vals_strs {us : List Pair} {rs : List TRow} {vs : List Str} (t : Tree rs) (rt : Rooted us rs) (hv : ∀ p ∈ us, p.2 ∈ vs) : ∀ (i : Nat) (r : TRow), rs[i]? = some r → ∃ v ∈ vs, look r.1 (valsV us rs) = some v := by
  intro i
  induction i using Nat.strongRecOn with
  | _ i ih =>
    intro r hr
    have nd := t.nodup
    cases hw : look r.1 us with
    | some v => exact ⟨v, hv _ (look_mem hw), vals_written nd hr hw⟩
    | none =>
      rcases rt i r hr with q | ⟨p, q1, q2⟩
      · rw [hw] at q; cases q
      · obtain ⟨r', m', rfl⟩ := List.mem_map.mp q2
        obtain ⟨j, hj⟩ := List.mem_iff_getElem?.mp m'
        have hji : j < i := by
          have := (List.getElem?_eq_some_iff.mp hj).1
          rw [List.length_take] at this; omega
        have hj' : rs[j]? = some r' := by rw [List.getElem?_take_of_lt hji] at hj; exact hj
        obtain ⟨v, vm, hv'⟩ := ih j hji r' hj'
        exact ⟨v, vm, by rw [vals_above nd hr hw q1 q2]; exact hv'⟩
/-- all values, name by name -/
theorem valsV_eq {us : List Pair} {rs : List TRow} (nd : (rs.map (·.1)).Nodup) : valsV us rs = rs.map fun r => (r.1, (look r.1 (valsV us rs)).getD ⟨#[]⟩) := by
  have hn := valsV_names us rs
  have ndv : ((valsV us rs).map (·.1)).Nodup := by rw [hn]; exact nd
  apply List.ext_getElem?
  intro i
  rw [List.getElem?_map]
  have e : ((valsV us rs).map (·.1))[i]? = (rs.map (·.1))[i]? := by rw [hn]
  rw [List.getElem?_map, List.getElem?_map] at e
  cases h1 : (valsV us rs)[i]? with
  | none =>
    rw [h1] at e
    cases h2 : rs[i]? with
    | none => rfl
    | some r => rw [h2] at e; cases e
  | some p =>
    rw [h1] at e
    cases h2 : rs[i]? with
    | none => rw [h2] at e; cases e
    | some r =>
      rw [h2] at e
      have e : p.1 = r.1 := Option.some.inj e
      have := look_some (x := p.1) (v := p.2) ndv (List.mem_of_getElem? h1)
      rw [e] at this
      show some p = some (r.1, _)
      rw [this, ← e]
      rfl
end Rf

set_option Elab.async false
set_option linter.all false
set_option maxRecDepth 100000
set_option maxHeartbeats 4000000
namespace Rf
open PySem L2
/-- the defs of k12, as the plain laws ask for them -/
structure Has (T : List Def) : Prop where
  take : findDef T "_law_take" = some d_law_take
  of' : findDef T "_law_of" = some d_law_of
  lists : findDef T "_law_lists" = some d_law_lists
  same : findDef T "_law_same" = some d_law_same
  grown : findDef T "_law_grown" = some d_law_grown
  planned : findDef T "_law_planned" = some d_law_planned
  tupled : findDef T "tupled" = some d_tupled
  parents : findDef T "parents" = some d_parents
  values_by : findDef T "values_by" = some d_values_by
  values_of : findDef T "values_of" = some d_values_of
/-- a tree and a plan upon it, as a law draws them -/
structure Drawn (rs : List TRow) (us : List Pair) (vs : List Str) : Prop where
  tree : Tree rs
  pool : ∀ r ∈ rs, r.1 ∈ pool
  len : rs.length ≤ 12
  sub : (us.map (·.1)).Sublist (rs.map (·.1))
  rt : Rooted us rs
  val : ∀ p ∈ us, p.2 ∈ vs
  vok : ∀ v ∈ vs, strOkD v = true
section
variable {T : List Def} {rs : List TRow} {us : List Pair} {vs : List Str}
theorem Drawn.ndu (d : Drawn rs us vs) : (us.map (·.1)).Nodup := d.tree.nodup.sublist d.sub
theorem Drawn.ul (d : Drawn rs us vs) : us.length ≤ 12 := by
  have := d.sub.length_le
  rw [List.length_map, List.length_map] at this
  exact Nat.le_trans this d.len
theorem Drawn.uok (d : Drawn rs us vs) : ∀ p ∈ us, strOkD p.1 = true ∧ strOkD p.2 = true := fun p hp => by
  obtain ⟨r, hr, e⟩ := List.mem_map.mp (d.sub.subset (List.mem_map.mpr ⟨p, hp, rfl⟩))
  exact ⟨e ▸ pool_ok _ (d.pool r hr), d.vok _ (d.val p hp)⟩
/-- the same with the plan in another order -/
theorem Drawn.perm (d : Drawn rs us vs) {ws : List Pair} (p : us.Perm ws) : Rooted ws rs ∧ (ws.map (·.1)).Nodup ∧ (∀ q ∈ ws, q.2 ∈ vs) ∧ (∀ q ∈ ws, strOkD q.1 = true ∧ strOkD q.2 = true) ∧ ws.length ≤ 12 :=
  ⟨fun i r hr => by rw [← look_perm p d.ndu]; exact d.rt i r hr, (p.map _).nodup_iff.mp d.ndu, fun q hq => d.val q (p.mem_iff.mpr hq), fun q hq => d.uok q (p.mem_iff.mpr hq), by rw [← p.length_eq]; exact d.ul⟩
end
end Rf

set_option Elab.async false
set_option linter.all false
set_option maxRecDepth 100000
set_option maxHeartbeats 4000000
namespace Rf
open PySem L2
theorem valsV_perm {us ws : List Pair} (p : us.Perm ws) (nd : (us.map (·.1)).Nodup) (rs : List TRow) : valsV ws rs = valsV us rs := by
  have st : stepV ws = stepV us := by
    funext acc r
    unfold stepV
    rw [look_perm p nd]
  unfold valsV
  rw [st]
end Rf

set_option Elab.async false
set_option linter.all false
set_option maxRecDepth 100000
set_option maxHeartbeats 4000000
namespace Rf
open PySem L2
section
variable {T : List Def} {k : Nat} {rs : List TRow} {us ws : List Pair} {vs : List Str} {M : Store} {a s1 s4 s5 s6 s7 s8 s9 s10 s11 : Option W} {Y : D}
theorem names_ev {o : Orc} (hl : rs.length ≤ 12) : evE o (.lc [9] (.nm 9) (.itv (.slot 2)) .nil (.idx (.slot 9) (.cst (.int 0)))) [a, s1, some (.d (.tup (rs.map rowD))), some (.d Y), s4, s5, s6, s7, s8, s9, s10, s11] M = some ((.d (.lst (rs.map fun r => .str r.1)), true), M) := by
  have i1 : evI o (.itv (.slot 2)) [a, s1, some (.d (.tup (rs.map rowD))), some (.d Y), s4, s5, s6, s7, s8, s9, s10, s11] M = some ((false, rs.map rowD), M) := itv_slot rfl rfl
  have l1 : lcL false (.nm 9) [9] (fun ρ M => evC o .nil ρ M) (fun ρ M => evE o (.idx (.slot 9) (.cst (.int 0))) ρ M) [a, s1, some (.d (.tup (rs.map rowD))), some (.d Y), s4, s5, s6, s7, s8, s9, s10, s11] (rs.map rowD) [] M = some ([] ++ (rs.map rowD).map fun d => match d with
      | .tup [a, _, _] => a
      | x => x, M) := by
    refine lcL_pure _ _ _ fun y hy => ?_
    obtain ⟨q, _, rfl⟩ := List.mem_map.mp hy
    refine ⟨[a, s1, some (.d (.tup (rs.map rowD))), some (.d Y), s4, s5, s6, s7, s8, some (.d (rowD q)), s10, s11], false, rfl, by simp [evC], ?_⟩
    simp [evE, wAt, vw, idxD, atI, ixN, rowD]
  rw [List.nil_append, List.map_map] at l1
  exact lc_eq i1 (by rw [List.length_map]; unfold big; omega) l1
end
end Rf

set_option Elab.async false
set_option linter.all false
set_option maxRecDepth 100000
set_option maxHeartbeats 4000000
namespace Rf
open PySem L2
local macro_rules | `(tactic| simp_arith) => `(tactic| simp -implicitDefEqProofs (maxSteps := 4000000) (failIfUnchanged := false) only [oP_some, oP_none, oD_d, wAt_zero, wAt_succ, putW_zero, putW_succ, map_some', wipe_nil, wipe_cons, set_zero, set_succ, vw_dd, evG_nm, evG_tp, evGs_nil, evGs_cons, some_bind', evGI_f, evGI_t, yE_slot, yE_cst, yE_glob, yE_dnil, yE_one, yE_tup, yE_lst, yE_ite, yE_andv, yE_orv, yE_orT, yE_notv, yE_cmp, yE_chain, yE_bin, yE_neg, yE_idx, yE_slc, yE_callP, yE_callK, yE_callM, yE_mk, yE_blt, yE_isi, yE_sitems, yE_get1, yA_nil, yA_cons, yO_none, yO_some, yT_andv, yT_orv, yT_notv, yT_one, yT_val, yC_nil, yC_cons, yI_itv, yI_rng1, yI_rng2, yI_zip, yI_enum, yI_items, yI_vals, yS_nil, yS_seq, yS_asg, yS_par, puts_nil, puts_cons, yS_exp, yS_ret, yS_retN, yS_ite, oN_c, oL_l, oK_d, cellAt_end, toD_lst, toD_dic, asNode_lst, asNode_dic, vw_cell, vws_nil, vws_cons, allD_nil, allD_cons, anyCell_nil, anyCell_d, anyCell_c, yS_app, yS_upd, yS_frz, oSet_l, oSet_d, yS_seti, yE_pop, k_nf, k_nt, k_nn, k_to, k_fo, k_ta, k_fa, k_it, k_if, k_tt, k_ft, k_Ta, k_aT, k_big, k_lc, k_ln, k_lm, o_eq, o_ne, o_lt, o_lts, o_le, o_gt, o_ge, o_is, o_isnt, o_in, o_notin, e_ss, e_ii, e_bb, e_nn, e_ns, e_sn, e_ni, e_in, i_n, i_s, i_i, i_b, i_t, i_l, i_bb, t_n, t_b, t_i, t_l, t_t, x_dic, x_dicI, x_tup, x_lst, at_0, at_1, at_2, at_3, d_in, d_inI, k_of, k_ofI, it_l, it_t, it_d, b_addI, b_subI, b_addL, b_addT, b_addS, b_mod, b_fdiv, b_mul, f_lenL, f_lenT, f_lenD, f_lenS, f_int, f_intB, f_tupL, f_tupT, f_lstL, f_lstT, f_dicD, f_dicL, f_dicT, f_sort, f_sortT, f_all, f_any, f_sum, in_strs, in_strsT, bind_none', Nat.reduceAdd, Nat.reduceSub, Nat.reduceLeDiff, Nat.reduceLT, List.replicate_zero, List.replicate_succ, List.map_cons, List.map_nil, List.cons_append, List.nil_append, envOf, Option.some.injEq, eq_self, and_self, if_true, if_false, List.filterMap_cons, List.filterMap_nil, List.getElem?_cons_succ, List.getElem?_cons_zero, evG_tl, e_dd, List.set_cons_zero, List.set_cons_succ, List.all_nil, yE_litems, yE_lrng, cell_zero, cell_succ])
local macro_rules | `(tactic| simp_arith [$xs,*]) => `(tactic| simp -implicitDefEqProofs (maxSteps := 4000000) (failIfUnchanged := false) only [oP_some, oP_none, oD_d, wAt_zero, wAt_succ, putW_zero, putW_succ, map_some', wipe_nil, wipe_cons, set_zero, set_succ, vw_dd, evG_nm, evG_tp, evGs_nil, evGs_cons, some_bind', evGI_f, evGI_t, yE_slot, yE_cst, yE_glob, yE_dnil, yE_one, yE_tup, yE_lst, yE_ite, yE_andv, yE_orv, yE_orT, yE_notv, yE_cmp, yE_chain, yE_bin, yE_neg, yE_idx, yE_slc, yE_callP, yE_callK, yE_callM, yE_mk, yE_blt, yE_isi, yE_sitems, yE_get1, yA_nil, yA_cons, yO_none, yO_some, yT_andv, yT_orv, yT_notv, yT_one, yT_val, yC_nil, yC_cons, yI_itv, yI_rng1, yI_rng2, yI_zip, yI_enum, yI_items, yI_vals, yS_nil, yS_seq, yS_asg, yS_par, puts_nil, puts_cons, yS_exp, yS_ret, yS_retN, yS_ite, oN_c, oL_l, oK_d, cellAt_end, toD_lst, toD_dic, asNode_lst, asNode_dic, vw_cell, vws_nil, vws_cons, allD_nil, allD_cons, anyCell_nil, anyCell_d, anyCell_c, yS_app, yS_upd, yS_frz, oSet_l, oSet_d, yS_seti, yE_pop, k_nf, k_nt, k_nn, k_to, k_fo, k_ta, k_fa, k_it, k_if, k_tt, k_ft, k_Ta, k_aT, k_big, k_lc, k_ln, k_lm, o_eq, o_ne, o_lt, o_lts, o_le, o_gt, o_ge, o_is, o_isnt, o_in, o_notin, e_ss, e_ii, e_bb, e_nn, e_ns, e_sn, e_ni, e_in, i_n, i_s, i_i, i_b, i_t, i_l, i_bb, t_n, t_b, t_i, t_l, t_t, x_dic, x_dicI, x_tup, x_lst, at_0, at_1, at_2, at_3, d_in, d_inI, k_of, k_ofI, it_l, it_t, it_d, b_addI, b_subI, b_addL, b_addT, b_addS, b_mod, b_fdiv, b_mul, f_lenL, f_lenT, f_lenD, f_lenS, f_int, f_intB, f_tupL, f_tupT, f_lstL, f_lstT, f_dicD, f_dicL, f_dicT, f_sort, f_sortT, f_all, f_any, f_sum, in_strs, in_strsT, bind_none', Nat.reduceAdd, Nat.reduceSub, Nat.reduceLeDiff, Nat.reduceLT, List.replicate_zero, List.replicate_succ, List.map_cons, List.map_nil, List.cons_append, List.nil_append, envOf, Option.some.injEq, eq_self, and_self, if_true, if_false, List.filterMap_cons, List.filterMap_nil, List.getElem?_cons_succ, List.getElem?_cons_zero, evG_tl, e_dd, List.set_cons_zero, List.set_cons_succ, List.all_nil, yE_litems, yE_lrng, cell_zero, cell_succ, $xs,*])
local macro_rules | `(tactic| simp_arith [$xs,*] at $h:ident) => `(tactic| simp -implicitDefEqProofs (maxSteps := 4000000) (failIfUnchanged := false) only [oP_some, oP_none, oD_d, wAt_zero, wAt_succ, putW_zero, putW_succ, map_some', wipe_nil, wipe_cons, set_zero, set_succ, vw_dd, evG_nm, evG_tp, evGs_nil, evGs_cons, some_bind', evGI_f, evGI_t, yE_slot, yE_cst, yE_glob, yE_dnil, yE_one, yE_tup, yE_lst, yE_ite, yE_andv, yE_orv, yE_orT, yE_notv, yE_cmp, yE_chain, yE_bin, yE_neg, yE_idx, yE_slc, yE_callP, yE_callK, yE_callM, yE_mk, yE_blt, yE_isi, yE_sitems, yE_get1, yA_nil, yA_cons, yO_none, yO_some, yT_andv, yT_orv, yT_notv, yT_one, yT_val, yC_nil, yC_cons, yI_itv, yI_rng1, yI_rng2, yI_zip, yI_enum, yI_items, yI_vals, yS_nil, yS_seq, yS_asg, yS_par, puts_nil, puts_cons, yS_exp, yS_ret, yS_retN, yS_ite, oN_c, oL_l, oK_d, cellAt_end, toD_lst, toD_dic, asNode_lst, asNode_dic, vw_cell, vws_nil, vws_cons, allD_nil, allD_cons, anyCell_nil, anyCell_d, anyCell_c, yS_app, yS_upd, yS_frz, oSet_l, oSet_d, yS_seti, yE_pop, k_nf, k_nt, k_nn, k_to, k_fo, k_ta, k_fa, k_it, k_if, k_tt, k_ft, k_Ta, k_aT, k_big, k_lc, k_ln, k_lm, o_eq, o_ne, o_lt, o_lts, o_le, o_gt, o_ge, o_is, o_isnt, o_in, o_notin, e_ss, e_ii, e_bb, e_nn, e_ns, e_sn, e_ni, e_in, i_n, i_s, i_i, i_b, i_t, i_l, i_bb, t_n, t_b, t_i, t_l, t_t, x_dic, x_dicI, x_tup, x_lst, at_0, at_1, at_2, at_3, d_in, d_inI, k_of, k_ofI, it_l, it_t, it_d, b_addI, b_subI, b_addL, b_addT, b_addS, b_mod, b_fdiv, b_mul, f_lenL, f_lenT, f_lenD, f_lenS, f_int, f_intB, f_tupL, f_tupT, f_lstL, f_lstT, f_dicD, f_dicL, f_dicT, f_sort, f_sortT, f_all, f_any, f_sum, in_strs, in_strsT, bind_none', Nat.reduceAdd, Nat.reduceSub, Nat.reduceLeDiff, Nat.reduceLT, List.replicate_zero, List.replicate_succ, List.map_cons, List.map_nil, List.cons_append, List.nil_append, envOf, Option.some.injEq, eq_self, and_self, if_true, if_false, List.filterMap_cons, List.filterMap_nil, List.getElem?_cons_succ, List.getElem?_cons_zero, evG_tl, e_dd, List.set_cons_zero, List.set_cons_succ, List.all_nil, yE_litems, yE_lrng, cell_zero, cell_succ, $xs,*] at $h:ident)
section
variable {T : List Def} {k : Nat} {M : Store} {c e : Nat} {Q : RW → Prop}
theorem take_wp (hf : findDef T "_law_take" = some d_law_take) (b : Box M c e) (he : e < 2 ^ 40) {n : Int} (hn : 0 < n) (hn2 : n < 1000000)
    (q : ∀ r M', 0 ≤ r → r < n → Box M' c (e + 1) → M'.length = M.length → (∀ j, j ≠ c → cellAt M' j = cellAt M j) → Q ((.d (.int r), false), M')) : oP ((orc T (k + 1)).m "_law_take" [.cell c, .d (.int n)] M) Q := by
  obtain ⟨r, M', e1, r0, r1, b1, l1, o1⟩ := take_ok (k := k) hf b he hn hn2
  exact oP.mk e1 (q r M' r0 r1 b1 l1 o1)
theorem ofL_wp (hf : findDef T "_law_take" = some d_law_take) (hf2 : findDef T "_law_of" = some d_law_of) (b : Box M c e) (he : e < 2 ^ 40) {xs : List D} (hx : xs ≠ []) (hl : xs.length ≤ 1000)
    (q : ∀ x M', x ∈ xs → Box M' c (e + 1) → M'.length = M.length → (∀ j, j ≠ c → cellAt M' j = cellAt M j) → Q ((.d x, false), M')) : oP ((orc T (k + 2)).m "_law_of" [.cell c, .d (.lst xs)] M) Q := by
  obtain ⟨x, M', m, e1, b1, l1, o1⟩ := of_core (k := k) hf hf2 b he (w := .d (.lst xs)) (v := .lst xs) (fun _ _ => rfl) rfl (.inl rfl) hx (by omega)
  exact oP.mk e1 (q x M' m b1 l1 o1)
theorem ofT_wp (hf : findDef T "_law_take" = some d_law_take) (hf2 : findDef T "_law_of" = some d_law_of) (b : Box M c e) (he : e < 2 ^ 40) {xs : List D} (hx : xs ≠ []) (hl : xs.length ≤ 1000)
    (q : ∀ x M', x ∈ xs → Box M' c (e + 1) → M'.length = M.length → (∀ j, j ≠ c → cellAt M' j = cellAt M j) → Q ((.d x, false), M')) : oP ((orc T (k + 2)).m "_law_of" [.cell c, .d (.tup xs)] M) Q := by
  obtain ⟨x, M', m, e1, b1, l1, o1⟩ := of_core (k := k) hf hf2 b he (w := .d (.tup xs)) (v := .tup xs) (fun _ _ => rfl) rfl (.inr rfl) hx (by omega)
  exact oP.mk e1 (q x M' m b1 l1 o1)
theorem grown_wp (hf : findDef T "_law_take" = some d_law_take) (hf2 : findDef T "_law_of" = some d_law_of) (hg : findDef T "_law_grown" = some d_law_grown) (b : Box M c e) (he : e + 200 < 2 ^ 40) {n : Int} (h1 : 1 ≤ n) (h12 : n ≤ 12) {l : Int}
    (q : ∀ rs M', Tree rs → rs.length = n.toNat → (∀ r ∈ rs, r.1 ∈ pool) → Box M' c (e + 40) → M'.length = M.length → (∀ j, j < M.length → j ≠ c → cellAt M' j = cellAt M j) → Q ((.d (.tup (rs.map rowD)), false), M')) : oP ((orc T (k + 3)).m "_law_grown" [.cell c, .d (.int n), .d (.int l)] M) Q := by
  obtain ⟨m, rfl⟩ : ∃ m : Nat, n = m := ⟨n.toNat, by omega⟩
  obtain ⟨rs, M', e1, t, rl, rp, b1, l1, o1⟩ := grown_ok (k := k) hf hf2 hg b he (n := m) (by omega) (by omega) (l := l)
  exact oP.mk e1 (q rs M' t (by omega) rp b1 l1 o1)
end
/-- a plan upon a tree, as its data: the pairs in their order -/
structure Plan (rs : List TRow) (ws : List Pair) (vs : List Str) : Prop where
  nd : (ws.map (·.1)).Nodup
  root : ∀ r, rs.head? = some r → r.1 ∈ ws.map (·.1)
  free : ∀ p ∈ ws, ∃ r ∈ rs, r.1 = p.1 ∧ r.2.2 = false
  val : ∀ p ∈ ws, p.2 ∈ vs
  asc : ws.Pairwise fun p q => leD (pairD p) (pairD q) = true
theorem leD_total (x y : D) : (leD x y || leD y x) = true := by
  unfold leD ltD PySem.W.dataLt
  cases h1 : PyProof.Rows.lexLt PyProof.Rows.itemOrd (PySem.W.keyToks (toPy y)) (PySem.W.keyToks (toPy x)) with
  | false => rfl
  | true =>
    cases h2 : PyProof.Rows.lexLt PyProof.Rows.itemOrd (PySem.W.keyToks (toPy x)) (PySem.W.keyToks (toPy y)) with
    | false => rfl
    | true =>
      have := PyProof.Rows.lex_trans _ _ _ h1 h2
      rw [PyProof.Rows.lex_irrefl] at this
      cases this
theorem leD_trans (x y z : D) (h1 : leD x y = true) (h2 : leD y z = true) : leD x z = true := by
  unfold leD ltD PySem.W.dataLt at *
  rw [Bool.not_eq_true'] at *
  cases h : PyProof.Rows.lexLt PyProof.Rows.itemOrd (PySem.W.keyToks (toPy z)) (PySem.W.keyToks (toPy x)) with
  | false => rfl
  | true =>
    rcases PyProof.Rows.lex_negTrans _ (PySem.W.keyToks (toPy y)) _ h with q | q
    · rw [h2] at q; cases q
    · rw [h1] at q; cases q
/-- what a law plans -/
theorem planned_wp {T : List Def} {k : Nat} {M : Store} {c e : Nat} {Q : RW → Prop} (hf : findDef T "_law_take" = some d_law_take) (hf2 : findDef T "_law_of" = some d_law_of) (hg : findDef T "_law_planned" = some d_law_planned) (b : Box M c e) (he : e + 200 < 2 ^ 40) {rs : List TRow} (tr : Tree rs) (hr : rs.length ≤ 40) (hp : ∀ r ∈ rs, strOkD r.1 = true)
    {vs : List Str} (hv : vs ≠ []) (hvl : vs.length ≤ 100) (hvo : ∀ v ∈ vs, strOkD v = true)
    (q : ∀ ws M', Plan rs ws vs → Box M' c (e + 100) → M'.length = M.length → (∀ j, j < M.length → j ≠ c → cellAt M' j = cellAt M j) → Q ((.d (.tup (ws.map pairD)), false), M')) : oP ((orc T (k + 3)).m "_law_planned" [.cell c, .d (.tup (rs.map rowD)), .d (.lst (vs.map .str))] M) Q := by
  obtain ⟨a, rest, rfl⟩ := tr.up.1
  refine mCall (d := d_law_planned) hg rfl ?_
  simp_arith [d_law_planned, rowD]
  have hcl : c < M.length := by obtain ⟨_, _, _, hc, _⟩ := b.at'; exact cellAt_lt' hc
  refine ofL_wp hf hf2 b (by omega) (by simpa using hv) (by rw [List.length_map]; omega) fun x M1 xm b1 l1 o1 => ?_
  obtain ⟨v, vm, rfl⟩ := List.mem_map.mp xm
  simp_arith [optD, l1]
  refine yS_for (I := fun i ρ M' => ∃ (us : List Pair) (s4 s5 s6 : Option W), ρ = [some (.cell c), some (.d (.tup (.tup [.str a, .non, .bl false] :: rest.map rowD))), some (.d (.lst (vs.map .str))), some (.cell M.length), s4, s5, s6] ∧
    cellAt M' M.length = some (.lst (us.map pairD)) ∧ (us.map (·.1)).Sublist ((((a, none, false) :: rest.take i).filter fun r => !r.2.2).map (·.1)) ∧ (∃ v us', us = (a, v) :: us') ∧ (∀ p ∈ us, p.2 ∈ vs) ∧ us.length ≤ i + 1 ∧ Box M' c (e + 1 + 2 * i) ∧ M'.length = M.length + 1 ∧ ∀ j, j < M.length → j ≠ c → cellAt M' j = cellAt M j) ?_
  simp_arith [slcD, cut_one]
  refine ⟨⟨[(a, v)], none, none, none, rfl, ?_, by simp, ⟨v, [], rfl⟩, by simpa using vm, by simp, (b1.keep (cellAt_app (by omega))).mono (by omega), by rw [List.length_append, l1]; rfl, fun j h1 h2 => by rw [cellAt_app (by omega), o1 _ h2]⟩, ?_, ?_⟩
  · rw [← l1]; exact cellAt_end
  · rintro i x ρ M2 hx ⟨us, s4, s5, s6, rfl, cu, sb, hd, hval, hl, b2, l2, o2⟩
    rw [List.getElem?_map] at hx
    obtain ⟨⟨n, p, lk⟩, hr', rfl⟩ := Option.map_eq_some_iff.mp hx
    have hi := (List.getElem?_eq_some_iff.mp hr').1
    rw [List.length_cons] at hr
    have tk : rest.take (i + 1) = rest.take i ++ [(n, p, lk)] := by rw [List.take_succ, hr']; rfl
    cases lk with
    | true =>
      simp_arith [rowD]
      refine ⟨us, _, _, _, rfl, cu, ?_, hd, hval, by omega, b2.mono (by omega), l2, o2⟩
      rw [tk]
      simpa using sb
    | false =>
      have tk2 : ((a, none, false) :: rest.take (i + 1)).filter (fun r => !r.2.2) = ((a, none, false) :: rest.take i).filter (fun r => !r.2.2) ++ [(n, p, false)] := by
        rw [tk, ← List.cons_append, List.filter_append]
        rfl
      simp_arith [rowD]
      refine take_wp hf b2 (by omega) (by decide) (by decide) fun r M3 r0 r1 b3 l3 o3 => ?_
      simp_arith
      cases hq : r == 0 with
      | false =>
        simp_arith
        refine ⟨us, _, _, _, rfl, by rw [o3 _ (by omega)]; exact cu, ?_, hd, hval, by omega, b3.mono (by omega), by omega, fun j h1 h2 => by rw [o3 _ h2]; exact o2 j h1 h2⟩
        rw [tk2, List.map_append]
        exact sb.trans (List.sublist_append_left _ _)
      | true =>
        have cu3 : cellAt M3 M.length = some (.lst (us.map pairD)) := by rw [o3 _ (by omega)]; exact cu
        simp_arith [cu3]
        refine ofL_wp hf hf2 b3 (by omega) (by simpa using hv) (by rw [List.length_map]; omega) fun x M4 xm b4 l4 o4 => ?_
        obtain ⟨v2, vm2, rfl⟩ := List.mem_map.mp xm
        have cu4 : cellAt M4 M.length = some (.lst (us.map pairD)) := by rw [o4 _ (by omega)]; exact cu3
        simp_arith [cu4]
        refine ⟨by omega, us ++ [(n, v2)], _, _, _, rfl, ?_, ?_, ?_, ?_, ?_, (b4.keep (cellAt_ne (by omega))).mono (by omega), by rw [List.length_set]; omega, fun j h1 h2 => by rw [cellAt_ne (by omega), o4 _ h2, o3 _ h2]; exact o2 j h1 h2⟩
        · rw [cellAt_set cu4, List.map_append]; rfl
        · rw [tk2, List.map_append, List.map_append]
          exact sb.append (List.Sublist.refl _)
        · obtain ⟨v0, us0, hu⟩ := hd
          exact ⟨v0, us0 ++ [(n, v2)], by rw [hu]; rfl⟩
        · intro z hz
          rcases List.mem_append.mp hz with hz | hz
          · exact hval z hz
          · have : z = (n, v2) := by simpa using hz
            rw [this]; exact vm2
        · rw [List.length_append]; simp; omega
  · rintro ρ M2 ⟨us, s4, s5, s6, rfl, cu, sb, ⟨v0, us0, hu⟩, hval, hl, b2, l2, o2⟩
    rw [List.take_of_length_le (Nat.le_refl _)] at sb
    rw [List.length_cons] at hr
    have sb' : (us.map (·.1)).Sublist (((a, none, false) :: rest).map (·.1)) := sb.trans ((List.filter_sublist).map _)
    have srt := sort_pairs (us := us) (fun p hp' => by
      have m : p.1 ∈ ((a, none, false) :: rest).map (·.1) := sb'.subset (List.mem_map.mpr ⟨p, hp', rfl⟩)
      obtain ⟨r, rm, re⟩ := List.mem_map.mp m
      exact ⟨re ▸ hp r rm, hvo _ (hval p hp')⟩) (by unfold big; omega)
    simp_arith [cu, srt]
    rw [sort_map]
    have pm := List.mergeSort_perm us (fun p q => leD (pairD p) (pairD q))
    refine q _ _ ⟨?_, ?_, ?_, ?_, ?_⟩ ((b2.keep ((cellAt_take hcl).trans (cellAt_ne (by omega)))).mono (by omega)) (by rw [List.length_take, List.length_set, l2]; omega) fun j h3 h4 => by rw [cellAt_take h3, cellAt_ne (by omega)]; exact o2 j h3 h4
    · exact (pm.map _).nodup_iff.mpr (tr.nodup.sublist sb')
    · intro r h
      cases h
      refine (pm.map _).mem_iff.mpr ?_
      rw [hu]; simp
    · intro p h
      have h1 := sb.subset (List.mem_map.mpr ⟨p, pm.mem_iff.mp h, rfl⟩)
      obtain ⟨r, rm, re⟩ := List.mem_map.mp h1
      rw [List.mem_filter] at rm
      exact ⟨r, rm.1, re, by simpa using rm.2⟩
    · exact fun p h => hval p (pm.mem_iff.mp h)
    · exact List.pairwise_mergeSort (le := fun p q => leD (pairD p) (pairD q)) (fun a b c => leD_trans (pairD a) (pairD b) (pairD c)) (fun a b => leD_total (pairD a) (pairD b)) us
end Rf

set_option Elab.async false
set_option linter.all false
set_option maxRecDepth 100000
set_option maxHeartbeats 4000000
namespace Rf
open PySem L2
local macro_rules | `(tactic| simp_arith) => `(tactic| simp -implicitDefEqProofs (maxSteps := 4000000) (failIfUnchanged := false) only [oP_some, oP_none, oD_d, wAt_zero, wAt_succ, putW_zero, putW_succ, map_some', wipe_nil, wipe_cons, set_zero, set_succ, vw_dd, evG_nm, evG_tp, evGs_nil, evGs_cons, some_bind', evGI_f, evGI_t, yE_slot, yE_cst, yE_glob, yE_dnil, yE_one, yE_tup, yE_lst, yE_ite, yE_andv, yE_orv, yE_orT, yE_notv, yE_cmp, yE_chain, yE_bin, yE_neg, yE_idx, yE_slc, yE_callP, yE_callK, yE_callM, yE_mk, yE_blt, yE_isi, yE_sitems, yE_get1, yA_nil, yA_cons, yO_none, yO_some, yT_andv, yT_orv, yT_notv, yT_one, yT_val, yC_nil, yC_cons, yI_itv, yI_rng1, yI_rng2, yI_zip, yI_enum, yI_items, yI_vals, yS_nil, yS_seq, yS_asg, yS_par, puts_nil, puts_cons, yS_exp, yS_ret, yS_retN, yS_ite, oN_c, oL_l, oK_d, cellAt_end, toD_lst, toD_dic, asNode_lst, asNode_dic, vw_cell, vws_nil, vws_cons, allD_nil, allD_cons, anyCell_nil, anyCell_d, anyCell_c, yS_app, yS_upd, yS_frz, oSet_l, oSet_d, yS_seti, yE_pop, k_nf, k_nt, k_nn, k_to, k_fo, k_ta, k_fa, k_it, k_if, k_tt, k_ft, k_Ta, k_aT, k_big, k_lc, k_ln, k_lm, o_eq, o_ne, o_lt, o_lts, o_le, o_gt, o_ge, o_is, o_isnt, o_in, o_notin, e_ss, e_ii, e_bb, e_nn, e_ns, e_sn, e_ni, e_in, i_n, i_s, i_i, i_b, i_t, i_l, i_bb, t_n, t_b, t_i, t_l, t_t, x_dic, x_dicI, x_tup, x_lst, at_0, at_1, at_2, at_3, d_in, d_inI, k_of, k_ofI, it_l, it_t, it_d, b_addI, b_subI, b_addL, b_addT, b_addS, b_mod, b_fdiv, b_mul, f_lenL, f_lenT, f_lenD, f_lenS, f_int, f_intB, f_tupL, f_tupT, f_lstL, f_lstT, f_dicD, f_dicL, f_dicT, f_sort, f_sortT, f_all, f_any, f_sum, in_strs, in_strsT, bind_none', Nat.reduceAdd, Nat.reduceSub, Nat.reduceLeDiff, Nat.reduceLT, List.replicate_zero, List.replicate_succ, List.map_cons, List.map_nil, List.cons_append, List.nil_append, envOf, Option.some.injEq, eq_self, and_self, if_true, if_false, List.filterMap_cons, List.filterMap_nil, List.getElem?_cons_succ, List.getElem?_cons_zero, evG_tl, e_dd, List.set_cons_zero, List.set_cons_succ, List.all_nil, yE_litems, yE_lrng, cell_zero, cell_succ])
local macro_rules | `(tactic| simp_arith [$xs,*]) => `(tactic| simp -implicitDefEqProofs (maxSteps := 4000000) (failIfUnchanged := false) only [oP_some, oP_none, oD_d, wAt_zero, wAt_succ, putW_zero, putW_succ, map_some', wipe_nil, wipe_cons, set_zero, set_succ, vw_dd, evG_nm, evG_tp, evGs_nil, evGs_cons, some_bind', evGI_f, evGI_t, yE_slot, yE_cst, yE_glob, yE_dnil, yE_one, yE_tup, yE_lst, yE_ite, yE_andv, yE_orv, yE_orT, yE_notv, yE_cmp, yE_chain, yE_bin, yE_neg, yE_idx, yE_slc, yE_callP, yE_callK, yE_callM, yE_mk, yE_blt, yE_isi, yE_sitems, yE_get1, yA_nil, yA_cons, yO_none, yO_some, yT_andv, yT_orv, yT_notv, yT_one, yT_val, yC_nil, yC_cons, yI_itv, yI_rng1, yI_rng2, yI_zip, yI_enum, yI_items, yI_vals, yS_nil, yS_seq, yS_asg, yS_par, puts_nil, puts_cons, yS_exp, yS_ret, yS_retN, yS_ite, oN_c, oL_l, oK_d, cellAt_end, toD_lst, toD_dic, asNode_lst, asNode_dic, vw_cell, vws_nil, vws_cons, allD_nil, allD_cons, anyCell_nil, anyCell_d, anyCell_c, yS_app, yS_upd, yS_frz, oSet_l, oSet_d, yS_seti, yE_pop, k_nf, k_nt, k_nn, k_to, k_fo, k_ta, k_fa, k_it, k_if, k_tt, k_ft, k_Ta, k_aT, k_big, k_lc, k_ln, k_lm, o_eq, o_ne, o_lt, o_lts, o_le, o_gt, o_ge, o_is, o_isnt, o_in, o_notin, e_ss, e_ii, e_bb, e_nn, e_ns, e_sn, e_ni, e_in, i_n, i_s, i_i, i_b, i_t, i_l, i_bb, t_n, t_b, t_i, t_l, t_t, x_dic, x_dicI, x_tup, x_lst, at_0, at_1, at_2, at_3, d_in, d_inI, k_of, k_ofI, it_l, it_t, it_d, b_addI, b_subI, b_addL, b_addT, b_addS, b_mod, b_fdiv, b_mul, f_lenL, f_lenT, f_lenD, f_lenS, f_int, f_intB, f_tupL, f_tupT, f_lstL, f_lstT, f_dicD, f_dicL, f_dicT, f_sort, f_sortT, f_all, f_any, f_sum, in_strs, in_strsT, bind_none', Nat.reduceAdd, Nat.reduceSub, Nat.reduceLeDiff, Nat.reduceLT, List.replicate_zero, List.replicate_succ, List.map_cons, List.map_nil, List.cons_append, List.nil_append, envOf, Option.some.injEq, eq_self, and_self, if_true, if_false, List.filterMap_cons, List.filterMap_nil, List.getElem?_cons_succ, List.getElem?_cons_zero, evG_tl, e_dd, List.set_cons_zero, List.set_cons_succ, List.all_nil, yE_litems, yE_lrng, cell_zero, cell_succ, $xs,*])
local macro_rules | `(tactic| simp_arith [$xs,*] at $h:ident) => `(tactic| simp -implicitDefEqProofs (maxSteps := 4000000) (failIfUnchanged := false) only [oP_some, oP_none, oD_d, wAt_zero, wAt_succ, putW_zero, putW_succ, map_some', wipe_nil, wipe_cons, set_zero, set_succ, vw_dd, evG_nm, evG_tp, evGs_nil, evGs_cons, some_bind', evGI_f, evGI_t, yE_slot, yE_cst, yE_glob, yE_dnil, yE_one, yE_tup, yE_lst, yE_ite, yE_andv, yE_orv, yE_orT, yE_notv, yE_cmp, yE_chain, yE_bin, yE_neg, yE_idx, yE_slc, yE_callP, yE_callK, yE_callM, yE_mk, yE_blt, yE_isi, yE_sitems, yE_get1, yA_nil, yA_cons, yO_none, yO_some, yT_andv, yT_orv, yT_notv, yT_one, yT_val, yC_nil, yC_cons, yI_itv, yI_rng1, yI_rng2, yI_zip, yI_enum, yI_items, yI_vals, yS_nil, yS_seq, yS_asg, yS_par, puts_nil, puts_cons, yS_exp, yS_ret, yS_retN, yS_ite, oN_c, oL_l, oK_d, cellAt_end, toD_lst, toD_dic, asNode_lst, asNode_dic, vw_cell, vws_nil, vws_cons, allD_nil, allD_cons, anyCell_nil, anyCell_d, anyCell_c, yS_app, yS_upd, yS_frz, oSet_l, oSet_d, yS_seti, yE_pop, k_nf, k_nt, k_nn, k_to, k_fo, k_ta, k_fa, k_it, k_if, k_tt, k_ft, k_Ta, k_aT, k_big, k_lc, k_ln, k_lm, o_eq, o_ne, o_lt, o_lts, o_le, o_gt, o_ge, o_is, o_isnt, o_in, o_notin, e_ss, e_ii, e_bb, e_nn, e_ns, e_sn, e_ni, e_in, i_n, i_s, i_i, i_b, i_t, i_l, i_bb, t_n, t_b, t_i, t_l, t_t, x_dic, x_dicI, x_tup, x_lst, at_0, at_1, at_2, at_3, d_in, d_inI, k_of, k_ofI, it_l, it_t, it_d, b_addI, b_subI, b_addL, b_addT, b_addS, b_mod, b_fdiv, b_mul, f_lenL, f_lenT, f_lenD, f_lenS, f_int, f_intB, f_tupL, f_tupT, f_lstL, f_lstT, f_dicD, f_dicL, f_dicT, f_sort, f_sortT, f_all, f_any, f_sum, in_strs, in_strsT, bind_none', Nat.reduceAdd, Nat.reduceSub, Nat.reduceLeDiff, Nat.reduceLT, List.replicate_zero, List.replicate_succ, List.map_cons, List.map_nil, List.cons_append, List.nil_append, envOf, Option.some.injEq, eq_self, and_self, if_true, if_false, List.filterMap_cons, List.filterMap_nil, List.getElem?_cons_succ, List.getElem?_cons_zero, evG_tl, e_dd, List.set_cons_zero, List.set_cons_succ, List.all_nil, yE_litems, yE_lrng, cell_zero, cell_succ, $xs,*] at $h:ident)
section
variable {rs : List TRow} {ws : List Pair} {vs : List Str}
theorem Plan.rooted (p : Plan rs ws vs) (t : Tree rs) : Rooted ws rs := by
  obtain ⟨a, rest, e⟩ := t.up.1
  exact t.rooted e (p.root _ (by rw [e]; rfl))
theorem Plan.sub (p : Plan rs ws vs) : ∀ q ∈ ws, q.1 ∈ rs.map (·.1) := fun q h => by
  obtain ⟨r, h1, h2, _⟩ := p.free q h
  exact List.mem_map.mpr ⟨r, h1, h2⟩
theorem Plan.ok (p : Plan rs ws vs) (hp : ∀ r ∈ rs, strOkD r.1 = true) (hv : ∀ v ∈ vs, strOkD v = true) : ∀ q ∈ ws, strOkD q.1 = true ∧ strOkD q.2 = true := fun q h => by
  obtain ⟨r, h1, h2, _⟩ := p.free q h
  exact ⟨h2 ▸ hp r h1, hv _ (p.val q h)⟩
theorem nodup_le : ∀ {l m : List Str}, l.Nodup → (∀ x ∈ l, x ∈ m) → l.length ≤ m.length
  | [], _, _, _ => Nat.zero_le _
  | a :: l, m, nd, h => by
    have nd' := List.nodup_cons.mp nd
    have am := h a List.mem_cons_self
    have := nodup_le (l := l) (m := m.erase a) nd'.2 (fun x hx => (List.mem_erase_of_ne (fun z => nd'.1 (by rw [← z]; exact hx))).mpr (h x (List.mem_cons_of_mem _ hx)))
    rw [List.length_erase_of_mem am] at this
    have h1 : 0 < m.length := List.length_pos_of_mem am
    rw [List.length_cons]; omega
theorem Plan.len (p : Plan rs ws vs) (hl : rs.length ≤ 40) : ws.length ≤ 40 := by
  have := nodup_le p.nd (m := rs.map (·.1)) (fun x hx => by
    obtain ⟨q, hq, rfl⟩ := List.mem_map.mp hx
    exact p.sub q hq)
  rw [List.length_map, List.length_map] at this
  omega
end
mutual
theorem eqD_refl : ∀ x : D, flat x = true → eqD x x = true
  | .non, _ => by simp [eqD]
  | .bl _, _ => by simp [eqD]
  | .int _, _ => by simp [eqD]
  | .str _, _ => by simp [eqD]
  | .lst xs, h => by simp only [eqD]; exact eqDs_refl xs (by simpa [flat] using h)
  | .tup xs, h => by simp only [eqD]; exact eqDs_refl xs (by simpa [flat] using h)
  | .dic _, h => by simp [flat] at h
  | .scr _, h => by simp [flat] at h
theorem eqDs_refl : ∀ xs : List D, flats xs = true → eqDs xs xs = true
  | [], _ => by simp [eqDs]
  | x :: xs, h => by
    simp only [flats, Bool.and_eq_true] at h
    simp only [eqDs, Bool.and_eq_true]
    exact ⟨eqD_refl x h.1, eqDs_refl xs h.2⟩
end
theorem eqC_refl {x : D} (h1 : flat x = true) (h2 : dep x ≤ 64) : eqC x x = some true := by
  have : okD x = true := by unfold okD; rw [h1]; simpa using h2
  rw [e_ok this this, eqD_refl x h1]
/-- data that is laid: what it is worth as tuples, and its measures -/
structure Laid (x : D) (y : D) : Prop where
  tup : tupF x = y
  flat : flat x = true
  dep : dep x ≤ 2
  wid : wid x ≤ 40
theorem Laid.lists {x : D} {y : D} (h : Laid x y) : Laid (listsF x) y :=
  ⟨(tup_lists x).trans h.tup, (flat_lists x).trans h.flat, by rw [dep_lists]; exact h.dep, by rw [wid_lists]; exact h.wid⟩
theorem laid_tree {rs : List TRow} (t : Tree rs) (hp : ∀ r ∈ rs, strOkD r.1 = true) (hl : rs.length ≤ 40) : Laid (.tup (rs.map rowD)) (.tup (rs.map rowD)) := by
  obtain ⟨a, b, c⟩ := rows_data t hp hl
  exact ⟨tup_rows rs, a, b, by omega⟩
theorem laid_pairs {ws : List Pair} (h : ∀ p ∈ ws, strOkD p.1 = true ∧ strOkD p.2 = true) (hl : ws.length ≤ 40) : Laid (.tup (ws.map pairD)) (.tup (ws.map pairD)) := by
  obtain ⟨a, b, c⟩ := pairs_data h hl
  exact ⟨tup_pairs ws, a, b, by omega⟩
theorem values_by_at {T : List Def} (hf : findDef T "tupled" = some d_tupled) (hp : findDef T "parents" = some d_parents) (hg : findDef T "values_by" = some d_values_by) {x y : D} {rs : List TRow} {ws : List Pair} {vs : List Str} (t : Tree rs) (hl : rs.length ≤ 40) (p : Plan rs ws vs)
    (hx : Laid x (.tup (rs.map rowD))) (hy : Laid y (.tup (ws.map pairD))) (k : Nat) : (orc T (k + 5)).p "values_by" [x, y] = some (.dic (pk (valsV ws rs)), false) := by
  have := p.len hl
  have a1 := hx.dep
  have a2 := hy.dep
  have a3 := hx.wid
  have a4 := hy.wid
  exact values_by_ok (k := k + 3) hf hp hg hx.tup (by omega) hx.flat (by unfold big; omega) (by omega) t.nodup hy.tup (by omega) hy.flat (by unfold big; omega) (by omega) p.nd (p.rooted t)
/-- the value of a folder, as a text -/
def valV (ws : List Pair) (rs : List TRow) (x : Str) : Str := (look x (valsV ws rs)).getD ⟨#[]⟩
theorem valV_some {ws : List Pair} {rs : List TRow} {vs : List Str} (t : Tree rs) (p : Plan rs ws vs) {r : TRow} (hr : r ∈ rs) : look r.1 (valsV ws rs) = some (valV ws rs r.1) ∧ valV ws rs r.1 ∈ vs := by
  obtain ⟨i, hi⟩ := List.mem_iff_getElem?.mp hr
  obtain ⟨v, vm, e⟩ := vals_strs t (p.rooted t) p.val i r hi
  unfold valV
  rw [e]
  exact ⟨rfl, vm⟩
theorem valsV_map {ws : List Pair} {rs : List TRow} (nd : (rs.map (·.1)).Nodup) : valsV ws rs = rs.map fun r => (r.1, valV ws rs r.1) := valsV_eq nd
end Rf

set_option Elab.async false
set_option linter.all false
set_option maxRecDepth 100000
set_option maxHeartbeats 4000000
/-! Plain mathematics of plans: values, lean plans. -/
namespace Rf
open PySem L2
theorem str_of_cps {x y : Str} (h : x.cps.toList = y.cps.toList) : x = y := by
  have hc : x.cps = y.cps := Array.toList_inj.mp h
  cases x; cases y
  simp only [Str.mk.injEq]
  exact hc
/-- the order of pairs -/
def leP (p q : Pair) : Bool := leD (pairD p) (pairD q)
theorem leP_trans (a b c : Pair) (h1 : leP a b = true) (h2 : leP b c = true) : leP a c = true := leD_trans _ _ _ h1 h2
theorem leP_total (a b : Pair) : (leP a b || leP b a) = true := leD_total _ _
theorem leP_anti (a b : Pair) (h1 : leP a b = true) (h2 : leP b a = true) : a = b := by
  unfold leP leD ltD PySem.W.dataLt at h1 h2
  rw [Bool.not_eq_true'] at h1 h2
  have := PyProof.Rows.lex_total _ _ h2 h1
  obtain ⟨a1, a2⟩ := a
  obtain ⟨b1, b2⟩ := b
  simp [pairD, toPy, toPys, PySem.W.keyToks, PySem.W.keyToksAll] at this
  rw [str_of_cps (Array.toList_inj.mpr this.1), str_of_cps (Array.toList_inj.mpr this.2)]
def sortP (us : List Pair) : List Pair := us.mergeSort leP
theorem sortP_perm (us : List Pair) : (sortP us).Perm us := List.mergeSort_perm us leP
theorem sortP_asc (us : List Pair) : (sortP us).Pairwise fun p q => leP p q = true := List.pairwise_mergeSort leP_trans leP_total us
theorem sortP_id {us : List Pair} (h : us.Pairwise fun p q => leP p q = true) : sortP us = us := List.mergeSort_of_pairwise h
theorem sortP_eq {us ws : List Pair} (p : us.Perm ws) : sortP us = sortP ws :=
  List.Perm.eq_of_pairwise (fun a b _ _ => leP_anti a b) (sortP_asc us) (sortP_asc ws) ((sortP_perm us).trans (p.trans (sortP_perm ws).symm))
theorem sort_pairD (us : List Pair) : (us.map pairD).mergeSort leD = (sortP us).map pairD := sort_map us
theorem nodup_of_names {us : List Pair} (h : (us.map (·.1)).Nodup) : us.Nodup := (List.pairwise_map.mp h).imp fun hne e => hne (by rw [e])
theorem look_iff {us : List Pair} (nd : (us.map (·.1)).Nodup) {x v : Str} : look x us = some v ↔ (x, v) ∈ us := ⟨look_mem, look_some nd⟩
/-- plans that say the same are the same -/
theorem asc_ext {us ws : List Pair} (n1 : (us.map (·.1)).Nodup) (n2 : (ws.map (·.1)).Nodup) (a1 : us.Pairwise fun p q => leP p q = true) (a2 : ws.Pairwise fun p q => leP p q = true) (h : ∀ x, look x us = look x ws) : us = ws := by
  refine List.Perm.eq_of_pairwise (fun a b _ _ => leP_anti a b) a1 a2 ((List.perm_ext_iff_of_nodup (nodup_of_names n1) (nodup_of_names n2)).mpr fun p => ?_)
  obtain ⟨x, v⟩ := p
  rw [← look_iff n1, ← look_iff n2, h]
theorem look_sort {us : List Pair} (nd : (us.map (·.1)).Nodup) (x : Str) : look x (sortP us) = look x us := (look_perm (sortP_perm us).symm nd).symm
/-! ### values -/
section
variable {rs : List TRow} {ws : List Pair}
/-- the parent, as a text -/
def parS (r : TRow) : Str := r.2.1.getD ⟨#[]⟩
theorem val_eq (t : Tree rs) (rt : Rooted ws rs) {r : TRow} (hr : r ∈ rs) : valV ws rs r.1 = match look r.1 ws with
    | some v => v
    | none => valV ws rs (parS r) := by
  obtain ⟨i, hi⟩ := List.mem_iff_getElem?.mp hr
  cases hw : look r.1 ws with
  | some v => unfold valV; rw [vals_written t.nodup hi hw]; rfl
  | none =>
    rcases rt i r hi with q | ⟨p, q1, q2⟩
    · rw [hw] at q; cases q
    · unfold valV
      rw [vals_above t.nodup hi hw q1 q2]
      unfold parS
      rw [q1]
      rfl
/-- what is so at the rows above and is handed down is so at all -/
theorem tree_ind (t : Tree rs) (P : TRow → Prop) (root : ∀ r, rs.head? = some r → r.2 = (none, false) → P r) (step : ∀ r q, r ∈ rs → q ∈ rs → r.2.1 = some q.1 → P q → P r) : ∀ r ∈ rs, P r := by
  have go : ∀ (i : Nat) (r : TRow), rs[i]? = some r → P r := by
    intro i
    induction i using Nat.strongRecOn with
    | _ i ih =>
      intro r hr
      obtain ⟨⟨a, rest, e⟩, up⟩ := t.up
      rcases up i r hr with rfl | ⟨p, q1, q2⟩
      · rw [e] at hr
        simp at hr
        subst hr
        exact root _ (by rw [e]; rfl) rfl
      · obtain ⟨q, qm, rfl⟩ := List.mem_map.mp q2
        obtain ⟨j, hj⟩ := List.mem_iff_getElem?.mp qm
        have hji : j < i := by
          have := (List.getElem?_eq_some_iff.mp hj).1
          rw [List.length_take] at this; omega
        have hj' : rs[j]? = some q := by rw [List.getElem?_take_of_lt hji] at hj; exact hj
        exact step r q (List.mem_of_getElem? hr) (List.mem_of_getElem? hj') q1 (ih j hji q hj')
  intro r hr
  obtain ⟨i, hi⟩ := List.mem_iff_getElem?.mp hr
  exact go i r hi
/-- the rows of which one is the root, the others have a parent -/
theorem row_cases (t : Tree rs) {r : TRow} (hr : r ∈ rs) : (rs.head? = some r ∧ r.2 = (none, false)) ∨ ∃ q ∈ rs, r.2.1 = some q.1 := by
  obtain ⟨i, hi⟩ := List.mem_iff_getElem?.mp hr
  obtain ⟨⟨a, rest, e⟩, up⟩ := t.up
  rcases up i r hi with rfl | ⟨p, q1, q2⟩
  · rw [e] at hi
    simp at hi
    subst hi
    exact .inl ⟨by rw [e]; rfl, rfl⟩
  · obtain ⟨q, qm, rfl⟩ := List.mem_map.mp q2
    exact .inr ⟨q, List.mem_of_mem_take qm, q1⟩
theorem row_of_name (t : Tree rs) {r q : TRow} (hr : r ∈ rs) (hq : q ∈ rs) (h : r.1 = q.1) : r = q := by
  have nd := t.nodup
  obtain ⟨i, hi⟩ := List.mem_iff_getElem?.mp hr
  obtain ⟨j, hj⟩ := List.mem_iff_getElem?.mp hq
  have h1 : (rs.map (·.1))[i]? = some r.1 := by rw [List.getElem?_map, hi]; rfl
  have h2 : (rs.map (·.1))[j]? = some r.1 := by rw [List.getElem?_map, hj, h]; rfl
  have hi' := (List.getElem?_eq_some_iff.mp h1).1
  have := (List.getElem?_inj hi' nd).mp (h1.trans h2.symm)
  rw [this, hj] at hi
  exact Option.some.inj hi.symm
theorem val_unique (t : Tree rs) {f g : Str → Str} (h : ∀ r ∈ rs, look r.1 ws = none → f r.1 = f (parS r) ∧ g r.1 = g (parS r)) (hw : ∀ r ∈ rs, ∀ v, look r.1 ws = some v → f r.1 = g r.1) (root : ∀ r, rs.head? = some r → look r.1 ws ≠ none) : ∀ r ∈ rs, f r.1 = g r.1 := by
  refine tree_ind t (fun r => f r.1 = g r.1) (fun r hr e => ?_) fun r q hr hq e ih => ?_
  · cases hl : look r.1 ws with
    | none => exact absurd hl (root r hr)
    | some v => exact hw r (List.mem_of_mem_head? hr) v hl
  · cases hl : look r.1 ws with
    | none =>
      obtain ⟨h1, h2⟩ := h r hr hl
      have e' : parS r = q.1 := by unfold parS; rw [e]; rfl
      rw [h1, h2, e', ih]
    | some v => exact hw r hr v hl
/-- a folder at which the value changes -/
def chg (f : Str → Str) (r : TRow) : Bool := match r.2.1 with
  | none => true
  | some q => f r.1 != f q
def leanL (rs : List TRow) (f : Str → Str) : List Pair := (rs.filter (chg f)).map fun r => (r.1, f r.1)
def leanF (rs : List TRow) (f : Str → Str) : List Pair := sortP (leanL rs f)
theorem leanL_nodup (t : Tree rs) (f : Str → Str) : ((leanL rs f).map (·.1)).Nodup := by
  unfold leanL
  rw [List.map_map]
  exact t.nodup.sublist ((List.filter_sublist).map _)
theorem look_leanL (t : Tree rs) (f : Str → Str) {r : TRow} (hr : r ∈ rs) : look r.1 (leanL rs f) = if chg f r = true then some (f r.1) else none := by
  by_cases h : chg f r = true
  · rw [if_pos h, look_iff (leanL_nodup t f)]
    exact List.mem_map.mpr ⟨r, List.mem_filter.mpr ⟨hr, h⟩, rfl⟩
  · rw [if_neg h]
    refine look_none fun z => h ?_
    obtain ⟨p, hp, e⟩ := List.mem_map.mp z
    obtain ⟨q, hq, rfl⟩ := List.mem_map.mp hp
    obtain ⟨q1, q2⟩ := List.mem_filter.mp hq
    rw [← row_of_name t q1 hr e]
    exact q2
theorem look_leanF (t : Tree rs) (f : Str → Str) {r : TRow} (hr : r ∈ rs) : look r.1 (leanF rs f) = if chg f r = true then some (f r.1) else none := by
  unfold leanF
  rw [look_sort (leanL_nodup t f), look_leanL t f hr]
theorem leanF_nodup (t : Tree rs) (f : Str → Str) : ((leanF rs f).map (·.1)).Nodup := ((sortP_perm _).map _).nodup_iff.mpr (leanL_nodup t f)
theorem leanF_congr {f g : Str → Str} (t : Tree rs) (h : ∀ r ∈ rs, f r.1 = g r.1) : leanF rs f = leanF rs g := by
  unfold leanF leanL
  congr 1
  have hc : rs.filter (chg f) = rs.filter (chg g) := List.filter_congr fun r hr => by
    unfold chg
    rcases row_cases t hr with ⟨_, e⟩ | ⟨q, hq, e⟩
    · rw [e]
    · rw [e]
      simp only []
      rw [h r hr, h q hq]
  rw [hc]
  exact List.map_congr_left fun r hr => by rw [h r (List.mem_filter.mp hr).1]
section
variable {vs : List Str}
theorem Plan.wr (p : Plan rs ws vs) (t : Tree rs) {r : TRow} (hr : rs.head? = some r) : look r.1 ws ≠ none := by
  have := look_isSome (p.root r hr)
  intro z
  rw [z] at this
  cases this
/-- a locked folder is not written -/
theorem Plan.lock (p : Plan rs ws vs) (t : Tree rs) {r : TRow} (hr : r ∈ rs) (h : r.2.2 = true) : look r.1 ws = none := by
  refine look_none fun z => ?_
  obtain ⟨q, hq, e⟩ := List.mem_map.mp z
  obtain ⟨r', h1, h2, h3⟩ := p.free q hq
  have : r' = r := row_of_name t h1 hr (h2.trans e)
  rw [this, h] at h3
  cases h3
/-- what changes is written -/
theorem Plan.chg_written (p : Plan rs ws vs) (t : Tree rs) {r : TRow} (hr : r ∈ rs) (h : chg (valV ws rs) r = true) : look r.1 ws = some (valV ws rs r.1) := by
  have e := val_eq t (p.rooted t) hr
  cases hw : look r.1 ws with
  | some v => rw [hw] at e; rw [e]
  | none =>
    rw [hw] at e
    rcases row_cases t hr with ⟨h1, _⟩ | ⟨q, hq, e2⟩
    · exact absurd hw (p.wr t h1)
    · unfold chg at h
      rw [e2] at h
      have : parS r = q.1 := by unfold parS; rw [e2]; rfl
      simp only [bne_iff_ne, ne_eq] at h
      exact absurd (e.trans (by rw [this])) h
theorem Plan.lean (p : Plan rs ws vs) (t : Tree rs) : Plan rs (leanF rs (valV ws rs)) vs := by
  refine ⟨leanF_nodup t _, fun r hr => ?_, fun q hq => ?_, fun q hq => ?_, sortP_asc _⟩
  · have hr' : r ∈ rs := List.mem_of_mem_head? hr
    have : chg (valV ws rs) r = true := by
      obtain ⟨a, rest, e⟩ := t.up.1
      rw [e] at hr
      cases hr
      rfl
    have h2 := look_leanF t (valV ws rs) hr'
    rw [if_pos this] at h2
    exact List.mem_map.mpr ⟨_, look_mem h2, rfl⟩
  · obtain ⟨r, hr, rfl⟩ := List.mem_map.mp ((sortP_perm _).mem_iff.mp hq)
    obtain ⟨h1, h2⟩ := List.mem_filter.mp hr
    refine ⟨r, h1, rfl, ?_⟩
    cases hl : r.2.2 with
    | false => rfl
    | true =>
      have := p.chg_written t h1 h2
      rw [p.lock t h1 hl] at this
      cases this
  · obtain ⟨r, hr, rfl⟩ := List.mem_map.mp ((sortP_perm _).mem_iff.mp hq)
    exact (valV_some t p (List.mem_filter.mp hr).1).2
/-- the lean plan gives the same values -/
theorem Plan.lean_val (p : Plan rs ws vs) (t : Tree rs) : ∀ r ∈ rs, valV (leanF rs (valV ws rs)) rs r.1 = valV ws rs r.1 := by
  have pl := p.lean t
  have hl : ∀ r ∈ rs, look r.1 (leanF rs (valV ws rs)) = if chg (valV ws rs) r = true then some (valV ws rs r.1) else none := fun r hr => look_leanF t _ hr
  refine val_unique (ws := leanF rs (valV ws rs)) t (fun r hr h => ?_) (fun r hr v h => ?_) fun r hr => pl.wr t hr
  · have e := val_eq t (pl.rooted t) hr
    rw [h] at e
    refine ⟨e, ?_⟩
    rw [hl r hr] at h
    split at h
    · cases h
    · rename_i hc
      unfold chg at hc
      unfold parS
      rcases row_cases t hr with ⟨_, e2⟩ | ⟨q, hq, e2⟩
      · rw [e2] at hc; exact absurd rfl hc
      · rw [e2] at hc ⊢
        simpa using hc
  · have e := val_eq t (pl.rooted t) hr
    rw [h] at e
    rw [e]
    rw [hl r hr] at h
    split at h
    · exact (Option.some.inj h).symm
    · cases h
/-- whether no setting is needless -/
def isLean (rs : List TRow) (ws : List Pair) : Bool := ws.all fun p => rs.all fun r => !(r.1 == p.1) || chg (valV ws rs) r
theorem Plan.lean_iff (p : Plan rs ws vs) (t : Tree rs) : isLean rs ws = true ↔ leanF rs (valV ws rs) = ws := by
  have pl := p.lean t
  constructor
  · intro h
    refine asc_ext pl.nd p.nd pl.asc p.asc fun x => ?_
    by_cases hx : x ∈ rs.map (·.1)
    · obtain ⟨r, hr, rfl⟩ := List.mem_map.mp hx
      rw [look_leanF t _ hr]
      by_cases hc : chg (valV ws rs) r = true
      · rw [if_pos hc, p.chg_written t hr hc]
      · rw [if_neg hc]
        refine (look_none fun z => hc ?_).symm
        obtain ⟨q, hq, e⟩ := List.mem_map.mp z
        have := List.all_eq_true.mp (List.all_eq_true.mp h q hq) r hr
        simpa [e] using this
    · rw [look_none (fun z => ?_), look_none (fun z => ?_)]
      · obtain ⟨q, hq, e⟩ := List.mem_map.mp z
        exact hx (e ▸ p.sub q hq)
      · obtain ⟨q, hq, e⟩ := List.mem_map.mp z
        exact hx (e ▸ pl.sub q hq)
  · intro h
    refine List.all_eq_true.mpr fun q hq => List.all_eq_true.mpr fun r hr => ?_
    by_cases e : r.1 = q.1
    · have h1 := look_leanF t (valV ws rs) hr
      rw [h, e, (look_iff p.nd (x := q.1) (v := q.2)).mpr hq] at h1
      split at h1
      · rename_i hc; rw [hc]; simp
      · cases h1
    · have : (r.1 == q.1) = false := by simpa using e
      rw [this]; rfl
/-- a plan without one of its settings -/
theorem Plan.without (p : Plan rs ws vs) (t : Tree rs) {q : Pair} (hq : q ∈ ws) (hr : ∀ r, rs.head? = some r → r.1 ≠ q.1) : Plan rs (ws.filter fun o => !(o == q)) vs := by
  refine ⟨p.nd.sublist ((List.filter_sublist).map _), fun r h => ?_, fun o ho => p.free o (List.mem_filter.mp ho).1, fun o ho => p.val o (List.mem_filter.mp ho).1, p.asc.sublist (List.filter_sublist)⟩
  obtain ⟨o, ho, e⟩ := List.mem_map.mp (p.root r h)
  refine List.mem_map.mpr ⟨o, List.mem_filter.mpr ⟨ho, ?_⟩, e⟩
  have : o ≠ q := fun z => hr r h (by rw [← e, z])
  simpa using this
theorem look_without (nd : (ws.map (·.1)).Nodup) {q : Pair} (hq : q ∈ ws) (x : Str) : look x (ws.filter fun o => !(o == q)) = if x = q.1 then none else look x ws := by
  by_cases h : x = q.1
  · rw [if_pos h]
    refine look_none fun z => ?_
    obtain ⟨o, ho, e⟩ := List.mem_map.mp z
    obtain ⟨h1, h2⟩ := List.mem_filter.mp ho
    have e1 : look q.1 ws = some o.2 := (look_iff nd).mpr (by rw [← h, ← e]; exact h1)
    have e2 : look q.1 ws = some q.2 := (look_iff nd).mpr hq
    rw [e1] at e2
    have : o = q := by
      obtain ⟨o1, o2⟩ := o
      obtain ⟨q1, q2⟩ := q
      simp only [Option.some.injEq] at e2
      simp only at e h
      rw [e2, e, h]
    rw [this] at h2
    simp at h2
  · rw [if_neg h]
    cases hl : look x ws with
    | none =>
      refine look_none fun z => ?_
      obtain ⟨o, ho, e⟩ := List.mem_map.mp z
      have := look_isSome (List.mem_map.mpr ⟨o, (List.mem_filter.mp ho).1, e⟩)
      rw [hl] at this
      cases this
    | some v =>
      refine (look_iff (nd.sublist ((List.filter_sublist).map _))).mpr (List.mem_filter.mpr ⟨look_mem hl, ?_⟩)
      have : (x, v) ≠ q := fun z => h (by rw [← z])
      simpa using this
/-- without a setting the values are the same exactly if it was needless -/
theorem Plan.without_iff (p : Plan rs ws vs) (t : Tree rs) {q : Pair} (hq : q ∈ ws) (hr : ∀ r, rs.head? = some r → r.1 ≠ q.1) {rq : TRow} (hrq : rq ∈ rs) (eq : rq.1 = q.1) :
    (∀ r ∈ rs, valV (ws.filter fun o => !(o == q)) rs r.1 = valV ws rs r.1) ↔ chg (valV ws rs) rq = false := by
  have pw := p.without t hq hr
  have lw := look_without p.nd hq
  rcases row_cases t hrq with ⟨h1, _⟩ | ⟨qq, hqq, e2⟩
  · exact absurd eq (hr rq h1)
  have ps : parS rq = qq.1 := by unfold parS; rw [e2]; rfl
  constructor
  · intro h
    have e := val_eq t (pw.rooted t) hrq
    rw [lw, if_pos eq] at e
    unfold chg
    rw [e2]
    have a1 := h rq hrq
    have a2 := h qq hqq
    simp only [bne_eq_false_iff_eq]
    rw [← a1, e]
    simp only [ps]
    exact a2
  · intro h
    unfold chg at h
    rw [e2] at h
    simp only [bne_eq_false_iff_eq] at h
    refine val_unique (ws := ws.filter fun o => !(o == q)) t (fun r hr' hl => ?_) (fun r hr' v hl => ?_) fun r hr' => pw.wr t hr'
    · have e := val_eq t (pw.rooted t) hr'
      rw [hl] at e
      refine ⟨e, ?_⟩
      rw [lw] at hl
      split at hl
      · rename_i h3
        have : r = rq := row_of_name t hr' hrq (h3.trans eq.symm)
        rw [this, ps]
        exact h
      · have e3 := val_eq t (p.rooted t) hr'
        rw [hl] at e3
        exact e3
    · have e := val_eq t (pw.rooted t) hr'
      rw [hl] at e
      rw [e]
      rw [lw] at hl
      split at hl
      · cases hl
      · have e3 := val_eq t (p.rooted t) hr'
        rw [hl] at e3
        exact e3.symm
end
end
end Rf

set_option Elab.async false
set_option linter.all false
set_option maxRecDepth 100000
set_option maxHeartbeats 4000000
/-! Walks of the helpers of plans. -/
namespace Rf
open PySem L2
local macro_rules | `(tactic| simp_arith) => `(tactic| simp -implicitDefEqProofs (maxSteps := 4000000) (failIfUnchanged := false) only [oP_some, oP_none, oD_d, wAt_zero, wAt_succ, putW_zero, putW_succ, map_some', wipe_nil, wipe_cons, set_zero, set_succ, vw_dd, evG_nm, evG_tp, evGs_nil, evGs_cons, some_bind', evGI_f, evGI_t, yE_slot, yE_cst, yE_glob, yE_dnil, yE_one, yE_tup, yE_lst, yE_ite, yE_andv, yE_orv, yE_orT, yE_notv, yE_cmp, yE_chain, yE_bin, yE_neg, yE_idx, yE_slc, yE_callP, yE_callK, yE_callM, yE_mk, yE_blt, yE_isi, yE_sitems, yE_get1, yA_nil, yA_cons, yO_none, yO_some, yT_andv, yT_orv, yT_notv, yT_one, yT_val, yC_nil, yC_cons, yI_itv, yI_rng1, yI_rng2, yI_zip, yI_enum, yI_items, yI_vals, yS_nil, yS_seq, yS_asg, yS_par, puts_nil, puts_cons, yS_exp, yS_ret, yS_retN, yS_ite, oN_c, oL_l, oK_d, cellAt_end, toD_lst, toD_dic, asNode_lst, asNode_dic, vw_cell, vws_nil, vws_cons, allD_nil, allD_cons, anyCell_nil, anyCell_d, anyCell_c, yS_app, yS_upd, yS_frz, oSet_l, oSet_d, yS_seti, yE_pop, k_nf, k_nt, k_nn, k_to, k_fo, k_ta, k_fa, k_it, k_if, k_tt, k_ft, k_Ta, k_aT, k_big, k_lc, k_ln, k_lm, o_eq, o_ne, o_lt, o_lts, o_le, o_gt, o_ge, o_is, o_isnt, o_in, o_notin, e_ss, e_ii, e_bb, e_nn, e_ns, e_sn, e_ni, e_in, i_n, i_s, i_i, i_b, i_t, i_l, i_bb, t_n, t_b, t_i, t_l, t_t, x_dic, x_dicI, x_tup, x_lst, at_0, at_1, at_2, at_3, d_in, d_inI, k_of, k_ofI, it_l, it_t, it_d, b_addI, b_subI, b_addL, b_addT, b_addS, b_mod, b_fdiv, b_mul, f_lenL, f_lenT, f_lenD, f_lenS, f_int, f_intB, f_tupL, f_tupT, f_lstL, f_lstT, f_dicD, f_dicL, f_dicT, f_sort, f_sortT, f_all, f_any, f_sum, in_strs, in_strsT, bind_none', Nat.reduceAdd, Nat.reduceSub, Nat.reduceLeDiff, Nat.reduceLT, List.replicate_zero, List.replicate_succ, List.map_cons, List.map_nil, List.cons_append, List.nil_append, envOf, Option.some.injEq, eq_self, and_self, if_true, if_false, List.filterMap_cons, List.filterMap_nil, List.getElem?_cons_succ, List.getElem?_cons_zero, evG_tl, e_dd, List.set_cons_zero, List.set_cons_succ, List.all_nil, yE_litems, yE_lrng, cell_zero, cell_succ])
local macro_rules | `(tactic| simp_arith [$xs,*]) => `(tactic| simp -implicitDefEqProofs (maxSteps := 4000000) (failIfUnchanged := false) only [oP_some, oP_none, oD_d, wAt_zero, wAt_succ, putW_zero, putW_succ, map_some', wipe_nil, wipe_cons, set_zero, set_succ, vw_dd, evG_nm, evG_tp, evGs_nil, evGs_cons, some_bind', evGI_f, evGI_t, yE_slot, yE_cst, yE_glob, yE_dnil, yE_one, yE_tup, yE_lst, yE_ite, yE_andv, yE_orv, yE_orT, yE_notv, yE_cmp, yE_chain, yE_bin, yE_neg, yE_idx, yE_slc, yE_callP, yE_callK, yE_callM, yE_mk, yE_blt, yE_isi, yE_sitems, yE_get1, yA_nil, yA_cons, yO_none, yO_some, yT_andv, yT_orv, yT_notv, yT_one, yT_val, yC_nil, yC_cons, yI_itv, yI_rng1, yI_rng2, yI_zip, yI_enum, yI_items, yI_vals, yS_nil, yS_seq, yS_asg, yS_par, puts_nil, puts_cons, yS_exp, yS_ret, yS_retN, yS_ite, oN_c, oL_l, oK_d, cellAt_end, toD_lst, toD_dic, asNode_lst, asNode_dic, vw_cell, vws_nil, vws_cons, allD_nil, allD_cons, anyCell_nil, anyCell_d, anyCell_c, yS_app, yS_upd, yS_frz, oSet_l, oSet_d, yS_seti, yE_pop, k_nf, k_nt, k_nn, k_to, k_fo, k_ta, k_fa, k_it, k_if, k_tt, k_ft, k_Ta, k_aT, k_big, k_lc, k_ln, k_lm, o_eq, o_ne, o_lt, o_lts, o_le, o_gt, o_ge, o_is, o_isnt, o_in, o_notin, e_ss, e_ii, e_bb, e_nn, e_ns, e_sn, e_ni, e_in, i_n, i_s, i_i, i_b, i_t, i_l, i_bb, t_n, t_b, t_i, t_l, t_t, x_dic, x_dicI, x_tup, x_lst, at_0, at_1, at_2, at_3, d_in, d_inI, k_of, k_ofI, it_l, it_t, it_d, b_addI, b_subI, b_addL, b_addT, b_addS, b_mod, b_fdiv, b_mul, f_lenL, f_lenT, f_lenD, f_lenS, f_int, f_intB, f_tupL, f_tupT, f_lstL, f_lstT, f_dicD, f_dicL, f_dicT, f_sort, f_sortT, f_all, f_any, f_sum, in_strs, in_strsT, bind_none', Nat.reduceAdd, Nat.reduceSub, Nat.reduceLeDiff, Nat.reduceLT, List.replicate_zero, List.replicate_succ, List.map_cons, List.map_nil, List.cons_append, List.nil_append, envOf, Option.some.injEq, eq_self, and_self, if_true, if_false, List.filterMap_cons, List.filterMap_nil, List.getElem?_cons_succ, List.getElem?_cons_zero, evG_tl, e_dd, List.set_cons_zero, List.set_cons_succ, List.all_nil, yE_litems, yE_lrng, cell_zero, cell_succ, $xs,*])
local macro_rules | `(tactic| simp_arith [$xs,*] at $h:ident) => `(tactic| simp -implicitDefEqProofs (maxSteps := 4000000) (failIfUnchanged := false) only [oP_some, oP_none, oD_d, wAt_zero, wAt_succ, putW_zero, putW_succ, map_some', wipe_nil, wipe_cons, set_zero, set_succ, vw_dd, evG_nm, evG_tp, evGs_nil, evGs_cons, some_bind', evGI_f, evGI_t, yE_slot, yE_cst, yE_glob, yE_dnil, yE_one, yE_tup, yE_lst, yE_ite, yE_andv, yE_orv, yE_orT, yE_notv, yE_cmp, yE_chain, yE_bin, yE_neg, yE_idx, yE_slc, yE_callP, yE_callK, yE_callM, yE_mk, yE_blt, yE_isi, yE_sitems, yE_get1, yA_nil, yA_cons, yO_none, yO_some, yT_andv, yT_orv, yT_notv, yT_one, yT_val, yC_nil, yC_cons, yI_itv, yI_rng1, yI_rng2, yI_zip, yI_enum, yI_items, yI_vals, yS_nil, yS_seq, yS_asg, yS_par, puts_nil, puts_cons, yS_exp, yS_ret, yS_retN, yS_ite, oN_c, oL_l, oK_d, cellAt_end, toD_lst, toD_dic, asNode_lst, asNode_dic, vw_cell, vws_nil, vws_cons, allD_nil, allD_cons, anyCell_nil, anyCell_d, anyCell_c, yS_app, yS_upd, yS_frz, oSet_l, oSet_d, yS_seti, yE_pop, k_nf, k_nt, k_nn, k_to, k_fo, k_ta, k_fa, k_it, k_if, k_tt, k_ft, k_Ta, k_aT, k_big, k_lc, k_ln, k_lm, o_eq, o_ne, o_lt, o_lts, o_le, o_gt, o_ge, o_is, o_isnt, o_in, o_notin, e_ss, e_ii, e_bb, e_nn, e_ns, e_sn, e_ni, e_in, i_n, i_s, i_i, i_b, i_t, i_l, i_bb, t_n, t_b, t_i, t_l, t_t, x_dic, x_dicI, x_tup, x_lst, at_0, at_1, at_2, at_3, d_in, d_inI, k_of, k_ofI, it_l, it_t, it_d, b_addI, b_subI, b_addL, b_addT, b_addS, b_mod, b_fdiv, b_mul, f_lenL, f_lenT, f_lenD, f_lenS, f_int, f_intB, f_tupL, f_tupT, f_lstL, f_lstT, f_dicD, f_dicL, f_dicT, f_sort, f_sortT, f_all, f_any, f_sum, in_strs, in_strsT, bind_none', Nat.reduceAdd, Nat.reduceSub, Nat.reduceLeDiff, Nat.reduceLT, List.replicate_zero, List.replicate_succ, List.map_cons, List.map_nil, List.cons_append, List.nil_append, envOf, Option.some.injEq, eq_self, and_self, if_true, if_false, List.filterMap_cons, List.filterMap_nil, List.getElem?_cons_succ, List.getElem?_cons_zero, evG_tl, e_dd, List.set_cons_zero, List.set_cons_succ, List.all_nil, yE_litems, yE_lrng, cell_zero, cell_succ, $xs,*] at $h:ident)
theorem pEq {o : Orc} {f : Str} {xs : List D} {a : Res} (h : oP (o.p f xs) fun r => r = a) : o.p f xs = some a := by
  obtain ⟨r, e, rfl⟩ := h.get
  exact e
theorem optD_none {o : Option Str} (h : optD o = .non) : o = none := by cases o <;> first | rfl | cases h
section
variable {T : List Def} {rs : List TRow} {ws : List Pair} {vs : List Str} {k : Nat}
theorem get_vals (t : Tree rs) (p : Plan rs ws vs) {r : TRow} (hr : r ∈ rs) : getK (.inr r.1) (pk (valsV ws rs)) = some (.str (valV ws rs r.1)) := by
  rw [look_getK, (valV_some t p hr).1]; rfl
theorem merg_pk {us : List Pair} (nd : (us.map (·.1)).Nodup) : mergK [] (pk us) = pk us := by
  rw [mergK_new _ _ (by rw [List.nil_append, pk_names]; exact nodup_inr nd)]; rfl
theorem pk_len (us : List Pair) : (pk us).length = us.length := by unfold pk; rw [List.length_map]
theorem vals_len (ws : List Pair) (rs : List TRow) : (valsV ws rs).length = rs.length := by
  have := congrArg List.length (valsV_names ws rs)
  rwa [List.length_map, List.length_map] at this
theorem given_at (hg : findDef T "_law_given" = some d_law_given) (t : Tree rs) (hl : rs.length ≤ 40) (rt : Rooted ws rs) (nd : (ws.map (·.1)).Nodup) (hwl : ws.length ≤ 40) {x : D} (hx : x = .tup (ws.map pairD) ∨ x = .lst (ws.map pairD)) :
    (orc T (k + 1)).p "_law_given" [.tup (rs.map rowD), x] = some (.dic (pk (valsV ws rs)), false) := by
  refine pEq (pCall (d := d_law_given) hg rfl ?_)
  have hx' : ∀ Q : Res → Prop, oP (evB .dict [x]) Q = Q (.dic (pk ws), true) := fun Q => by
    rcases hx with rfl | rfl
    · simp_arith [pairsOf_map, merg_pk nd, pk_len]
      exact propext ⟨fun q => q.2, fun q => ⟨by omega, q⟩⟩
    · simp_arith [pairsOf_map, merg_pk nd, pk_len]
      exact propext ⟨fun q => q.2, fun q => ⟨by omega, q⟩⟩
  simp_arith [d_law_given, hx']
  refine yS_for (I := fun i ρ M => ∃ s4 s5 s6 : Option W, ρ = [some (.d (.tup (rs.map rowD))), some (.d x), some (.d (.dic (pk ws))), some (.cell 0), s4, s5, s6] ∧ M = [some (.dic (pk (valsV ws (rs.take i))))]) ?_
  simp_arith
  refine ⟨⟨none, none, none, rfl, rfl⟩, ?_, ?_⟩
  · rintro i y ρ M hy ⟨s4, s5, s6, rfl, rfl⟩
    rw [List.getElem?_map] at hy
    obtain ⟨r, hr, rfl⟩ := Option.map_eq_some_iff.mp hy
    have tk : rs.take (i + 1) = rs.take i ++ [r] := by rw [List.take_succ, hr]; rfl
    have nn : r.1 ∉ (valsV ws (rs.take i)).map (·.1) := by
      rw [valsV_names]
      intro w
      have nd2 : ((rs.take (i + 1)).map (·.1)).Nodup := t.nodup.sublist ((List.take_sublist _ _).map _)
      rw [tk, List.map_append, List.nodup_append] at nd2
      exact nd2.2.2 r.1 w r.1 (by simp) rfl
    have hk : (Sum.inr r.1 : Key) ∉ (pk (valsV ws (rs.take i))).map (·.1) := by
      rw [pk_names]
      intro z
      obtain ⟨a, h1, h2⟩ := List.mem_map.mp z
      cases h2
      exact nn h1
    have lb : (pk (valsV ws (rs.take i))).length ≤ 65536 := by
      rw [pk_len, vals_len, List.length_take]; omega
    have g1 := look_getK r.1 ws
    have c0 : ∀ nd : Node, cellAt [some nd] 0 = some nd := fun _ => rfl
    simp_arith [rowD]
    cases hw : look r.1 ws with
    | some v =>
      rw [hw] at g1
      have st : stepV ws (valsV ws (rs.take i)) r = valsV ws (rs.take i) ++ [(r.1, v)] := by unfold stepV; rw [hw]
      simp_arith [g1, Option.map_some, Option.isSome_some, c0]
      refine ⟨lb, _, _, _, rfl, ?_⟩
      rw [setK_new hk, tk, valsV_snoc, st, pk_snoc]
      all_goals rfl
    | none =>
      rw [hw] at g1
      rcases rt i r hr with q | ⟨p, q1, q2⟩
      · rw [hw] at q; cases q
      · obtain ⟨v, hv⟩ := Option.isSome_iff_exists.mp (look_isSome (x := p) (us := valsV ws (rs.take i)) (by rw [valsV_names]; exact q2))
        have g2 := look_getK p (valsV ws (rs.take i))
        rw [hv] at g2
        have st : stepV ws (valsV ws (rs.take i)) r = valsV ws (rs.take i) ++ [(r.1, v)] := by unfold stepV; rw [hw, q1]; simp only [hv]; rfl
        simp_arith [g1, Option.map_none, Option.isSome_none, c0, q1, optD, g2, Option.map_some]
        refine ⟨lb, _, _, _, rfl, ?_⟩
        rw [setK_new hk, tk, valsV_snoc, st, pk_snoc]
        all_goals rfl
  · rintro ρ M ⟨s4, s5, s6, rfl, rfl⟩
    have c0 : ∀ nd : Node, cellAt [some nd] 0 = some nd := fun _ => rfl
    simp_arith [c0, List.take_length]
theorem keys_rows (rs : List TRow) : (rs.map pkRow).map (fun p => ofKey p.1) = rs.map fun r => .str r.1 := by
  rw [List.map_map]; rfl
theorem parents_at (hf : findDef T "tupled" = some d_tupled) (hp : findDef T "parents" = some d_parents) (t : Tree rs) (hl : rs.length ≤ 40) {x : D} (hx : Laid x (.tup (rs.map rowD))) : (orc T (k + 4)).p "parents" [x] = some (.dic (rs.map pkRow), true) := by
  have a1 := hx.dep
  have a3 := hx.wid
  exact parents_ok (k := k + 3) hf hp hx.tup (by omega) hx.flat (by unfold big; omega) (by omega) t.nodup
theorem okV (t : Tree rs) (hp : ∀ r ∈ rs, strOkD r.1 = true) (p : Plan rs ws vs) (hv : ∀ v ∈ vs, strOkD v = true) (f : TRow → Bool) : ∀ q ∈ (rs.filter f).map (fun r => (r.1, valV ws rs r.1)), strOkD q.1 = true ∧ strOkD q.2 = true := fun q hq => by
  obtain ⟨r, hr, rfl⟩ := List.mem_map.mp hq
  have hr := (List.mem_filter.mp hr).1
  exact ⟨hp r hr, hv _ (valV_some t p hr).2⟩
theorem sortD_pairs {us : List Pair} (h : ∀ p ∈ us, strOkD p.1 = true ∧ strOkD p.2 = true) (hl : us.length ≤ 65536) : sortD (us.map pairD) = some ((sortP us).map pairD) := by
  rw [sort_pairs h hl, sort_pairD]
theorem lean_of_at (hf : findDef T "tupled" = some d_tupled) (hp : findDef T "parents" = some d_parents) (hg : findDef T "lean_of" = some d_lean_of) (t : Tree rs) (hl : rs.length ≤ 40) (hn : ∀ r ∈ rs, strOkD r.1 = true) (p : Plan rs ws vs) (hv : ∀ v ∈ vs, strOkD v = true) {x : D} (hx : Laid x (.tup (rs.map rowD))) :
    (orc T (k + 5)).p "lean_of" [x, .dic (pk (valsV ws rs))] = some (.tup ((leanF rs (valV ws rs)).map pairD), false) := by
  refine pEq (pCall (d := d_lean_of) hg rfl ?_)
  have e := parents_at (k := k) hf hp t hl hx
  simp_arith [d_lean_of, e]
  refine yE_lc rs (fun r => .str r.1) (chg (valV ws rs)) (fun r => .str r.1) ?_
  simp_arith [keys_rows]
  refine ⟨by omega, fun r hr => ?_, ?_⟩
  · have g1 := pkRow_get t.nodup hr
    have g2 := get_vals t p hr
    simp_arith [g1]
    rcases row_cases t hr with ⟨_, h2⟩ | ⟨q, hq, h2⟩
    · have h3 : r.2.1 = none := by rw [h2]
      simp_arith [h3, optD, chg]
      exact fun _ => trivial
    · have g3 := get_vals t p hq
      simp_arith [h2, optD, chg, g2, g3, bne]
      cases valV ws rs r.1 == valV ws rs q.1 <;> simp
  refine yE_lm (rs.filter (chg (valV ws rs))) (fun r => .str r.1) (fun r => pairD (r.1, valV ws rs r.1)) ?_
  simp_arith
  have ll : (rs.filter (chg (valV ws rs))).length ≤ rs.length := List.length_filter_le ..
  refine ⟨by omega, fun r hr => ?_, ?_⟩
  · simp_arith [get_vals t p (List.mem_filter.mp hr).1, pairD]
  have hs := sortD_pairs (okV t hn p hv (chg (valV ws rs))) (by rw [List.length_map]; omega)
  have e2 : (rs.filter (chg (valV ws rs))).map (fun r => pairD (r.1, valV ws rs r.1)) = ((rs.filter (chg (valV ws rs))).map fun r => (r.1, valV ws rs r.1)).map pairD := by rw [List.map_map]; rfl
  simp_arith [e2, hs]
  rfl
end
end Rf

set_option Elab.async false
set_option linter.all false
set_option maxRecDepth 100000
set_option maxHeartbeats 4000000
namespace Rf
open PySem L2
local macro_rules | `(tactic| simp_arith) => `(tactic| simp -implicitDefEqProofs (maxSteps := 4000000) (failIfUnchanged := false) only [oP_some, oP_none, oD_d, wAt_zero, wAt_succ, putW_zero, putW_succ, map_some', wipe_nil, wipe_cons, set_zero, set_succ, vw_dd, evG_nm, evG_tp, evGs_nil, evGs_cons, some_bind', evGI_f, evGI_t, yE_slot, yE_cst, yE_glob, yE_dnil, yE_one, yE_tup, yE_lst, yE_ite, yE_andv, yE_orv, yE_orT, yE_notv, yE_cmp, yE_chain, yE_bin, yE_neg, yE_idx, yE_slc, yE_callP, yE_callK, yE_callM, yE_mk, yE_blt, yE_isi, yE_sitems, yE_get1, yA_nil, yA_cons, yO_none, yO_some, yT_andv, yT_orv, yT_notv, yT_one, yT_val, yC_nil, yC_cons, yI_itv, yI_rng1, yI_rng2, yI_zip, yI_enum, yI_items, yI_vals, yS_nil, yS_seq, yS_asg, yS_par, puts_nil, puts_cons, yS_exp, yS_ret, yS_retN, yS_ite, oN_c, oL_l, oK_d, cellAt_end, toD_lst, toD_dic, asNode_lst, asNode_dic, vw_cell, vws_nil, vws_cons, allD_nil, allD_cons, anyCell_nil, anyCell_d, anyCell_c, yS_app, yS_upd, yS_frz, oSet_l, oSet_d, yS_seti, yE_pop, k_nf, k_nt, k_nn, k_to, k_fo, k_ta, k_fa, k_it, k_if, k_tt, k_ft, k_Ta, k_aT, k_big, k_lc, k_ln, k_lm, o_eq, o_ne, o_lt, o_lts, o_le, o_gt, o_ge, o_is, o_isnt, o_in, o_notin, e_ss, e_ii, e_bb, e_nn, e_ns, e_sn, e_ni, e_in, i_n, i_s, i_i, i_b, i_t, i_l, i_bb, t_n, t_b, t_i, t_l, t_t, x_dic, x_dicI, x_tup, x_lst, at_0, at_1, at_2, at_3, d_in, d_inI, k_of, k_ofI, it_l, it_t, it_d, b_addI, b_subI, b_addL, b_addT, b_addS, b_mod, b_fdiv, b_mul, f_lenL, f_lenT, f_lenD, f_lenS, f_int, f_intB, f_tupL, f_tupT, f_lstL, f_lstT, f_dicD, f_dicL, f_dicT, f_sort, f_sortT, f_all, f_any, f_sum, in_strs, in_strsT, bind_none', Nat.reduceAdd, Nat.reduceSub, Nat.reduceLeDiff, Nat.reduceLT, List.replicate_zero, List.replicate_succ, List.map_cons, List.map_nil, List.cons_append, List.nil_append, envOf, Option.some.injEq, eq_self, and_self, if_true, if_false, List.filterMap_cons, List.filterMap_nil, List.getElem?_cons_succ, List.getElem?_cons_zero, evG_tl, e_dd, List.set_cons_zero, List.set_cons_succ, List.all_nil, yE_litems, yE_lrng, cell_zero, cell_succ])
local macro_rules | `(tactic| simp_arith [$xs,*]) => `(tactic| simp -implicitDefEqProofs (maxSteps := 4000000) (failIfUnchanged := false) only [oP_some, oP_none, oD_d, wAt_zero, wAt_succ, putW_zero, putW_succ, map_some', wipe_nil, wipe_cons, set_zero, set_succ, vw_dd, evG_nm, evG_tp, evGs_nil, evGs_cons, some_bind', evGI_f, evGI_t, yE_slot, yE_cst, yE_glob, yE_dnil, yE_one, yE_tup, yE_lst, yE_ite, yE_andv, yE_orv, yE_orT, yE_notv, yE_cmp, yE_chain, yE_bin, yE_neg, yE_idx, yE_slc, yE_callP, yE_callK, yE_callM, yE_mk, yE_blt, yE_isi, yE_sitems, yE_get1, yA_nil, yA_cons, yO_none, yO_some, yT_andv, yT_orv, yT_notv, yT_one, yT_val, yC_nil, yC_cons, yI_itv, yI_rng1, yI_rng2, yI_zip, yI_enum, yI_items, yI_vals, yS_nil, yS_seq, yS_asg, yS_par, puts_nil, puts_cons, yS_exp, yS_ret, yS_retN, yS_ite, oN_c, oL_l, oK_d, cellAt_end, toD_lst, toD_dic, asNode_lst, asNode_dic, vw_cell, vws_nil, vws_cons, allD_nil, allD_cons, anyCell_nil, anyCell_d, anyCell_c, yS_app, yS_upd, yS_frz, oSet_l, oSet_d, yS_seti, yE_pop, k_nf, k_nt, k_nn, k_to, k_fo, k_ta, k_fa, k_it, k_if, k_tt, k_ft, k_Ta, k_aT, k_big, k_lc, k_ln, k_lm, o_eq, o_ne, o_lt, o_lts, o_le, o_gt, o_ge, o_is, o_isnt, o_in, o_notin, e_ss, e_ii, e_bb, e_nn, e_ns, e_sn, e_ni, e_in, i_n, i_s, i_i, i_b, i_t, i_l, i_bb, t_n, t_b, t_i, t_l, t_t, x_dic, x_dicI, x_tup, x_lst, at_0, at_1, at_2, at_3, d_in, d_inI, k_of, k_ofI, it_l, it_t, it_d, b_addI, b_subI, b_addL, b_addT, b_addS, b_mod, b_fdiv, b_mul, f_lenL, f_lenT, f_lenD, f_lenS, f_int, f_intB, f_tupL, f_tupT, f_lstL, f_lstT, f_dicD, f_dicL, f_dicT, f_sort, f_sortT, f_all, f_any, f_sum, in_strs, in_strsT, bind_none', Nat.reduceAdd, Nat.reduceSub, Nat.reduceLeDiff, Nat.reduceLT, List.replicate_zero, List.replicate_succ, List.map_cons, List.map_nil, List.cons_append, List.nil_append, envOf, Option.some.injEq, eq_self, and_self, if_true, if_false, List.filterMap_cons, List.filterMap_nil, List.getElem?_cons_succ, List.getElem?_cons_zero, evG_tl, e_dd, List.set_cons_zero, List.set_cons_succ, List.all_nil, yE_litems, yE_lrng, cell_zero, cell_succ, $xs,*])
local macro_rules | `(tactic| simp_arith [$xs,*] at $h:ident) => `(tactic| simp -implicitDefEqProofs (maxSteps := 4000000) (failIfUnchanged := false) only [oP_some, oP_none, oD_d, wAt_zero, wAt_succ, putW_zero, putW_succ, map_some', wipe_nil, wipe_cons, set_zero, set_succ, vw_dd, evG_nm, evG_tp, evGs_nil, evGs_cons, some_bind', evGI_f, evGI_t, yE_slot, yE_cst, yE_glob, yE_dnil, yE_one, yE_tup, yE_lst, yE_ite, yE_andv, yE_orv, yE_orT, yE_notv, yE_cmp, yE_chain, yE_bin, yE_neg, yE_idx, yE_slc, yE_callP, yE_callK, yE_callM, yE_mk, yE_blt, yE_isi, yE_sitems, yE_get1, yA_nil, yA_cons, yO_none, yO_some, yT_andv, yT_orv, yT_notv, yT_one, yT_val, yC_nil, yC_cons, yI_itv, yI_rng1, yI_rng2, yI_zip, yI_enum, yI_items, yI_vals, yS_nil, yS_seq, yS_asg, yS_par, puts_nil, puts_cons, yS_exp, yS_ret, yS_retN, yS_ite, oN_c, oL_l, oK_d, cellAt_end, toD_lst, toD_dic, asNode_lst, asNode_dic, vw_cell, vws_nil, vws_cons, allD_nil, allD_cons, anyCell_nil, anyCell_d, anyCell_c, yS_app, yS_upd, yS_frz, oSet_l, oSet_d, yS_seti, yE_pop, k_nf, k_nt, k_nn, k_to, k_fo, k_ta, k_fa, k_it, k_if, k_tt, k_ft, k_Ta, k_aT, k_big, k_lc, k_ln, k_lm, o_eq, o_ne, o_lt, o_lts, o_le, o_gt, o_ge, o_is, o_isnt, o_in, o_notin, e_ss, e_ii, e_bb, e_nn, e_ns, e_sn, e_ni, e_in, i_n, i_s, i_i, i_b, i_t, i_l, i_bb, t_n, t_b, t_i, t_l, t_t, x_dic, x_dicI, x_tup, x_lst, at_0, at_1, at_2, at_3, d_in, d_inI, k_of, k_ofI, it_l, it_t, it_d, b_addI, b_subI, b_addL, b_addT, b_addS, b_mod, b_fdiv, b_mul, f_lenL, f_lenT, f_lenD, f_lenS, f_int, f_intB, f_tupL, f_tupT, f_lstL, f_lstT, f_dicD, f_dicL, f_dicT, f_sort, f_sortT, f_all, f_any, f_sum, in_strs, in_strsT, bind_none', Nat.reduceAdd, Nat.reduceSub, Nat.reduceLeDiff, Nat.reduceLT, List.replicate_zero, List.replicate_succ, List.map_cons, List.map_nil, List.cons_append, List.nil_append, envOf, Option.some.injEq, eq_self, and_self, if_true, if_false, List.filterMap_cons, List.filterMap_nil, List.getElem?_cons_succ, List.getElem?_cons_zero, evG_tl, e_dd, List.set_cons_zero, List.set_cons_succ, List.all_nil, yE_litems, yE_lrng, cell_zero, cell_succ, $xs,*] at $h:ident)
theorem eqC_pair {p q : Pair} (h1 : strOkD p.1 = true ∧ strOkD p.2 = true) (h2 : strOkD q.1 = true ∧ strOkD q.2 = true) : eqC (pairD p) (pairD q) = some (p == q) := by
  rw [e_ok (okD_pair h1.1 h1.2) (okD_pair h2.1 h2.2)]
  simp [pairD, eqD, eqDs]
  rfl
theorem eqDs_pairs : ∀ {us ws : List Pair}, eqDs (us.map pairD) (ws.map pairD) = (us == ws)
  | [], [] => by simp [eqDs]
  | [], w :: ws => by simp [eqDs]
  | u :: us, [] => by simp [eqDs]
  | u :: us, w :: ws => by
    rw [List.map_cons, List.map_cons, eqDs, eqDs_pairs]
    obtain ⟨u1, u2⟩ := u
    obtain ⟨w1, w2⟩ := w
    simp [pairD, eqD, eqDs]
    rfl
theorem okD_pairs {us : List Pair} (h : ∀ p ∈ us, strOkD p.1 = true ∧ strOkD p.2 = true) : okD (.tup (us.map pairD)) = true ∧ okD (.lst (us.map pairD)) = true := by
  have f : flats (us.map pairD) = true := flats_map pairD fun p hp => by simp [pairD, flat, flats, h p hp]
  have d := deps_map pairD (n := 1) (l := us) fun p _ => by simp [pairD, dep, deps]
  have h : deps (us.map pairD) + 1 ≤ 64 := by omega
  constructor
  · simp [okD, flat, f, dep, h]
  · simp [okD, flat, f, dep, h]
theorem eqC_pairs {us ws : List Pair} (h1 : ∀ p ∈ us, strOkD p.1 = true ∧ strOkD p.2 = true) (h2 : ∀ p ∈ ws, strOkD p.1 = true ∧ strOkD p.2 = true) : eqC (.tup (us.map pairD)) (.tup (ws.map pairD)) = some (us == ws) := by
  rw [e_ok (okD_pairs h1).1 (okD_pairs h2).1, eqD, eqDs_pairs]
theorem eqC_pairsL {us ws : List Pair} (h1 : ∀ p ∈ us, strOkD p.1 = true ∧ strOkD p.2 = true) (h2 : ∀ p ∈ ws, strOkD p.1 = true ∧ strOkD p.2 = true) : eqC (.lst (us.map pairD)) (.lst (ws.map pairD)) = some (us == ws) := by
  rw [e_ok (okD_pairs h1).2 (okD_pairs h2).2, eqD, eqDs_pairs]
theorem hits_pk (us : List Pair) : ∀ ws : List Pair, hitsD (pk us) (pk ws) = some (ws.all fun p => look p.1 us == some p.2)
  | [] => rfl
  | p :: ws => by
    show hitsD (pk us) ((.inr p.1, .str p.2) :: pk ws) = _
    rw [hitsD, look_getK, hits_pk us ws, List.all_cons]
    cases look p.1 us with
    | none => rfl
    | some v =>
      show (if scalD (D.str p.2) (D.str v) = true then _ else none) = _
      rw [if_pos (by simp [scalD])]
      show some (eqD (D.str p.2) (D.str v) && _) = some ((some v == some p.2) && _)
      rw [eqD]
      have : (p.2 == v) = (some v == some p.2) := by
        by_cases h : p.2 = v
        · subst h; simp
        · have h1 : (p.2 == v) = false := by simpa using h
          have h2 : (some v == some p.2) = false := by simpa using fun z => h z.symm
          rw [h1, h2]
      rw [this]
section
variable {T : List Def} {rs : List TRow} {ws us : List Pair} {vs : List Str} {k : Nat}
theorem eqC_vals (t : Tree rs) (p : Plan rs ws vs) (p' : Plan rs us vs) : eqC (.dic (pk (valsV us rs))) (.dic (pk (valsV ws rs))) = some (rs.all fun r => valV us rs r.1 == valV ws rs r.1) := by
  rw [e_dd, hits_pk, pk_len, pk_len, vals_len, vals_len]
  show some (rs.length == rs.length && _) = _
  rw [beq_self_eq_true, Bool.true_and, valsV_map (ws := us) t.nodup, List.all_map]
  congr 1
  rw [Bool.eq_iff_iff, List.all_eq_true, List.all_eq_true]
  constructor
  · intro h r hr
    have := h r hr
    simp only [Function.comp, (valV_some t p hr).1] at this
    simpa using (beq_iff_eq.mp this).symm
  · intro h r hr
    have := h r hr
    simp only [Function.comp, (valV_some t p hr).1]
    simpa using (beq_iff_eq.mp this).symm
structure HasL (T : List Def) : Prop where
  tupled : findDef T "tupled" = some d_tupled
  parents : findDef T "parents" = some d_parents
  values_by : findDef T "values_by" = some d_values_by
  lean_of : findDef T "lean_of" = some d_lean_of
  tidied : findDef T "tidied" = some d_tidied
  is_lean : findDef T "is_lean" = some d_is_lean
structure HasW (T : List Def) : Prop where
  tupled : findDef T "tupled" = some d_tupled
  parents : findDef T "parents" = some d_parents
  values_by : findDef T "values_by" = some d_values_by
  values_of : findDef T "values_of" = some d_values_of
theorem tidied_at (H : HasL T) (t : Tree rs) (hl : rs.length ≤ 40) (hn : ∀ r ∈ rs, strOkD r.1 = true) (p : Plan rs ws vs) (hv : ∀ v ∈ vs, strOkD v = true) {x y : D} (hx : Laid x (.tup (rs.map rowD))) (hy : Laid y (.tup (ws.map pairD))) :
    (orc T (k + 6)).p "tidied" [x, y] = some (.tup ((leanF rs (valV ws rs)).map pairD), false) := by
  refine pEq (pCall (d := d_tidied) H.tidied rfl ?_)
  have e1 := values_by_at H.tupled H.parents H.values_by t hl p hx hy k
  have e2 := lean_of_at (k := k) H.tupled H.parents H.lean_of t hl hn p hv hx
  simp_arith [d_tidied, e1, e2]
theorem is_lean_at (H : HasL T) (t : Tree rs) (hl : rs.length ≤ 40) (hn : ∀ r ∈ rs, strOkD r.1 = true) (p : Plan rs ws vs) (hv : ∀ v ∈ vs, strOkD v = true) {x y : D} (hx : Laid x (.tup (rs.map rowD))) (hy : Laid y (.tup (ws.map pairD))) :
    (orc T (k + 7)).p "is_lean" [x, y] = some (.bl (isLean rs ws), false) := by
  refine pEq (pCall (d := d_is_lean) H.is_lean rfl ?_)
  have e1 := tidied_at (k := k) H t hl hn p hv hx hy
  have e2 := tupled_ok H.tupled (k + 6) y (by have := hy.dep; omega) hy.flat (by have := hy.wid; unfold big; omega)
  rw [hy.tup] at e2
  have e3 := eqC_pairs ((p.lean t).ok hn hv) (p.ok hn hv)
  simp_arith [d_is_lean, e1, e2, e3]
  have := p.lean_iff t
  by_cases h : leanF rs (valV ws rs) = ws
  · rw [this.mpr h, h]; simp
  · have h2 : isLean rs ws = false := by
      cases q : isLean rs ws with
      | false => rfl
      | true => exact absurd (this.mp q) h
    rw [h2]
    have : (leanF rs (valV ws rs) == ws) = false := by simpa using h
    rw [this]
theorem law_lean_gen {d : Def} (hd : d = d_law_lean_k04 ∨ d = d_law_lean) (hg : findDef T "_law_lean" = some d) (t : Tree rs) (hl : rs.length ≤ 40) (hn : ∀ r ∈ rs, strOkD r.1 = true) (p : Plan rs ws vs) (hv : ∀ v ∈ vs, strOkD v = true) {kvs : List (Key × D)} (hk : ∀ r ∈ rs, getK (.inr r.1) kvs = some (.str (valV ws rs r.1))) :
    (orc T (k + 1)).p "_law_lean" [.tup (rs.map rowD), .dic kvs] = some (.tup ((leanF rs (valV ws rs)).map pairD), false) := by
  have nm : d.name = "_law_lean" := by rcases hd with rfl | rfl <;> rfl
  have bd : d.body = d_law_lean_k04.body := by rcases hd with rfl | rfl <;> rfl
  have en : ∀ ws, envOf d ws = envOf d_law_lean_k04 ws := fun ws => by rcases hd with rfl | rfl <;> rfl
  rw [← nm] at hg ⊢
  refine pEq (pCall (d := d) hg (by rcases hd with rfl | rfl <;> rfl) ?_)
  rw [bd, en]
  simp_arith [d_law_lean_k04]
  refine yS_for (I := fun i ρ M => ∃ s3 s4 s5 : Option W, ρ = [some (.d (.tup (rs.map rowD))), some (.d (.dic kvs)), some (.cell 0), s3, s4, s5] ∧ M = [some (.lst ((leanL (rs.take i) (valV ws rs)).map pairD))]) ?_
  simp_arith
  refine ⟨⟨none, none, none, rfl, rfl⟩, ?_, ?_⟩
  · rintro i y ρ M hy ⟨s3, s4, s5, rfl, rfl⟩
    rw [List.getElem?_map] at hy
    obtain ⟨r, hr, rfl⟩ := Option.map_eq_some_iff.mp hy
    have hrm := List.mem_of_getElem? hr
    have tk : rs.take (i + 1) = rs.take i ++ [r] := by rw [List.take_succ, hr]; rfl
    have hi := (List.getElem?_eq_some_iff.mp hr).1
    have g2 := hk r hrm
    have c0 : ∀ nd : Node, cellAt [some nd] 0 = some nd := fun _ => rfl
    have lb : (leanL (rs.take i) (valV ws rs)).length ≤ 65536 := by
      unfold leanL
      rw [List.length_map]
      have := List.length_filter_le (chg (valV ws rs)) (rs.take i)
      rw [List.length_take] at this
      omega
    have sn : leanL (rs.take (i + 1)) (valV ws rs) = leanL (rs.take i) (valV ws rs) ++ leanL [r] (valV ws rs) := by
      unfold leanL
      rw [tk, List.filter_append, List.map_append]
    have step : ∀ b, chg (valV ws rs) r = b → leanL (rs.take (i + 1)) (valV ws rs) = if b = true then leanL (rs.take i) (valV ws rs) ++ [(r.1, valV ws rs r.1)] else leanL (rs.take i) (valV ws rs) := fun b hb => by
      rw [sn]
      unfold leanL
      cases b with
      | true => rw [List.filter_cons_of_pos (by rw [hb])]; rfl
      | false => rw [List.filter_cons_of_neg (by rw [hb]; simp)]; simp
    have lk : ∀ b, chg (valV ws rs) r = b → b = true → r.2.2 = false := fun b hb h => by
      cases hl : r.2.2 with
      | false => rfl
      | true =>
        have := p.chg_written t hrm (hb.trans h)
        rw [p.lock t hrm hl] at this
        cases this
    simp_arith [rowD]
    rcases row_cases t hrm with ⟨_, h2⟩ | ⟨q, hq, h2⟩
    · have hb : chg (valV ws rs) r = true := by unfold chg; rw [h2]
      have h3 : r.2.1 = none := by rw [h2]
      have h4 := lk _ hb rfl
      have st := step _ hb
      rw [if_pos rfl] at st
      simp_arith [h3, optD, h4, c0, g2, st]
      exact ⟨lb, _, _, _, rfl, by rw [List.map_append]; rfl⟩
    · have g3 := hk q hq
      have hb : chg (valV ws rs) r = (valV ws rs r.1 != valV ws rs q.1) := by unfold chg; rw [h2]
      simp_arith [h2, optD, g2, g3]
      cases hc : valV ws rs r.1 == valV ws rs q.1 with
      | true =>
        have st := step false (by rw [hb]; unfold bne; rw [hc]; rfl)
        simp_arith
        exact ⟨_, _, _, rfl, by rw [st]; rfl⟩
      | false =>
        have st := step true (by rw [hb]; unfold bne; rw [hc]; rfl)
        have h4 := lk true (by rw [hb]; unfold bne; rw [hc]; rfl) rfl
        rw [if_pos rfl] at st
        simp_arith [h4, c0, g2, st]
        exact ⟨lb, _, _, _, rfl, by rw [List.map_append]; rfl⟩
  · rintro ρ M ⟨s3, s4, s5, rfl, rfl⟩
    have c0 : ∀ nd : Node, cellAt [some nd] 0 = some nd := fun _ => rfl
    have hs := sortD_pairs (okV t hn p hv (chg (valV ws rs))) (by
      rw [List.length_map]
      have := List.length_filter_le (chg (valV ws rs)) rs
      omega)
    rw [List.take_length]
    unfold leanL
    simp_arith [c0, hs]
    rfl
theorem law_lean_at (hg : findDef T "_law_lean" = some d_law_lean_k04) (t : Tree rs) (hl : rs.length ≤ 40) (hn : ∀ r ∈ rs, strOkD r.1 = true) (p : Plan rs ws vs) (hv : ∀ v ∈ vs, strOkD v = true) :
    (orc T (k + 1)).p "_law_lean" [.tup (rs.map rowD), .dic (pk (valsV ws rs))] = some (.tup ((leanF rs (valV ws rs)).map pairD), false) :=
  law_lean_gen (.inl rfl) hg t hl hn p hv fun r hr => get_vals t p hr
end
end Rf

set_option Elab.async false
set_option linter.all false
set_option maxRecDepth 100000
set_option maxHeartbeats 4000000
namespace Rf
open PySem L2
local macro_rules | `(tactic| simp_arith) => `(tactic| simp -implicitDefEqProofs (maxSteps := 4000000) (failIfUnchanged := false) only [oP_some, oP_none, oD_d, wAt_zero, wAt_succ, putW_zero, putW_succ, map_some', wipe_nil, wipe_cons, set_zero, set_succ, vw_dd, evG_nm, evG_tp, evGs_nil, evGs_cons, some_bind', evGI_f, evGI_t, yE_slot, yE_cst, yE_glob, yE_dnil, yE_one, yE_tup, yE_lst, yE_ite, yE_andv, yE_orv, yE_orT, yE_notv, yE_cmp, yE_chain, yE_bin, yE_neg, yE_idx, yE_slc, yE_callP, yE_callK, yE_callM, yE_mk, yE_blt, yE_isi, yE_sitems, yE_get1, yA_nil, yA_cons, yO_none, yO_some, yT_andv, yT_orv, yT_notv, yT_one, yT_val, yC_nil, yC_cons, yI_itv, yI_rng1, yI_rng2, yI_zip, yI_enum, yI_items, yI_vals, yS_nil, yS_seq, yS_asg, yS_par, puts_nil, puts_cons, yS_exp, yS_ret, yS_retN, yS_ite, oN_c, oL_l, oK_d, cellAt_end, toD_lst, toD_dic, asNode_lst, asNode_dic, vw_cell, vws_nil, vws_cons, allD_nil, allD_cons, anyCell_nil, anyCell_d, anyCell_c, yS_app, yS_upd, yS_frz, oSet_l, oSet_d, yS_seti, yE_pop, k_nf, k_nt, k_nn, k_to, k_fo, k_ta, k_fa, k_it, k_if, k_tt, k_ft, k_Ta, k_aT, k_big, k_lc, k_ln, k_lm, o_eq, o_ne, o_lt, o_lts, o_le, o_gt, o_ge, o_is, o_isnt, o_in, o_notin, e_ss, e_ii, e_bb, e_nn, e_ns, e_sn, e_ni, e_in, i_n, i_s, i_i, i_b, i_t, i_l, i_bb, t_n, t_b, t_i, t_l, t_t, x_dic, x_dicI, x_tup, x_lst, at_0, at_1, at_2, at_3, d_in, d_inI, k_of, k_ofI, it_l, it_t, it_d, b_addI, b_subI, b_addL, b_addT, b_addS, b_mod, b_fdiv, b_mul, f_lenL, f_lenT, f_lenD, f_lenS, f_int, f_intB, f_tupL, f_tupT, f_lstL, f_lstT, f_dicD, f_dicL, f_dicT, f_sort, f_sortT, f_all, f_any, f_sum, in_strs, in_strsT, bind_none', Nat.reduceAdd, Nat.reduceSub, Nat.reduceLeDiff, Nat.reduceLT, List.replicate_zero, List.replicate_succ, List.map_cons, List.map_nil, List.cons_append, List.nil_append, envOf, Option.some.injEq, eq_self, and_self, if_true, if_false, List.filterMap_cons, List.filterMap_nil, List.getElem?_cons_succ, List.getElem?_cons_zero, evG_tl, e_dd, List.set_cons_zero, List.set_cons_succ, List.all_nil, yE_litems, yE_lrng, cell_zero, cell_succ])
local macro_rules | `(tactic| simp_arith [$xs,*]) => `(tactic| simp -implicitDefEqProofs (maxSteps := 4000000) (failIfUnchanged := false) only [oP_some, oP_none, oD_d, wAt_zero, wAt_succ, putW_zero, putW_succ, map_some', wipe_nil, wipe_cons, set_zero, set_succ, vw_dd, evG_nm, evG_tp, evGs_nil, evGs_cons, some_bind', evGI_f, evGI_t, yE_slot, yE_cst, yE_glob, yE_dnil, yE_one, yE_tup, yE_lst, yE_ite, yE_andv, yE_orv, yE_orT, yE_notv, yE_cmp, yE_chain, yE_bin, yE_neg, yE_idx, yE_slc, yE_callP, yE_callK, yE_callM, yE_mk, yE_blt, yE_isi, yE_sitems, yE_get1, yA_nil, yA_cons, yO_none, yO_some, yT_andv, yT_orv, yT_notv, yT_one, yT_val, yC_nil, yC_cons, yI_itv, yI_rng1, yI_rng2, yI_zip, yI_enum, yI_items, yI_vals, yS_nil, yS_seq, yS_asg, yS_par, puts_nil, puts_cons, yS_exp, yS_ret, yS_retN, yS_ite, oN_c, oL_l, oK_d, cellAt_end, toD_lst, toD_dic, asNode_lst, asNode_dic, vw_cell, vws_nil, vws_cons, allD_nil, allD_cons, anyCell_nil, anyCell_d, anyCell_c, yS_app, yS_upd, yS_frz, oSet_l, oSet_d, yS_seti, yE_pop, k_nf, k_nt, k_nn, k_to, k_fo, k_ta, k_fa, k_it, k_if, k_tt, k_ft, k_Ta, k_aT, k_big, k_lc, k_ln, k_lm, o_eq, o_ne, o_lt, o_lts, o_le, o_gt, o_ge, o_is, o_isnt, o_in, o_notin, e_ss, e_ii, e_bb, e_nn, e_ns, e_sn, e_ni, e_in, i_n, i_s, i_i, i_b, i_t, i_l, i_bb, t_n, t_b, t_i, t_l, t_t, x_dic, x_dicI, x_tup, x_lst, at_0, at_1, at_2, at_3, d_in, d_inI, k_of, k_ofI, it_l, it_t, it_d, b_addI, b_subI, b_addL, b_addT, b_addS, b_mod, b_fdiv, b_mul, f_lenL, f_lenT, f_lenD, f_lenS, f_int, f_intB, f_tupL, f_tupT, f_lstL, f_lstT, f_dicD, f_dicL, f_dicT, f_sort, f_sortT, f_all, f_any, f_sum, in_strs, in_strsT, bind_none', Nat.reduceAdd, Nat.reduceSub, Nat.reduceLeDiff, Nat.reduceLT, List.replicate_zero, List.replicate_succ, List.map_cons, List.map_nil, List.cons_append, List.nil_append, envOf, Option.some.injEq, eq_self, and_self, if_true, if_false, List.filterMap_cons, List.filterMap_nil, List.getElem?_cons_succ, List.getElem?_cons_zero, evG_tl, e_dd, List.set_cons_zero, List.set_cons_succ, List.all_nil, yE_litems, yE_lrng, cell_zero, cell_succ, $xs,*])
local macro_rules | `(tactic| simp_arith [$xs,*] at $h:ident) => `(tactic| simp -implicitDefEqProofs (maxSteps := 4000000) (failIfUnchanged := false) only [oP_some, oP_none, oD_d, wAt_zero, wAt_succ, putW_zero, putW_succ, map_some', wipe_nil, wipe_cons, set_zero, set_succ, vw_dd, evG_nm, evG_tp, evGs_nil, evGs_cons, some_bind', evGI_f, evGI_t, yE_slot, yE_cst, yE_glob, yE_dnil, yE_one, yE_tup, yE_lst, yE_ite, yE_andv, yE_orv, yE_orT, yE_notv, yE_cmp, yE_chain, yE_bin, yE_neg, yE_idx, yE_slc, yE_callP, yE_callK, yE_callM, yE_mk, yE_blt, yE_isi, yE_sitems, yE_get1, yA_nil, yA_cons, yO_none, yO_some, yT_andv, yT_orv, yT_notv, yT_one, yT_val, yC_nil, yC_cons, yI_itv, yI_rng1, yI_rng2, yI_zip, yI_enum, yI_items, yI_vals, yS_nil, yS_seq, yS_asg, yS_par, puts_nil, puts_cons, yS_exp, yS_ret, yS_retN, yS_ite, oN_c, oL_l, oK_d, cellAt_end, toD_lst, toD_dic, asNode_lst, asNode_dic, vw_cell, vws_nil, vws_cons, allD_nil, allD_cons, anyCell_nil, anyCell_d, anyCell_c, yS_app, yS_upd, yS_frz, oSet_l, oSet_d, yS_seti, yE_pop, k_nf, k_nt, k_nn, k_to, k_fo, k_ta, k_fa, k_it, k_if, k_tt, k_ft, k_Ta, k_aT, k_big, k_lc, k_ln, k_lm, o_eq, o_ne, o_lt, o_lts, o_le, o_gt, o_ge, o_is, o_isnt, o_in, o_notin, e_ss, e_ii, e_bb, e_nn, e_ns, e_sn, e_ni, e_in, i_n, i_s, i_i, i_b, i_t, i_l, i_bb, t_n, t_b, t_i, t_l, t_t, x_dic, x_dicI, x_tup, x_lst, at_0, at_1, at_2, at_3, d_in, d_inI, k_of, k_ofI, it_l, it_t, it_d, b_addI, b_subI, b_addL, b_addT, b_addS, b_mod, b_fdiv, b_mul, f_lenL, f_lenT, f_lenD, f_lenS, f_int, f_intB, f_tupL, f_tupT, f_lstL, f_lstT, f_dicD, f_dicL, f_dicT, f_sort, f_sortT, f_all, f_any, f_sum, in_strs, in_strsT, bind_none', Nat.reduceAdd, Nat.reduceSub, Nat.reduceLeDiff, Nat.reduceLT, List.replicate_zero, List.replicate_succ, List.map_cons, List.map_nil, List.cons_append, List.nil_append, envOf, Option.some.injEq, eq_self, and_self, if_true, if_false, List.filterMap_cons, List.filterMap_nil, List.getElem?_cons_succ, List.getElem?_cons_zero, evG_tl, e_dd, List.set_cons_zero, List.set_cons_succ, List.all_nil, yE_litems, yE_lrng, cell_zero, cell_succ, $xs,*] at $h:ident)
section
variable {T : List Def} {rs : List TRow} {ws us : List Pair} {vs : List Str} {k : Nat}
theorem pass_eq (t : Tree rs) {f : Str → Str} {x : Str} {rq : TRow} (hrq : rq ∈ rs) (eq : rq.1 = x) : (rs.all fun r => !(r.1 == x) || chg f r) = chg f rq := by
  rw [Bool.eq_iff_iff, List.all_eq_true]
  constructor
  · intro h
    have := h rq hrq
    rw [eq] at this
    simpa using this
  · intro h r hr
    by_cases e : r.1 = x
    · rw [row_of_name t hr hrq (e.trans eq.symm), h]; simp
    · have : (r.1 == x) = false := by simpa using e
      rw [this]; rfl
theorem law_is_lean_at (hG : findDef T "_law_given" = some d_law_given) (hg : findDef T "_law_is_lean" = some d_law_is_lean) (t : Tree rs) (hl : rs.length ≤ 40) (hn : ∀ r ∈ rs, strOkD r.1 = true) (p : Plan rs ws vs) (hv : ∀ v ∈ vs, strOkD v = true) :
    (orc T (k + 2)).p "_law_is_lean" [.tup (rs.map rowD), .tup (ws.map pairD)] = some (.bl (isLean rs ws), false) := by
  refine pEq (pCall (d := d_law_is_lean) hg rfl ?_)
  have wl := p.len hl
  have ok := p.ok hn hv
  have e1 := given_at (k := k) hG t hl (p.rooted t) p.nd wl (.inl rfl)
  obtain ⟨a, rest, er⟩ := t.up.1
  simp_arith [d_law_is_lean, e1]
  refine yS_for (I := fun i ρ M => ∃ s3 s4 s5 : Option W, ρ = [some (.d (.tup (rs.map rowD))), some (.d (.tup (ws.map pairD))), some (.d (.dic (pk (valsV ws rs)))), s3, s4, s5] ∧ (ws.take i).all (fun q => rs.all fun r => !(r.1 == q.1) || chg (valV ws rs) r) = true) ?_
  simp_arith
  refine ⟨⟨none, none, none, rfl, rfl⟩, ?_, ?_⟩
  · rintro i y ρ M hy ⟨s3, s4, s5, rfl, ha⟩
    rw [List.getElem?_map] at hy
    obtain ⟨q, hq, rfl⟩ := Option.map_eq_some_iff.mp hy
    have hqm := List.mem_of_getElem? hq
    have tk : ws.take (i + 1) = ws.take i ++ [q] := by rw [List.take_succ, hq]; rfl
    obtain ⟨rq, hrq, eq, _⟩ := p.free q hqm
    have pe := pass_eq (f := valV ws rs) t hrq eq
    have next : (rs.all fun r => !(r.1 == q.1) || chg (valV ws rs) r) = true → (ws.take (i + 1)).all (fun q => rs.all fun r => !(r.1 == q.1) || chg (valV ws rs) r) = true := fun h => by
      rw [tk, List.all_append, ha, Bool.true_and, List.all_cons, h]; rfl
    simp_arith
    refine yE_lc ws pairD (fun o => !(o == q)) pairD ?_
    simp_arith
    refine ⟨by omega, fun o ho => ?_, ?_⟩
    · simp_arith [eqC_pair (ok o ho) (ok q hqm)]
      cases o == q <;> simp
    have hat : atI (rs.map rowD) 0 = some (rowD (a, none, false)) := by rw [er]; exact at_0 _ _
    have hpq : idxD (pairD q) (.int 0) = some (.str q.1) := at_0 _ _
    have hpa : idxD (rowD (a, none, false)) (.int 0) = some (.str a) := at_0 _ _
    simp_arith [hat, hpq, hpa]
    cases hqa : q.1 == a with
    | true =>
      simp_arith
      refine ⟨_, _, _, rfl, next ?_⟩
      rw [pe]
      have : rq = (a, none, false) := row_of_name t hrq (by rw [er]; exact List.mem_cons_self) (eq.trans (beq_iff_eq.mp hqa))
      rw [this]; rfl
    | false =>
      have hne : ∀ r, rs.head? = some r → r.1 ≠ q.1 := fun r hr z => by
        rw [er] at hr
        cases hr
        have : q.1 = a := z.symm
        rw [this] at hqa
        simp at hqa
      have pw := p.without t hqm hne
      have e2 := given_at (k := k) hG t hl (pw.rooted t) pw.nd (pw.len hl) (x := .lst ((ws.filter fun o => !(o == q)).map pairD)) (.inr rfl)
      have e3 := eqC_vals t p pw
      have wi := p.without_iff t hqm hne hrq eq
      simp_arith [e2, e3]
      cases hall : rs.all fun r => valV (ws.filter fun o => !(o == q)) rs r.1 == valV ws rs r.1 with
      | true =>
        simp_arith
        have : chg (valV ws rs) rq = false := wi.mp fun r hr => by
          have := List.all_eq_true.mp hall r hr
          simpa using this
        have : isLean rs ws = false := by
          unfold isLean
          refine List.all_eq_false.mpr ⟨q, hqm, ?_⟩
          rw [pe, this]; simp
        rw [this]
      | false =>
        simp_arith
        refine ⟨_, _, _, rfl, next ?_⟩
        rw [pe]
        cases hc : chg (valV ws rs) rq with
        | true => rfl
        | false =>
          have := wi.mpr hc
          rw [List.all_eq_true.mpr fun r hr => by simpa using this r hr] at hall
          cases hall
  · rintro ρ M ⟨s3, s4, s5, rfl, ha⟩
    rw [List.take_length] at ha
    unfold isLean
    rw [ha]
theorem values_of_at (H : HasW T) (t : Tree rs) (hl : rs.length ≤ 40) (hn : ∀ r ∈ rs, strOkD r.1 = true) (p : Plan rs ws vs) (hv : ∀ v ∈ vs, strOkD v = true) {x y : D} (hx : Laid x (.tup (rs.map rowD))) (hy : Laid y (.tup (ws.map pairD))) :
    (orc T (k + 6)).p "values_of" [x, y] = some (.lst ((sortP (rs.map fun r => (r.1, valV ws rs r.1))).map pairD), true) := by
  have vok : ∀ q ∈ valsV ws rs, strOkD q.1 = true ∧ strOkD q.2 = true := fun q hq => by
    rw [valsV_map t.nodup] at hq
    obtain ⟨r, hr, rfl⟩ := List.mem_map.mp hq
    exact ⟨hn r hr, hv _ (valV_some t p hr).2⟩
  have := values_of_ok (k := k + 5) H.values_of (values_by_at H.tupled H.parents H.values_by t hl p hx hy k) vok (by rw [vals_len]; unfold big; omega)
  rw [sort_pairD, valsV_map t.nodup] at this
  exact this
/-- settings that change nothing are put in -/
theorem fuller_wp (hf : findDef T "_law_take" = some d_law_take) (hG : findDef T "_law_given" = some d_law_given) (hg : findDef T "_law_fuller" = some d_law_fuller) {M : Store} {c e : Nat} (b : Box M c e) (he : e + 100 < 2 ^ 40) (t : Tree rs) (hl : rs.length ≤ 40) (hn : ∀ r ∈ rs, strOkD r.1 = true) (p : Plan rs ws vs) (hv : ∀ v ∈ vs, strOkD v = true) {Q : RW → Prop}
    (q : ∀ us M', Plan rs us vs → Box M' c (e + 40) → M'.length = M.length → (∀ j, j < M.length → j ≠ c → cellAt M' j = cellAt M j) → Q ((.d (.tup (us.map pairD)), false), M')) : oP ((orc T (k + 2)).m "_law_fuller" [.cell c, .d (.tup (rs.map rowD)), .d (.tup (ws.map pairD))] M) Q := by
  refine mCall (d := d_law_fuller) hg rfl ?_
  have hcl : c < M.length := by obtain ⟨_, _, _, hc, _⟩ := b.at'; exact cellAt_lt' hc
  have wl := p.len hl
  have e1 := given_at (k := k) hG t hl (p.rooted t) p.nd wl (.inl rfl)
  simp_arith [d_law_fuller, e1, pairsOf_map, merg_pk p.nd, pk_len]
  refine ⟨by omega, ?_⟩
  refine yS_for (I := fun i ρ M' => ∃ (us : List Pair) (s5 s6 s7 : Option W), ρ = [some (.cell c), some (.d (.tup (rs.map rowD))), some (.d (.tup (ws.map pairD))), some (.d (.dic (pk (valsV ws rs)))), some (.cell M.length), s5, s6, s7] ∧ cellAt M' M.length = some (.dic (pk us)) ∧
    (us.map (·.1)).Nodup ∧ (∀ o ∈ ws, o ∈ us) ∧ (∀ o ∈ us, ∃ r ∈ rs, r.1 = o.1 ∧ r.2.2 = false) ∧ (∀ o ∈ us, o.2 ∈ vs) ∧ Box M' c (e + i) ∧ M'.length = M.length + 1 ∧ ∀ j, j < M.length → j ≠ c → cellAt M' j = cellAt M j) ?_
  simp_arith
  refine ⟨⟨ws, none, none, none, rfl, rfl, p.nd, fun _ h => h, p.free, p.val, b.keep (cellAt_app hcl), by rw [List.length_append]; rfl, fun j h1 h2 => cellAt_app h1⟩, ?_, ?_⟩
  · rintro i y ρ M1 hy ⟨us, s5, s6, s7, rfl, cu, nd, sub, fr, vl, b1, l1, o1⟩
    rw [List.getElem?_map] at hy
    obtain ⟨r, hr, rfl⟩ := Option.map_eq_some_iff.mp hy
    have hrm := List.mem_of_getElem? hr
    have hi := (List.getElem?_eq_some_iff.mp hr).1
    have g1 := look_getK r.1 us
    simp_arith [rowD]
    cases hlk : r.2.2 with
    | true =>
      simp_arith
      exact ⟨us, _, _, _, rfl, cu, nd, sub, fr, vl, b1.mono (by omega), l1, o1⟩
    | false =>
      cases hw : look r.1 us with
      | some v =>
        rw [hw] at g1
        simp_arith [cu, g1, Option.map_some, Option.isSome_some]
        exact ⟨us, _, _, _, rfl, rfl, nd, sub, fr, vl, b1.mono (by omega), l1, o1⟩
      | none =>
        rw [hw] at g1
        simp_arith [cu, g1, Option.map_none, Option.isSome_none]
        refine take_wp hf b1 (by omega) (by decide) (by decide) fun d M2 d0 d1 b2 l2 o2 => ?_
        have cu2 : cellAt M2 M.length = some (.dic (pk us)) := by rw [o2 _ (by omega)]; exact cu
        simp_arith
        cases hd : d == 0 with
        | false =>
          simp_arith
          exact ⟨us, _, _, _, rfl, cu2, nd, sub, fr, vl, b2.mono (by omega), by omega, fun j h1 h2 => by rw [o2 _ h2]; exact o1 j h1 h2⟩
        | true =>
          have g2 := get_vals t p hrm
          have hx : r.1 ∉ us.map (·.1) := fun z => by
            have := look_isSome z
            rw [hw] at this; cases this
          have hk : (Sum.inr r.1 : Key) ∉ (pk us).map (·.1) := by
            rw [pk_names]
            intro z
            obtain ⟨a, h1, h2⟩ := List.mem_map.mp z
            cases h2
            exact hx h1
          have ul : us.length ≤ 40 := by
            have := nodup_le nd (m := rs.map (·.1)) (fun x hx => by
              obtain ⟨o, ho, rfl⟩ := List.mem_map.mp hx
              obtain ⟨r', h1, h2, _⟩ := fr o ho
              exact List.mem_map.mpr ⟨r', h1, h2⟩)
            rw [List.length_map, List.length_map] at this
            omega
          simp_arith [g2, cu2, setK_new hk, pk_len]
          refine ⟨by omega, us ++ [(r.1, valV ws rs r.1)], _, _, _, rfl, ?_, ?_, fun o ho => List.mem_append.mpr (.inl (sub o ho)), ?_, ?_, (b2.keep (cellAt_ne (by omega))).mono (by omega), by rw [List.length_set]; omega, fun j h1 h2 => by rw [cellAt_ne (by omega), o2 _ h2]; exact o1 j h1 h2⟩
          · rw [cellAt_set cu2, pk_snoc]
          · rw [List.map_append, List.nodup_append]
            refine ⟨nd, by simp, fun x hx' y hy' => ?_⟩
            have : y = r.1 := by simpa using hy'
            rw [this]
            rintro rfl
            exact hx hx'
          · intro o ho
            rcases List.mem_append.mp ho with ho | ho
            · exact fr o ho
            · have : o = (r.1, valV ws rs r.1) := by simpa using ho
              rw [this]
              exact ⟨r, hrm, rfl, hlk⟩
          · intro o ho
            rcases List.mem_append.mp ho with ho | ho
            · exact vl o ho
            · have : o = (r.1, valV ws rs r.1) := by simpa using ho
              rw [this]
              exact (valV_some t p hrm).2
  · rintro ρ M1 ⟨us, s5, s6, s7, rfl, cu, nd, sub, fr, vl, b1, l1, o1⟩
    have ul : us.length ≤ 40 := by
      have := nodup_le nd (m := rs.map (·.1)) (fun x hx => by
        obtain ⟨o, ho, rfl⟩ := List.mem_map.mp hx
        obtain ⟨r', h1, h2, _⟩ := fr o ho
        exact List.mem_map.mpr ⟨r', h1, h2⟩)
      rw [List.length_map, List.length_map] at this
      omega
    have so := sortD_pairs (us := us) (fun o ho => by
      obtain ⟨r, h1, h2, _⟩ := fr o ho
      exact ⟨h2 ▸ hn r h1, hv _ (vl o ho)⟩) (by omega)
    have pm := sortP_perm us
    simp_arith [cu, pairs_pk, so]
    refine q _ _ ⟨(pm.map _).nodup_iff.mpr nd, fun r hr => ?_, fun o ho => fr o (pm.mem_iff.mp ho), fun o ho => vl o (pm.mem_iff.mp ho), sortP_asc us⟩ ((b1.keep ((cellAt_take hcl).trans (cellAt_ne (by omega)))).mono (by omega)) (by rw [List.length_take, List.length_set, l1]; omega) fun j h3 h4 => by rw [cellAt_take h3, cellAt_ne (by omega)]; exact o1 j h3 h4
    obtain ⟨o, ho, e2⟩ := List.mem_map.mp (p.root r hr)
    exact (pm.map _).mem_iff.mpr (List.mem_map.mpr ⟨o, sub o ho, e2⟩)
end
end Rf

set_option Elab.async false
set_option linter.all false
set_option maxRecDepth 100000
set_option maxHeartbeats 4000000
namespace Rf
open PySem L2
local macro_rules | `(tactic| simp_arith) => `(tactic| simp -implicitDefEqProofs (maxSteps := 4000000) (failIfUnchanged := false) only [oP_some, oP_none, oD_d, wAt_zero, wAt_succ, putW_zero, putW_succ, map_some', wipe_nil, wipe_cons, set_zero, set_succ, vw_dd, evG_nm, evG_tp, evGs_nil, evGs_cons, some_bind', evGI_f, evGI_t, yE_slot, yE_cst, yE_glob, yE_dnil, yE_one, yE_tup, yE_lst, yE_ite, yE_andv, yE_orv, yE_orT, yE_notv, yE_cmp, yE_chain, yE_bin, yE_neg, yE_idx, yE_slc, yE_callP, yE_callK, yE_callM, yE_mk, yE_blt, yE_isi, yE_sitems, yE_get1, yA_nil, yA_cons, yO_none, yO_some, yT_andv, yT_orv, yT_notv, yT_one, yT_val, yC_nil, yC_cons, yI_itv, yI_rng1, yI_rng2, yI_zip, yI_enum, yI_items, yI_vals, yS_nil, yS_seq, yS_asg, yS_par, puts_nil, puts_cons, yS_exp, yS_ret, yS_retN, yS_ite, oN_c, oL_l, oK_d, cellAt_end, toD_lst, toD_dic, asNode_lst, asNode_dic, vw_cell, vws_nil, vws_cons, allD_nil, allD_cons, anyCell_nil, anyCell_d, anyCell_c, yS_app, yS_upd, yS_frz, oSet_l, oSet_d, yS_seti, yE_pop, k_nf, k_nt, k_nn, k_to, k_fo, k_ta, k_fa, k_it, k_if, k_tt, k_ft, k_Ta, k_aT, k_big, k_lc, k_ln, k_lm, o_eq, o_ne, o_lt, o_lts, o_le, o_gt, o_ge, o_is, o_isnt, o_in, o_notin, e_ss, e_ii, e_bb, e_nn, e_ns, e_sn, e_ni, e_in, i_n, i_s, i_i, i_b, i_t, i_l, i_bb, t_n, t_b, t_i, t_l, t_t, x_dic, x_dicI, x_tup, x_lst, at_0, at_1, at_2, at_3, d_in, d_inI, k_of, k_ofI, it_l, it_t, it_d, b_addI, b_subI, b_addL, b_addT, b_addS, b_mod, b_fdiv, b_mul, f_lenL, f_lenT, f_lenD, f_lenS, f_int, f_intB, f_tupL, f_tupT, f_lstL, f_lstT, f_dicD, f_dicL, f_dicT, f_sort, f_sortT, f_all, f_any, f_sum, in_strs, in_strsT, bind_none', Nat.reduceAdd, Nat.reduceSub, Nat.reduceLeDiff, Nat.reduceLT, List.replicate_zero, List.replicate_succ, List.map_cons, List.map_nil, List.cons_append, List.nil_append, envOf, Option.some.injEq, eq_self, and_self, if_true, if_false, List.filterMap_cons, List.filterMap_nil, List.getElem?_cons_succ, List.getElem?_cons_zero, evG_tl, e_dd, List.set_cons_zero, List.set_cons_succ, List.all_nil, yE_litems, yE_lrng, cell_zero, cell_succ])
local macro_rules | `(tactic| simp_arith [$xs,*]) => `(tactic| simp -implicitDefEqProofs (maxSteps := 4000000) (failIfUnchanged := false) only [oP_some, oP_none, oD_d, wAt_zero, wAt_succ, putW_zero, putW_succ, map_some', wipe_nil, wipe_cons, set_zero, set_succ, vw_dd, evG_nm, evG_tp, evGs_nil, evGs_cons, some_bind', evGI_f, evGI_t, yE_slot, yE_cst, yE_glob, yE_dnil, yE_one, yE_tup, yE_lst, yE_ite, yE_andv, yE_orv, yE_orT, yE_notv, yE_cmp, yE_chain, yE_bin, yE_neg, yE_idx, yE_slc, yE_callP, yE_callK, yE_callM, yE_mk, yE_blt, yE_isi, yE_sitems, yE_get1, yA_nil, yA_cons, yO_none, yO_some, yT_andv, yT_orv, yT_notv, yT_one, yT_val, yC_nil, yC_cons, yI_itv, yI_rng1, yI_rng2, yI_zip, yI_enum, yI_items, yI_vals, yS_nil, yS_seq, yS_asg, yS_par, puts_nil, puts_cons, yS_exp, yS_ret, yS_retN, yS_ite, oN_c, oL_l, oK_d, cellAt_end, toD_lst, toD_dic, asNode_lst, asNode_dic, vw_cell, vws_nil, vws_cons, allD_nil, allD_cons, anyCell_nil, anyCell_d, anyCell_c, yS_app, yS_upd, yS_frz, oSet_l, oSet_d, yS_seti, yE_pop, k_nf, k_nt, k_nn, k_to, k_fo, k_ta, k_fa, k_it, k_if, k_tt, k_ft, k_Ta, k_aT, k_big, k_lc, k_ln, k_lm, o_eq, o_ne, o_lt, o_lts, o_le, o_gt, o_ge, o_is, o_isnt, o_in, o_notin, e_ss, e_ii, e_bb, e_nn, e_ns, e_sn, e_ni, e_in, i_n, i_s, i_i, i_b, i_t, i_l, i_bb, t_n, t_b, t_i, t_l, t_t, x_dic, x_dicI, x_tup, x_lst, at_0, at_1, at_2, at_3, d_in, d_inI, k_of, k_ofI, it_l, it_t, it_d, b_addI, b_subI, b_addL, b_addT, b_addS, b_mod, b_fdiv, b_mul, f_lenL, f_lenT, f_lenD, f_lenS, f_int, f_intB, f_tupL, f_tupT, f_lstL, f_lstT, f_dicD, f_dicL, f_dicT, f_sort, f_sortT, f_all, f_any, f_sum, in_strs, in_strsT, bind_none', Nat.reduceAdd, Nat.reduceSub, Nat.reduceLeDiff, Nat.reduceLT, List.replicate_zero, List.replicate_succ, List.map_cons, List.map_nil, List.cons_append, List.nil_append, envOf, Option.some.injEq, eq_self, and_self, if_true, if_false, List.filterMap_cons, List.filterMap_nil, List.getElem?_cons_succ, List.getElem?_cons_zero, evG_tl, e_dd, List.set_cons_zero, List.set_cons_succ, List.all_nil, yE_litems, yE_lrng, cell_zero, cell_succ, $xs,*])
local macro_rules | `(tactic| simp_arith [$xs,*] at $h:ident) => `(tactic| simp -implicitDefEqProofs (maxSteps := 4000000) (failIfUnchanged := false) only [oP_some, oP_none, oD_d, wAt_zero, wAt_succ, putW_zero, putW_succ, map_some', wipe_nil, wipe_cons, set_zero, set_succ, vw_dd, evG_nm, evG_tp, evGs_nil, evGs_cons, some_bind', evGI_f, evGI_t, yE_slot, yE_cst, yE_glob, yE_dnil, yE_one, yE_tup, yE_lst, yE_ite, yE_andv, yE_orv, yE_orT, yE_notv, yE_cmp, yE_chain, yE_bin, yE_neg, yE_idx, yE_slc, yE_callP, yE_callK, yE_callM, yE_mk, yE_blt, yE_isi, yE_sitems, yE_get1, yA_nil, yA_cons, yO_none, yO_some, yT_andv, yT_orv, yT_notv, yT_one, yT_val, yC_nil, yC_cons, yI_itv, yI_rng1, yI_rng2, yI_zip, yI_enum, yI_items, yI_vals, yS_nil, yS_seq, yS_asg, yS_par, puts_nil, puts_cons, yS_exp, yS_ret, yS_retN, yS_ite, oN_c, oL_l, oK_d, cellAt_end, toD_lst, toD_dic, asNode_lst, asNode_dic, vw_cell, vws_nil, vws_cons, allD_nil, allD_cons, anyCell_nil, anyCell_d, anyCell_c, yS_app, yS_upd, yS_frz, oSet_l, oSet_d, yS_seti, yE_pop, k_nf, k_nt, k_nn, k_to, k_fo, k_ta, k_fa, k_it, k_if, k_tt, k_ft, k_Ta, k_aT, k_big, k_lc, k_ln, k_lm, o_eq, o_ne, o_lt, o_lts, o_le, o_gt, o_ge, o_is, o_isnt, o_in, o_notin, e_ss, e_ii, e_bb, e_nn, e_ns, e_sn, e_ni, e_in, i_n, i_s, i_i, i_b, i_t, i_l, i_bb, t_n, t_b, t_i, t_l, t_t, x_dic, x_dicI, x_tup, x_lst, at_0, at_1, at_2, at_3, d_in, d_inI, k_of, k_ofI, it_l, it_t, it_d, b_addI, b_subI, b_addL, b_addT, b_addS, b_mod, b_fdiv, b_mul, f_lenL, f_lenT, f_lenD, f_lenS, f_int, f_intB, f_tupL, f_tupT, f_lstL, f_lstT, f_dicD, f_dicL, f_dicT, f_sort, f_sortT, f_all, f_any, f_sum, in_strs, in_strsT, bind_none', Nat.reduceAdd, Nat.reduceSub, Nat.reduceLeDiff, Nat.reduceLT, List.replicate_zero, List.replicate_succ, List.map_cons, List.map_nil, List.cons_append, List.nil_append, envOf, Option.some.injEq, eq_self, and_self, if_true, if_false, List.filterMap_cons, List.filterMap_nil, List.getElem?_cons_succ, List.getElem?_cons_zero, evG_tl, e_dd, List.set_cons_zero, List.set_cons_succ, List.all_nil, yE_litems, yE_lrng, cell_zero, cell_succ, $xs,*] at $h:ident)
/-- a pair as a list -/
def pairDL (p : Pair) : D := .lst [.str p.1, .str p.2]
theorem lists_pairs (us : List Pair) : listsF (.tup (us.map pairD)) = .lst (us.map pairDL) := by
  simp only [listsF, listsFs_map, List.map_map]
  congr 1
theorem listsF_two (x y : D) : listsF (.lst [x, y]) = .lst [listsF x, listsF y] := rfl
theorem listsF_three (x y z : D) : listsF (.lst [x, y, z]) = .lst [listsF x, listsF y, listsF z] := rfl
section
variable {T : List Def} {rs : List TRow} {ws us : List Pair} {vs : List Str} {k : Nat}
theorem serves_at (hf : findDef T "tupled" = some d_tupled) (hp : findDef T "parents" = some d_parents) (hv : findDef T "values_by" = some d_values_by) (hs : findDef T "serves" = some d_serves) (t : Tree rs) (hl : rs.length ≤ 40) (p : Plan rs ws vs) {x y z : D} (hx : Laid x (.tup (rs.map rowD))) (hy : Laid y (.tup (ws.map pairD)))
    (hn : ∀ q ∈ us, q.1 ∈ rs.map (·.1)) (ul : us.length ≤ 1000) (hz : z = .tup (us.map pairD) ∨ z = .lst (us.map pairDL)) :
    (orc T (k + 6)).p "serves" [x, z, y] = some (.bl (us.all fun q => valV ws rs q.1 == q.2), false) := by
  refine pEq (pCall (d := d_serves) hs rfl ?_)
  have e1 := values_by_at hf hp hv t hl p hx hy k
  have g : ∀ q ∈ us, getK (.inr q.1) (pk (valsV ws rs)) = some (.str (valV ws rs q.1)) := fun q hq => by
    obtain ⟨r, hr, e⟩ := List.mem_map.mp (hn q hq)
    rw [← e]
    exact get_vals t p hr
  simp_arith [d_serves, e1]
  rcases hz with rfl | rfl
  · refine yE_lm us pairD (fun q => .bl (valV ws rs q.1 == q.2)) ?_
    simp_arith
    refine ⟨by omega, fun q hq => ?_, ?_⟩
    · simp_arith [pairD, g q hq]
    simp_arith [bls_map, List.all_map, Function.comp_def, id_eq]
  · refine yE_lm us pairDL (fun q => .bl (valV ws rs q.1 == q.2)) ?_
    simp_arith
    refine ⟨by omega, fun q hq => ?_, ?_⟩
    · simp_arith [pairDL, g q hq]
    simp_arith [bls_map, List.all_map, Function.comp_def, id_eq]
end
/-- what is measured, for `_law_same` -/
structure Meas (x : D) : Prop where
  flat : flat x = true
  dep : dep x ≤ 6
  wid : wid x ≤ 1000
theorem same_at {T : List Def} (hf : findDef T "_law_same" = some d_law_same) {k : Nat} {x : D} (m : Meas x) : (orc T (k + 7)).p "_law_same" [x, x] = some (.bl true, false) :=
  same_ok hf (k + 7) x (by have := m.dep; omega) m.flat (by have := m.wid; unfold big; omega)
theorem lists_at {T : List Def} (hf : findDef T "_law_lists" = some d_law_lists) {k : Nat} {x : D} (m : Meas x) : (orc T (k + 7)).p "_law_lists" [x] = some (listsF x, isSeq x) :=
  lists_ok hf (k + 7) x (by have := m.dep; omega) m.flat (by have := m.wid; unfold big; omega)
theorem Meas.refl {x : D} (m : Meas x) : eqC x x = some true := eqC_refl m.flat (by have := m.dep; omega)
theorem Meas.lists {x : D} (m : Meas x) : Meas (listsF x) := ⟨(flat_lists x).trans m.flat, by rw [dep_lists]; exact m.dep, by rw [wid_lists]; exact m.wid⟩
/-- measured one level lower -/
structure MeasN (n : Nat) (x : D) : Prop where
  flat : flat x = true
  dep : dep x ≤ n
  wid : wid x ≤ 1000
theorem MeasN.meas {n : Nat} {x : D} (m : MeasN n x) (h : n ≤ 6) : Meas x := ⟨m.flat, by have := m.dep; omega, m.wid⟩
theorem MeasN.mono {n m : Nat} {x : D} (a : MeasN n x) (h : n ≤ m) : MeasN m x := ⟨a.flat, by have := a.dep; omega, a.wid⟩
theorem measN_of {n : Nat} {xs : List D} (h : ∀ x ∈ xs, MeasN n x) (hl : xs.length ≤ 1000) : flats xs = true ∧ deps xs ≤ n ∧ wids xs ≤ 1000 := by
  induction xs with
  | nil => exact ⟨rfl, Nat.zero_le _, Nat.zero_le _⟩
  | cons x xs ih =>
    obtain ⟨a, b, c⟩ := ih (fun y hy => h y (List.mem_cons_of_mem _ hy)) (by rw [List.length_cons] at hl; omega)
    have m := h x List.mem_cons_self
    refine ⟨by simp only [flats, m.flat, a, Bool.and_self], ?_, ?_⟩
    · unfold deps; exact Nat.max_le.mpr ⟨m.dep, b⟩
    · unfold wids; exact Nat.max_le.mpr ⟨m.wid, c⟩
theorem MeasN.lst {n : Nat} {xs : List D} (h : ∀ x ∈ xs, MeasN n x) (hl : xs.length ≤ 1000) : MeasN (n + 1) (.lst xs) := by
  obtain ⟨a, b, c⟩ := measN_of h hl
  exact ⟨by simpa only [Rf.flat] using a, by simp only [Rf.dep]; omega, by simp only [Rf.wid]; omega⟩
theorem MeasN.tup {n : Nat} {xs : List D} (h : ∀ x ∈ xs, MeasN n x) (hl : xs.length ≤ 1000) : MeasN (n + 1) (.tup xs) := by
  obtain ⟨a, b, c⟩ := measN_of h hl
  exact ⟨by simpa only [Rf.flat] using a, by simp only [Rf.dep]; omega, by simp only [Rf.wid]; omega⟩
theorem MeasN.bl {n : Nat} (b : Bool) : MeasN n (.bl b) := ⟨rfl, Nat.zero_le _, Nat.zero_le _⟩
theorem MeasN.int {n : Nat} (b : Int) : MeasN n (.int b) := ⟨rfl, Nat.zero_le _, Nat.zero_le _⟩
theorem MeasN.non {n : Nat} : MeasN n .non := ⟨rfl, Nat.zero_le _, Nat.zero_le _⟩
theorem MeasN.str {n : Nat} {s : Str} (h : strOkD s = true) : MeasN n (.str s) := ⟨h, Nat.zero_le _, Nat.zero_le _⟩
theorem Laid.meas {x y : D} (h : Laid x y) : MeasN 2 x := ⟨h.flat, h.dep, by have := h.wid; omega⟩
theorem MeasN.pairs {us : List Pair} (ok : ∀ p ∈ us, strOkD p.1 = true ∧ strOkD p.2 = true) (hl : us.length ≤ 1000) : MeasN 2 (.tup (us.map pairD)) ∧ MeasN 2 (.lst (us.map pairD)) := by
  have h : ∀ x ∈ us.map pairD, MeasN 1 x := fun x hx => by
    obtain ⟨p, hp, rfl⟩ := List.mem_map.mp hx
    exact .tup (n := 0) (fun y hy => by
      simp only [List.mem_cons, List.not_mem_nil, or_false] at hy
      rcases hy with rfl | rfl
      · exact .str (ok p hp).1
      · exact .str (ok p hp).2) (by simp)
  exact ⟨.tup h (by rw [List.length_map]; exact hl), .lst h (by rw [List.length_map]; exact hl)⟩
theorem MeasN.strs {us : List Str} (ok : ∀ p ∈ us, strOkD p = true) (hl : us.length ≤ 1000) : MeasN 1 (.lst (us.map .str)) :=
  .lst (n := 0) (fun x hx => by
    obtain ⟨p, hp, rfl⟩ := List.mem_map.mp hx
    exact .str (ok p hp)) (by rw [List.length_map]; exact hl)
theorem MeasN.two {n : Nat} {x y : D} (h1 : MeasN n x) (h2 : MeasN n y) : MeasN (n + 1) (.lst [x, y]) := .lst (fun z hz => by
  simp only [List.mem_cons, List.not_mem_nil, or_false] at hz
  rcases hz with rfl | rfl <;> assumption) (by simp)
theorem MeasN.three {n : Nat} {x y z : D} (h1 : MeasN n x) (h2 : MeasN n y) (h3 : MeasN n z) : MeasN (n + 1) (.lst [x, y, z]) := .lst (fun z hz => by
  simp only [List.mem_cons, List.not_mem_nil, or_false] at hz
  rcases hz with rfl | rfl | rfl <;> assumption) (by simp)
theorem MeasN.four {n : Nat} {x y z w : D} (h1 : MeasN n x) (h2 : MeasN n y) (h3 : MeasN n z) (h4 : MeasN n w) : MeasN (n + 1) (.lst [x, y, z, w]) := .lst (fun z hz => by
  simp only [List.mem_cons, List.not_mem_nil, or_false] at hz
  rcases hz with rfl | rfl | rfl | rfl <;> assumption) (by simp)
end Rf

set_option Elab.async false
set_option linter.all false
set_option maxRecDepth 100000
set_option maxHeartbeats 4000000
namespace Rf
open PySem L2
local macro_rules | `(tactic| simp_arith) => `(tactic| simp -implicitDefEqProofs (maxSteps := 4000000) (failIfUnchanged := false) only [oP_some, oP_none, oD_d, wAt_zero, wAt_succ, putW_zero, putW_succ, map_some', wipe_nil, wipe_cons, set_zero, set_succ, vw_dd, evG_nm, evG_tp, evGs_nil, evGs_cons, some_bind', evGI_f, evGI_t, yE_slot, yE_cst, yE_glob, yE_dnil, yE_one, yE_tup, yE_lst, yE_ite, yE_andv, yE_orv, yE_orT, yE_notv, yE_cmp, yE_chain, yE_bin, yE_neg, yE_idx, yE_slc, yE_callP, yE_callK, yE_callM, yE_mk, yE_blt, yE_isi, yE_sitems, yE_get1, yA_nil, yA_cons, yO_none, yO_some, yT_andv, yT_orv, yT_notv, yT_one, yT_val, yC_nil, yC_cons, yI_itv, yI_rng1, yI_rng2, yI_zip, yI_enum, yI_items, yI_vals, yS_nil, yS_seq, yS_asg, yS_par, puts_nil, puts_cons, yS_exp, yS_ret, yS_retN, yS_ite, oN_c, oL_l, oK_d, cellAt_end, toD_lst, toD_dic, asNode_lst, asNode_dic, vw_cell, vws_nil, vws_cons, allD_nil, allD_cons, anyCell_nil, anyCell_d, anyCell_c, yS_app, yS_upd, yS_frz, oSet_l, oSet_d, yS_seti, yE_pop, k_nf, k_nt, k_nn, k_to, k_fo, k_ta, k_fa, k_it, k_if, k_tt, k_ft, k_Ta, k_aT, k_big, k_lc, k_ln, k_lm, o_eq, o_ne, o_lt, o_lts, o_le, o_gt, o_ge, o_is, o_isnt, o_in, o_notin, e_ss, e_ii, e_bb, e_nn, e_ns, e_sn, e_ni, e_in, i_n, i_s, i_i, i_b, i_t, i_l, i_bb, t_n, t_b, t_i, t_l, t_t, x_dic, x_dicI, x_tup, x_lst, at_0, at_1, at_2, at_3, d_in, d_inI, k_of, k_ofI, it_l, it_t, it_d, b_addI, b_subI, b_addL, b_addT, b_addS, b_mod, b_fdiv, b_mul, f_lenL, f_lenT, f_lenD, f_lenS, f_int, f_intB, f_tupL, f_tupT, f_lstL, f_lstT, f_dicD, f_dicL, f_dicT, f_sort, f_sortT, f_all, f_any, f_sum, in_strs, in_strsT, bind_none', Nat.reduceAdd, Nat.reduceSub, Nat.reduceLeDiff, Nat.reduceLT, List.replicate_zero, List.replicate_succ, List.map_cons, List.map_nil, List.cons_append, List.nil_append, envOf, Option.some.injEq, eq_self, and_self, if_true, if_false, List.filterMap_cons, List.filterMap_nil, List.getElem?_cons_succ, List.getElem?_cons_zero, evG_tl, e_dd, List.set_cons_zero, List.set_cons_succ, List.all_nil, yE_litems, yE_lrng, cell_zero, cell_succ])
local macro_rules | `(tactic| simp_arith [$xs,*]) => `(tactic| simp -implicitDefEqProofs (maxSteps := 4000000) (failIfUnchanged := false) only [oP_some, oP_none, oD_d, wAt_zero, wAt_succ, putW_zero, putW_succ, map_some', wipe_nil, wipe_cons, set_zero, set_succ, vw_dd, evG_nm, evG_tp, evGs_nil, evGs_cons, some_bind', evGI_f, evGI_t, yE_slot, yE_cst, yE_glob, yE_dnil, yE_one, yE_tup, yE_lst, yE_ite, yE_andv, yE_orv, yE_orT, yE_notv, yE_cmp, yE_chain, yE_bin, yE_neg, yE_idx, yE_slc, yE_callP, yE_callK, yE_callM, yE_mk, yE_blt, yE_isi, yE_sitems, yE_get1, yA_nil, yA_cons, yO_none, yO_some, yT_andv, yT_orv, yT_notv, yT_one, yT_val, yC_nil, yC_cons, yI_itv, yI_rng1, yI_rng2, yI_zip, yI_enum, yI_items, yI_vals, yS_nil, yS_seq, yS_asg, yS_par, puts_nil, puts_cons, yS_exp, yS_ret, yS_retN, yS_ite, oN_c, oL_l, oK_d, cellAt_end, toD_lst, toD_dic, asNode_lst, asNode_dic, vw_cell, vws_nil, vws_cons, allD_nil, allD_cons, anyCell_nil, anyCell_d, anyCell_c, yS_app, yS_upd, yS_frz, oSet_l, oSet_d, yS_seti, yE_pop, k_nf, k_nt, k_nn, k_to, k_fo, k_ta, k_fa, k_it, k_if, k_tt, k_ft, k_Ta, k_aT, k_big, k_lc, k_ln, k_lm, o_eq, o_ne, o_lt, o_lts, o_le, o_gt, o_ge, o_is, o_isnt, o_in, o_notin, e_ss, e_ii, e_bb, e_nn, e_ns, e_sn, e_ni, e_in, i_n, i_s, i_i, i_b, i_t, i_l, i_bb, t_n, t_b, t_i, t_l, t_t, x_dic, x_dicI, x_tup, x_lst, at_0, at_1, at_2, at_3, d_in, d_inI, k_of, k_ofI, it_l, it_t, it_d, b_addI, b_subI, b_addL, b_addT, b_addS, b_mod, b_fdiv, b_mul, f_lenL, f_lenT, f_lenD, f_lenS, f_int, f_intB, f_tupL, f_tupT, f_lstL, f_lstT, f_dicD, f_dicL, f_dicT, f_sort, f_sortT, f_all, f_any, f_sum, in_strs, in_strsT, bind_none', Nat.reduceAdd, Nat.reduceSub, Nat.reduceLeDiff, Nat.reduceLT, List.replicate_zero, List.replicate_succ, List.map_cons, List.map_nil, List.cons_append, List.nil_append, envOf, Option.some.injEq, eq_self, and_self, if_true, if_false, List.filterMap_cons, List.filterMap_nil, List.getElem?_cons_succ, List.getElem?_cons_zero, evG_tl, e_dd, List.set_cons_zero, List.set_cons_succ, List.all_nil, yE_litems, yE_lrng, cell_zero, cell_succ, $xs,*])
local macro_rules | `(tactic| simp_arith [$xs,*] at $h:ident) => `(tactic| simp -implicitDefEqProofs (maxSteps := 4000000) (failIfUnchanged := false) only [oP_some, oP_none, oD_d, wAt_zero, wAt_succ, putW_zero, putW_succ, map_some', wipe_nil, wipe_cons, set_zero, set_succ, vw_dd, evG_nm, evG_tp, evGs_nil, evGs_cons, some_bind', evGI_f, evGI_t, yE_slot, yE_cst, yE_glob, yE_dnil, yE_one, yE_tup, yE_lst, yE_ite, yE_andv, yE_orv, yE_orT, yE_notv, yE_cmp, yE_chain, yE_bin, yE_neg, yE_idx, yE_slc, yE_callP, yE_callK, yE_callM, yE_mk, yE_blt, yE_isi, yE_sitems, yE_get1, yA_nil, yA_cons, yO_none, yO_some, yT_andv, yT_orv, yT_notv, yT_one, yT_val, yC_nil, yC_cons, yI_itv, yI_rng1, yI_rng2, yI_zip, yI_enum, yI_items, yI_vals, yS_nil, yS_seq, yS_asg, yS_par, puts_nil, puts_cons, yS_exp, yS_ret, yS_retN, yS_ite, oN_c, oL_l, oK_d, cellAt_end, toD_lst, toD_dic, asNode_lst, asNode_dic, vw_cell, vws_nil, vws_cons, allD_nil, allD_cons, anyCell_nil, anyCell_d, anyCell_c, yS_app, yS_upd, yS_frz, oSet_l, oSet_d, yS_seti, yE_pop, k_nf, k_nt, k_nn, k_to, k_fo, k_ta, k_fa, k_it, k_if, k_tt, k_ft, k_Ta, k_aT, k_big, k_lc, k_ln, k_lm, o_eq, o_ne, o_lt, o_lts, o_le, o_gt, o_ge, o_is, o_isnt, o_in, o_notin, e_ss, e_ii, e_bb, e_nn, e_ns, e_sn, e_ni, e_in, i_n, i_s, i_i, i_b, i_t, i_l, i_bb, t_n, t_b, t_i, t_l, t_t, x_dic, x_dicI, x_tup, x_lst, at_0, at_1, at_2, at_3, d_in, d_inI, k_of, k_ofI, it_l, it_t, it_d, b_addI, b_subI, b_addL, b_addT, b_addS, b_mod, b_fdiv, b_mul, f_lenL, f_lenT, f_lenD, f_lenS, f_int, f_intB, f_tupL, f_tupT, f_lstL, f_lstT, f_dicD, f_dicL, f_dicT, f_sort, f_sortT, f_all, f_any, f_sum, in_strs, in_strsT, bind_none', Nat.reduceAdd, Nat.reduceSub, Nat.reduceLeDiff, Nat.reduceLT, List.replicate_zero, List.replicate_succ, List.map_cons, List.map_nil, List.cons_append, List.nil_append, envOf, Option.some.injEq, eq_self, and_self, if_true, if_false, List.filterMap_cons, List.filterMap_nil, List.getElem?_cons_succ, List.getElem?_cons_zero, evG_tl, e_dd, List.set_cons_zero, List.set_cons_succ, List.all_nil, yE_litems, yE_lrng, cell_zero, cell_succ, $xs,*] at $h:ident)
theorem cellZero (nd : Node) (M : Store) : cellAt (some nd :: M) 0 = some nd := rfl
theorem permErase {α : Type} : ∀ (l : List α) (i : Nat) (h : i < l.length), (l[i] :: l.eraseIdx i).Perm l
  | x :: l, 0, _ => List.Perm.refl _
  | x :: l, i + 1, h => by
    have h : i < l.length := by simpa using h
    show (l[i] :: x :: l.eraseIdx i).Perm (x :: l)
    exact (List.Perm.swap x _ _).trans ((permErase l i h).cons x)
/-- sorted texts -/
theorem sortD_strs {l : List Str} (h : ∀ x ∈ l, strOkD x = true) (hl : l.length ≤ 65536) : sortD (l.map .str) = some ((l.mergeSort fun a b => leD (.str a) (.str b)).map .str) := by
  have so : sortOk (l.map .str) = true := by
    unfold sortOk
    rw [List.length_map]
    simp only [Bool.and_eq_true, decide_eq_true_eq, List.all_eq_true, Bool.or_eq_true]
    refine ⟨⟨⟨fun x hx => ?_, fun x hx y hy => ?_⟩, .inr fun x hx => ?_⟩, hl⟩
    · obtain ⟨a, ha, rfl⟩ := List.mem_map.mp hx
      simp [okD, flat, dep, h a ha]
    · obtain ⟨a, ha, rfl⟩ := List.mem_map.mp hx
      obtain ⟨b, hb, rfl⟩ := List.mem_map.mp hy
      simp [alikeD, toPy, PySem.W.alike]
    · obtain ⟨a, ha, rfl⟩ := List.mem_map.mp hx
      rfl
  unfold sortD
  rw [if_pos so, List.map_mergeSort (s := leD)]
  intro a _ b _
  rfl
/-- the wants that a law draws: names of the tree, good texts -/
structure Wants (rs : List TRow) (us : List Pair) (vs : List Str) : Prop where
  nd : (us.map (·.1)).Nodup
  sub : ∀ q ∈ us, q.1 ∈ rs.map (·.1)
  val : ∀ q ∈ us, q.2 ∈ vs
  asc : us.Pairwise fun p q => leP p q = true
section
variable {T : List Def} {rs : List TRow} {ws us : List Pair} {vs : List Str} {k : Nat}
theorem Wants.ok (w : Wants rs us vs) (hn : ∀ r ∈ rs, strOkD r.1 = true) (hv : ∀ v ∈ vs, strOkD v = true) : ∀ q ∈ us, strOkD q.1 = true ∧ strOkD q.2 = true := fun q h => by
  obtain ⟨r, h1, h2⟩ := List.mem_map.mp (w.sub q h)
  exact ⟨h2 ▸ hn r h1, hv _ (w.val q h)⟩
theorem Wants.len (w : Wants rs us vs) : us.length ≤ rs.length := by
  have := nodup_le w.nd (m := rs.map (·.1)) (fun x hx => by
    obtain ⟨q, hq, rfl⟩ := List.mem_map.mp hx
    exact w.sub q hq)
  rwa [List.length_map, List.length_map] at this
/-- drawn wants -/
theorem wished_wp {d : Def} (hd : d = d_law_wished_k00 ∨ d = d_law_wished) (hf : findDef T "_law_take" = some d_law_take) (hf2 : findDef T "_law_of" = some d_law_of) (hg : findDef T "_law_wished" = some d) {M : Store} {c e : Nat} (b : Box M c e) (he : e + 200 < 2 ^ 40) (t : Tree rs) (hl : rs.length ≤ 40) (hn : ∀ r ∈ rs, strOkD r.1 = true) (hv : vs ≠ []) (hvl : vs.length ≤ 100) (hvo : ∀ v ∈ vs, strOkD v = true) {m : Int} (m0 : 0 ≤ m) (m1 : m ≤ 50) {Q : RW → Prop}
    (q : ∀ us M', Wants rs us vs → Box M' c (e + 100) → M'.length = M.length → (∀ j, j < M.length → j ≠ c → cellAt M' j = cellAt M j) → Q ((.d (.tup (us.map pairD)), false), M')) : oP ((orc T (k + 3)).m "_law_wished" [.cell c, .d (.tup (rs.map rowD)), .d (.int m), .d (.lst (vs.map .str))] M) Q := by
  have hcl : c < M.length := by obtain ⟨_, _, _, hc, _⟩ := b.at'; exact cellAt_lt' hc
  have nm : d.name = "_law_wished" := by rcases hd with rfl | rfl <;> rfl
  have bd : d.body = d_law_wished_k00.body := by rcases hd with rfl | rfl <;> rfl
  have en : ∀ ws, envOf d ws = envOf d_law_wished_k00 ws := fun ws => by rcases hd with rfl | rfl <;> rfl
  rw [← nm] at hg ⊢
  refine mCall (d := d) hg (by rcases hd with rfl | rfl <;> rfl) ?_
  rw [bd, en]
  simp_arith [d_law_wished_k00]
  refine yE_lm rs rowD (fun r => .str r.1) ?_
  simp_arith
  refine ⟨by omega, fun r hr => ?_, ?_⟩
  · simp_arith [rowD]
  refine yS_for (I := fun i ρ M' => ∃ (left : List Str) (us : List Pair) (s6 s7 : Option W), ρ = [some (.cell c), some (.d (.tup (rs.map rowD))), some (.d (.int m)), some (.d (.lst (vs.map .str))), some (.cell M.length), some (.cell (M.length + 1)), s6, s7] ∧ cellAt M' M.length = some (.lst (left.map .str)) ∧ cellAt M' (M.length + 1) = some (.lst (us.map pairD)) ∧
    (left ++ us.map (·.1)).Perm (rs.map (·.1)) ∧ (∀ q ∈ us, q.2 ∈ vs) ∧ Box M' c (e + 2 * i) ∧ M'.length = M.length + 2 ∧ ∀ j, j < M.length → j ≠ c → cellAt M' j = cellAt M j) ?_
  have o1 : ok62 m = true := by unfold ok62; rw [Bool.and_eq_true, decide_eq_true_eq, decide_eq_true_eq]; omega
  simp_arith [o1]
  refine ⟨⟨rs.map (·.1), [], none, none, ?_, ?_, ?_, ?_, ?_, ?_, ?_, ?_⟩, ?_, ?_⟩
  · rw [List.length_append]; rfl
  · rw [cellAt_app (by rw [List.length_append]; exact Nat.lt_succ_self _), List.map_map]; exact cellAt_end
  · have : M.length + 1 = (M ++ [some (Node.lst (rs.map fun r => D.str r.1))]).length := by rw [List.length_append]; rfl
    rw [this]; exact cellAt_end
  · rw [List.map_nil, List.append_nil]
  · intro q hq; cases hq
  · exact b.keep ((cellAt_app (by rw [List.length_append]; exact Nat.lt_succ_of_lt hcl)).trans (cellAt_app hcl))
  · rw [List.length_append, List.length_append]; rfl
  · intro j h1 h2
    exact (cellAt_app (by rw [List.length_append]; exact Nat.lt_succ_of_lt h1)).trans (cellAt_app h1)
  · rintro i x ρ M1 hx ⟨left, us, s6, s7, rfl, cl, cu, pm, vl, b1, l1, o1⟩
    obtain ⟨hi, rfl⟩ := rng_get hx
    have hlen : left.length + us.length = rs.length := by
      have := pm.length_eq
      rwa [List.length_append, List.length_map, List.length_map] at this
    simp_arith [cl]
    have en : eqC (.lst (left.map .str)) (.lst []) = some left.isEmpty := by
      cases left with
      | nil => rw [e_ok (by decide) (by decide)]; rfl
      | cons a left =>
        have ha : ∀ x ∈ a :: left, strOkD x = true := fun x hx => by
          obtain ⟨r, hr, e⟩ := List.mem_map.mp (pm.mem_iff.mp (List.mem_append.mpr (.inl hx)))
          exact e ▸ hn r hr
        have mm := MeasN.strs ha (by omega)
        rw [e_ok (by unfold okD; rw [mm.flat]; have := mm.dep; simpa using (by omega : dep (D.lst ((a :: left).map D.str)) ≤ 64)) (by decide)]
        rfl
    simp_arith [en]
    cases hle : left.isEmpty with
    | true =>
      simp_arith
      exact ⟨left, us, _, _, rfl, rfl, cu, pm, vl, b1.mono (by omega), l1, o1⟩
    | false =>
      have lp : 0 < left.length := by
        cases left with
        | nil => cases hle
        | cons a l => simp
      simp_arith [cu, cl]
      refine take_wp hf b1 (by omega) (by omega) (by omega) fun r M2 r0 r1 b2 l2 o2 => ?_
      have hr : r.toNat < left.length := by omega
      have cl2 : cellAt M2 M.length = some (.lst (left.map .str)) := by rw [o2 _ (by omega)]; exact cl
      have cu2 : cellAt M2 (M.length + 1) = some (.lst (us.map pairD)) := by rw [o2 _ (by omega)]; exact cu
      have hx2 : (left.map D.str)[r.toNat]? = some (.str left[r.toNat]) := by rw [List.getElem?_map, List.getElem?_eq_getElem hr]; rfl
      have ix := ixN_ok (n := left.length) r0 r1
      simp_arith [cl2, ix, hx2]
      refine ⟨by omega, ?_⟩
      have b3 : Box (M2.set M.length (some (.lst ((left.map D.str).eraseIdx r.toNat)))) c (e + 2 * i + 1) := b2.keep (cellAt_ne (by omega))
      refine ofL_wp hf hf2 b3 (by omega) (by simpa using hv) (by rw [List.length_map]; omega) fun y M3 ym b4 l4 o4 => ?_
      obtain ⟨v, vm, rfl⟩ := List.mem_map.mp ym
      rw [List.length_set] at l4
      have cu3 : cellAt M3 (M.length + 1) = some (.lst (us.map pairD)) := by rw [o4 _ (by omega), cellAt_ne (by omega)]; exact cu2
      have cl3 : cellAt M3 M.length = some (.lst ((left.eraseIdx r.toNat).map .str)) := by rw [o4 _ (by omega), cellAt_set cl2, erase_map]
      simp_arith [cu3]
      refine ⟨by omega, left.eraseIdx r.toNat, us ++ [(left[r.toNat], v)], _, _, rfl, ?_, ?_, ?_, ?_, ?_, ?_, ?_⟩
      · rw [cellAt_ne (by omega)]; exact cl3
      · rw [cellAt_set cu3, List.map_append]; rfl
      · refine List.Perm.trans ?_ pm
        rw [List.map_append]
        have h1 := permErase left r.toNat hr
        have h2 : (left.eraseIdx r.toNat ++ (us.map (·.1) ++ [left[r.toNat]])).Perm (left[r.toNat] :: (left.eraseIdx r.toNat ++ us.map (·.1))) := by
          rw [← List.append_assoc]
          exact List.perm_append_singleton _ _
        exact h2.trans (h1.append_right _)
      · intro q hq
        rcases List.mem_append.mp hq with hq | hq
        · exact vl q hq
        · have : q = (left[r.toNat], v) := by simpa using hq
          rw [this]; exact vm
      · exact (b4.keep (cellAt_ne (by omega))).mono (by omega)
      · rw [List.length_set]; omega
      · intro j h1 h2
        rw [cellAt_ne (by omega), o4 _ h2, cellAt_ne (by omega), o2 _ h2]
        exact o1 j h1 h2
  · rintro ρ M1 ⟨left, us, s6, s7, rfl, cl, cu, pm, vl, b1, l1, o1⟩
    rw [rng_length] at b1
    have ul : us.length ≤ 40 := by
      have := pm.length_eq
      rw [List.length_append, List.length_map, List.length_map] at this
      omega
    have nd : (us.map (·.1)).Nodup := ((pm.nodup_iff).mpr t.nodup).sublist (List.sublist_append_right _ _)
    have sub : ∀ q ∈ us, q.1 ∈ rs.map (·.1) := fun q hq => pm.mem_iff.mp (List.mem_append.mpr (.inr (List.mem_map.mpr ⟨q, hq, rfl⟩)))
    have ok : ∀ q ∈ us, strOkD q.1 = true ∧ strOkD q.2 = true := fun q hq => by
      obtain ⟨r, h1, h2⟩ := List.mem_map.mp (sub q hq)
      exact ⟨h2 ▸ hn r h1, hvo _ (vl q hq)⟩
    have so := sortD_pairs ok (by omega)
    have pm2 := sortP_perm us
    simp_arith [cu, so]
    refine q _ _ ⟨(pm2.map _).nodup_iff.mpr nd, fun o ho => sub o (pm2.mem_iff.mp ho), fun o ho => vl o (pm2.mem_iff.mp ho), sortP_asc us⟩ ((b1.keep ((cellAt_take hcl).trans (cellAt_ne (by omega)))).mono (by omega)) (by rw [List.length_take, List.length_set, l1]; omega) fun j h3 h4 => by rw [cellAt_take h3, cellAt_ne (by omega)]; exact o1 j h3 h4
end
end Rf

set_option Elab.async false
set_option linter.all false
set_option maxRecDepth 100000
set_option maxHeartbeats 4000000
/-! Plans upon plans. -/
namespace Rf
open PySem L2
/-- names ascend where pairs do -/
theorem lt_of_leP {p q : Pair} (h : leP p q = true) (ne : p.1 ≠ q.1) : ltS p.1 q.1 = true := by
  obtain ⟨a, v⟩ := p
  obtain ⟨b, w⟩ := q
  have ne : ¬ b = a := fun z => ne z.symm
  unfold leP leD ltD at h
  rw [Bool.not_eq_true'] at h
  have h : PySem.W.dataLt (.tuple [.str b, .str w]) (.tuple [.str a, .str v]) = false := h
  rw [PySem.W.dataLt_pair (by simp [PySem.W.alike]) (by simp [PySem.W.alike])] at h
  have e1 : PyData.eqv (.str b) (.str a) = false := by simp [PyData.eqv, ne]
  rw [e1, if_neg Bool.false_ne_true] at h
  have := PySem.W.dataLe_str (fun x : Str => x)
  have h2 := congrFun (congrFun this a) b
  rw [PySem.W.dataLe_eq] at h2
  simp only [cond_false, h, Bool.not_false] at h2
  have h3 : a.cps.toList ≤ b.cps.toList := of_decide_eq_true h2.symm
  refine decide_eq_true (Classical.byContradiction fun hn => ?_)
  exact ne (str_of_cps (List.le_antisymm h3 (List.not_lt.mp hn))).symm
theorem asc_names {us : List Pair} (nd : (us.map (·.1)).Nodup) (a : us.Pairwise fun p q => leP p q = true) : (us.map (·.1)).Pairwise fun x y => ltS x y = true := by
  rw [List.nodup_iff_pairwise_ne, List.pairwise_map] at nd
  refine List.pairwise_map.mpr ((a.and nd).imp fun {p q} h => lt_of_leP h.1 h.2)
section
variable {rs : List TRow} {ws us : List Pair} {vs : List Str}
theorem Plan.ltS (p : Plan rs ws vs) : (ws.map (·.1)).Pairwise fun x y => ltS x y = true := asc_names p.nd p.asc
def setP (x v : Str) (us : List Pair) : List Pair := match look x us with
  | some _ => us.map fun p => if p.1 = x then (p.1, v) else p
  | none => us ++ [(x, v)]
/-- the second one's settings ahead of the first one's -/
def mrgP (us ws : List Pair) : List Pair := ws.foldl (fun acc p => setP p.1 p.2 acc) us
theorem repK_pk (x v : Str) : ∀ us : List Pair, repK (.inr x) (.str v) (pk us) = pk (us.map fun p => if p.1 = x then (p.1, v) else p)
  | [] => rfl
  | p :: us => by
    show (if (Sum.inr p.1 : Key) = .inr x then ((Sum.inr p.1 : Key), D.str v) else (.inr p.1, .str p.2)) :: repK (.inr x) (.str v) (pk us) = _
    rw [repK_pk x v us]
    by_cases h : p.1 = x
    · rw [if_pos (by rw [h])]
      show _ = pk ((if p.1 = x then (p.1, v) else p) :: us.map _)
      rw [if_pos h]
      rfl
    · rw [if_neg (fun z => h (Sum.inr.inj z))]
      show _ = pk ((if p.1 = x then (p.1, v) else p) :: us.map _)
      rw [if_neg h]
      rfl
theorem setK_pk (x v : Str) (us : List Pair) : setK (.inr x) (.str v) (pk us) = pk (setP x v us) := by
  unfold setK setP
  rw [look_getK]
  cases h : look x us with
  | none => exact (pk_snoc us (x, v)).symm
  | some w => exact repK_pk x v us
theorem mergK_pk : ∀ (ws us : List Pair), mergK (pk us) (pk ws) = pk (mrgP us ws)
  | [], us => rfl
  | p :: ws, us => by
    show mergK (setK (.inr p.1) (.str p.2) (pk us)) (pk ws) = pk (mrgP (setP p.1 p.2 us) ws)
    rw [setK_pk, mergK_pk ws]
theorem setP_in {x v : Str} {us : List Pair} (h : x ∈ us.map (·.1)) : (setP x v us).map (·.1) = us.map (·.1) := by
  unfold setP
  obtain ⟨w, hw⟩ := Option.isSome_iff_exists.mp (look_isSome h)
  rw [hw]
  show (us.map _).map _ = _
  rw [List.map_map]
  exact List.map_congr_left fun p _ => by
    show (if p.1 = x then (p.1, v) else p).1 = p.1
    split <;> rfl
theorem setP_out {x v : Str} {us : List Pair} (h : x ∉ us.map (·.1)) : setP x v us = us ++ [(x, v)] := by
  unfold setP
  rw [look_none h]
theorem setP_nd {x v : Str} {us : List Pair} (h : (us.map (·.1)).Nodup) : ((setP x v us).map (·.1)).Nodup := by
  by_cases hx : x ∈ us.map (·.1)
  · rw [setP_in hx]; exact h
  · rw [setP_out hx, List.map_append, List.nodup_append]
    refine ⟨h, by simp, fun a ha b hb => ?_⟩
    have : b = x := by simpa using hb
    exact fun z => hx (by rw [← this, ← z]; exact ha)
theorem setP_sub {x v : Str} {us : List Pair} : ∀ y ∈ us.map (·.1), y ∈ (setP x v us).map (·.1) := fun y hy => by
  by_cases hx : x ∈ us.map (·.1)
  · rw [setP_in hx]; exact hy
  · rw [setP_out hx, List.map_append]; exact List.mem_append_left _ hy
theorem setP_mem {x v : Str} {us : List Pair} {p : Pair} (h : p ∈ setP x v us) : p = (x, v) ∨ p ∈ us := by
  unfold setP at h
  split at h
  · obtain ⟨q, hq, e⟩ := List.mem_map.mp h
    split at e
    · rename_i e2; exact .inl (by rw [← e, e2])
    · exact .inr (e ▸ hq)
  · rcases List.mem_append.mp h with h | h
    · exact .inr h
    · exact .inl (by simpa using h)
theorem mrgP_nd : ∀ (ws : List Pair) {us : List Pair}, (us.map (·.1)).Nodup → ((mrgP us ws).map (·.1)).Nodup
  | [], _, h => h
  | p :: ws, us, h => mrgP_nd ws (setP_nd h)
theorem mrgP_sub : ∀ (ws : List Pair) {us : List Pair}, ∀ y ∈ us.map (·.1), y ∈ (mrgP us ws).map (·.1)
  | [], _, _, h => h
  | p :: ws, us, y, h => mrgP_sub ws y (setP_sub y h)
theorem mrgP_mem : ∀ (ws : List Pair) {us : List Pair} {p : Pair}, p ∈ mrgP us ws → p ∈ ws ∨ p ∈ us
  | [], _, _, h => .inr h
  | q :: ws, us, p, h => by
    rcases mrgP_mem ws (us := setP q.1 q.2 us) h with h | h
    · exact .inl (List.mem_cons_of_mem _ h)
    · rcases setP_mem h with h | h
      · exact .inl (by rw [h]; exact List.mem_cons_self)
      · exact .inr h
theorem Plan.over (p : Plan rs ws vs) (p' : Plan rs us vs) : Plan rs (sortP (mrgP us ws)) vs := by
  refine ⟨((sortP_perm _).map _).nodup_iff.mpr (mrgP_nd ws p'.nd), fun r hr => ?_, fun q hq => ?_, fun q hq => ?_, sortP_asc _⟩
  · exact ((sortP_perm _).map _).mem_iff.mpr (mrgP_sub ws _ (p'.root r hr))
  · rcases mrgP_mem ws ((sortP_perm _).mem_iff.mp hq) with h | h
    · exact p.free q h
    · exact p'.free q h
  · rcases mrgP_mem ws ((sortP_perm _).mem_iff.mp hq) with h | h
    · exact p.val q h
    · exact p'.val q h
/-- the values of all folders that are not locked -/
def freeP (rs : List TRow) (ws : List Pair) : List Pair := (sortP (rs.map fun r => (r.1, valV ws rs r.1))).filter fun q => !decide (q.1 ∈ (rs.filter (·.2.2)).map (·.1))
theorem Plan.freeP (p : Plan rs ws vs) (t : Tree rs) : Plan rs (freeP rs ws) vs := by
  have nd : ((rs.map fun r => (r.1, valV ws rs r.1)).map (·.1)).Nodup := by rw [List.map_map]; exact t.nodup
  have nd2 := ((sortP_perm (rs.map fun r => (r.1, valV ws rs r.1))).map (·.1)).nodup_iff.mpr nd
  have fr : ∀ r ∈ rs, r.2.2 = false → r.1 ∉ (rs.filter (·.2.2)).map (·.1) := fun r hr e z => by
    obtain ⟨q, hq, e2⟩ := List.mem_map.mp z
    obtain ⟨h1, h2⟩ := List.mem_filter.mp hq
    rw [row_of_name t h1 hr e2, e] at h2
    cases h2
  refine ⟨nd2.sublist ((List.filter_sublist).map _), fun r hr => ?_, fun q hq => ?_, fun q hq => ?_, (sortP_asc _).sublist List.filter_sublist⟩
  · have hm := List.mem_of_mem_head? hr
    have e : r.2.2 = false := by
      obtain ⟨a, rest, er⟩ := t.up.1
      rw [er] at hr; cases hr; rfl
    refine List.mem_map.mpr ⟨(r.1, valV ws rs r.1), List.mem_filter.mpr ⟨(sortP_perm _).mem_iff.mpr (List.mem_map.mpr ⟨r, hm, rfl⟩), ?_⟩, rfl⟩
    simp only [Bool.not_eq_true', decide_eq_false_iff_not]
    exact fr r hm e
  · obtain ⟨h1, h2⟩ := List.mem_filter.mp hq
    obtain ⟨r, hr, rfl⟩ := List.mem_map.mp ((sortP_perm _).mem_iff.mp h1)
    refine ⟨r, hr, rfl, ?_⟩
    cases hl : r.2.2 with
    | false => rfl
    | true =>
      simp only [Bool.not_eq_true', decide_eq_false_iff_not] at h2
      exact absurd (List.mem_map.mpr ⟨r, List.mem_filter.mpr ⟨hr, hl⟩, rfl⟩) h2
  · obtain ⟨h1, h2⟩ := List.mem_filter.mp hq
    obtain ⟨r, hr, rfl⟩ := List.mem_map.mp ((sortP_perm _).mem_iff.mp h1)
    exact (valV_some t p hr).2
/-- what is left of a plan was there -/
theorem Plan.lean_sub (p : Plan rs ws vs) (t : Tree rs) : ∀ q ∈ leanF rs (valV ws rs), q ∈ ws := fun q hq => by
  obtain ⟨r, hr, rfl⟩ := List.mem_map.mp ((sortP_perm _).mem_iff.mp hq)
  obtain ⟨h1, h2⟩ := List.mem_filter.mp hr
  exact (look_iff p.nd).mp (p.chg_written t h1 h2)
theorem Plan.lean_len (p : Plan rs ws vs) (t : Tree rs) : (leanF rs (valV ws rs)).length ≤ ws.length := by
  have := nodup_le (p.lean t).nd (m := ws.map (·.1)) (fun x hx => by
    obtain ⟨q, hq, rfl⟩ := List.mem_map.mp hx
    exact List.mem_map.mpr ⟨q, p.lean_sub t q hq, rfl⟩)
  rwa [List.length_map, List.length_map] at this
/-- all values, ascending -/
def valsP (rs : List TRow) (ws : List Pair) : List Pair := sortP (rs.map fun r => (r.1, valV ws rs r.1))
theorem valsP_iff (t : Tree rs) : valsP rs ws = valsP rs us ↔ ∀ r ∈ rs, valV ws rs r.1 = valV us rs r.1 := by
  constructor
  · intro h r hr
    have h1 : (r.1, valV ws rs r.1) ∈ valsP rs us := by
      rw [← h]
      exact (sortP_perm _).mem_iff.mpr (List.mem_map.mpr ⟨r, hr, rfl⟩)
    obtain ⟨q, hq, e⟩ := List.mem_map.mp ((sortP_perm _).mem_iff.mp h1)
    have e1 : q.1 = r.1 := (Prod.mk.inj e).1
    have e2 : valV us rs q.1 = valV ws rs r.1 := (Prod.mk.inj e).2
    rw [← e2, e1]
  · intro h
    unfold valsP
    congr 1
    exact List.map_congr_left fun r hr => by rw [h r hr]
theorem lean_iff_vals (t : Tree rs) (p : Plan rs ws vs) (p' : Plan rs us vs) : (valsP rs ws == valsP rs us) = (leanF rs (valV ws rs) == leanF rs (valV us rs)) := by
  rw [Bool.eq_iff_iff, beq_iff_eq, beq_iff_eq, valsP_iff t]
  constructor
  · exact leanF_congr t
  · intro h r hr
    rw [← p.lean_val t r hr, ← p'.lean_val t r hr, h]
end
end Rf

set_option Elab.async false
set_option linter.all false
set_option maxRecDepth 100000
set_option maxHeartbeats 4000000
/-! Trees told by places: names that ascend, a parent's place, a value or none. -/
namespace Rf
open PySem L2
theorem list_lt_irrefl (l : List Nat) : ¬ l < l := List.lt_irrefl l
/-- pairs of ascending names ascend -/
theorem leP_of_lt {p q : Pair} (h : ltS p.1 q.1 = true) : leP p q = true := by
  obtain ⟨a, v⟩ := p
  obtain ⟨b, w⟩ := q
  have h : a.cps.toList < b.cps.toList := of_decide_eq_true h
  have ne : ¬ b = a := fun z => list_lt_irrefl _ (z ▸ h)
  unfold leP leD ltD
  rw [Bool.not_eq_true']
  show PySem.W.dataLt (.tuple [.str b, .str w]) (.tuple [.str a, .str v]) = false
  rw [PySem.W.dataLt_pair (by simp [PySem.W.alike]) (by simp [PySem.W.alike])]
  have e1 : PyData.eqv (.str b) (.str a) = false := by simp [PyData.eqv, ne]
  rw [e1, if_neg Bool.false_ne_true]
  have := PySem.W.dataLe_str (fun x : Str => x)
  have h2 := congrFun (congrFun this a) b
  rw [PySem.W.dataLe_eq] at h2
  simp only [cond_false] at h2
  have h3 : (!PySem.W.dataLt (.str b) (.str a)) = true := by rw [h2]; exact decide_eq_true (List.le_of_lt h)
  rwa [Bool.not_eq_true'] at h3
structure Scn (n : Nat) (ns : Nat → Str) (vr : Nat → Option Str) (G : Nat → Str) (A : Nat → Nat) : Prop where
  pos : 0 < n
  le : n ≤ 40
  asc : ∀ i j, i < j → j < n → ltS (ns i) (ns j) = true
  ok : ∀ i, i < n → strOkD (ns i) = true
  okG : ∀ i, i < n → strOkD (G i) = true
  low : ∀ i, 0 < i → i < n → A i < i
  v0 : vr 0 ≠ none
  g : ∀ i, i < n → G i = match vr i with
    | some v => v
    | none => G (A i)
def rowS (ns : Nat → Str) (A : Nat → Nat) (i : Nat) : TRow := (ns i, if i = 0 then none else some (ns (A i)), false)
def rsS (n : Nat) (ns : Nat → Str) (A : Nat → Nat) : List TRow := (List.range n).map (rowS ns A)
def wsS (n : Nat) (ns : Nat → Str) (vr : Nat → Option Str) : List Pair := (List.range n).filterMap fun i => (vr i).map fun v => (ns i, v)
def keepS (vr : Nat → Option Str) (G : Nat → Str) (A : Nat → Nat) (i : Nat) : Bool := i == 0 || match vr i with
  | some v => v != G (A i)
  | none => false
def dueS (n : Nat) (ns : Nat → Str) (vr : Nat → Option Str) (G : Nat → Str) (A : Nat → Nat) : List Pair := ((List.range n).filter (keepS vr G A)).map fun i => (ns i, G i)
section
variable {n : Nat} {ns : Nat → Str} {vr : Nat → Option Str} {G : Nat → Str} {A : Nat → Nat}
theorem Scn.inj (s : Scn n ns vr G A) {i j : Nat} (hi : i < n) (hj : j < n) (e : ns i = ns j) : i = j := by
  rcases Nat.lt_trichotomy i j with h | h | h
  · have := s.asc i j h hj
    rw [e] at this
    exact absurd (of_decide_eq_true this) (list_lt_irrefl _)
  · exact h
  · have := s.asc j i h hi
    rw [e] at this
    exact absurd (of_decide_eq_true this) (list_lt_irrefl _)
theorem rsS_names (n : Nat) (ns : Nat → Str) (A : Nat → Nat) : (rsS n ns A).map (·.1) = (List.range n).map ns := by unfold rsS; rw [List.map_map]; rfl
theorem Scn.tree (s : Scn n ns vr G A) : Tree (rsS n ns A) := by
  have go : ∀ m, 0 < m → m ≤ n → Tree (rsS m ns A) := by
    intro m
    induction m with
    | zero => intro h; omega
    | succ m ih =>
      intro _ hm
      by_cases h0 : m = 0
      · subst h0; exact .one (ns 0)
      · have e : rsS (m + 1) ns A = rsS m ns A ++ [(ns m, some (ns (A m)), false)] := by
          unfold rsS
          rw [List.range_succ, List.map_append]
          show _ ++ [rowS ns A m] = _
          unfold rowS
          rw [if_neg h0]
        rw [e]
        refine .more (ns m) (ns (A m)) false (ih (by omega) (by omega)) ?_ ?_
        · rw [rsS_names]
          intro z
          obtain ⟨j, hj, ej⟩ := List.mem_map.mp z
          have hj := List.mem_range.mp hj
          have := s.inj (by omega) (by omega) ej
          omega
        · rw [rsS_names]
          exact List.mem_map.mpr ⟨A m, List.mem_range.mpr (s.low m (by omega) (by omega)), rfl⟩
  exact go n s.pos (Nat.le_refl n)
theorem Scn.len (s : Scn n ns vr G A) : (rsS n ns A).length ≤ 40 := by unfold rsS; rw [List.length_map, List.length_range]; exact s.le
theorem mem_rsS {r : TRow} (h : r ∈ rsS n ns A) : ∃ i, i < n ∧ r = rowS ns A i := by
  obtain ⟨i, hi, rfl⟩ := List.mem_map.mp h
  exact ⟨i, List.mem_range.mp hi, rfl⟩
theorem Scn.okn (s : Scn n ns vr G A) : ∀ r ∈ rsS n ns A, strOkD r.1 = true := fun r hr => by
  obtain ⟨i, hi, rfl⟩ := mem_rsS hr
  exact s.ok i hi
theorem mem_wsS {p : Pair} : p ∈ wsS n ns vr ↔ ∃ i, i < n ∧ p.1 = ns i ∧ vr i = some p.2 := by
  unfold wsS
  rw [List.mem_filterMap]
  constructor
  · rintro ⟨i, hi, e⟩
    obtain ⟨v, hv, rfl⟩ := Option.map_eq_some_iff.mp e
    exact ⟨i, List.mem_range.mp hi, rfl, hv⟩
  · rintro ⟨i, hi, e1, e2⟩
    exact ⟨i, List.mem_range.mpr hi, by rw [e2, ← e1]; rfl⟩
theorem range_asc (s : Scn n ns vr G A) : (List.range n).Pairwise fun i j => ltS (ns i) (ns j) = true := by
  rw [List.pairwise_iff_getElem]
  intro i j hi hj hij
  rw [List.getElem_range, List.getElem_range]
  rw [List.length_range] at hj
  exact s.asc i j hij hj
theorem Scn.wasc (s : Scn n ns vr G A) : (wsS n ns vr).Pairwise fun p q => ltS p.1 q.1 = true := by
  unfold wsS
  refine List.Pairwise.filterMap _ (fun i j h p hp q hq => ?_) (range_asc s)
  obtain ⟨v, _, rfl⟩ := Option.map_eq_some_iff.mp hp
  obtain ⟨w, _, rfl⟩ := Option.map_eq_some_iff.mp hq
  exact h
theorem nd_of_lt {us : List Pair} (h : us.Pairwise fun p q => ltS p.1 q.1 = true) : (us.map (·.1)).Nodup :=
  by
  refine List.pairwise_map.mpr (h.imp fun {a b} (h : ltS a.1 b.1 = true) (e : a.1 = b.1) => ?_)
  have := of_decide_eq_true h
  rw [e] at this
  exact list_lt_irrefl _ this
theorem asc_of_lt {us : List Pair} (h : us.Pairwise fun p q => ltS p.1 q.1 = true) : us.Pairwise fun p q => leP p q = true := h.imp fun h => leP_of_lt h
theorem Scn.plan (s : Scn n ns vr G A) : Plan (rsS n ns A) (wsS n ns vr) ((List.range n).map G) := by
  refine ⟨nd_of_lt s.wasc, fun r hr => ?_, fun p hp => ?_, fun p hp => ?_, asc_of_lt s.wasc⟩
  · have e : rsS n ns A = rowS ns A 0 :: ((List.range n).drop 1).map (rowS ns A) := by
      unfold rsS
      obtain ⟨m, rfl⟩ : ∃ m, n = m + 1 := ⟨n - 1, by have := s.pos; omega⟩
      rw [List.range_succ_eq_map]; rfl
    rw [e] at hr
    cases hr
    cases h : vr 0 with
    | none => exact absurd h s.v0
    | some v => exact List.mem_map.mpr ⟨(ns 0, v), mem_wsS.mpr ⟨0, s.pos, rfl, h⟩, rfl⟩
  · obtain ⟨i, hi, e1, _⟩ := mem_wsS.mp hp
    exact ⟨rowS ns A i, List.mem_map.mpr ⟨i, List.mem_range.mpr hi, rfl⟩, e1.symm, rfl⟩
  · obtain ⟨i, hi, e1, e2⟩ := mem_wsS.mp hp
    refine List.mem_map.mpr ⟨i, List.mem_range.mpr hi, ?_⟩
    rw [s.g i hi, e2]
theorem Scn.okv (s : Scn n ns vr G A) : ∀ v ∈ (List.range n).map G, strOkD v = true := fun v hv => by
  obtain ⟨i, hi, rfl⟩ := List.mem_map.mp hv
  exact s.okG i (List.mem_range.mp hi)
theorem Scn.look (s : Scn n ns vr G A) {i : Nat} (hi : i < n) : look (ns i) (wsS n ns vr) = vr i := by
  cases h : vr i with
  | some v => exact (look_iff (nd_of_lt s.wasc)).mpr (mem_wsS.mpr ⟨i, hi, rfl, h⟩)
  | none =>
    refine look_none fun z => ?_
    obtain ⟨p, hp, e⟩ := List.mem_map.mp z
    obtain ⟨j, hj, e1, e2⟩ := mem_wsS.mp hp
    have := s.inj hj hi (e1.symm.trans e)
    rw [this, h] at e2
    cases e2
theorem Scn.val (s : Scn n ns vr G A) : ∀ i, i < n → valV (wsS n ns vr) (rsS n ns A) (ns i) = G i := by
  intro i
  induction i using Nat.strongRecOn with
  | _ i ih =>
    intro hi
    have hm : rowS ns A i ∈ rsS n ns A := List.mem_map.mpr ⟨i, List.mem_range.mpr hi, rfl⟩
    have e := val_eq s.tree (s.plan.rooted s.tree) hm
    have e : valV (wsS n ns vr) (rsS n ns A) (ns i) = match Rf.look (ns i) (wsS n ns vr) with
      | some v => v
      | none => valV (wsS n ns vr) (rsS n ns A) (parS (rowS ns A i)) := e
    rw [s.look hi] at e
    rw [e, s.g i hi]
    cases h : vr i with
    | some v => rfl
    | none =>
      have i0 : i ≠ 0 := fun z => s.v0 (z ▸ h)
      have ps : parS (rowS ns A i) = ns (A i) := by unfold parS rowS; rw [if_neg i0]; rfl
      simp only [ps]
      exact ih (A i) (s.low i (by omega) hi) (by have := s.low i (by omega) hi; omega)
theorem Scn.chg (s : Scn n ns vr G A) {i : Nat} (hi : i < n) : Rf.chg (valV (wsS n ns vr) (rsS n ns A)) (rowS ns A i) = keepS vr G A i := by
  unfold Rf.chg keepS rowS
  by_cases h0 : i = 0
  · subst h0; rfl
  · rw [if_neg h0]
    have hA := s.low i (by omega) hi
    show (valV _ _ (ns i) != valV _ _ (ns (A i))) = _
    rw [s.val i hi, s.val (A i) (by omega)]
    have : (i == 0) = false := by simpa using h0
    rw [this, Bool.false_or, s.g i hi]
    cases vr i with
    | some v => rfl
    | none => simp
theorem Scn.leanL (s : Scn n ns vr G A) : Rf.leanL (rsS n ns A) (valV (wsS n ns vr) (rsS n ns A)) = dueS n ns vr G A := by
  unfold Rf.leanL dueS rsS
  rw [List.filter_map, List.map_map]
  have e : (List.range n).filter (Rf.chg (valV (wsS n ns vr) ((List.range n).map (rowS ns A))) ∘ rowS ns A) = (List.range n).filter (keepS vr G A) := List.filter_congr fun i hi => s.chg (List.mem_range.mp hi)
  rw [e]
  refine List.map_congr_left fun i hi => ?_
  have hi := List.mem_range.mp (List.mem_filter.mp hi).1
  show (ns i, valV (wsS n ns vr) (rsS n ns A) (ns i)) = _
  rw [s.val i hi]
theorem Scn.dasc (s : Scn n ns vr G A) : (dueS n ns vr G A).Pairwise fun p q => ltS p.1 q.1 = true := by
  unfold dueS
  exact List.pairwise_map.mpr ((range_asc s).sublist (List.filter_sublist))
theorem Scn.leanF (s : Scn n ns vr G A) : Rf.leanF (rsS n ns A) (valV (wsS n ns vr) (rsS n ns A)) = dueS n ns vr G A := by
  unfold Rf.leanF
  rw [s.leanL, sortP_id (asc_of_lt s.dasc)]
theorem Scn.vals (s : Scn n ns vr G A) : sortP ((rsS n ns A).map fun r => (r.1, valV (wsS n ns vr) (rsS n ns A) r.1)) = (List.range n).map fun i => (ns i, G i) := by
  have e : (rsS n ns A).map (fun r => (r.1, valV (wsS n ns vr) (rsS n ns A) r.1)) = (List.range n).map fun i => (ns i, G i) := by
    unfold rsS
    rw [List.map_map]
    refine List.map_congr_left fun i hi => ?_
    show (ns i, valV (wsS n ns vr) (rsS n ns A) (ns i)) = _
    rw [s.val i (List.mem_range.mp hi)]
  rw [e]
  exact sortP_id (asc_of_lt (List.pairwise_map.mpr (range_asc s)))
theorem Scn.isLean (s : Scn n ns vr G A) : Rf.isLean (rsS n ns A) (wsS n ns vr) = (dueS n ns vr G A == wsS n ns vr) := by
  have := s.plan.lean_iff s.tree
  rw [s.leanF] at this
  cases h : Rf.isLean (rsS n ns A) (wsS n ns vr) with
  | true => rw [this.mp h]; simp
  | false =>
    have : dueS n ns vr G A ≠ wsS n ns vr := fun z => by
      rw [this.mpr z] at h; cases h
    exact (by simpa using this : (dueS n ns vr G A == wsS n ns vr) = false).symm
end
end Rf

set_option Elab.async false
set_option linter.all false
set_option maxRecDepth 100000
set_option maxHeartbeats 4000000
namespace Rf
open PySem L2
local macro_rules | `(tactic| simp_arith) => `(tactic| simp -implicitDefEqProofs (maxSteps := 4000000) (failIfUnchanged := false) only [oP_some, oP_none, oD_d, wAt_zero, wAt_succ, putW_zero, putW_succ, map_some', wipe_nil, wipe_cons, set_zero, set_succ, vw_dd, evG_nm, evG_tp, evGs_nil, evGs_cons, some_bind', evGI_f, evGI_t, yE_slot, yE_cst, yE_glob, yE_dnil, yE_one, yE_tup, yE_lst, yE_ite, yE_andv, yE_orv, yE_orT, yE_notv, yE_cmp, yE_chain, yE_bin, yE_neg, yE_idx, yE_slc, yE_callP, yE_callK, yE_callM, yE_mk, yE_blt, yE_isi, yE_sitems, yE_get1, yA_nil, yA_cons, yO_none, yO_some, yT_andv, yT_orv, yT_notv, yT_one, yT_val, yC_nil, yC_cons, yI_itv, yI_rng1, yI_rng2, yI_zip, yI_enum, yI_items, yI_vals, yS_nil, yS_seq, yS_asg, yS_par, puts_nil, puts_cons, yS_exp, yS_ret, yS_retN, yS_ite, oN_c, oL_l, oK_d, cellAt_end, toD_lst, toD_dic, asNode_lst, asNode_dic, vw_cell, vws_nil, vws_cons, allD_nil, allD_cons, anyCell_nil, anyCell_d, anyCell_c, yS_app, yS_upd, yS_frz, oSet_l, oSet_d, yS_seti, yE_pop, k_nf, k_nt, k_nn, k_to, k_fo, k_ta, k_fa, k_it, k_if, k_tt, k_ft, k_Ta, k_aT, k_big, k_lc, k_ln, k_lm, o_eq, o_ne, o_lt, o_lts, o_le, o_gt, o_ge, o_is, o_isnt, o_in, o_notin, e_ss, e_ii, e_bb, e_nn, e_ns, e_sn, e_ni, e_in, i_n, i_s, i_i, i_b, i_t, i_l, i_bb, t_n, t_b, t_i, t_l, t_t, x_dic, x_dicI, x_tup, x_lst, at_0, at_1, at_2, at_3, d_in, d_inI, k_of, k_ofI, it_l, it_t, it_d, b_addI, b_subI, b_addL, b_addT, b_addS, b_mod, b_fdiv, b_mul, f_lenL, f_lenT, f_lenD, f_lenS, f_int, f_intB, f_tupL, f_tupT, f_lstL, f_lstT, f_dicD, f_dicL, f_dicT, f_sort, f_sortT, f_all, f_any, f_sum, in_strs, in_strsT, bind_none', Nat.reduceAdd, Nat.reduceSub, Nat.reduceLeDiff, Nat.reduceLT, List.replicate_zero, List.replicate_succ, List.map_cons, List.map_nil, List.cons_append, List.nil_append, envOf, Option.some.injEq, eq_self, and_self, if_true, if_false, List.filterMap_cons, List.filterMap_nil, List.getElem?_cons_succ, List.getElem?_cons_zero, evG_tl, e_dd, List.set_cons_zero, List.set_cons_succ, List.all_nil, yE_litems, yE_lrng, cell_zero, cell_succ])
local macro_rules | `(tactic| simp_arith [$xs,*]) => `(tactic| simp -implicitDefEqProofs (maxSteps := 4000000) (failIfUnchanged := false) only [oP_some, oP_none, oD_d, wAt_zero, wAt_succ, putW_zero, putW_succ, map_some', wipe_nil, wipe_cons, set_zero, set_succ, vw_dd, evG_nm, evG_tp, evGs_nil, evGs_cons, some_bind', evGI_f, evGI_t, yE_slot, yE_cst, yE_glob, yE_dnil, yE_one, yE_tup, yE_lst, yE_ite, yE_andv, yE_orv, yE_orT, yE_notv, yE_cmp, yE_chain, yE_bin, yE_neg, yE_idx, yE_slc, yE_callP, yE_callK, yE_callM, yE_mk, yE_blt, yE_isi, yE_sitems, yE_get1, yA_nil, yA_cons, yO_none, yO_some, yT_andv, yT_orv, yT_notv, yT_one, yT_val, yC_nil, yC_cons, yI_itv, yI_rng1, yI_rng2, yI_zip, yI_enum, yI_items, yI_vals, yS_nil, yS_seq, yS_asg, yS_par, puts_nil, puts_cons, yS_exp, yS_ret, yS_retN, yS_ite, oN_c, oL_l, oK_d, cellAt_end, toD_lst, toD_dic, asNode_lst, asNode_dic, vw_cell, vws_nil, vws_cons, allD_nil, allD_cons, anyCell_nil, anyCell_d, anyCell_c, yS_app, yS_upd, yS_frz, oSet_l, oSet_d, yS_seti, yE_pop, k_nf, k_nt, k_nn, k_to, k_fo, k_ta, k_fa, k_it, k_if, k_tt, k_ft, k_Ta, k_aT, k_big, k_lc, k_ln, k_lm, o_eq, o_ne, o_lt, o_lts, o_le, o_gt, o_ge, o_is, o_isnt, o_in, o_notin, e_ss, e_ii, e_bb, e_nn, e_ns, e_sn, e_ni, e_in, i_n, i_s, i_i, i_b, i_t, i_l, i_bb, t_n, t_b, t_i, t_l, t_t, x_dic, x_dicI, x_tup, x_lst, at_0, at_1, at_2, at_3, d_in, d_inI, k_of, k_ofI, it_l, it_t, it_d, b_addI, b_subI, b_addL, b_addT, b_addS, b_mod, b_fdiv, b_mul, f_lenL, f_lenT, f_lenD, f_lenS, f_int, f_intB, f_tupL, f_tupT, f_lstL, f_lstT, f_dicD, f_dicL, f_dicT, f_sort, f_sortT, f_all, f_any, f_sum, in_strs, in_strsT, bind_none', Nat.reduceAdd, Nat.reduceSub, Nat.reduceLeDiff, Nat.reduceLT, List.replicate_zero, List.replicate_succ, List.map_cons, List.map_nil, List.cons_append, List.nil_append, envOf, Option.some.injEq, eq_self, and_self, if_true, if_false, List.filterMap_cons, List.filterMap_nil, List.getElem?_cons_succ, List.getElem?_cons_zero, evG_tl, e_dd, List.set_cons_zero, List.set_cons_succ, List.all_nil, yE_litems, yE_lrng, cell_zero, cell_succ, $xs,*])
local macro_rules | `(tactic| simp_arith [$xs,*] at $h:ident) => `(tactic| simp -implicitDefEqProofs (maxSteps := 4000000) (failIfUnchanged := false) only [oP_some, oP_none, oD_d, wAt_zero, wAt_succ, putW_zero, putW_succ, map_some', wipe_nil, wipe_cons, set_zero, set_succ, vw_dd, evG_nm, evG_tp, evGs_nil, evGs_cons, some_bind', evGI_f, evGI_t, yE_slot, yE_cst, yE_glob, yE_dnil, yE_one, yE_tup, yE_lst, yE_ite, yE_andv, yE_orv, yE_orT, yE_notv, yE_cmp, yE_chain, yE_bin, yE_neg, yE_idx, yE_slc, yE_callP, yE_callK, yE_callM, yE_mk, yE_blt, yE_isi, yE_sitems, yE_get1, yA_nil, yA_cons, yO_none, yO_some, yT_andv, yT_orv, yT_notv, yT_one, yT_val, yC_nil, yC_cons, yI_itv, yI_rng1, yI_rng2, yI_zip, yI_enum, yI_items, yI_vals, yS_nil, yS_seq, yS_asg, yS_par, puts_nil, puts_cons, yS_exp, yS_ret, yS_retN, yS_ite, oN_c, oL_l, oK_d, cellAt_end, toD_lst, toD_dic, asNode_lst, asNode_dic, vw_cell, vws_nil, vws_cons, allD_nil, allD_cons, anyCell_nil, anyCell_d, anyCell_c, yS_app, yS_upd, yS_frz, oSet_l, oSet_d, yS_seti, yE_pop, k_nf, k_nt, k_nn, k_to, k_fo, k_ta, k_fa, k_it, k_if, k_tt, k_ft, k_Ta, k_aT, k_big, k_lc, k_ln, k_lm, o_eq, o_ne, o_lt, o_lts, o_le, o_gt, o_ge, o_is, o_isnt, o_in, o_notin, e_ss, e_ii, e_bb, e_nn, e_ns, e_sn, e_ni, e_in, i_n, i_s, i_i, i_b, i_t, i_l, i_bb, t_n, t_b, t_i, t_l, t_t, x_dic, x_dicI, x_tup, x_lst, at_0, at_1, at_2, at_3, d_in, d_inI, k_of, k_ofI, it_l, it_t, it_d, b_addI, b_subI, b_addL, b_addT, b_addS, b_mod, b_fdiv, b_mul, f_lenL, f_lenT, f_lenD, f_lenS, f_int, f_intB, f_tupL, f_tupT, f_lstL, f_lstT, f_dicD, f_dicL, f_dicT, f_sort, f_sortT, f_all, f_any, f_sum, in_strs, in_strsT, bind_none', Nat.reduceAdd, Nat.reduceSub, Nat.reduceLeDiff, Nat.reduceLT, List.replicate_zero, List.replicate_succ, List.map_cons, List.map_nil, List.cons_append, List.nil_append, envOf, Option.some.injEq, eq_self, and_self, if_true, if_false, List.filterMap_cons, List.filterMap_nil, List.getElem?_cons_succ, List.getElem?_cons_zero, evG_tl, e_dd, List.set_cons_zero, List.set_cons_succ, List.all_nil, yE_litems, yE_lrng, cell_zero, cell_succ, $xs,*] at $h:ident)
/-- a NAME, or a VALUE -/
def nameS (s : Str) : Bool := decide (1 ≤ s.cps.size) && decide (s.cps.size ≤ 8) && s.cps.toList.all fun c => decide (97 ≤ c) && decide (c ≤ 122)
section
variable {T : List Def} {k : Nat}
theorem letter_in : ∀ c, 97 ≤ c → c ≤ 122 → inS ⟨#[c]⟩ "abcdefghijklmnopqrstuvwxyz" = true := by
  have z : ∀ i : Fin 26, inS ⟨#[97 + i.val]⟩ "abcdefghijklmnopqrstuvwxyz" = true := by decide +kernel
  intro c h1 h2
  have := z ⟨c - 97, by omega⟩
  have e : 97 + (c - 97) = c := by omega
  simpa only [e] using this
theorem name_at (hf : findDef T "is_name" = some d_is_name) {s : Str} (h : nameS s = true) : (orc T (k + 1)).p "is_name" [.str s] = some (.bl true, false) := by
  unfold nameS at h
  simp only [Bool.and_eq_true, decide_eq_true_eq] at h
  obtain ⟨⟨h1, h2⟩, h3⟩ := h
  refine pEq (pCall (d := d_is_name) hf rfl ?_)
  have t1 : isTys (.str s) [.str] = some true := rfl
  have t2 : evB .len [.str s] = some (.int (s.cps.size : Nat), false) := by
    show (if s.cps.size ≤ big then _ else _) = _
    rw [if_pos (by unfold big; omega)]; rfl
  have d1 : decide ((1 : Int) ≤ (s.cps.size : Nat)) = true := by simp only [decide_eq_true_eq]; omega
  have d2 : decide (((s.cps.size : Nat) : Int) ≤ 8) = true := by simp only [decide_eq_true_eq]; omega
  simp_arith [d_is_name, t1, t2, d1, d2]
  refine yE_lm s.cps.toList (fun c => .str ⟨#[c]⟩) (fun _ => .bl true) ?_
  have i1 : itemsD (.str s) = some (s.cps.toList.map fun c => .str ⟨#[c]⟩) := rfl
  have hl : s.cps.toList.length = s.cps.size := Array.length_toList
  simp_arith [i1, hl]
  refine ⟨by omega, fun c hc => ?_, ?_⟩
  · have hc := List.all_eq_true.mp h3 c hc
    simp only [Bool.and_eq_true, decide_eq_true_eq] at hc
    have l1 : inC (.str ⟨#[c]⟩) (.str "abcdefghijklmnopqrstuvwxyz") = some (inS ⟨#[c]⟩ "abcdefghijklmnopqrstuvwxyz") := rfl
    rw [letter_in c hc.1 hc.2] at l1
    simp_arith [l1]
  have b1 : blsOf (s.cps.toList.map fun _ => D.bl true) = some (s.cps.toList.map fun _ => true) := bls_map _ _
  simp_arith [b1]
  rw [show (s.cps.toList.map fun _ => true).all id = true from List.all_eq_true.mpr fun b hb => by
    obtain ⟨c, _, rfl⟩ := List.mem_map.mp hb; rfl]
theorem zipD_maps {α β : Type} (f : α → D) (g : β → D) : ∀ (a : List α) (b : List β), zipD (a.map f) (b.map g) = (a.zip b).map fun p => .tup [f p.1, g p.2]
  | [], b => by cases b <;> rfl
  | x :: a, [] => rfl
  | x :: a, y :: b => by rw [List.map_cons, List.map_cons, zipD, zipD_maps f g a b]; rfl
theorem zip_drop {α : Type} {R : α → α → Prop} : ∀ {l : List α}, l.Pairwise R → ∀ p ∈ l.zip (l.drop 1), R p.1 p.2
  | [], _, p, h => by cases h
  | [x], _, p, h => by cases h
  | x :: y :: l, h, p, hp => by
    rw [List.pairwise_cons] at h
    have hp : p ∈ (x, y) :: (y :: l).zip l := hp
    rcases List.mem_cons.mp hp with rfl | hp
    · exact h.1 y (by simp)
    · exact zip_drop (l := y :: l) h.2 p hp
theorem slcL_one {xs : List D} : slcD (.lst xs) (some 1) none = some (.lst (xs.drop 1), true) := by
  show some (D.lst (cut _ (some ((1 : Nat) : Int)) none), true) = _
  unfold cut
  rw [HT.sIx_none, HT.sIx_nat]
  congr 3
  have : List.drop (min 1 xs.length) xs = xs.drop 1 := by
    rcases Nat.le_total 1 xs.length with h | h
    · rw [Nat.min_eq_left h]
    · rw [Nat.min_eq_right h, List.drop_of_length_le h, List.drop_of_length_le (Nat.le_refl _)]
  first
    | rw [this]; exact List.take_of_length_le (by rw [List.length_drop]; omega)
    | (rw [List.take_of_length_le (by rw [List.length_drop]; omega)]; exact this)
theorem ascends_at (hf : findDef T "ascends" = some d_ascends) {l : List Str} (h : l.Pairwise fun a b => ltS a b = true) (hl : l.length ≤ 1000) : (orc T (k + 1)).p "ascends" [.lst (l.map .str)] = some (.bl true, false) := by
  refine pEq (pCall (d := d_ascends) hf rfl ?_)
  simp_arith [d_ascends]
  refine yE_lm (l.zip (l.drop 1)) (fun p => .tup [.str p.1, .str p.2]) (fun _ => .bl true) ?_
  have sl : slcD (.lst (l.map .str)) (some 1) none = some (.lst ((l.drop 1).map .str), true) := by rw [slcL_one, List.map_drop]
  have zl : (l.zip (l.drop 1)).length ≤ 1000 := by rw [List.length_zip]; omega
  simp_arith [sl, zipD_maps]
  refine ⟨by omega, fun p hp => ?_, ?_⟩
  · have := zip_drop h p hp
    simp_arith [this]
  have b1 : blsOf ((l.zip (l.drop 1)).map fun _ => D.bl true) = some ((l.zip (l.drop 1)).map fun _ => true) := bls_map _ _
  simp_arith [b1]
  rw [show ((l.zip (l.drop 1)).map fun _ => true).all id = true from List.all_eq_true.mpr fun b hb => by
    obtain ⟨c, _, rfl⟩ := List.mem_map.mp hb; rfl]
theorem are_pairs_at (h1 : findDef T "is_name" = some d_is_name) (h2 : findDef T "ascends" = some d_ascends) (hf : findDef T "are_pairs" = some d_are_pairs) {us : List Pair} {ns : List Str}
    (asc : (us.map (·.1)).Pairwise fun a b => ltS a b = true) (hl : us.length ≤ 1000) (nm : ∀ p ∈ us, nameS p.2 = true) (ins : ∀ p ∈ us, p.1 ∈ ns) (hn : ns.length ≤ 1000) :
    (orc T (k + 2)).p "are_pairs" [.tup (us.map pairD), .lst (ns.map .str)] = some (.bl true, false) := by
  refine pEq (pCall (d := d_are_pairs) hf rfl ?_)
  have t1 : ∀ xs : List D, isTys (.tup xs) [.tuple] = some true := fun _ => rfl
  have t2 : ∀ s : Str, isTys (.str s) [.str] = some true := fun _ => rfl
  simp_arith [d_are_pairs, t1]
  refine yS_for (I := fun _ ρ M' => ∃ s2 : Option W, ρ = [some (.d (.tup (us.map pairD))), some (.d (.lst (ns.map .str))), s2] ∧ M' = []) ?_
  simp_arith
  refine ⟨⟨_, rfl⟩, ?_, ?_⟩
  · rintro i y ρ M hy ⟨s2, rfl, rfl⟩
    rw [List.getElem?_map] at hy
    obtain ⟨p, hp, rfl⟩ := Option.map_eq_some_iff.mp hy
    have hm := List.mem_of_getElem? hp
    have i0 : idxD (pairD p) (.int 0) = some (.str p.1) := at_0 _ _
    have i1 : idxD (pairD p) (.int 1) = some (.str p.2) := at_1 _ _ _
    have tp : isTys (pairD p) [.tuple] = some true := rfl
    have lp : evB .len [pairD p] = some (.int 2, false) := rfl
    have q := name_at (k := k) h1 (nm p hm)
    have im : decide (p.1 ∈ ns) = true := decide_eq_true (ins p hm)
    have z2 : ((2 : Int) == 2) = true := rfl
    simp_arith [i0, i1, tp, lp, q, t2, im, z2]
    exact ⟨_, rfl⟩
  · rintro ρ M ⟨s2, rfl, rfl⟩
    simp_arith
    refine yE_lm us pairD (fun p => .str p.1) ?_
    simp_arith
    refine ⟨by omega, fun p hp => ?_, ?_⟩
    · have i0 : idxD (pairD p) (.int 0) = some (.str p.1) := at_0 _ _
      simp_arith [i0]
    have a := ascends_at (k := k) h2 asc (by rw [List.length_map]; exact hl)
    rw [List.map_map] at a
    have a : (orc T (k + 1)).p "ascends" [.lst (us.map fun p => .str p.1)] = some (.bl true, false) := a
    simp_arith [a]
theorem root_at (hf : findDef T "root_of" = some d_root_of) {rs : List TRow} {a : Str} {rest : List TRow} (er : rs = (a, none, false) :: rest) : (orc T (k + 1)).p "root_of" [.tup (rs.map rowD)] = some (.str a, false) := by
  refine pEq (pCall (d := d_root_of) hf rfl ?_)
  have i0 : atI (rs.map rowD) 0 = some (rowD (a, none, false)) := by rw [er]; exact at_0 _ _
  have i1 : idxD (rowD (a, none, false)) (.int 0) = some (.str a) := at_0 _ _
  simp_arith [d_root_of, i0, i1]
/-- settings by names that ascend, in a tree with free names ns -/
theorem is_plan_at (h1 : findDef T "is_name" = some d_is_name) (h2 : findDef T "ascends" = some d_ascends) (h3 : findDef T "are_pairs" = some d_are_pairs) (h4 : findDef T "root_of" = some d_root_of) (hf : findDef T "is_plan" = some d_is_plan)
    {rs : List TRow} {us : List Pair} {a : Str} {rest : List TRow} (er : rs = (a, none, false) :: rest) (hrs : rs.length ≤ 1000)
    (asc : (us.map (·.1)).Pairwise fun a b => ltS a b = true) (hl : us.length ≤ 1000) (nm : ∀ p ∈ us, nameS p.2 = true) (ins : ∀ p ∈ us, ∃ r ∈ rs, r.1 = p.1 ∧ r.2.2 = false) (root : a ∈ us.map (·.1)) :
    (orc T (k + 3)).p "is_plan" [.tup (rs.map rowD), .tup (us.map pairD)] = some (.bl true, false) := by
  refine pEq (pCall (d := d_is_plan) hf rfl ?_)
  simp_arith [d_is_plan]
  refine yE_lc rs rowD (fun r => !r.2.2) (fun r => .str r.1) ?_
  have hr0 : ∀ r : TRow, idxD (rowD r) (.int 0) = some (.str r.1) := fun r => at_0 _ _
  have hr2 : ∀ r : TRow, idxD (rowD r) (.int 2) = some (.bl r.2.2) := fun r => at_2 _ _ _ _
  simp_arith
  refine ⟨by omega, fun r hr => ?_, ?_⟩
  · simp_arith [hr0, hr2]
    cases r.2.2 <;> simp
  have ap := are_pairs_at (k := k) h1 h2 h3 (ns := (rs.filter fun r => !r.2.2).map (·.1)) asc hl nm (fun p hp => by
    obtain ⟨r, hr, e1, e2⟩ := ins p hp
    exact List.mem_map.mpr ⟨r, List.mem_filter.mpr ⟨hr, by rw [e2]; rfl⟩, e1⟩) (by
    rw [List.length_map]; exact Nat.le_trans (List.length_filter_le ..) hrs)
  rw [List.map_map] at ap
  have ap : (orc T (k + 2)).p "are_pairs" [.tup (us.map pairD), .lst ((rs.filter fun r => !r.2.2).map fun r => .str r.1)] = some (.bl true, false) := ap
  have rt := root_at (k := k + 1) h4 er
  simp_arith [ap, rt]
  refine yE_lm us pairD (fun p => .str p.1) ?_
  simp_arith
  refine ⟨by omega, fun p hp => ?_, ?_⟩
  · simp_arith [pairD]
  have im : decide (a ∈ us.map (·.1)) = true := decide_eq_true root
  have ms := in_strs a (us.map (·.1))
  rw [List.map_map, im] at ms
  have ms : inC (.str a) (.lst (us.map fun p => .str p.1)) = some true := ms
  simp_arith [ms]
theorem names_of_at (hf : findDef T "names_of" = some d_names_of) {rs : List TRow} (hrs : rs.length ≤ 1000) : (orc T (k + 1)).p "names_of" [.tup (rs.map rowD)] = some (.lst ((rs.map (·.1)).map .str), true) := by
  refine pEq (pCall (d := d_names_of) hf rfl ?_)
  have hr0 : ∀ r : TRow, idxD (rowD r) (.int 0) = some (.str r.1) := fun r => at_0 _ _
  simp_arith [d_names_of]
  refine yE_lm rs rowD (fun r => .str r.1) ?_
  simp_arith
  refine ⟨by omega, fun r hr => ?_, ?_⟩
  · simp_arith [hr0]
  rw [List.map_map]
  rfl
theorem are_wants_at (h1 : findDef T "is_name" = some d_is_name) (h2 : findDef T "ascends" = some d_ascends) (h3 : findDef T "are_pairs" = some d_are_pairs) (h4 : findDef T "names_of" = some d_names_of) (hf : findDef T "are_wants" = some d_are_wants)
    {rs : List TRow} {us : List Pair} (hrs : rs.length ≤ 1000)
    (asc : (us.map (·.1)).Pairwise fun a b => ltS a b = true) (hl : us.length ≤ 1000) (nm : ∀ p ∈ us, nameS p.2 = true) (ins : ∀ p ∈ us, p.1 ∈ rs.map (·.1)) :
    (orc T (k + 3)).p "are_wants" [.tup (rs.map rowD), .tup (us.map pairD)] = some (.bl true, false) := by
  refine pEq (pCall (d := d_are_wants) hf rfl ?_)
  have n1 := names_of_at (k := k + 1) h4 hrs
  have ap := are_pairs_at (k := k) h1 h2 h3 (ns := rs.map (·.1)) asc hl nm ins (by rw [List.length_map]; exact hrs)
  simp_arith [d_are_wants, n1, ap]
theorem is_row_wp (h1 : findDef T "is_name" = some d_is_name) (hf : findDef T "is_row" = some d_is_row) {r : TRow} {ns : List Str} {M : Store} {c : Nat} (hc : cellAt M c = some (.lst (ns.map .str))) (hn : ns.length ≤ 1000) (nm : nameS r.1 = true) (fr : r.1 ∉ ns)
    (up : (ns = [] ∧ r.2.1 = none ∧ r.2.2 = false) ∨ (∃ p, r.2.1 = some p ∧ p ∈ ns)) {Q : RW → Prop} (q : Q ((.d (.bl true), false), M)) : oP ((orc T (k + 2)).m "is_row" [.d (rowD r), .cell c] M) Q := by
  refine mCall (d := d_is_row) hf rfl ?_
  have i0 : idxD (rowD r) (.int 0) = some (.str r.1) := at_0 _ _
  have i1 : idxD (rowD r) (.int 1) = some (optD r.2.1) := at_1 _ _ _
  have i2 : idxD (rowD r) (.int 2) = some (.bl r.2.2) := at_2 _ _ _ _
  have tp : isTys (rowD r) [.tuple] = some true := rfl
  have lp : evB .len [rowD r] = some (.int 3, false) := rfl
  have z3 : ((3 : Int) == 3) = true := rfl
  have tb : isTys (.bl r.2.2) [.bool] = some true := rfl
  have q1 := name_at (k := k) h1 nm
  have im : decide (r.1 ∈ ns) = false := decide_eq_false fr
  simp_arith [d_is_row, i0, i1, i2, tp, lp, z3, tb, q1, im, hc, List.take_length]
  rcases up with ⟨rfl, e1, e2⟩ | ⟨p, e1, hp⟩
  · have o1 : isC (optD r.2.1) .non = some true := by rw [e1]; rfl
    have z0 : (((0 : Nat) : Int) == 0) = true := rfl
    simp_arith [z0, o1, e2]
    exact q
  · have z0 : ((ns.length : Int) == 0) = false := by
      have : 0 < ns.length := List.length_pos_of_mem hp
      simp; intro z; rw [z] at hp; cases hp
    have o1 : isTys (optD r.2.1) [.str] = some true := by rw [e1]; rfl
    have o2 : inC (optD r.2.1) (.lst (ns.map .str)) = some true := by
      rw [e1]
      exact (in_strs p ns).trans (by rw [decide_eq_true hp])
    simp_arith [z0, o1, o2]
    exact q
theorem is_tree_at (h1 : findDef T "is_name" = some d_is_name) (h2 : findDef T "is_row" = some d_is_row) (hf : findDef T "is_tree" = some d_is_tree) {rs : List TRow} (t : Tree rs) (hl : rs.length ≤ 1000) (nm : ∀ r ∈ rs, nameS r.1 = true) :
    (orc T (k + 3)).p "is_tree" [.tup (rs.map rowD)] = some (.bl true, false) := by
  obtain ⟨a, rest, er⟩ := t.up.1
  refine pEq (pCall (d := d_is_tree) hf rfl ?_)
  have t1 : ∀ xs : List D, isTys (.tup xs) [.tuple] = some true := fun _ => rfl
  have z0 : ((rs.length : Int) == 0) = false := by rw [er]; simp; omega
  simp_arith [d_is_tree, t1, z0]
  refine yS_for (I := fun i ρ M' => ∃ s2 : Option W, ρ = [some (.d (.tup (rs.map rowD))), some (.cell 0), s2] ∧ M' = [some (.lst (((rs.take i).map (·.1)).map .str))]) ?_
  simp_arith
  refine ⟨⟨_, rfl, rfl⟩, ?_, ?_⟩
  · rintro i y ρ M hy ⟨s2, rfl, rfl⟩
    rw [List.getElem?_map] at hy
    obtain ⟨r, hr, rfl⟩ := Option.map_eq_some_iff.mp hy
    have hm := List.mem_of_getElem? hr
    simp_arith
    refine is_row_wp (k := k) h1 h2 (ns := (rs.take i).map (·.1)) rfl (by rw [List.length_map, List.length_take]; omega) (nm r hm) ?_ ?_ ?_
    · intro z
      obtain ⟨q, hq, e⟩ := List.mem_map.mp z
      obtain ⟨hi, er2⟩ := List.getElem?_eq_some_iff.mp hr
      obtain ⟨j, hj, ej⟩ := List.mem_iff_getElem.mp hq
      rw [List.length_take] at hj
      rw [List.getElem_take] at ej
      have nd := t.nodup
      rw [List.nodup_iff_pairwise_ne, List.pairwise_iff_getElem] at nd
      have := nd j i (by rw [List.length_map]; omega) (by rw [List.length_map]; omega) (by omega)
      rw [List.getElem_map, List.getElem_map, ej, er2] at this
      exact this e
    · rcases t.up.2 i r hr with h0 | h0
      · left
        subst h0
        rw [er] at hr
        cases hr
        exact ⟨rfl, rfl, rfl⟩
      · exact .inr h0
    have hr0 : idxD (rowD r) (.int 0) = some (.str r.1) := at_0 _ _
    simp_arith [hr0]
    refine ⟨by rw [List.length_take]; omega, _, rfl, ?_⟩
    rw [List.take_succ, hr, List.map_append, List.map_append]
    rfl
  · rintro ρ M ⟨s2, rfl, rfl⟩
    simp_arith
end
end Rf

set_option Elab.async false
set_option linter.all false
set_option maxRecDepth 100000
set_option maxHeartbeats 4000000
namespace Rf
open PySem L2
local macro_rules | `(tactic| simp_arith) => `(tactic| simp -implicitDefEqProofs (maxSteps := 4000000) (failIfUnchanged := false) only [oP_some, oP_none, oD_d, wAt_zero, wAt_succ, putW_zero, putW_succ, map_some', wipe_nil, wipe_cons, set_zero, set_succ, vw_dd, evG_nm, evG_tp, evGs_nil, evGs_cons, some_bind', evGI_f, evGI_t, yE_slot, yE_cst, yE_glob, yE_dnil, yE_one, yE_tup, yE_lst, yE_ite, yE_andv, yE_orv, yE_orT, yE_notv, yE_cmp, yE_chain, yE_bin, yE_neg, yE_idx, yE_slc, yE_callP, yE_callK, yE_callM, yE_mk, yE_blt, yE_isi, yE_sitems, yE_get1, yA_nil, yA_cons, yO_none, yO_some, yT_andv, yT_orv, yT_notv, yT_one, yT_val, yC_nil, yC_cons, yI_itv, yI_rng1, yI_rng2, yI_zip, yI_enum, yI_items, yI_vals, yS_nil, yS_seq, yS_asg, yS_par, puts_nil, puts_cons, yS_exp, yS_ret, yS_retN, yS_ite, oN_c, oL_l, oK_d, cellAt_end, toD_lst, toD_dic, asNode_lst, asNode_dic, vw_cell, vws_nil, vws_cons, allD_nil, allD_cons, anyCell_nil, anyCell_d, anyCell_c, yS_app, yS_upd, yS_frz, oSet_l, oSet_d, yS_seti, yE_pop, k_nf, k_nt, k_nn, k_to, k_fo, k_ta, k_fa, k_it, k_if, k_tt, k_ft, k_Ta, k_aT, k_big, k_lc, k_ln, k_lm, o_eq, o_ne, o_lt, o_lts, o_le, o_gt, o_ge, o_is, o_isnt, o_in, o_notin, e_ss, e_ii, e_bb, e_nn, e_ns, e_sn, e_ni, e_in, i_n, i_s, i_i, i_b, i_t, i_l, i_bb, t_n, t_b, t_i, t_l, t_t, x_dic, x_dicI, x_tup, x_lst, at_0, at_1, at_2, at_3, d_in, d_inI, k_of, k_ofI, it_l, it_t, it_d, b_addI, b_subI, b_addL, b_addT, b_addS, b_mod, b_fdiv, b_mul, f_lenL, f_lenT, f_lenD, f_lenS, f_int, f_intB, f_tupL, f_tupT, f_lstL, f_lstT, f_dicD, f_dicL, f_dicT, f_sort, f_sortT, f_all, f_any, f_sum, in_strs, in_strsT, bind_none', Nat.reduceAdd, Nat.reduceSub, Nat.reduceLeDiff, Nat.reduceLT, List.replicate_zero, List.replicate_succ, List.map_cons, List.map_nil, List.cons_append, List.nil_append, envOf, Option.some.injEq, eq_self, and_self, if_true, if_false, List.filterMap_cons, List.filterMap_nil, List.getElem?_cons_succ, List.getElem?_cons_zero, evG_tl, e_dd, List.set_cons_zero, List.set_cons_succ, List.all_nil, yE_litems, yE_lrng, cell_zero, cell_succ])
local macro_rules | `(tactic| simp_arith [$xs,*]) => `(tactic| simp -implicitDefEqProofs (maxSteps := 4000000) (failIfUnchanged := false) only [oP_some, oP_none, oD_d, wAt_zero, wAt_succ, putW_zero, putW_succ, map_some', wipe_nil, wipe_cons, set_zero, set_succ, vw_dd, evG_nm, evG_tp, evGs_nil, evGs_cons, some_bind', evGI_f, evGI_t, yE_slot, yE_cst, yE_glob, yE_dnil, yE_one, yE_tup, yE_lst, yE_ite, yE_andv, yE_orv, yE_orT, yE_notv, yE_cmp, yE_chain, yE_bin, yE_neg, yE_idx, yE_slc, yE_callP, yE_callK, yE_callM, yE_mk, yE_blt, yE_isi, yE_sitems, yE_get1, yA_nil, yA_cons, yO_none, yO_some, yT_andv, yT_orv, yT_notv, yT_one, yT_val, yC_nil, yC_cons, yI_itv, yI_rng1, yI_rng2, yI_zip, yI_enum, yI_items, yI_vals, yS_nil, yS_seq, yS_asg, yS_par, puts_nil, puts_cons, yS_exp, yS_ret, yS_retN, yS_ite, oN_c, oL_l, oK_d, cellAt_end, toD_lst, toD_dic, asNode_lst, asNode_dic, vw_cell, vws_nil, vws_cons, allD_nil, allD_cons, anyCell_nil, anyCell_d, anyCell_c, yS_app, yS_upd, yS_frz, oSet_l, oSet_d, yS_seti, yE_pop, k_nf, k_nt, k_nn, k_to, k_fo, k_ta, k_fa, k_it, k_if, k_tt, k_ft, k_Ta, k_aT, k_big, k_lc, k_ln, k_lm, o_eq, o_ne, o_lt, o_lts, o_le, o_gt, o_ge, o_is, o_isnt, o_in, o_notin, e_ss, e_ii, e_bb, e_nn, e_ns, e_sn, e_ni, e_in, i_n, i_s, i_i, i_b, i_t, i_l, i_bb, t_n, t_b, t_i, t_l, t_t, x_dic, x_dicI, x_tup, x_lst, at_0, at_1, at_2, at_3, d_in, d_inI, k_of, k_ofI, it_l, it_t, it_d, b_addI, b_subI, b_addL, b_addT, b_addS, b_mod, b_fdiv, b_mul, f_lenL, f_lenT, f_lenD, f_lenS, f_int, f_intB, f_tupL, f_tupT, f_lstL, f_lstT, f_dicD, f_dicL, f_dicT, f_sort, f_sortT, f_all, f_any, f_sum, in_strs, in_strsT, bind_none', Nat.reduceAdd, Nat.reduceSub, Nat.reduceLeDiff, Nat.reduceLT, List.replicate_zero, List.replicate_succ, List.map_cons, List.map_nil, List.cons_append, List.nil_append, envOf, Option.some.injEq, eq_self, and_self, if_true, if_false, List.filterMap_cons, List.filterMap_nil, List.getElem?_cons_succ, List.getElem?_cons_zero, evG_tl, e_dd, List.set_cons_zero, List.set_cons_succ, List.all_nil, yE_litems, yE_lrng, cell_zero, cell_succ, $xs,*])
local macro_rules | `(tactic| simp_arith [$xs,*] at $h:ident) => `(tactic| simp -implicitDefEqProofs (maxSteps := 4000000) (failIfUnchanged := false) only [oP_some, oP_none, oD_d, wAt_zero, wAt_succ, putW_zero, putW_succ, map_some', wipe_nil, wipe_cons, set_zero, set_succ, vw_dd, evG_nm, evG_tp, evGs_nil, evGs_cons, some_bind', evGI_f, evGI_t, yE_slot, yE_cst, yE_glob, yE_dnil, yE_one, yE_tup, yE_lst, yE_ite, yE_andv, yE_orv, yE_orT, yE_notv, yE_cmp, yE_chain, yE_bin, yE_neg, yE_idx, yE_slc, yE_callP, yE_callK, yE_callM, yE_mk, yE_blt, yE_isi, yE_sitems, yE_get1, yA_nil, yA_cons, yO_none, yO_some, yT_andv, yT_orv, yT_notv, yT_one, yT_val, yC_nil, yC_cons, yI_itv, yI_rng1, yI_rng2, yI_zip, yI_enum, yI_items, yI_vals, yS_nil, yS_seq, yS_asg, yS_par, puts_nil, puts_cons, yS_exp, yS_ret, yS_retN, yS_ite, oN_c, oL_l, oK_d, cellAt_end, toD_lst, toD_dic, asNode_lst, asNode_dic, vw_cell, vws_nil, vws_cons, allD_nil, allD_cons, anyCell_nil, anyCell_d, anyCell_c, yS_app, yS_upd, yS_frz, oSet_l, oSet_d, yS_seti, yE_pop, k_nf, k_nt, k_nn, k_to, k_fo, k_ta, k_fa, k_it, k_if, k_tt, k_ft, k_Ta, k_aT, k_big, k_lc, k_ln, k_lm, o_eq, o_ne, o_lt, o_lts, o_le, o_gt, o_ge, o_is, o_isnt, o_in, o_notin, e_ss, e_ii, e_bb, e_nn, e_ns, e_sn, e_ni, e_in, i_n, i_s, i_i, i_b, i_t, i_l, i_bb, t_n, t_b, t_i, t_l, t_t, x_dic, x_dicI, x_tup, x_lst, at_0, at_1, at_2, at_3, d_in, d_inI, k_of, k_ofI, it_l, it_t, it_d, b_addI, b_subI, b_addL, b_addT, b_addS, b_mod, b_fdiv, b_mul, f_lenL, f_lenT, f_lenD, f_lenS, f_int, f_intB, f_tupL, f_tupT, f_lstL, f_lstT, f_dicD, f_dicL, f_dicT, f_sort, f_sortT, f_all, f_any, f_sum, in_strs, in_strsT, bind_none', Nat.reduceAdd, Nat.reduceSub, Nat.reduceLeDiff, Nat.reduceLT, List.replicate_zero, List.replicate_succ, List.map_cons, List.map_nil, List.cons_append, List.nil_append, envOf, Option.some.injEq, eq_self, and_self, if_true, if_false, List.filterMap_cons, List.filterMap_nil, List.getElem?_cons_succ, List.getElem?_cons_zero, evG_tl, e_dd, List.set_cons_zero, List.set_cons_succ, List.all_nil, yE_litems, yE_lrng, cell_zero, cell_succ, $xs,*] at $h:ident)
section
variable {T : List Def} {k : Nat}
/-- one name too many -/
theorem are_pairs_no (h1 : findDef T "is_name" = some d_is_name) (hf : findDef T "are_pairs" = some d_are_pairs) {us : List Pair} {ns : List Str}
    (hl : us.length ≤ 1000) (nm : ∀ p ∈ us, nameS p.2 = true) (bad : ∃ p ∈ us, p.1 ∉ ns) (hn : ns.length ≤ 1000) :
    (orc T (k + 2)).p "are_pairs" [.tup (us.map pairD), .lst (ns.map .str)] = some (.bl false, false) := by
  refine pEq (pCall (d := d_are_pairs) hf rfl ?_)
  have t1 : ∀ xs : List D, isTys (.tup xs) [.tuple] = some true := fun _ => rfl
  have t2 : ∀ s : Str, isTys (.str s) [.str] = some true := fun _ => rfl
  simp_arith [d_are_pairs, t1]
  refine yS_for (I := fun i ρ M' => ∃ s2 : Option W, ρ = [some (.d (.tup (us.map pairD))), some (.d (.lst (ns.map .str))), s2] ∧ M' = [] ∧ ∀ p ∈ us.take i, p.1 ∈ ns) ?_
  simp_arith
  refine ⟨⟨_, rfl, fun p hp => (by cases hp)⟩, ?_, ?_⟩
  · rintro i y ρ M hy ⟨s2, rfl, rfl, al⟩
    rw [List.getElem?_map] at hy
    obtain ⟨p, hp, rfl⟩ := Option.map_eq_some_iff.mp hy
    have hm := List.mem_of_getElem? hp
    have i0 : idxD (pairD p) (.int 0) = some (.str p.1) := at_0 _ _
    have i1 : idxD (pairD p) (.int 1) = some (.str p.2) := at_1 _ _ _
    have tp : isTys (pairD p) [.tuple] = some true := rfl
    have lp : evB .len [pairD p] = some (.int 2, false) := rfl
    have q := name_at (k := k) h1 (nm p hm)
    have z2 : ((2 : Int) == 2) = true := rfl
    by_cases h : p.1 ∈ ns
    · have im : decide (p.1 ∈ ns) = true := decide_eq_true h
      simp_arith [i0, i1, tp, lp, q, t2, im, z2]
      refine ⟨_, rfl, fun x hx => ?_⟩
      rw [List.take_succ, hp] at hx
      rcases List.mem_append.mp hx with hx | hx
      · exact al x hx
      · have : x = p := by simpa using hx
        rw [this]; exact h
    · have im : decide (p.1 ∈ ns) = false := decide_eq_false h
      simp_arith [i0, i1, tp, lp, q, t2, im, z2]
  · rintro ρ M ⟨s2, rfl, rfl, al⟩
    obtain ⟨p, hp, h⟩ := bad
    exact absurd (al p (by rw [List.take_of_length_le (by first | omega | simp)]; exact hp)) h
theorem is_plan_no (h1 : findDef T "is_name" = some d_is_name) (h3 : findDef T "are_pairs" = some d_are_pairs) (hf : findDef T "is_plan" = some d_is_plan)
    {rs : List TRow} {us : List Pair} (hrs : rs.length ≤ 1000) (hl : us.length ≤ 1000) (nm : ∀ p ∈ us, nameS p.2 = true) (bad : ∃ p ∈ us, ∀ r ∈ rs, r.1 = p.1 → r.2.2 = true) :
    (orc T (k + 3)).p "is_plan" [.tup (rs.map rowD), .tup (us.map pairD)] = some (.bl false, false) := by
  refine pEq (pCall (d := d_is_plan) hf rfl ?_)
  simp_arith [d_is_plan]
  refine yE_lc rs rowD (fun r => !r.2.2) (fun r => .str r.1) ?_
  have hr0 : ∀ r : TRow, idxD (rowD r) (.int 0) = some (.str r.1) := fun r => at_0 _ _
  have hr2 : ∀ r : TRow, idxD (rowD r) (.int 2) = some (.bl r.2.2) := fun r => at_2 _ _ _ _
  simp_arith
  refine ⟨by omega, fun r hr => ?_, ?_⟩
  · simp_arith [hr0, hr2]
    cases r.2.2 <;> simp
  have ap := are_pairs_no (k := k) h1 h3 (ns := (rs.filter fun r => !r.2.2).map (·.1)) hl nm (by
    obtain ⟨p, hp, h⟩ := bad
    refine ⟨p, hp, fun z => ?_⟩
    obtain ⟨r, hr, e⟩ := List.mem_map.mp z
    obtain ⟨hr, q⟩ := List.mem_filter.mp hr
    rw [h r hr e] at q
    cases q) (by
    rw [List.length_map]; exact Nat.le_trans (List.length_filter_le ..) hrs)
  rw [List.map_map] at ap
  have ap : (orc T (k + 2)).p "are_pairs" [.tup (us.map pairD), .lst ((rs.filter fun r => !r.2.2).map fun r => .str r.1)] = some (.bl false, false) := ap
  simp_arith [ap]
end
end Rf

set_option Elab.async false
set_option linter.all false
set_option maxRecDepth 100000
set_option maxHeartbeats 4000000
/-! Trees with other locks. -/
namespace Rf
open PySem L2
def flagR (g : TRow → Bool) (rs : List TRow) : List TRow := rs.map fun r => (r.1, r.2.1, g r)
theorem flagR_names (g : TRow → Bool) (rs : List TRow) : (flagR g rs).map (·.1) = rs.map (·.1) := by unfold flagR; rw [List.map_map]; rfl
theorem Tree.flag {g : TRow → Bool} (h : ∀ r, r.2.1 = none → g r = false) {rs : List TRow} (t : Tree rs) : Tree (flagR g rs) := by
  induction t with
  | one a =>
    have e : flagR g [(a, none, false)] = [(a, none, false)] := by
      unfold flagR
      show [(a, none, g (a, none, false))] = _
      rw [h _ rfl]
    rw [e]
    exact .one a
  | more a p l t h1 h2 ih =>
    unfold flagR at ih ⊢
    rw [List.map_append]
    exact .more a p _ ih (by rw [← flagR_names g] at h1; exact h1) (by rw [← flagR_names g] at h2; exact h2)
/-- the root's setting alone -/
theorem plan_root {rs : List TRow} {a : Str} {rest : List TRow} (er : rs = (a, none, false) :: rest) (w : Str) {vs : List Str} (hw : w ∈ vs) : Plan rs [(a, w)] vs := by
  refine ⟨by simp, fun r hr => ?_, fun p hp => ?_, fun p hp => ?_, by simp⟩
  · rw [er] at hr; cases hr; simp
  · rw [List.mem_singleton.mp hp, er]
    exact ⟨(a, none, false), by simp, rfl, rfl⟩
  · rw [List.mem_singleton.mp hp]; exact hw
theorem root_val {rs : List TRow} (t : Tree rs) {a : Str} {rest : List TRow} (er : rs = (a, none, false) :: rest) (w : Str) : ∀ r ∈ rs, valV [(a, w)] rs r.1 = w := fun r hr => by
  have := (valV_some t (plan_root er w (vs := [w]) (by simp)) hr).2
  simpa using this
theorem root_isLean {rs : List TRow} (t : Tree rs) {a : Str} {rest : List TRow} (er : rs = (a, none, false) :: rest) (w : Str) : leanF rs (valV [(a, w)] rs) = [(a, w)] := by
  have e : leanL rs (valV [(a, w)] rs) = [(a, w)] := by
    unfold leanL
    have hf : rs.filter (chg (valV [(a, w)] rs)) = [(a, none, false)] := by
      have z : ∀ r ∈ rest, chg (valV [(a, w)] rs) r = false := fun r hr => by
        have hm : r ∈ rs := by rw [er]; exact List.mem_cons_of_mem _ hr
        rcases row_cases t hm with ⟨h1, h2⟩ | ⟨q, hq, e⟩
        · exfalso
          have nd := t.nodup
          rw [er] at h1 nd
          cases h1
          simp only [List.map_cons, List.nodup_cons] at nd
          exact nd.1 (List.mem_map.mpr ⟨_, hr, rfl⟩)
        · unfold chg
          rw [e]
          show (valV _ rs r.1 != valV _ rs q.1) = false
          rw [root_val t er w r hm, root_val t er w q hq]
          simp
      rw [show rs.filter (chg (valV [(a, w)] rs)) = ((a, none, false) :: rest).filter (chg (valV [(a, w)] rs)) from by rw [← er]]
      rw [List.filter_cons_of_pos (by rfl), List.filter_eq_nil_iff.mpr (fun r hr => by rw [z r hr]; simp)]
    rw [hf]
    show [(a, valV [(a, w)] rs a)] = _
    have := root_val t er w (a, none, false) (by rw [er]; simp)
    rw [show valV [(a, w)] rs a = w from this]
  unfold leanF
  rw [e]
  unfold sortP; simp
end Rf

set_option Elab.async false
set_option linter.all false
set_option maxRecDepth 100000
set_option maxHeartbeats 4000000
namespace Rf
open PySem L2
local macro_rules | `(tactic| simp_arith) => `(tactic| simp -implicitDefEqProofs (maxSteps := 4000000) (failIfUnchanged := false) only [oP_some, oP_none, oD_d, wAt_zero, wAt_succ, putW_zero, putW_succ, map_some', wipe_nil, wipe_cons, set_zero, set_succ, vw_dd, evG_nm, evG_tp, evGs_nil, evGs_cons, some_bind', evGI_f, evGI_t, yE_slot, yE_cst, yE_glob, yE_dnil, yE_one, yE_tup, yE_lst, yE_ite, yE_andv, yE_orv, yE_orT, yE_notv, yE_cmp, yE_chain, yE_bin, yE_neg, yE_idx, yE_slc, yE_callP, yE_callK, yE_callM, yE_mk, yE_blt, yE_isi, yE_sitems, yE_get1, yA_nil, yA_cons, yO_none, yO_some, yT_andv, yT_orv, yT_notv, yT_one, yT_val, yC_nil, yC_cons, yI_itv, yI_rng1, yI_rng2, yI_zip, yI_enum, yI_items, yI_vals, yS_nil, yS_seq, yS_asg, yS_par, puts_nil, puts_cons, yS_exp, yS_ret, yS_retN, yS_ite, oN_c, oL_l, oK_d, cellAt_end, toD_lst, toD_dic, asNode_lst, asNode_dic, vw_cell, vws_nil, vws_cons, allD_nil, allD_cons, anyCell_nil, anyCell_d, anyCell_c, yS_app, yS_upd, yS_frz, oSet_l, oSet_d, yS_seti, yE_pop, k_nf, k_nt, k_nn, k_to, k_fo, k_ta, k_fa, k_it, k_if, k_tt, k_ft, k_Ta, k_aT, k_big, k_lc, k_ln, k_lm, o_eq, o_ne, o_lt, o_lts, o_le, o_gt, o_ge, o_is, o_isnt, o_in, o_notin, e_ss, e_ii, e_bb, e_nn, e_ns, e_sn, e_ni, e_in, i_n, i_s, i_i, i_b, i_t, i_l, i_bb, t_n, t_b, t_i, t_l, t_t, x_dic, x_dicI, x_tup, x_lst, at_0, at_1, at_2, at_3, d_in, d_inI, k_of, k_ofI, it_l, it_t, it_d, b_addI, b_subI, b_addL, b_addT, b_addS, b_mod, b_fdiv, b_mul, f_lenL, f_lenT, f_lenD, f_lenS, f_int, f_intB, f_tupL, f_tupT, f_lstL, f_lstT, f_dicD, f_dicL, f_dicT, f_sort, f_sortT, f_all, f_any, f_sum, in_strs, in_strsT, bind_none', Nat.reduceAdd, Nat.reduceSub, Nat.reduceLeDiff, Nat.reduceLT, List.replicate_zero, List.replicate_succ, List.map_cons, List.map_nil, List.cons_append, List.nil_append, envOf, Option.some.injEq, eq_self, and_self, if_true, if_false, List.filterMap_cons, List.filterMap_nil, List.getElem?_cons_succ, List.getElem?_cons_zero, evG_tl, e_dd, List.set_cons_zero, List.set_cons_succ, List.all_nil, yE_litems, yE_lrng, cell_zero, cell_succ])
local macro_rules | `(tactic| simp_arith [$xs,*]) => `(tactic| simp -implicitDefEqProofs (maxSteps := 4000000) (failIfUnchanged := false) only [oP_some, oP_none, oD_d, wAt_zero, wAt_succ, putW_zero, putW_succ, map_some', wipe_nil, wipe_cons, set_zero, set_succ, vw_dd, evG_nm, evG_tp, evGs_nil, evGs_cons, some_bind', evGI_f, evGI_t, yE_slot, yE_cst, yE_glob, yE_dnil, yE_one, yE_tup, yE_lst, yE_ite, yE_andv, yE_orv, yE_orT, yE_notv, yE_cmp, yE_chain, yE_bin, yE_neg, yE_idx, yE_slc, yE_callP, yE_callK, yE_callM, yE_mk, yE_blt, yE_isi, yE_sitems, yE_get1, yA_nil, yA_cons, yO_none, yO_some, yT_andv, yT_orv, yT_notv, yT_one, yT_val, yC_nil, yC_cons, yI_itv, yI_rng1, yI_rng2, yI_zip, yI_enum, yI_items, yI_vals, yS_nil, yS_seq, yS_asg, yS_par, puts_nil, puts_cons, yS_exp, yS_ret, yS_retN, yS_ite, oN_c, oL_l, oK_d, cellAt_end, toD_lst, toD_dic, asNode_lst, asNode_dic, vw_cell, vws_nil, vws_cons, allD_nil, allD_cons, anyCell_nil, anyCell_d, anyCell_c, yS_app, yS_upd, yS_frz, oSet_l, oSet_d, yS_seti, yE_pop, k_nf, k_nt, k_nn, k_to, k_fo, k_ta, k_fa, k_it, k_if, k_tt, k_ft, k_Ta, k_aT, k_big, k_lc, k_ln, k_lm, o_eq, o_ne, o_lt, o_lts, o_le, o_gt, o_ge, o_is, o_isnt, o_in, o_notin, e_ss, e_ii, e_bb, e_nn, e_ns, e_sn, e_ni, e_in, i_n, i_s, i_i, i_b, i_t, i_l, i_bb, t_n, t_b, t_i, t_l, t_t, x_dic, x_dicI, x_tup, x_lst, at_0, at_1, at_2, at_3, d_in, d_inI, k_of, k_ofI, it_l, it_t, it_d, b_addI, b_subI, b_addL, b_addT, b_addS, b_mod, b_fdiv, b_mul, f_lenL, f_lenT, f_lenD, f_lenS, f_int, f_intB, f_tupL, f_tupT, f_lstL, f_lstT, f_dicD, f_dicL, f_dicT, f_sort, f_sortT, f_all, f_any, f_sum, in_strs, in_strsT, bind_none', Nat.reduceAdd, Nat.reduceSub, Nat.reduceLeDiff, Nat.reduceLT, List.replicate_zero, List.replicate_succ, List.map_cons, List.map_nil, List.cons_append, List.nil_append, envOf, Option.some.injEq, eq_self, and_self, if_true, if_false, List.filterMap_cons, List.filterMap_nil, List.getElem?_cons_succ, List.getElem?_cons_zero, evG_tl, e_dd, List.set_cons_zero, List.set_cons_succ, List.all_nil, yE_litems, yE_lrng, cell_zero, cell_succ, $xs,*])
local macro_rules | `(tactic| simp_arith [$xs,*] at $h:ident) => `(tactic| simp -implicitDefEqProofs (maxSteps := 4000000) (failIfUnchanged := false) only [oP_some, oP_none, oD_d, wAt_zero, wAt_succ, putW_zero, putW_succ, map_some', wipe_nil, wipe_cons, set_zero, set_succ, vw_dd, evG_nm, evG_tp, evGs_nil, evGs_cons, some_bind', evGI_f, evGI_t, yE_slot, yE_cst, yE_glob, yE_dnil, yE_one, yE_tup, yE_lst, yE_ite, yE_andv, yE_orv, yE_orT, yE_notv, yE_cmp, yE_chain, yE_bin, yE_neg, yE_idx, yE_slc, yE_callP, yE_callK, yE_callM, yE_mk, yE_blt, yE_isi, yE_sitems, yE_get1, yA_nil, yA_cons, yO_none, yO_some, yT_andv, yT_orv, yT_notv, yT_one, yT_val, yC_nil, yC_cons, yI_itv, yI_rng1, yI_rng2, yI_zip, yI_enum, yI_items, yI_vals, yS_nil, yS_seq, yS_asg, yS_par, puts_nil, puts_cons, yS_exp, yS_ret, yS_retN, yS_ite, oN_c, oL_l, oK_d, cellAt_end, toD_lst, toD_dic, asNode_lst, asNode_dic, vw_cell, vws_nil, vws_cons, allD_nil, allD_cons, anyCell_nil, anyCell_d, anyCell_c, yS_app, yS_upd, yS_frz, oSet_l, oSet_d, yS_seti, yE_pop, k_nf, k_nt, k_nn, k_to, k_fo, k_ta, k_fa, k_it, k_if, k_tt, k_ft, k_Ta, k_aT, k_big, k_lc, k_ln, k_lm, o_eq, o_ne, o_lt, o_lts, o_le, o_gt, o_ge, o_is, o_isnt, o_in, o_notin, e_ss, e_ii, e_bb, e_nn, e_ns, e_sn, e_ni, e_in, i_n, i_s, i_i, i_b, i_t, i_l, i_bb, t_n, t_b, t_i, t_l, t_t, x_dic, x_dicI, x_tup, x_lst, at_0, at_1, at_2, at_3, d_in, d_inI, k_of, k_ofI, it_l, it_t, it_d, b_addI, b_subI, b_addL, b_addT, b_addS, b_mod, b_fdiv, b_mul, f_lenL, f_lenT, f_lenD, f_lenS, f_int, f_intB, f_tupL, f_tupT, f_lstL, f_lstT, f_dicD, f_dicL, f_dicT, f_sort, f_sortT, f_all, f_any, f_sum, in_strs, in_strsT, bind_none', Nat.reduceAdd, Nat.reduceSub, Nat.reduceLeDiff, Nat.reduceLT, List.replicate_zero, List.replicate_succ, List.map_cons, List.map_nil, List.cons_append, List.nil_append, envOf, Option.some.injEq, eq_self, and_self, if_true, if_false, List.filterMap_cons, List.filterMap_nil, List.getElem?_cons_succ, List.getElem?_cons_zero, evG_tl, e_dd, List.set_cons_zero, List.set_cons_succ, List.all_nil, yE_litems, yE_lrng, cell_zero, cell_succ, $xs,*] at $h:ident)
/-- a law that draws from each of up to three numbers -/
theorem law_gen3 {T : List Def} (hc : findDef T "_law_cells" = some d_law_cells) (hb : findDef T "_law_box" = some d_law_box) (hl : findDef T "law" = some d_law_k00) {j : Nat}
    (right : ∀ M c, Box M c 0 → ∀ Q : RW → Prop, (∀ M', Q ((.d (.bl true), false), M')) → oP ((orc T (j + 1)).m "_law_right" [.cell c] M) Q) {ns : List Int} (hn : ns.length ≤ 63) : (orc T (j + 2)).p "law" [.scr ns] = some (.bl true, false) := by
  have h : oP ((orc T (j + 2)).p "law" [.scr ns]) fun r => r = (.bl true, false) := by
    refine pCall (d := d_law_k00) hl rfl ?_
    obtain ⟨is, ce, ne, il⟩ := cells_ok (k := j) hc (ns := ns) (m := 3) (by decide) (by decide) hn
    have ce : (orc T (j + 1)).p "_law_cells" [.scr ns, .int 3] = some (.lst (is.map .int), false) := ce
    simp_arith [d_law_k00, ce]
    refine yE_lcW (fun i acc M => acc = List.replicate i (.bl true)) ?_
    have ok : ok62 (is.length : Int) = true := by
      unfold ok62
      rw [Bool.and_eq_true, decide_eq_true_eq, decide_eq_true_eq]; omega
    simp_arith [ok, rng_length]
    refine ⟨by omega, ?_, ?_⟩
    · rintro i x acc M hx rfl
      obtain ⟨hi, rfl⟩ := rng_get hx
      obtain ⟨a, b, eb, a0, b0, b1⟩ := box_ok (k := j) hb (is := is) (j := i) (by omega)
      have eb : (orc T (j + 1)).p "_law_box" [.lst (is.map .int), .int (0 + (i : Int))] = some (.lst [.int a, .int b, .int 0], true) := by rw [Int.zero_add]; exact eb
      simp_arith [eb]
      refine right _ _ ⟨a, b, 0, cellAt_end, a0, b0, b1, by decide, by decide⟩ _ fun M' => ?_
      simp_arith
      rw [← List.replicate_succ, List.replicate_succ']
    · rintro acc M rfl
      have : blsOf (List.replicate (is.length : Int).toNat (.bl true)) = some (List.replicate (is.length : Int).toNat true) := by
        have := bls_map (fun _ : Nat => true) (List.range (is.length : Int).toNat)
        simpa [List.map_const'] using this
      simp_arith [this]
      simp
  obtain ⟨r, e, h⟩ := h.get
  rw [e, h]
end Rf

set_option Elab.async false
set_option linter.all false
set_option maxRecDepth 100000
set_option maxHeartbeats 4000000
namespace Rf
open PySem L2
local macro_rules | `(tactic| simp_arith) => `(tactic| simp -implicitDefEqProofs (maxSteps := 4000000) (failIfUnchanged := false) only [oP_some, oP_none, oD_d, wAt_zero, wAt_succ, putW_zero, putW_succ, map_some', wipe_nil, wipe_cons, set_zero, set_succ, vw_dd, evG_nm, evG_tp, evGs_nil, evGs_cons, some_bind', evGI_f, evGI_t, yE_slot, yE_cst, yE_glob, yE_dnil, yE_one, yE_tup, yE_lst, yE_ite, yE_andv, yE_orv, yE_orT, yE_notv, yE_cmp, yE_chain, yE_bin, yE_neg, yE_idx, yE_slc, yE_callP, yE_callK, yE_callM, yE_mk, yE_blt, yE_isi, yE_sitems, yE_get1, yA_nil, yA_cons, yO_none, yO_some, yT_andv, yT_orv, yT_notv, yT_one, yT_val, yC_nil, yC_cons, yI_itv, yI_rng1, yI_rng2, yI_zip, yI_enum, yI_items, yI_vals, yS_nil, yS_seq, yS_asg, yS_par, puts_nil, puts_cons, yS_exp, yS_ret, yS_retN, yS_ite, oN_c, oL_l, oK_d, cellAt_end, toD_lst, toD_dic, asNode_lst, asNode_dic, vw_cell, vws_nil, vws_cons, allD_nil, allD_cons, anyCell_nil, anyCell_d, anyCell_c, yS_app, yS_upd, yS_frz, oSet_l, oSet_d, yS_seti, yE_pop, k_nf, k_nt, k_nn, k_to, k_fo, k_ta, k_fa, k_it, k_if, k_tt, k_ft, k_Ta, k_aT, k_big, k_lc, k_ln, k_lm, o_eq, o_ne, o_lt, o_lts, o_le, o_gt, o_ge, o_is, o_isnt, o_in, o_notin, e_ss, e_ii, e_bb, e_nn, e_ns, e_sn, e_ni, e_in, i_n, i_s, i_i, i_b, i_t, i_l, i_bb, t_n, t_b, t_i, t_l, t_t, x_dic, x_dicI, x_tup, x_lst, at_0, at_1, at_2, at_3, d_in, d_inI, k_of, k_ofI, it_l, it_t, it_d, b_addI, b_subI, b_addL, b_addT, b_addS, b_mod, b_fdiv, b_mul, f_lenL, f_lenT, f_lenD, f_lenS, f_int, f_intB, f_tupL, f_tupT, f_lstL, f_lstT, f_dicD, f_dicL, f_dicT, f_sort, f_sortT, f_all, f_any, f_sum, in_strs, in_strsT, bind_none', Nat.reduceAdd, Nat.reduceSub, Nat.reduceLeDiff, Nat.reduceLT, List.replicate_zero, List.replicate_succ, List.map_cons, List.map_nil, List.cons_append, List.nil_append, envOf, Option.some.injEq, eq_self, and_self, if_true, if_false, List.filterMap_cons, List.filterMap_nil, List.getElem?_cons_succ, List.getElem?_cons_zero, evG_tl, e_dd, List.set_cons_zero, List.set_cons_succ, List.all_nil, yE_litems, yE_lrng, cell_zero, cell_succ])
local macro_rules | `(tactic| simp_arith [$xs,*]) => `(tactic| simp -implicitDefEqProofs (maxSteps := 4000000) (failIfUnchanged := false) only [oP_some, oP_none, oD_d, wAt_zero, wAt_succ, putW_zero, putW_succ, map_some', wipe_nil, wipe_cons, set_zero, set_succ, vw_dd, evG_nm, evG_tp, evGs_nil, evGs_cons, some_bind', evGI_f, evGI_t, yE_slot, yE_cst, yE_glob, yE_dnil, yE_one, yE_tup, yE_lst, yE_ite, yE_andv, yE_orv, yE_orT, yE_notv, yE_cmp, yE_chain, yE_bin, yE_neg, yE_idx, yE_slc, yE_callP, yE_callK, yE_callM, yE_mk, yE_blt, yE_isi, yE_sitems, yE_get1, yA_nil, yA_cons, yO_none, yO_some, yT_andv, yT_orv, yT_notv, yT_one, yT_val, yC_nil, yC_cons, yI_itv, yI_rng1, yI_rng2, yI_zip, yI_enum, yI_items, yI_vals, yS_nil, yS_seq, yS_asg, yS_par, puts_nil, puts_cons, yS_exp, yS_ret, yS_retN, yS_ite, oN_c, oL_l, oK_d, cellAt_end, toD_lst, toD_dic, asNode_lst, asNode_dic, vw_cell, vws_nil, vws_cons, allD_nil, allD_cons, anyCell_nil, anyCell_d, anyCell_c, yS_app, yS_upd, yS_frz, oSet_l, oSet_d, yS_seti, yE_pop, k_nf, k_nt, k_nn, k_to, k_fo, k_ta, k_fa, k_it, k_if, k_tt, k_ft, k_Ta, k_aT, k_big, k_lc, k_ln, k_lm, o_eq, o_ne, o_lt, o_lts, o_le, o_gt, o_ge, o_is, o_isnt, o_in, o_notin, e_ss, e_ii, e_bb, e_nn, e_ns, e_sn, e_ni, e_in, i_n, i_s, i_i, i_b, i_t, i_l, i_bb, t_n, t_b, t_i, t_l, t_t, x_dic, x_dicI, x_tup, x_lst, at_0, at_1, at_2, at_3, d_in, d_inI, k_of, k_ofI, it_l, it_t, it_d, b_addI, b_subI, b_addL, b_addT, b_addS, b_mod, b_fdiv, b_mul, f_lenL, f_lenT, f_lenD, f_lenS, f_int, f_intB, f_tupL, f_tupT, f_lstL, f_lstT, f_dicD, f_dicL, f_dicT, f_sort, f_sortT, f_all, f_any, f_sum, in_strs, in_strsT, bind_none', Nat.reduceAdd, Nat.reduceSub, Nat.reduceLeDiff, Nat.reduceLT, List.replicate_zero, List.replicate_succ, List.map_cons, List.map_nil, List.cons_append, List.nil_append, envOf, Option.some.injEq, eq_self, and_self, if_true, if_false, List.filterMap_cons, List.filterMap_nil, List.getElem?_cons_succ, List.getElem?_cons_zero, evG_tl, e_dd, List.set_cons_zero, List.set_cons_succ, List.all_nil, yE_litems, yE_lrng, cell_zero, cell_succ, $xs,*])
local macro_rules | `(tactic| simp_arith [$xs,*] at $h:ident) => `(tactic| simp -implicitDefEqProofs (maxSteps := 4000000) (failIfUnchanged := false) only [oP_some, oP_none, oD_d, wAt_zero, wAt_succ, putW_zero, putW_succ, map_some', wipe_nil, wipe_cons, set_zero, set_succ, vw_dd, evG_nm, evG_tp, evGs_nil, evGs_cons, some_bind', evGI_f, evGI_t, yE_slot, yE_cst, yE_glob, yE_dnil, yE_one, yE_tup, yE_lst, yE_ite, yE_andv, yE_orv, yE_orT, yE_notv, yE_cmp, yE_chain, yE_bin, yE_neg, yE_idx, yE_slc, yE_callP, yE_callK, yE_callM, yE_mk, yE_blt, yE_isi, yE_sitems, yE_get1, yA_nil, yA_cons, yO_none, yO_some, yT_andv, yT_orv, yT_notv, yT_one, yT_val, yC_nil, yC_cons, yI_itv, yI_rng1, yI_rng2, yI_zip, yI_enum, yI_items, yI_vals, yS_nil, yS_seq, yS_asg, yS_par, puts_nil, puts_cons, yS_exp, yS_ret, yS_retN, yS_ite, oN_c, oL_l, oK_d, cellAt_end, toD_lst, toD_dic, asNode_lst, asNode_dic, vw_cell, vws_nil, vws_cons, allD_nil, allD_cons, anyCell_nil, anyCell_d, anyCell_c, yS_app, yS_upd, yS_frz, oSet_l, oSet_d, yS_seti, yE_pop, k_nf, k_nt, k_nn, k_to, k_fo, k_ta, k_fa, k_it, k_if, k_tt, k_ft, k_Ta, k_aT, k_big, k_lc, k_ln, k_lm, o_eq, o_ne, o_lt, o_lts, o_le, o_gt, o_ge, o_is, o_isnt, o_in, o_notin, e_ss, e_ii, e_bb, e_nn, e_ns, e_sn, e_ni, e_in, i_n, i_s, i_i, i_b, i_t, i_l, i_bb, t_n, t_b, t_i, t_l, t_t, x_dic, x_dicI, x_tup, x_lst, at_0, at_1, at_2, at_3, d_in, d_inI, k_of, k_ofI, it_l, it_t, it_d, b_addI, b_subI, b_addL, b_addT, b_addS, b_mod, b_fdiv, b_mul, f_lenL, f_lenT, f_lenD, f_lenS, f_int, f_intB, f_tupL, f_tupT, f_lstL, f_lstT, f_dicD, f_dicL, f_dicT, f_sort, f_sortT, f_all, f_any, f_sum, in_strs, in_strsT, bind_none', Nat.reduceAdd, Nat.reduceSub, Nat.reduceLeDiff, Nat.reduceLT, List.replicate_zero, List.replicate_succ, List.map_cons, List.map_nil, List.cons_append, List.nil_append, envOf, Option.some.injEq, eq_self, and_self, if_true, if_false, List.filterMap_cons, List.filterMap_nil, List.getElem?_cons_succ, List.getElem?_cons_zero, evG_tl, e_dd, List.set_cons_zero, List.set_cons_succ, List.all_nil, yE_litems, yE_lrng, cell_zero, cell_succ, $xs,*] at $h:ident)
section
variable {T : List Def} {k : Nat}
theorem slcT_one {x : D} {xs : List D} : slcD (.tup (x :: xs)) (some 1) none = some (.tup xs, false) := by
  show some (D.tup (cut _ (some ((1 : Nat) : Int)) none), false) = _
  unfold cut
  rw [HT.sIx_none, HT.sIx_nat]
  congr 3
  have : min 1 (x :: xs).length = 1 := Nat.min_eq_left (by simp)
  rw [this]
  show List.take _ xs = xs
  exact List.take_of_length_le (by simp)
theorem enumD_map {α : Type} (f : α → D) : ∀ (l : List α) (n : Nat), enumD n (l.map f) = (l.zipIdx n).map fun p => .tup [.int (p.2 : Nat), f p.1]
  | [], n => rfl
  | x :: l, n => by
    show D.tup [.int n, f x] :: enumD (n + 1) (l.map f) = _
    rw [enumD_map f l (n + 1)]; rfl
/-- all but the root locked -/
def boltR (rs : List TRow) : List TRow := flagR (fun r => r.2.1.isSome) rs
theorem bolt_zip {rs : List TRow} (t : Tree rs) : (rs.zipIdx 0).map (fun p => rowD (p.1.1, p.1.2.1, decide (0 < p.2))) = (boltR rs).map rowD := by
  unfold boltR flagR
  rw [List.map_map]
  apply List.ext_getElem
  · simp
  · intro i h1 h2
    simp only [List.getElem_map, List.getElem_zipIdx, Function.comp, Nat.zero_add]
    have hi : i < rs.length := by simpa using h2
    have e : decide (0 < i) = (rs[i]).2.1.isSome := by
      rcases t.up.2 i rs[i] (List.getElem?_eq_getElem hi) with h0 | ⟨p, h0, _⟩
      · subst h0
        obtain ⟨a, rest, er⟩ := t.up.1
        have : rs[0] = (a, none, false) := by simp [er]
        rw [this]; rfl
      · rw [h0]
        obtain ⟨a, rest, er⟩ := t.up.1
        cases i with
        | zero =>
          have : rs[0] = (a, none, false) := by simp [er]
          rw [this] at h0; cases h0
        | succ i => rfl
    rw [e]
theorem leP_refl (p : Pair) : leP p p = true := by
  have := leP_total p p
  rwa [Bool.or_self] at this
theorem leP_str {x y : Str} (h : leD (.str x) (.str y) = true) (w : Str) : leP (x, w) (y, w) = true := by
  by_cases e : x = y
  · rw [e]; exact leP_refl _
  · refine leP_of_lt (decide_eq_true ?_)
    unfold leD ltD at h
    have := PySem.W.dataLe_str (fun x : Str => x)
    have h2 := congrFun (congrFun this x) y
    rw [PySem.W.dataLe_eq] at h2
    simp only [cond_false] at h2
    have h : (!PySem.W.dataLt (.str y) (.str x)) = true := h
    rw [h2] at h
    have h3 : x.cps.toList ≤ y.cps.toList := of_decide_eq_true h
    exact Classical.byContradiction fun hn => e (str_of_cps (List.le_antisymm h3 (List.not_lt.mp hn)))
theorem mul_one {x : D} {n : Nat} (h : n ≤ 1000) : opBin .mul (.lst [x]) (.int (n : Nat)) = some (.lst (List.replicate n x), true) := by
  show (if 0 ≤ ((n : Nat) : Int) ∧ ((n : Nat) : Int) ≤ 65536 ∧ [x].length * ((n : Nat) : Int).toNat ≤ big then some (D.lst (List.replicate ((n : Nat) : Int).toNat [x]).flatten, true) else none) = _
  rw [if_pos ⟨by omega, by omega, by unfold big; simp; omega⟩, Int.toNat_natCast]
  congr 3
  induction n with
  | zero => rfl
  | succ n ih => rw [List.replicate_succ, List.flatten_cons, ih (by omega)]; rfl
structure Has19 (T : List Def) : Prop where
  l : HasL T
  w : HasW T
  take : findDef T "_law_take" = some d_law_take
  of' : findDef T "_law_of" = some d_law_of
  same : findDef T "_law_same" = some d_law_same
  is_name : findDef T "is_name" = some d_is_name
  ascends : findDef T "ascends" = some d_ascends
  are_pairs : findDef T "are_pairs" = some d_are_pairs
  root_of : findDef T "root_of" = some d_root_of
  is_plan : findDef T "is_plan" = some d_is_plan
  is_row : findDef T "is_row" = some d_is_row
  is_tree : findDef T "is_tree" = some d_is_tree
  bolted : findDef T "_law_bolted_right" = some d_law_bolted_right
theorem bolted_wp (H : Has19 T) {M : Store} {c e : Nat} (b : Box M c e) (he : e + 100 < 2 ^ 40) {rs : List TRow} (t : Tree rs) (hl : rs.length ≤ 40) (hn : ∀ r ∈ rs, strOkD r.1 = true) (nm : ∀ r ∈ rs, nameS r.1 = true) {Q : RW → Prop}
    (q : ∀ M', Box M' c (e + 1) → M'.length = M.length → (∀ j, j < M.length → j ≠ c → cellAt M' j = cellAt M j) → Q ((.d (.bl true), false), M')) : oP ((orc T (k + 9)).m "_law_bolted_right" [.cell c, .d (.tup (rs.map rowD))] M) Q := by
  refine mCall (d := d_law_bolted_right) H.bolted rfl ?_
  simp_arith [d_law_bolted_right]
  refine yE_lm (rs.zipIdx 0) (fun p => .tup [.int (p.2 : Nat), rowD p.1]) (fun p => rowD (p.1.1, p.1.2.1, decide (0 < p.2))) ?_
  simp_arith [enumD_map, bolt_zip t]
  have zl : (rs.zipIdx 0).length = rs.length := List.length_zipIdx
  refine ⟨by omega, fun p hp => ?_, ?_⟩
  · have s1 : slcD (rowD p.1) none (some 2) = some (.tup [.str p.1.1, optD p.1.2.1], false) := rfl
    have d1 : decide ((0 : Int) < (p.2 : Nat)) = decide (0 < p.2) := by
      by_cases h : 0 < p.2
      · rw [decide_eq_true h]; exact decide_eq_true (by omega)
      · rw [decide_eq_false h]; exact decide_eq_false (by omega)
    simp_arith [s1, d1]
    rfl
  have tB : Tree (boltR rs) := t.flag fun r h => by rw [h]; rfl
  obtain ⟨a, rest, eB⟩ := tB.up.1
  have lB : (boltR rs).length = rs.length := by unfold boltR flagR; rw [List.length_map]
  have a0 : atI ((boltR rs).map rowD) 0 = some (rowD (a, none, false)) := by rw [eB]; exact at_0 _ _
  have a1 : idxD (rowD (a, none, false)) (.int 0) = some (.str a) := at_0 _ _
  refine ofL_wp (xs := [.str "a", .str "zz", .str "none"]) H.take H.of' b (by omega) (by simp) (by simp) fun y M1 ym b1 l1 o1 => ?_
  obtain ⟨w, wm, rfl⟩ : ∃ v ∈ (["a", "zz", "none"] : List Str), y = .str v := by
    obtain ⟨v, h1, h2⟩ := List.mem_map.mp (show y ∈ (["a", "zz", "none"] : List Str).map D.str from ym)
    exact ⟨v, h1, h2.symm⟩
  have wo : strOkD w = true := (by decide +kernel : ∀ v ∈ (["a", "zz", "none"] : List Str), strOkD v = true) w wm
  have wn : nameS w = true := (by decide +kernel : ∀ v ∈ (["a", "zz", "none"] : List Str), nameS v = true) w wm
  simp_arith [a0, a1]
  refine yE_lm (boltR rs) rowD (fun r => .str r.1) ?_
  have hr0 : ∀ r : TRow, idxD (rowD r) (.int 0) = some (.str r.1) := fun r => at_0 _ _
  simp_arith
  refine ⟨by omega, fun r hr => ?_, ?_⟩
  · simp_arith [hr0]
  have hB : ∀ r ∈ boltR rs, ∃ q ∈ rs, r.1 = q.1 := fun r hr => by
    obtain ⟨q, hq, rfl⟩ := List.mem_map.mp hr
    exact ⟨q, hq, rfl⟩
  have hnB : ∀ r ∈ boltR rs, strOkD r.1 = true := fun r hr => by obtain ⟨q, hq, e⟩ := hB r hr; rw [e]; exact hn q hq
  have nmB : ∀ r ∈ boltR rs, nameS r.1 = true := fun r hr => by obtain ⟨q, hq, e⟩ := hB r hr; rw [e]; exact nm q hq
  have am : (a, none, false) ∈ boltR rs := by rw [eB]; simp
  have pl := plan_root eB w (vs := [w]) (by simp)
  have hv : ∀ v ∈ [w], strOkD v = true := fun v h => by rw [List.mem_singleton.mp h]; exact wo
  have okw : ∀ p ∈ ([(a, w)] : List Pair), strOkD p.1 = true ∧ strOkD p.2 = true := fun p h => by rw [List.mem_singleton.mp h]; exact ⟨hnB _ am, wo⟩
  have LT := laid_tree tB hnB (by omega)
  have LP := laid_pairs okw (by simp)
  have f1 := is_tree_at (k := k + 5) H.is_name H.is_row H.is_tree tB (by omega) nmB
  have f2 := is_plan_at (k := k + 5) H.is_name H.ascends H.are_pairs H.root_of H.is_plan eB (by omega) (us := [(a, w)]) (by simp) (by simp) (fun p h => by rw [List.mem_singleton.mp h]; exact wn) (fun p h => by rw [List.mem_singleton.mp h]; exact ⟨_, am, rfl, rfl⟩) (by simp)
  have f3 := is_lean_at (k := k + 1) H.l tB (by omega) hnB pl hv LT LP
  have f4 := tidied_at (k := k + 2) H.l tB (by omega) hnB pl hv LT LP
  have f5 := values_of_at (k := k + 2) H.w tB (by omega) hnB pl hv LT LP
  have il : isLean (boltR rs) [(a, w)] = true := (pl.lean_iff tB).mpr (root_isLean tB eB w)
  rw [il] at f3
  rw [root_isLean tB eB w] at f4
  have P1 : ([(a, w)] : List Pair).map pairD = [.tup [.str a, .str w]] := rfl
  rw [P1] at f2 f3 f4 f5
  have so := sortD_strs (l := (boltR rs).map (·.1)) (fun x hx => by
    obtain ⟨r, hr, rfl⟩ := List.mem_map.mp hx
    exact hnB r hr) (by rw [List.length_map]; omega)
  rw [List.map_map] at so
  obtain ⟨ms, hms⟩ : ∃ ms, ((boltR rs).map (·.1)).mergeSort (fun a b => leD (.str a) (.str b)) = ms := ⟨_, rfl⟩
  rw [hms] at so
  have so : sortD ((boltR rs).map fun r => .str r.1) = some (ms.map .str) := so
  have msl : ms.length ≤ 40 := by rw [← hms, List.length_mergeSort, List.length_map]; omega
  have pm : ms.Perm ((boltR rs).map (·.1)) := by rw [← hms]; exact List.mergeSort_perm _ _
  have vals : sortP ((boltR rs).map fun r => (r.1, valV [(a, w)] (boltR rs) r.1)) = ms.map fun x => (x, w) := by
    have e : ((boltR rs).map fun r => (r.1, valV [(a, w)] (boltR rs) r.1)) = ((boltR rs).map (·.1)).map fun x => (x, w) := by
      rw [List.map_map]
      exact List.map_congr_left fun r hr => by
        show (r.1, valV _ _ r.1) = (r.1, w)
        rw [root_val tB eB w r hr]
    rw [e]
    refine List.Perm.eq_of_pairwise (fun a b _ _ => leP_anti a b) (sortP_asc _) ?_ ((sortP_perm _).trans (pm.symm.map _))
    rw [List.pairwise_map, ← hms]
    refine (List.pairwise_mergeSort (le := fun a b => leD (.str a) (.str b)) (fun a b c => leD_trans _ _ _) (fun a b => leD_total _ _) _).imp fun {x y} h => leP_str h w
  rw [vals] at f5
  simp_arith [so, f1, f2, f3, f4, f5]
  refine yE_lm ms .str (fun x => pairD (x, w)) ?_
  simp_arith
  refine ⟨by omega, fun x hx => ?_, ?_⟩
  · simp_arith [pairD]
  have eD : boltR rs = (a, none, false) :: rest := eB
  have dr : slcD (.tup ((boltR rs).map rowD)) (some 1) none = some (.tup (rest.map rowD), false) := by
    rw [eB]; exact slcT_one
  have rl : rest.length + 1 = rs.length := by rw [← lB, eB]; rfl
  simp_arith [cellAt_set cellAt_end]
  refine yE_lm rest rowD (fun _ => .bl false) ?_
  simp_arith [dr]
  refine ⟨by omega, fun r hr => ?_, ?_⟩
  · have rm : r ∈ boltR rs := by rw [eB]; exact List.mem_cons_of_mem _ hr
    have lk : ∀ q ∈ boltR rs, q.1 = r.1 → q.2.2 = true := fun q hq e => by
      have : q = r := row_of_name tB hq rm e
      subst this
      have h2 : q.2.2 = q.2.1.isSome := by
        obtain ⟨z, _, rfl⟩ := List.mem_map.mp hq
        rfl
      rw [h2]
      rcases row_cases tB hq with ⟨h1, _⟩ | ⟨z, _, h1⟩
      · exfalso
        have nd := tB.nodup
        rw [eB] at h1 nd
        cases h1
        simp only [List.map_cons, List.nodup_cons] at nd
        exact nd.1 (List.mem_map.mpr ⟨_, hr, rfl⟩)
      · rw [h1]; rfl
    have so2 := sortD_pairs (us := [(a, w), (r.1, "a")]) (fun p hp => by
      rcases List.mem_cons.mp hp with rfl | hp
      · exact ⟨hnB _ am, wo⟩
      · rw [List.mem_singleton.mp hp]; exact ⟨hnB _ rm, (by decide +kernel : strOkD ("a" : Str) = true)⟩) (by simp)
    have np := is_plan_no (k := k + 5) H.is_name H.are_pairs H.is_plan (rs := boltR rs) (us := sortP [(a, w), (r.1, "a")]) (by omega) (by rw [(sortP_perm _).length_eq]; simp) (fun p hp => by
      rcases List.mem_cons.mp ((sortP_perm _).mem_iff.mp hp) with rfl | hp
      · exact wn
      · rw [List.mem_singleton.mp hp]; exact (by decide +kernel : nameS ("a" : Str) = true)) ⟨(r.1, "a"), (sortP_perm _).mem_iff.mpr (by simp), lk⟩
    simp only [List.map_cons, List.map_nil, pairD] at so2
    simp_arith [hr0, so2, np]
  have hcl : c < M1.length := by obtain ⟨_, _, _, hc, _⟩ := b1.at'; exact cellAt_lt' hc
  have mr : (rest.map fun _ => D.bl false) = List.replicate rest.length (.bl false) := by rw [List.map_const']
  have bm : opBin .mul (.lst [.bl false]) (.int (((boltR rs).length : Nat) - 1)) = some (.lst (List.replicate rest.length (.bl false)), true) := by
    have : (((boltR rs).length : Nat) : Int) - 1 = (rest.length : Nat) := by omega
    rw [this]
    exact mul_one (by omega)
  have c1 : cellAt (List.set (M1 ++ [some (Node.lst [D.bl true, D.bl true, D.bl true, D.tup [D.tup [D.str a, D.str w]]])]) M1.length (some (Node.lst [D.bl true, D.bl true, D.bl true, D.tup [D.tup [D.str a, D.str w]], D.lst ((ms.map fun x => (x, w)).map pairD)]))) M1.length = some (.lst [D.bl true, D.bl true, D.bl true, D.tup [D.tup [D.str a, D.str w]], D.lst ((ms.map fun x => (x, w)).map pairD)]) := cellAt_set cellAt_end
  have c2 := cellAt_set (nd' := .lst ([D.bl true, D.bl true, D.bl true, D.tup [D.tup [D.str a, D.str w]], D.lst ((ms.map fun x => (x, w)).map pairD)] ++ [D.lst (List.replicate rest.length (.bl false))])) c1
  simp only [List.cons_append, List.nil_append] at c2
  have msok : ∀ x ∈ ms, strOkD x = true := fun x hx => by
    obtain ⟨r, hr, rfl⟩ := List.mem_map.mp (pm.mem_iff.mp hx)
    exact hnB r hr
  have m1 := (MeasN.pairs (us := [(a, w)]) okw (by simp)).1
  have m2 := (MeasN.pairs (us := ms.map fun x => (x, w)) (fun p hp => by
    obtain ⟨x, hx, rfl⟩ := List.mem_map.mp hp
    exact ⟨msok x hx, wo⟩) (by rw [List.length_map]; omega)).2
  have m3 : MeasN 2 (.lst (List.replicate rest.length (.bl false))) := (MeasN.lst (n := 0) (fun x hx => by rw [List.eq_of_mem_replicate hx]; exact .bl _) (by rw [List.length_replicate]; omega)).mono (by omega)
  have sm := same_at (k := k + 1) H.same (x := .lst [D.bl true, D.bl true, D.bl true, D.tup [D.tup [D.str a, D.str w]], D.lst ((ms.map fun x => (x, w)).map pairD), D.lst (List.replicate rest.length (.bl false))]) ((MeasN.lst (n := 2) (fun x hx => by
    simp only [List.mem_cons, List.not_mem_nil, or_false] at hx
    rcases hx with rfl | rfl | rfl | rfl | rfl | rfl
    · exact .bl _
    · exact .bl _
    · exact .bl _
    · exact m1
    · exact m2
    · exact m3) (by simp)).meas (by omega))
  have mm : ms.map (fun x => pairD (x, w)) = (ms.map fun x => (x, w)).map pairD := by rw [List.map_map]; rfl
  simp_arith [c1, mr, c2, bm, mm, sm]
  refine q _ (b1.keep ((cellAt_take (by omega)).trans ((cellAt_ne (by omega)).trans ((cellAt_ne (by omega)).trans ((cellAt_ne (by omega)).trans (cellAt_app hcl)))))) ?_ fun j h1 h2 => ?_
  · rw [List.length_take, List.length_set, List.length_set, List.length_set, List.length_append]; omega
  · rw [cellAt_take h1, cellAt_ne (by omega), cellAt_ne (by omega), cellAt_ne (by omega), cellAt_app (by omega)]
    exact o1 j h2
end
end Rf

set_option Elab.async false
set_option linter.all false
set_option maxRecDepth 100000
set_option maxHeartbeats 4000000
namespace Rf
open PySem L2
local macro_rules | `(tactic| simp_arith) => `(tactic| simp -implicitDefEqProofs (maxSteps := 4000000) (failIfUnchanged := false) only [oP_some, oP_none, oD_d, wAt_zero, wAt_succ, putW_zero, putW_succ, map_some', wipe_nil, wipe_cons, set_zero, set_succ, vw_dd, evG_nm, evG_tp, evGs_nil, evGs_cons, some_bind', evGI_f, evGI_t, yE_slot, yE_cst, yE_glob, yE_dnil, yE_one, yE_tup, yE_lst, yE_ite, yE_andv, yE_orv, yE_orT, yE_notv, yE_cmp, yE_chain, yE_bin, yE_neg, yE_idx, yE_slc, yE_callP, yE_callK, yE_callM, yE_mk, yE_blt, yE_isi, yE_sitems, yE_get1, yA_nil, yA_cons, yO_none, yO_some, yT_andv, yT_orv, yT_notv, yT_one, yT_val, yC_nil, yC_cons, yI_itv, yI_rng1, yI_rng2, yI_zip, yI_enum, yI_items, yI_vals, yS_nil, yS_seq, yS_asg, yS_par, puts_nil, puts_cons, yS_exp, yS_ret, yS_retN, yS_ite, oN_c, oL_l, oK_d, cellAt_end, toD_lst, toD_dic, asNode_lst, asNode_dic, vw_cell, vws_nil, vws_cons, allD_nil, allD_cons, anyCell_nil, anyCell_d, anyCell_c, yS_app, yS_upd, yS_frz, oSet_l, oSet_d, yS_seti, yE_pop, k_nf, k_nt, k_nn, k_to, k_fo, k_ta, k_fa, k_it, k_if, k_tt, k_ft, k_Ta, k_aT, k_big, k_lc, k_ln, k_lm, o_eq, o_ne, o_lt, o_lts, o_le, o_gt, o_ge, o_is, o_isnt, o_in, o_notin, e_ss, e_ii, e_bb, e_nn, e_ns, e_sn, e_ni, e_in, i_n, i_s, i_i, i_b, i_t, i_l, i_bb, t_n, t_b, t_i, t_l, t_t, x_dic, x_dicI, x_tup, x_lst, at_0, at_1, at_2, at_3, d_in, d_inI, k_of, k_ofI, it_l, it_t, it_d, b_addI, b_subI, b_addL, b_addT, b_addS, b_mod, b_fdiv, b_mul, f_lenL, f_lenT, f_lenD, f_lenS, f_int, f_intB, f_tupL, f_tupT, f_lstL, f_lstT, f_dicD, f_dicL, f_dicT, f_sort, f_sortT, f_all, f_any, f_sum, in_strs, in_strsT, bind_none', Nat.reduceAdd, Nat.reduceSub, Nat.reduceLeDiff, Nat.reduceLT, List.replicate_zero, List.replicate_succ, List.map_cons, List.map_nil, List.cons_append, List.nil_append, envOf, Option.some.injEq, eq_self, and_self, if_true, if_false, List.filterMap_cons, List.filterMap_nil, List.getElem?_cons_succ, List.getElem?_cons_zero, evG_tl, e_dd, List.set_cons_zero, List.set_cons_succ, List.all_nil, yE_litems, yE_lrng, cell_zero, cell_succ])
local macro_rules | `(tactic| simp_arith [$xs,*]) => `(tactic| simp -implicitDefEqProofs (maxSteps := 4000000) (failIfUnchanged := false) only [oP_some, oP_none, oD_d, wAt_zero, wAt_succ, putW_zero, putW_succ, map_some', wipe_nil, wipe_cons, set_zero, set_succ, vw_dd, evG_nm, evG_tp, evGs_nil, evGs_cons, some_bind', evGI_f, evGI_t, yE_slot, yE_cst, yE_glob, yE_dnil, yE_one, yE_tup, yE_lst, yE_ite, yE_andv, yE_orv, yE_orT, yE_notv, yE_cmp, yE_chain, yE_bin, yE_neg, yE_idx, yE_slc, yE_callP, yE_callK, yE_callM, yE_mk, yE_blt, yE_isi, yE_sitems, yE_get1, yA_nil, yA_cons, yO_none, yO_some, yT_andv, yT_orv, yT_notv, yT_one, yT_val, yC_nil, yC_cons, yI_itv, yI_rng1, yI_rng2, yI_zip, yI_enum, yI_items, yI_vals, yS_nil, yS_seq, yS_asg, yS_par, puts_nil, puts_cons, yS_exp, yS_ret, yS_retN, yS_ite, oN_c, oL_l, oK_d, cellAt_end, toD_lst, toD_dic, asNode_lst, asNode_dic, vw_cell, vws_nil, vws_cons, allD_nil, allD_cons, anyCell_nil, anyCell_d, anyCell_c, yS_app, yS_upd, yS_frz, oSet_l, oSet_d, yS_seti, yE_pop, k_nf, k_nt, k_nn, k_to, k_fo, k_ta, k_fa, k_it, k_if, k_tt, k_ft, k_Ta, k_aT, k_big, k_lc, k_ln, k_lm, o_eq, o_ne, o_lt, o_lts, o_le, o_gt, o_ge, o_is, o_isnt, o_in, o_notin, e_ss, e_ii, e_bb, e_nn, e_ns, e_sn, e_ni, e_in, i_n, i_s, i_i, i_b, i_t, i_l, i_bb, t_n, t_b, t_i, t_l, t_t, x_dic, x_dicI, x_tup, x_lst, at_0, at_1, at_2, at_3, d_in, d_inI, k_of, k_ofI, it_l, it_t, it_d, b_addI, b_subI, b_addL, b_addT, b_addS, b_mod, b_fdiv, b_mul, f_lenL, f_lenT, f_lenD, f_lenS, f_int, f_intB, f_tupL, f_tupT, f_lstL, f_lstT, f_dicD, f_dicL, f_dicT, f_sort, f_sortT, f_all, f_any, f_sum, in_strs, in_strsT, bind_none', Nat.reduceAdd, Nat.reduceSub, Nat.reduceLeDiff, Nat.reduceLT, List.replicate_zero, List.replicate_succ, List.map_cons, List.map_nil, List.cons_append, List.nil_append, envOf, Option.some.injEq, eq_self, and_self, if_true, if_false, List.filterMap_cons, List.filterMap_nil, List.getElem?_cons_succ, List.getElem?_cons_zero, evG_tl, e_dd, List.set_cons_zero, List.set_cons_succ, List.all_nil, yE_litems, yE_lrng, cell_zero, cell_succ, $xs,*])
local macro_rules | `(tactic| simp_arith [$xs,*] at $h:ident) => `(tactic| simp -implicitDefEqProofs (maxSteps := 4000000) (failIfUnchanged := false) only [oP_some, oP_none, oD_d, wAt_zero, wAt_succ, putW_zero, putW_succ, map_some', wipe_nil, wipe_cons, set_zero, set_succ, vw_dd, evG_nm, evG_tp, evGs_nil, evGs_cons, some_bind', evGI_f, evGI_t, yE_slot, yE_cst, yE_glob, yE_dnil, yE_one, yE_tup, yE_lst, yE_ite, yE_andv, yE_orv, yE_orT, yE_notv, yE_cmp, yE_chain, yE_bin, yE_neg, yE_idx, yE_slc, yE_callP, yE_callK, yE_callM, yE_mk, yE_blt, yE_isi, yE_sitems, yE_get1, yA_nil, yA_cons, yO_none, yO_some, yT_andv, yT_orv, yT_notv, yT_one, yT_val, yC_nil, yC_cons, yI_itv, yI_rng1, yI_rng2, yI_zip, yI_enum, yI_items, yI_vals, yS_nil, yS_seq, yS_asg, yS_par, puts_nil, puts_cons, yS_exp, yS_ret, yS_retN, yS_ite, oN_c, oL_l, oK_d, cellAt_end, toD_lst, toD_dic, asNode_lst, asNode_dic, vw_cell, vws_nil, vws_cons, allD_nil, allD_cons, anyCell_nil, anyCell_d, anyCell_c, yS_app, yS_upd, yS_frz, oSet_l, oSet_d, yS_seti, yE_pop, k_nf, k_nt, k_nn, k_to, k_fo, k_ta, k_fa, k_it, k_if, k_tt, k_ft, k_Ta, k_aT, k_big, k_lc, k_ln, k_lm, o_eq, o_ne, o_lt, o_lts, o_le, o_gt, o_ge, o_is, o_isnt, o_in, o_notin, e_ss, e_ii, e_bb, e_nn, e_ns, e_sn, e_ni, e_in, i_n, i_s, i_i, i_b, i_t, i_l, i_bb, t_n, t_b, t_i, t_l, t_t, x_dic, x_dicI, x_tup, x_lst, at_0, at_1, at_2, at_3, d_in, d_inI, k_of, k_ofI, it_l, it_t, it_d, b_addI, b_subI, b_addL, b_addT, b_addS, b_mod, b_fdiv, b_mul, f_lenL, f_lenT, f_lenD, f_lenS, f_int, f_intB, f_tupL, f_tupT, f_lstL, f_lstT, f_dicD, f_dicL, f_dicT, f_sort, f_sortT, f_all, f_any, f_sum, in_strs, in_strsT, bind_none', Nat.reduceAdd, Nat.reduceSub, Nat.reduceLeDiff, Nat.reduceLT, List.replicate_zero, List.replicate_succ, List.map_cons, List.map_nil, List.cons_append, List.nil_append, envOf, Option.some.injEq, eq_self, and_self, if_true, if_false, List.filterMap_cons, List.filterMap_nil, List.getElem?_cons_succ, List.getElem?_cons_zero, evG_tl, e_dd, List.set_cons_zero, List.set_cons_succ, List.all_nil, yE_litems, yE_lrng, cell_zero, cell_succ, $xs,*] at $h:ident)
/-- none locked -/
def freeR (rs : List TRow) : List TRow := flagR (fun _ => false) rs
/-- every folder written, none locked -/
structure Full (rs : List TRow) (us : List Pair) (vs : List Str) : Prop where
  names : us.map (·.1) = rs.map (·.1)
  val : ∀ p ∈ us, p.2 ∈ vs
  free : ∀ r ∈ rs, r.2.2 = false
section
variable {rs : List TRow} {us : List Pair} {vs : List Str}
theorem Full.nd (f : Full rs us vs) (t : Tree rs) : (us.map (·.1)).Nodup := by rw [f.names]; exact t.nodup
theorem Full.plan (f : Full rs us vs) (t : Tree rs) : Plan rs (sortP us) vs := by
  refine ⟨((sortP_perm _).map _).nodup_iff.mpr (f.nd t), fun r hr => ?_, fun p hp => ?_, fun p hp => f.val p ((sortP_perm _).mem_iff.mp hp), sortP_asc _⟩
  · refine ((sortP_perm _).map _).mem_iff.mpr ?_
    rw [f.names]
    exact List.mem_map.mpr ⟨r, List.mem_of_mem_head? hr, rfl⟩
  · have : p.1 ∈ us.map (·.1) := List.mem_map.mpr ⟨p, (sortP_perm _).mem_iff.mp hp, rfl⟩
    rw [f.names] at this
    obtain ⟨r, hr, e⟩ := List.mem_map.mp this
    exact ⟨r, hr, e, f.free r hr⟩
theorem Full.look (f : Full rs us vs) (t : Tree rs) {r : TRow} (hr : r ∈ rs) : look r.1 us = some (valV (sortP us) rs r.1) := by
  have p := f.plan t
  have e := val_eq t (p.rooted t) hr
  rw [look_sort (f.nd t)] at e
  have : r.1 ∈ us.map (·.1) := by rw [f.names]; exact List.mem_map.mpr ⟨r, hr, rfl⟩
  obtain ⟨v, hv⟩ := Option.isSome_iff_exists.mp (look_isSome this)
  rw [hv] at e ⊢
  rw [e]
theorem Full.vals (f : Full rs us vs) (t : Tree rs) : valsP rs (sortP us) = sortP us := by
  unfold valsP
  congr 1
  apply List.ext_getElem
  · rw [List.length_map]
    have := congrArg List.length f.names
    rw [List.length_map, List.length_map] at this
    exact this.symm
  · intro i h1 h2
    rw [List.getElem_map]
    have h3 : i < rs.length := by rwa [List.length_map] at h1
    have e : us[i].1 = rs[i].1 := by
      have : (us.map (·.1))[i]? = (rs.map (·.1))[i]? := by rw [f.names]
      rw [List.getElem?_map, List.getElem?_map, List.getElem?_eq_getElem h2, List.getElem?_eq_getElem h3] at this
      exact Option.some.inj this
    have l := f.look t (List.getElem_mem h3)
    have l2 := look_some (f.nd t) (x := us[i].1) (v := us[i].2) (List.getElem_mem h2)
    rw [e, l] at l2
    have := Option.some.inj l2
    rw [this, ← e]
end
theorem free_wp {T : List Def} {k : Nat} (H : Has19 T) (hw : findDef T "are_wants" = some d_are_wants) (hns : findDef T "names_of" = some d_names_of) (hsv : findDef T "serves" = some d_serves) (hll : findDef T "_law_lean" = some d_law_lean) (hfr : findDef T "_law_free_right" = some d_law_free_right)
    {M : Store} {c e : Nat} (b : Box M c e) (he : e + 100 < 2 ^ 40) {rs : List TRow} (t : Tree rs) (hl : rs.length ≤ 40) (hn : ∀ r ∈ rs, strOkD r.1 = true) (nm : ∀ r ∈ rs, nameS r.1 = true) {Q : RW → Prop}
    (q : ∀ M', Box M' c (e + 40) → M'.length = M.length → (∀ j, j < M.length → j ≠ c → cellAt M' j = cellAt M j) → Q ((.d (.bl true), false), M')) : oP ((orc T (k + 9)).m "_law_free_right" [.cell c, .d (.tup (rs.map rowD))] M) Q := by
  refine mCall (d := d_law_free_right) hfr rfl ?_
  simp_arith [d_law_free_right]
  refine yE_lm rs rowD (fun r => rowD (r.1, r.2.1, false)) ?_
  simp_arith
  refine ⟨by omega, fun r hr => ?_, ?_⟩
  · have s1 : slcD (rowD r) none (some 2) = some (.tup [.str r.1, optD r.2.1], false) := rfl
    simp_arith [s1]
    rfl
  have fm : rs.map (fun r => rowD (r.1, r.2.1, false)) = (freeR rs).map rowD := by unfold freeR flagR; rw [List.map_map]; rfl
  have tF : Tree (freeR rs) := t.flag fun r h => rfl
  have lF : (freeR rs).length = rs.length := by unfold freeR flagR; rw [List.length_map]
  have hB : ∀ r ∈ freeR rs, ∃ q ∈ rs, r.1 = q.1 := fun r hr => by
    obtain ⟨q, hq, rfl⟩ := List.mem_map.mp hr
    exact ⟨q, hq, rfl⟩
  have hnF : ∀ r ∈ freeR rs, strOkD r.1 = true := fun r hr => by obtain ⟨q, hq, e⟩ := hB r hr; rw [e]; exact hn q hq
  have nmF : ∀ r ∈ freeR rs, nameS r.1 = true := fun r hr => by obtain ⟨q, hq, e⟩ := hB r hr; rw [e]; exact nm q hq
  have fr : ∀ r ∈ freeR rs, r.2.2 = false := fun r hr => by
    obtain ⟨q, hq, rfl⟩ := List.mem_map.mp hr; rfl
  rw [fm]
  obtain ⟨rs', hrs⟩ : ∃ rs', freeR rs = rs' := ⟨_, rfl⟩
  rw [hrs] at tF lF hnF nmF fr ⊢
  have vsub : ∀ v ∈ (["a", "b", "c"] : List Str), strOkD v = true := by decide +kernel
  have vnm : ∀ v ∈ (["a", "b", "c"] : List Str), nameS v = true := by decide +kernel
  have hr0 : ∀ r : TRow, idxD (rowD r) (.int 0) = some (.str r.1) := fun r => at_0 _ _
  refine yE_lcW (fun i acc M' => ∃ us : List Pair, acc = us.map pairD ∧ us.map (·.1) = (rs'.take i).map (·.1) ∧ (∀ p ∈ us, p.2 ∈ (["a", "b", "c"] : List Str)) ∧ Box M' c (e + i) ∧ M'.length = M.length ∧ ∀ j, j < M.length → j ≠ c → cellAt M' j = cellAt M j) ?_
  simp_arith
  refine ⟨by omega, ⟨[], rfl, rfl, fun p hp => (by cases hp), b, fun j _ _ => trivial⟩, ?_, ?_⟩
  · rintro i x acc M1 hx ⟨us, rfl, un, uv, b1, l1, o1⟩
    rw [List.getElem?_map] at hx
    obtain ⟨r, hr, rfl⟩ := Option.map_eq_some_iff.mp hx
    have hi := (List.getElem?_eq_some_iff.mp hr).1
    simp_arith [hr0]
    refine ofL_wp (xs := [.str "a", .str "b", .str "c"]) H.take H.of' b1 (by omega) (by simp) (by simp) fun y M2 ym b2 l2 o2 => ?_
    obtain ⟨w, wm, rfl⟩ : ∃ v ∈ (["a", "b", "c"] : List Str), y = .str v := by
      obtain ⟨v, h1, h2⟩ := List.mem_map.mp (show y ∈ (["a", "b", "c"] : List Str).map D.str from ym)
      exact ⟨v, h1, h2.symm⟩
    simp_arith
    refine ⟨us ++ [(r.1, w)], ?_, ?_, ?_, b2, by omega, fun j h1 h2 => by rw [o2 j h2]; exact o1 j h1 h2⟩
    · rw [List.map_append]; rfl
    · rw [List.take_succ, hr, List.map_append, List.map_append, un]; rfl
    · intro p hp
      rcases List.mem_append.mp hp with hp | hp
      · exact uv p hp
      · rw [List.mem_singleton.mp hp]; exact wm
  rintro acc M1 ⟨us, rfl, un, uv, b1, l1, o1⟩
  rw [List.take_length] at un
  have F : Full rs' us ["a", "b", "c"] := ⟨un, uv, fr⟩
  have nd := F.nd tF
  have p := F.plan tF
  have ul : us.length ≤ 40 := by
    have := congrArg List.length un
    rw [List.length_map, List.length_map] at this
    omega
  obtain ⟨ev, hev⟩ : ∃ ev, sortP us = ev := ⟨_, rfl⟩
  have evl : ev.length ≤ 40 := by rw [← hev, (sortP_perm _).length_eq]; exact ul
  have uok : ∀ p ∈ us, strOkD p.1 = true ∧ strOkD p.2 = true := fun o ho => p.ok hnF vsub o ((sortP_perm _).mem_iff.mpr ho)
  have so := sortD_pairs uok (by omega)
  have vals : valsP rs' ev = ev := by rw [← hev]; exact F.vals tF
  have lk : ∀ r ∈ rs', getK (.inr r.1) (pk us) = some (.str (valV ev rs' r.1)) := fun r hr => by
    rw [look_getK, F.look tF hr, hev]; rfl
  have lkE : ∀ o ∈ ev, valV ev rs' o.1 = o.2 := fun o ho => by
    have h1 : o.1 ∈ rs'.map (·.1) := by rw [← hev] at ho; rw [← un]; exact List.mem_map.mpr ⟨o, (sortP_perm _).mem_iff.mp ho, rfl⟩
    obtain ⟨r, hr, e⟩ := List.mem_map.mp h1
    have h2 := F.look tF hr
    rw [e, look_some nd (by rw [← hev] at ho; exact (sortP_perm _).mem_iff.mp ho), hev] at h2
    exact (Option.some.inj h2).symm
  rw [hev] at p so
  have okE := p.ok hnF vsub
  obtain ⟨a, rest, er⟩ := tF.up.1
  have LT := laid_tree tF hnF (by omega)
  have LE := laid_pairs okE evl
  have pL := p.lean tF
  have okL := pL.ok hnF vsub
  have LL := laid_pairs okL (pL.len (by omega))
  have evs : ∀ o ∈ ev, o.1 ∈ rs'.map (·.1) := fun o ho => p.sub o ho
  have f0 := law_lean_gen (k := k + 7) (.inr rfl) hll tF (by omega) hnF p vsub lk
  have f1 := is_plan_at (k := k + 5) H.is_name H.ascends H.are_pairs H.root_of H.is_plan er (by omega) p.ltS (by omega) (fun o ho => vnm _ (p.val o ho)) (fun o ho => p.free o ho) (p.root _ (by rw [er]; rfl))
  have f2 := are_wants_at (k := k + 5) H.is_name H.ascends H.are_pairs hns hw (rs := rs') (by omega) p.ltS (by omega) (fun o ho => vnm _ (p.val o ho)) evs
  have f3 := serves_at (k := k + 2) (us := ev) H.l.tupled H.l.parents H.l.values_by hsv tF (by omega) p LT LE evs (by omega) (.inl rfl)
  rw [List.all_eq_true.mpr fun o ho => by rw [lkE o ho]; simp] at f3
  have f4 := values_of_at (k := k + 2) H.w tF (by omega) hnF p vsub LT LE
  have f5 := tidied_at (k := k + 2) H.l tF (by omega) hnF p vsub LT LE
  have f6 := serves_at (k := k + 2) (us := ev) H.l.tupled H.l.parents H.l.values_by hsv tF (by omega) pL LT LL evs (by omega) (.inl rfl)
  rw [List.all_eq_true.mpr fun o ho => by
    obtain ⟨r, hr, e⟩ := List.mem_map.mp (evs o ho)
    rw [← e, p.lean_val tF r hr, e, lkE o ho]; simp] at f6
  have f7 := is_lean_at (k := k + 1) H.l tF (by omega) hnF pL vsub LT LL
  rw [(pL.lean_iff tF).mpr (leanF_congr tF (p.lean_val tF))] at f7
  have f8 := values_of_at (k := k + 2) H.w tF (by omega) hnF pL vsub LT LL
  have v4 : valsP rs' (leanF rs' (valV ev rs')) = ev := by rw [(valsP_iff tF).mpr (p.lean_val tF), vals]
  have f4 : (orc T (k + 2 + 6)).p "values_of" [.tup (rs'.map rowD), .tup (ev.map pairD)] = some (.lst (ev.map pairD), true) := by rw [f4]; show some (D.lst ((valsP rs' ev).map pairD), true) = _; rw [vals]
  have f8 : (orc T (k + 2 + 6)).p "values_of" [.tup (rs'.map rowD), .tup ((leanF rs' (valV ev rs')).map pairD)] = some (.lst (ev.map pairD), true) := by rw [f8]; show some (D.lst ((valsP rs' (leanF rs' (valV ev rs'))).map pairD), true) = _; rw [v4]
  have mE := (MeasN.pairs okE (by omega)).2
  have mL := (MeasN.pairs okL (by have := pL.len (by omega); omega)).1
  have s1 := same_at (k := k + 1) H.same (x := .lst [.bl true, .bl true, .bl true, .lst (ev.map pairD)]) ((MeasN.four (n := 2) (.bl _) (.bl _) (.bl _) mE).meas (by omega))
  have s2 := same_at (k := k + 1) H.same (mL.meas (by omega))
  have s3 := same_at (k := k + 1) H.same (x := .lst [.bl true, .bl true, .lst (ev.map pairD)]) ((MeasN.three (n := 2) (.bl _) (.bl _) mE).meas (by omega))
  simp_arith [pairsOf_map, merg_pk nd, pk_len, pairs_pk, so, f0, f1, f2, f3, f4, f5, f6, f7, f8, s1, s2, s3]
  refine ⟨by omega, q _ ((b1.keep (cellAt_take (by obtain ⟨_, _, _, hc, _⟩ := b.at'; exact cellAt_lt' hc))).mono (by omega)) (by rw [List.length_take]; omega) fun j h1 h2 => by rw [cellAt_take h1]; exact o1 j h1 h2⟩
structure Has19b (T : List Def) : Prop where
  h : Has19 T
  are_wants : findDef T "are_wants" = some d_are_wants
  names_of : findDef T "names_of" = some d_names_of
  serves : findDef T "serves" = some d_serves
  value_of : findDef T "value_of" = some d_value_of
  lawlean : findDef T "_law_lean" = some d_law_lean
  free : findDef T "_law_free_right" = some d_law_free_right
  grown : findDef T "_law_grown" = some d_law_grown
  planned : findDef T "_law_planned" = some d_law_planned
  wished : findDef T "_law_wished" = some d_law_wished_k00
  lists : findDef T "_law_lists" = some d_law_lists
  box : findDef T "_law_box" = some d_law_box
  cells : findDef T "_law_cells" = some d_law_cells
  right : findDef T "_law_right" = some d_law_right_k19
  law : findDef T "law" = some d_law_k00
theorem pool_name19 : ∀ a ∈ pool, nameS a = true := by decide +kernel
theorem right19 {T : List Def} (H : Has19b T) {k : Nat} {M : Store} {c e : Nat} (b : Box M c e) (he : e + 2000 < 2 ^ 40) {Q : RW → Prop} (q : ∀ M', Q ((.d (.bl true), false), M')) : oP ((orc T (k + 10)).m "_law_right" [.cell c] M) Q := by
  refine mCall (d := d_law_right_k19) H.right rfl ?_
  simp_arith [d_law_right_k19]
  refine yS_for (I := fun i ρ M' => ∃ s1 s2 s3 s4 s5 s6 s7 s8 s9 s10 : Option W, ρ = [some (.cell c), s1, s2, s3, s4, s5, s6, s7, s8, s9, s10] ∧ Box M' c (e + 400 * i)) ?_
  simp_arith
  refine ⟨by decide, ⟨_, _, _, _, _, _, _, _, _, _, rfl, b⟩, ?_, ?_⟩
  · rintro i x ρ M1 hx ⟨s1, s2, s3, s4, s5, s6, s7, s8, s9, s10, rfl, b1⟩
    obtain ⟨hi, rfl⟩ := rng_get hx
    have hi : i < 3 := hi
    simp_arith
    refine take_wp H.h.take b1 (by omega) (by decide) (by decide) fun r M2 r0 r1 b2 l2 o2 => ?_
    simp_arith
    refine grown_wp H.h.take H.h.of' H.grown b2 (by omega) (by omega) (by omega) fun rs M3 t rl rp b3 l3 o3 => ?_
    have hl : rs.length ≤ 40 := by omega
    have nm := fun r hr => pool_name19 _ (rp r hr)
    have rp := fun r hr => pool_ok _ (rp r hr)
    have vsub : ∀ v ∈ (["a", "b"] : List Str), strOkD v = true := by decide +kernel
    simp_arith
    refine bolted_wp (k := k) H.h b3 (by omega) t hl rp nm fun M4 b4 l4 o4 => ?_
    simp_arith
    refine free_wp (k := k) H.h H.are_wants H.names_of H.serves H.lawlean H.free b4 (by omega) t hl rp nm fun M5 b5 l5 o5 => ?_
    simp_arith
    refine planned_wp (vs := ["a", "b"]) H.h.take H.h.of' H.planned b5 (by omega) t (by omega) rp (by simp) (by simp) vsub fun ws M6 p b6 l6 o6 => ?_
    simp_arith
    refine wished_wp (vs := ["a", "b"]) (.inl rfl) H.h.take H.h.of' H.wished b6 (by omega) t (by omega) rp (by simp) (by simp) vsub (by decide) (by decide) fun us M7 Wu b7 l7 o7 => ?_
    have okP := p.ok rp vsub
    have okU := Wu.ok rp vsub
    have ul := Wu.len
    have LT := laid_tree t rp hl
    have LP := laid_pairs okP (p.len hl)
    have LU := laid_pairs okU (by omega : us.length ≤ 40)
    have g1 := lists_at (k := k + 2) H.lists (LT.meas.meas (by omega))
    have g2 := lists_at (k := k + 2) H.lists (LP.meas.meas (by omega))
    have g3 := lists_at (k := k + 2) H.lists (LU.meas.meas (by omega))
    simp_arith [g1, g2, g3, isSeq]
    have rne : rs.map rowD ≠ [] := fun z => by
      obtain ⟨a, rest, er⟩ := t.up.1
      rw [er] at z; cases z
    refine ofT_wp H.h.take H.h.of' b7 (by omega) rne (by rw [List.length_map]; omega) fun y M8 ym b8 l8 o8 => ?_
    obtain ⟨rw_, rm, rfl⟩ := List.mem_map.mp ym
    have hr0 : ∀ r : TRow, idxD (rowD r) (.int 0) = some (.str r.1) := fun r => at_0 _ _
    have vo : ∀ x y : D, Laid x (.tup (rs.map rowD)) → Laid y (.tup (ws.map pairD)) → (orc T (k + 9)).p "value_of" [x, y, .str rw_.1] = some (.str (valV ws rs rw_.1), false) := fun x y hx hy =>
      value_of_ok H.value_of (values_by_at H.h.l.tupled H.h.l.parents H.h.l.values_by t hl p hx hy (k + 3)) (valV_some t p rm).1
    have v1 := vo _ _ LT.lists LP.lists
    have v2 := vo _ _ LT LP.lists
    have v3 := vo _ _ LT LP
    have us' : ∀ o ∈ us, o.1 ∈ rs.map (·.1) := Wu.sub
    have so : ∀ x y z : D, Laid x (.tup (rs.map rowD)) → Laid y (.tup (ws.map pairD)) → (z = .tup (us.map pairD) ∨ z = .lst (us.map pairDL)) → (orc T (k + 9)).p "serves" [x, z, y] = some (.bl (us.all fun q => valV ws rs q.1 == q.2), false) := fun x y z hx hy hz =>
      serves_at (k := k + 3) H.h.l.tupled H.h.l.parents H.h.l.values_by H.serves t hl p hx hy us' (by omega) hz
    have z1 := so _ _ _ LT.lists LP.lists (.inr (lists_pairs us))
    have z2 := so _ _ _ LT LP (.inr (lists_pairs us))
    have z3 := so _ _ _ LT LP (.inl rfl)
    have i1 := is_lean_at (k := k + 2) H.h.l t hl rp p vsub LT LP.lists
    have i2 := is_lean_at (k := k + 2) H.h.l t hl rp p vsub LT LP
    have t1 := tidied_at (k := k + 3) H.h.l t hl rp p vsub LT.lists LP
    have t2 := tidied_at (k := k + 3) H.h.l t hl rp p vsub LT LP
    have w1 := values_of_at (k := k + 3) H.h.w t hl rp p vsub LT.lists LP.lists
    have w2 := values_of_at (k := k + 3) H.h.w t hl rp p vsub LT LP
    have m2 : ∀ x : D, opBin .mul (.lst [x]) (.int 2) = some (.lst [x, x], true) := fun x => mul_one (n := 2) (by omega)
    simp_arith [hr0, v1, v2, v3, z1, z2, z3, i1, i2, t1, t2, w1, w2, m2]
    have hc8 : c < M8.length := by obtain ⟨_, _, _, hc, _⟩ := b8.at'; exact cellAt_lt' hc
    have b9 : ∀ nd, Box (List.set (M8 ++ [some nd]) M8.length none) c (e + 400 * i + 1 + 40 + 1 + 40 + 100 + 100 + 1) := fun nd => b8.keep ((cellAt_ne (by omega)).trans (cellAt_app hc8))
    have b9 := b9 (.lst [.str (valV ws rs rw_.1), .str (valV ws rs rw_.1)])
    generalize (List.set (M8 ++ [some (Node.lst [.str (valV ws rs rw_.1), .str (valV ws rs rw_.1)])]) M8.length none) = M9 at b9 ⊢
    have hc9 : c < M9.length := by obtain ⟨_, _, _, hc, _⟩ := b9.at'; exact cellAt_lt' hc
    have b10 : ∀ nd, Box (List.set (M9 ++ [some nd]) M9.length none) c (e + 400 * i + 1 + 40 + 1 + 40 + 100 + 100 + 1) := fun nd => b9.keep ((cellAt_ne (by omega)).trans (cellAt_app hc9))
    have b10 := b10 (.lst [.str (valV ws rs rw_.1), .str (valV ws rs rw_.1), .bl (us.all fun q => valV ws rs q.1 == q.2), .bl (us.all fun q => valV ws rs q.1 == q.2)])
    generalize (List.set (M9 ++ [some (Node.lst [.str (valV ws rs rw_.1), .str (valV ws rs rw_.1), .bl (us.all fun q => valV ws rs q.1 == q.2), .bl (us.all fun q => valV ws rs q.1 == q.2)])]) M9.length none) = M10 at b10 ⊢
    have hc10 : c < M10.length := by obtain ⟨_, _, _, hc, _⟩ := b10.at'; exact cellAt_lt' hc
    have pL := p.lean t
    have okL := pL.ok rp vsub
    have mL := (MeasN.pairs okL (by have := pL.len hl; omega)).1
    have okV : ∀ o ∈ sortP (rs.map fun r => (r.1, valV ws rs r.1)), strOkD o.1 = true ∧ strOkD o.2 = true := fun o ho => by
      obtain ⟨r, hr, rfl⟩ := List.mem_map.mp ((sortP_perm _).mem_iff.mp ho)
      exact ⟨rp r hr, vsub _ (valV_some t p hr).2⟩
    have mV := (MeasN.pairs okV (by rw [(sortP_perm _).length_eq, List.length_map]; omega)).2
    obtain ⟨tl, htl⟩ : ∃ tl : List D, tl = [.str (valV ws rs rw_.1), .str (valV ws rs rw_.1), .bl (us.all fun q => valV ws rs q.1 == q.2), .bl (us.all fun q => valV ws rs q.1 == q.2), .bl (isLean rs ws), .tup ((leanF rs (valV ws rs)).map pairD), .lst ((sortP (rs.map fun r => (r.1, valV ws rs r.1))).map pairD)] := ⟨_, rfl⟩
    have vS : strOkD (valV ws rs rw_.1) = true := vsub _ (valV_some t p rm).2
    have mT : MeasN 3 (.lst tl) := by
      refine MeasN.lst (n := 2) (fun x hx => ?_) (by rw [htl]; simp)
      rw [htl] at hx
      simp only [List.mem_cons, List.not_mem_nil, or_false] at hx
      rcases hx with rfl | rfl | rfl | rfl | rfl | rfl | rfl
      · exact .str vS
      · exact .str vS
      · exact .bl _
      · exact .bl _
      · exact .bl _
      · exact mL
      · exact mV
    have s1 := same_at (k := k + 2) H.h.same (mT.meas (by omega))
    have m3 := MeasN.three LT.meas LP.meas LU.meas
    have l3 := lists_at (k := k + 2) H.lists (m3.meas (by omega))
    rw [listsF_three] at l3
    have e3 := Meas.refl ((m3.meas (by omega)).lists)
    rw [listsF_three] at e3
    have c1 := cellAt_set (nd' := .lst tl) (cellAt_end (M := M10) (nd := .lst [.str (valV ws rs rw_.1), .str (valV ws rs rw_.1), .bl (us.all fun q => valV ws rs q.1 == q.2), .bl (us.all fun q => valV ws rs q.1 == q.2), .bl (isLean rs ws), .tup ((leanF rs (valV ws rs)).map pairD)]))
    rw [← htl]
    simp_arith [c1, s1, l3, e3]
    exact ⟨_, _, _, _, _, _, _, _, _, _, rfl, (b10.keep ((cellAt_ne (by omega)).trans ((cellAt_ne (by omega)).trans (cellAt_app hc10)))).mono (by omega)⟩
  · rintro ρ M1 ⟨s1, s2, s3, s4, s5, s6, s7, s8, s9, s10, rfl, b1⟩
    exact q _
theorem law19 {T : List Def} (H : Has19b T) {k : Nat} {ns : List Int} (hn : ns.length ≤ 63) : (orc T (k + 11)).p "law" [.scr ns] = some (.bl true, false) :=
  law_gen3 (j := k + 9) H.cells H.box H.law (fun M c b Q q => right19 H (k := k) b (by decide) q) hn
end Rf

set_option Elab.async false
set_option linter.all false
set_option maxRecDepth 100000
set_option maxHeartbeats 4000000
namespace Rf
open PySem L2
def globs : List (Str × D) := [("LETTERS", (.str "abcdefghijklmnopqrstuvwxyz")), ("MOST_LETTERS", (.int 8))]
def top (i : Nat) : Stmt := PySem.Challenge.pw_handeddown_k19_forms_of_plans.main.body.getD i (.Pass ⟨0, 0, 0, 0⟩)
def rows : List Row := [(d_tupled, top 1),
  (d_is_name, top 5),
  (d_ascends, top 6),
  (d_is_row, top 7),
  (d_is_tree, top 8),
  (d_are_pairs, top 9),
  (d_are_wants, top 10),
  (d_is_plan, top 11),
  (d_names_of, top 12),
  (d_root_of, top 13),
  (d_parents, top 14),
  (d_values_by, top 16),
  (d_lean_of, top 17),
  (d_value_of, top 18),
  (d_values_of, top 19),
  (d_serves, top 20),
  (d_tidied, top 21),
  (d_is_lean, top 22),
  (d_law_box, top 24),
  (d_law_take, top 25),
  (d_law_cells, top 26),
  (d_law_of, top 27),
  (d_law_lists, top 28),
  (d_law_same, top 29),
  (d_law_grown, top 30),
  (d_law_wished_k00, top 31),
  (d_law_planned, top 32),
  (d_law_lean, top 33),
  (d_law_bolted_right, top 34),
  (d_law_free_right, top 35),
  (d_law_right_k19, top 36),
  (d_law_k00, top 37)]
theorem rows_chk : rows.all (fun r => chkDef ⟨rows.map (·.1), globs⟩ r.1 r.2) = true := by decide +kernel
theorem b_d_tupled : BindOk d_tupled (top 1) := fun _ _ _ _ _ _ => ⟨fun us hl => match us, hl with
  | [_], _ => rfl, fun q hq => by cases hq⟩
theorem b_d_is_name : BindOk d_is_name (top 5) := fun _ _ _ _ _ _ => ⟨fun us hl => match us, hl with
  | [_], _ => rfl, fun q hq => by cases hq⟩
theorem b_d_ascends : BindOk d_ascends (top 6) := fun _ _ _ _ _ _ => ⟨fun us hl => match us, hl with
  | [_], _ => rfl, fun q hq => by cases hq⟩
theorem b_d_is_row : BindOk d_is_row (top 7) := fun _ _ _ _ _ _ => ⟨fun us hl => match us, hl with
  | [_, _], _ => rfl, fun q hq => by cases hq⟩
theorem b_d_is_tree : BindOk d_is_tree (top 8) := fun _ _ _ _ _ _ => ⟨fun us hl => match us, hl with
  | [_], _ => rfl, fun q hq ws hl => by
    simp only [d_is_tree] at hq
    repeat (cases hq with
      | head => exact (match ws, hl with
        | [_], _ => rfl)
      | tail _ hq => ?_)
    cases hq⟩
theorem b_d_are_pairs : BindOk d_are_pairs (top 9) := fun _ _ _ _ _ _ => ⟨fun us hl => match us, hl with
  | [_, _], _ => rfl, fun q hq => by cases hq⟩
theorem b_d_are_wants : BindOk d_are_wants (top 10) := fun _ _ _ _ _ _ => ⟨fun us hl => match us, hl with
  | [_, _], _ => rfl, fun q hq ws hl => by
    simp only [d_are_wants] at hq
    repeat (cases hq with
      | head => exact (match ws, hl with
        | [_, _], _ => rfl)
      | tail _ hq => ?_)
    cases hq⟩
theorem b_d_is_plan : BindOk d_is_plan (top 11) := fun _ _ _ _ _ _ => ⟨fun us hl => match us, hl with
  | [_, _], _ => rfl, fun q hq ws hl => by
    simp only [d_is_plan] at hq
    repeat (cases hq with
      | head => exact (match ws, hl with
        | [_, _], _ => rfl)
      | tail _ hq => ?_)
    cases hq⟩
theorem b_d_names_of : BindOk d_names_of (top 12) := fun _ _ _ _ _ _ => ⟨fun us hl => match us, hl with
  | [_], _ => rfl, fun q hq => by cases hq⟩
theorem b_d_root_of : BindOk d_root_of (top 13) := fun _ _ _ _ _ _ => ⟨fun us hl => match us, hl with
  | [_], _ => rfl, fun q hq => by cases hq⟩
theorem b_d_parents : BindOk d_parents (top 14) := fun _ _ _ _ _ _ => ⟨fun us hl => match us, hl with
  | [_], _ => rfl, fun q hq => by cases hq⟩
theorem b_d_values_by : BindOk d_values_by (top 16) := fun _ _ _ _ _ _ => ⟨fun us hl => match us, hl with
  | [_, _], _ => rfl, fun q hq => by cases hq⟩
theorem b_d_lean_of : BindOk d_lean_of (top 17) := fun _ _ _ _ _ _ => ⟨fun us hl => match us, hl with
  | [_, _], _ => rfl, fun q hq => by cases hq⟩
theorem b_d_value_of : BindOk d_value_of (top 18) := fun _ _ _ _ _ _ => ⟨fun us hl => match us, hl with
  | [_, _, _], _ => rfl, fun q hq ws hl => by
    simp only [d_value_of] at hq
    repeat (cases hq with
      | head => exact (match ws, hl with
        | [_, _, _], _ => rfl)
      | tail _ hq => ?_)
    cases hq⟩
theorem b_d_values_of : BindOk d_values_of (top 19) := fun _ _ _ _ _ _ => ⟨fun us hl => match us, hl with
  | [_, _], _ => rfl, fun q hq ws hl => by
    simp only [d_values_of] at hq
    repeat (cases hq with
      | head => exact (match ws, hl with
        | [_, _], _ => rfl)
      | tail _ hq => ?_)
    cases hq⟩
theorem b_d_serves : BindOk d_serves (top 20) := fun _ _ _ _ _ _ => ⟨fun us hl => match us, hl with
  | [_, _, _], _ => rfl, fun q hq ws hl => by
    simp only [d_serves] at hq
    repeat (cases hq with
      | head => exact (match ws, hl with
        | [_, _, _], _ => rfl)
      | tail _ hq => ?_)
    cases hq⟩
theorem b_d_tidied : BindOk d_tidied (top 21) := fun _ _ _ _ _ _ => ⟨fun us hl => match us, hl with
  | [_, _], _ => rfl, fun q hq ws hl => by
    simp only [d_tidied] at hq
    repeat (cases hq with
      | head => exact (match ws, hl with
        | [_, _], _ => rfl)
      | tail _ hq => ?_)
    cases hq⟩
theorem b_d_is_lean : BindOk d_is_lean (top 22) := fun _ _ _ _ _ _ => ⟨fun us hl => match us, hl with
  | [_, _], _ => rfl, fun q hq ws hl => by
    simp only [d_is_lean] at hq
    repeat (cases hq with
      | head => exact (match ws, hl with
        | [_, _], _ => rfl)
      | tail _ hq => ?_)
    cases hq⟩
theorem b_d_law_box : BindOk d_law_box (top 24) := fun _ _ _ _ _ _ => ⟨fun us hl => match us, hl with
  | [_, _], _ => rfl, fun q hq => by cases hq⟩
theorem b_d_law_take : BindOk d_law_take (top 25) := fun _ _ _ _ _ _ => ⟨fun us hl => match us, hl with
  | [_, _], _ => rfl, fun q hq => by cases hq⟩
theorem b_d_law_cells : BindOk d_law_cells (top 26) := fun _ _ _ _ _ _ => ⟨fun us hl => match us, hl with
  | [_, _], _ => rfl, fun q hq => by cases hq⟩
theorem b_d_law_of : BindOk d_law_of (top 27) := fun _ _ _ _ _ _ => ⟨fun us hl => match us, hl with
  | [_, _], _ => rfl, fun q hq => by cases hq⟩
theorem b_d_law_lists : BindOk d_law_lists (top 28) := fun _ _ _ _ _ _ => ⟨fun us hl => match us, hl with
  | [_], _ => rfl, fun q hq => by cases hq⟩
theorem b_d_law_same : BindOk d_law_same (top 29) := fun _ _ _ _ _ _ => ⟨fun us hl => match us, hl with
  | [_, _], _ => rfl, fun q hq => by cases hq⟩
theorem b_d_law_grown : BindOk d_law_grown (top 30) := fun _ _ _ _ _ _ => ⟨fun us hl => match us, hl with
  | [_, _, _], _ => rfl, fun q hq => by cases hq⟩
theorem b_d_law_wished_k00 : BindOk d_law_wished_k00 (top 31) := fun _ _ _ _ _ _ => ⟨fun us hl => match us, hl with
  | [_, _, _, _], _ => rfl, fun q hq => by cases hq⟩
theorem b_d_law_planned : BindOk d_law_planned (top 32) := fun _ _ _ _ _ _ => ⟨fun us hl => match us, hl with
  | [_, _, _], _ => rfl, fun q hq => by cases hq⟩
theorem b_d_law_lean : BindOk d_law_lean (top 33) := fun _ _ _ _ _ _ => ⟨fun us hl => match us, hl with
  | [_, _], _ => rfl, fun q hq => by cases hq⟩
theorem b_d_law_bolted_right : BindOk d_law_bolted_right (top 34) := fun _ _ _ _ _ _ => ⟨fun us hl => match us, hl with
  | [_, _], _ => rfl, fun q hq => by cases hq⟩
theorem b_d_law_free_right : BindOk d_law_free_right (top 35) := fun _ _ _ _ _ _ => ⟨fun us hl => match us, hl with
  | [_, _], _ => rfl, fun q hq => by cases hq⟩
theorem b_d_law_right_k19 : BindOk d_law_right_k19 (top 36) := fun _ _ _ _ _ _ => ⟨fun us hl => match us, hl with
  | [_], _ => rfl, fun q hq => by cases hq⟩
theorem b_d_law_k00 : BindOk d_law_k00 (top 37) := fun _ _ _ _ _ _ => ⟨fun us hl => match us, hl with
  | [_], _ => rfl, fun q hq => by cases hq⟩
end Rf

set_option Elab.async false
set_option linter.all false
set_option maxRecDepth 100000
set_option maxHeartbeats 4000000
namespace Rf
open PySem L2
theorem law_ev : ∀ ns : List Int, ns.length ≤ 63 → (orc (rows.map (·.1)) 60).p "law" [.scr ns] = some (.bl true, false) := fun ns h =>
  law19 (T := rows.map (·.1)) (by repeat' (first | rfl | constructor)) (k := 49) h
end Rf

set_option Elab.async false
set_option linter.all false
set_option maxRecDepth 100000
set_option maxHeartbeats 4000000
open PySem PySem.W PyProof.Rows Rf in
set_option maxRecDepth 100000 in
set_option maxHeartbeats 0 in
theorem PySem.Challenge.cw_handeddown_k19_forms_of_plans_holds : PySem.Challenge.rw_handeddown_k19_forms_of_plans.Holds := by
  w_on; o_law; k_head; (case hw => w_witness2)
  k_fill
  refine Rf.walk (l := PySem.Challenge.rw_handeddown_k19_forms_of_plans) (k := 60) (rs := Rf.rows) (G := Rf.globs) rfl rfl ⟨rfl, by decide, by decide⟩ (fun w h Y => PySem.W.kIn_of Y) rfl rfl ?T Rf.law_ev
  case T =>
    intro w mg h KX N
    refine' Rf.tab_mk KX N Rf.rows_chk ⟨Rf.b_d_tupled, Rf.b_d_is_name, Rf.b_d_ascends, Rf.b_d_is_row, Rf.b_d_is_tree, Rf.b_d_are_pairs, Rf.b_d_are_wants, Rf.b_d_is_plan, Rf.b_d_names_of, Rf.b_d_root_of, Rf.b_d_parents, Rf.b_d_values_by, Rf.b_d_lean_of, Rf.b_d_value_of, Rf.b_d_values_of, Rf.b_d_serves, Rf.b_d_tidied, Rf.b_d_is_lean, Rf.b_d_law_box, Rf.b_d_law_take, Rf.b_d_law_cells, Rf.b_d_law_of, Rf.b_d_law_lists, Rf.b_d_law_same, Rf.b_d_law_grown, Rf.b_d_law_wished_k00, Rf.b_d_law_planned, Rf.b_d_law_lean, Rf.b_d_law_bolted_right, Rf.b_d_law_free_right, Rf.b_d_law_right_k19, Rf.b_d_law_k00, trivial⟩ ⟨Rf.DefIn.mk ?a0 ?l0 ?c0 ?k0, Rf.DefIn.mk ?a1 ?l1 ?c1 ?k1, Rf.DefIn.mk ?a2 ?l2 ?c2 ?k2, Rf.DefIn.mk ?a3 ?l3 ?c3 ?k3, Rf.DefIn.mk ?a4 ?l4 ?c4 ?k4, Rf.DefIn.mk ?a5 ?l5 ?c5 ?k5, Rf.DefIn.mk ?a6 ?l6 ?c6 ?k6, Rf.DefIn.mk ?a7 ?l7 ?c7 ?k7, Rf.DefIn.mk ?a8 ?l8 ?c8 ?k8, Rf.DefIn.mk ?a9 ?l9 ?c9 ?k9, Rf.DefIn.mk ?a10 ?l10 ?c10 ?k10, Rf.DefIn.mk ?a11 ?l11 ?c11 ?k11, Rf.DefIn.mk ?a12 ?l12 ?c12 ?k12, Rf.DefIn.mk ?a13 ?l13 ?c13 ?k13, Rf.DefIn.mk ?a14 ?l14 ?c14 ?k14, Rf.DefIn.mk ?a15 ?l15 ?c15 ?k15, Rf.DefIn.mk ?a16 ?l16 ?c16 ?k16, Rf.DefIn.mk ?a17 ?l17 ?c17 ?k17, Rf.DefIn.mk ?a18 ?l18 ?c18 ?k18, Rf.DefIn.mk ?a19 ?l19 ?c19 ?k19, Rf.DefIn.mk ?a20 ?l20 ?c20 ?k20, Rf.DefIn.mk ?a21 ?l21 ?c21 ?k21, Rf.DefIn.mk ?a22 ?l22 ?c22 ?k22, Rf.DefIn.mk ?a23 ?l23 ?c23 ?k23, Rf.DefIn.mk ?a24 ?l24 ?c24 ?k24, Rf.DefIn.mk ?a25 ?l25 ?c25 ?k25, Rf.DefIn.mk ?a26 ?l26 ?c26 ?k26, Rf.DefIn.mk ?a27 ?l27 ?c27 ?k27, Rf.DefIn.mk ?a28 ?l28 ?c28 ?k28, Rf.DefIn.mk ?a29 ?l29 ?c29 ?k29, Rf.DefIn.mk ?a30 ?l30 ?c30 ?k30, Rf.DefIn.mk ?a31 ?l31 ?c31 ?k31, trivial⟩ ?B ?G
    (case a0 => k_is)
    (case l0 => k_is)
    (case c0 => k_is)
    (case k0 => k_is)
    (case a1 => k_is)
    (case l1 => k_is)
    (case c1 => k_is)
    (case k1 => k_is)
    (case a2 => k_is)
    (case l2 => k_is)
    (case c2 => k_is)
    (case k2 => k_is)
    (case a3 => k_is)
    (case l3 => k_is)
    (case c3 => k_is)
    (case k3 => k_is)
    (case a4 => k_is)
    (case l4 => k_is)
    (case c4 => k_is)
    (case k4 => k_is)
    (case a5 => k_is)
    (case l5 => k_is)
    (case c5 => k_is)
    (case k5 => k_is)
    (case a6 => k_is)
    (case l6 => k_is)
    (case c6 => k_is)
    (case k6 => k_is)
    (case a7 => k_is)
    (case l7 => k_is)
    (case c7 => k_is)
    (case k7 => k_is)
    (case a8 => k_is)
    (case l8 => k_is)
    (case c8 => k_is)
    (case k8 => k_is)
    (case a9 => k_is)
    (case l9 => k_is)
    (case c9 => k_is)
    (case k9 => k_is)
    (case a10 => k_is)
    (case l10 => k_is)
    (case c10 => k_is)
    (case k10 => k_is)
    (case a11 => k_is)
    (case l11 => k_is)
    (case c11 => k_is)
    (case k11 => k_is)
    (case a12 => k_is)
    (case l12 => k_is)
    (case c12 => k_is)
    (case k12 => k_is)
    (case a13 => k_is)
    (case l13 => k_is)
    (case c13 => k_is)
    (case k13 => k_is)
    (case a14 => k_is)
    (case l14 => k_is)
    (case c14 => k_is)
    (case k14 => k_is)
    (case a15 => k_is)
    (case l15 => k_is)
    (case c15 => k_is)
    (case k15 => k_is)
    (case a16 => k_is)
    (case l16 => k_is)
    (case c16 => k_is)
    (case k16 => k_is)
    (case a17 => k_is)
    (case l17 => k_is)
    (case c17 => k_is)
    (case k17 => k_is)
    (case a18 => k_is)
    (case l18 => k_is)
    (case c18 => k_is)
    (case k18 => k_is)
    (case a19 => k_is)
    (case l19 => k_is)
    (case c19 => k_is)
    (case k19 => k_is)
    (case a20 => k_is)
    (case l20 => k_is)
    (case c20 => k_is)
    (case k20 => k_is)
    (case a21 => k_is)
    (case l21 => k_is)
    (case c21 => k_is)
    (case k21 => k_is)
    (case a22 => k_is)
    (case l22 => k_is)
    (case c22 => k_is)
    (case k22 => k_is)
    (case a23 => k_is)
    (case l23 => k_is)
    (case c23 => k_is)
    (case k23 => k_is)
    (case a24 => k_is)
    (case l24 => k_is)
    (case c24 => k_is)
    (case k24 => k_is)
    (case a25 => k_is)
    (case l25 => k_is)
    (case c25 => k_is)
    (case k25 => k_is)
    (case a26 => k_is)
    (case l26 => k_is)
    (case c26 => k_is)
    (case k26 => k_is)
    (case a27 => k_is)
    (case l27 => k_is)
    (case c27 => k_is)
    (case k27 => k_is)
    (case a28 => k_is)
    (case l28 => k_is)
    (case c28 => k_is)
    (case k28 => k_is)
    (case a29 => k_is)
    (case l29 => k_is)
    (case c29 => k_is)
    (case k29 => k_is)
    (case a30 => k_is)
    (case l30 => k_is)
    (case c30 => k_is)
    (case k30 => k_is)
    (case a31 => k_is)
    (case l31 => k_is)
    (case c31 => k_is)
    (case k31 => k_is)
    case B =>
      intro x hx
      simp only [Rf.bltNames] at hx
      repeat (cases hx with
        | head => k_is
        | tail _ hx => ?_)
      cases hx
    case G =>
      intro x d hx
      simp only [Rf.globs] at hx
      rcases Rf.mem_split hx with e | hx
      · cases e
        refine' Rf.globS_mk ?gg
        (case gg => k_is)
      rcases Rf.mem_split hx with e | hx
      · cases e
        refine' Rf.globI_mk ?gg
        (case gg => k_is)
      cases hx
