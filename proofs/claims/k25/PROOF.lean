import PyProof.Rows.All
import Wide.All
import OpenK.AllK
import Wide.FinOn
import KE.KStateDown
import Lean
import HandS.ForMost
import HandS.TupLe
import HandS.Walk
import HandS.Zip
import HandS.Conv
import HandS.Deep
import HandS.IsInst
import HandS.TupAny
import HandS.TupMul
import HandS.SortInts
import HandS.SortRule
import HandS.TupSets
import HandS.Flow
import HandS.Style
import HandS.SetFor
import HandS.Words
import HandS.WordsList
import HandS.Small
import HandS.Defaults
import HandS.HeadHook2
import HandS.Base
import HandS.Call
import HandS.Ends
import HandS.More
import HandS.WordsExc
import HandS.Head0
import HandS.Head1
import HandS.Head2
import HandS.HeadEnd
import HandS.HeadHook1
import PySem.Challenge.RW_listsofcolours_k25_main_rounds_in_any_or
set_option Elab.async false
set_option linter.all false
/-! A: a small language of positions-free terms, its values, and what a term is worth (a plain function) -/
namespace G
open PySem

/-- values: trees -/
inductive PV where
  | non | bl (b : Bool) | int (i : Int) | tup (xs : List PV) | lst (xs : List PV) | dct (kvs : List (Int × PV)) | tin | fn (n : Nat) | scr (ns : List Int)
  deriving Inhabited

inductive Op where
  | add | sub | mul | fdiv | mod | pow
  deriving DecidableEq
inductive Cm where
  | eq | ne | lt | le | gt | ge | isin | notin | isN | notN
  deriving DecidableEq
inductive Ty where
  | int | bool | str | tup | lst
  deriving DecidableEq
/-- built-in calls of one argument -/
inductive B1 where
  | len | all | any | tuple | list | sorted | max | min | sum | abs | int | lset | sset | lrng | trng | svals | dict
  deriving DecidableEq

inductive Tg where
  | v (i : Nat) | t2 (a b : Tg) | t3 (a b c : Tg)

mutual
inductive E where
  | v (i : Nat) | int (i : Int) | bl (b : Bool) | non | gint (x : Str) (i : Int) | tt
  | bin (o : Op) (a b : E) | neg (a : E) | not (a : E) | and (es : Es) | or (es : Es)
  | cmp (c : Cm) (a b : E) | ch (c d : Cm) (a b e : E) | ite (c a b : E)
  | tup (es : Es) | lst (es : Es) | dct0 | dct2 (a b c d : E)
  | idx (a b : E) | slL (a lo : E) | slH (a hi : E) | slB (a lo hi : E) | rev (a : E)
  | call (f : Nat) (es : Es) | callK (f : Nat) (es : Es) (ks : List Nat) (ws : Es)
  | b1 (b : B1) (a : E) | mx2 (a b : E) | mn2 (a b : E)
  | isi (a : E) (ts : List Ty) | orL (a b : E)
  | comp (el : E) (tg : Tg) (it : It) (c : E)
  | comp2 (el : E) (tg : Tg) (it : It) (tg2 : Tg) (it2 : It) (c : E)
  | count (a b : E) | index (a b : E)
inductive Es where
  | nil | cons (e : E) (es : Es)
inductive It where
  | e (a : E) | rng (a : E) | rng2 (a b : E) | enum (a : E) | zip (a b : E)
end

inductive Sk where
  | n | f | m | mm
  deriving DecidableEq
/-- parallel stores -/
inductive Ps where
  | nil | cons (k : Sk) (i : Nat) (e : E) (r : Ps)
mutual
inductive S where
  | asg (k : Sk) (i : Nat) (e : E) | move (i j : Nat) | par (ps : Ps) | unp (tg : Tg) (e : E)
  | setI (i : Nat) (a e : E) | setT (i : Nat) (a e : E) | setII (i : Nat) (a b e : E) | app (i : Nat) (e : E) | appI (i : Nat) (a e : E) | ext (i : Nat) (e : E)
  | pop (j i : Nat) | pop0 (j i : Nat) | popX (j i : Nat) (a : E) (k : Nat) | appPop (i j : Nat) (e : E) | rem (i : Nat) (e : E)
  | ret (e : E) | retM (i : Nat) | ife (c : E) (a b : Ss) | forN (tg : Tg) (it : It) (b : Ss) | forF (tg : Tg) (it : It) (b : Ss) | whl (c : E) (b : Ss)
  | brk | cont | raise | pass
inductive Ss where
  | nil | cons (s : S) (r : Ss)
end

/-! ### the draws' state, the monad -/
abbrev Tn := Option (Int × Int × Int)
def M (α : Type) := Tn → Option (α × Tn)
def M.ret {α : Type} (a : α) : M α := fun t => some (a, t)
def M.bnd {α β : Type} (m : M α) (f : α → M β) : M β := fun t => match m t with
  | none => none
  | some p => f p.1 p.2
def M.fail {α : Type} : M α := fun _ => none
def M.lift {α : Type} (o : Option α) : M α := fun t => match o with
  | none => none
  | some a => some (a, t)
def M.chk (b : Bool) : M Unit := fun t => if b then some ((), t) else none

/-! ### values -/
mutual
def PV.toD : PV → PyData
  | .non => .none
  | .bl b => .bool b
  | .int i => .int i
  | .tup xs => .tuple (PV.toDs xs)
  | .lst xs => .list (PV.toDs xs)
  | .dct _ => .none
  | .tin => .none
  | .fn _ => .none
  | .scr _ => .none
def PV.toDs : List PV → List PyData
  | [] => []
  | x :: xs => PV.toD x :: PV.toDs xs
end
/-- plain data of at most that depth -/
def shal : Nat → PV → Bool
  | _, .non => true
  | _, .bl _ => true
  | _, .int _ => true
  | n + 1, .tup xs => xs.all (shal n)
  | n + 1, .lst xs => xs.all (shal n)
  | _, _ => false
/-- no list, no dict, nothing that changes within -/
def flat : Nat → PV → Bool
  | _, .non => true
  | _, .bl _ => true
  | _, .int _ => true
  | _, .fn _ => true
  | _, .tin => true
  | n + 1, .tup xs => xs.all (flat n)
  | _, _ => false
abbrev fl (v : PV) : Bool := flat 20 v
def eqv (a b : PV) : Bool := PyData.eqv a.toD b.toD

def big : Nat := 16777216
def asInts : List PV → Option (List Int)
  | [] => some []
  | .int i :: r => (asInts r).map (i :: ·)
  | _ => none
def asBls : List PV → Option (List Bool)
  | [] => some []
  | .bl i :: r => (asBls r).map (i :: ·)
  | _ => none
def items : PV → Option (List PV)
  | .tup xs => some xs
  | .lst xs => some xs
  | _ => none
abbrev atIx (n : Nat) (i : Int) : Option Nat := L2.ixN n i
abbrev at' (xs : List PV) (i : Int) : Option PV := L2.atI xs i
def cut (xs : List PV) (lo hi : Option Int) : List PV := (xs.drop (HT.sIx xs.length 0 lo)).take (HT.sIx xs.length xs.length hi - HT.sIx xs.length 0 lo)
/-- the order of tuples of ints -/
abbrev lexI : List Int → List Int → Bool := HT.lexLt
def insI (a : Int) : List Int → List Int
  | [] => [a]
  | b :: r => if a ≤ b then a :: b :: r else b :: insI a r
def sortI : List Int → List Int
  | [] => []
  | a :: r => insI a (sortI r)
def asTups : List PV → Option (List (List Int))
  | [] => some []
  | .tup xs :: r => (asInts xs).bind fun ns => (asTups r).map (ns :: ·)
  | _ => none
def insT (a : List Int) : List (List Int) → List (List Int)
  | [] => [a]
  | b :: r => if lexI b a then b :: insT a r else a :: b :: r
def sortT : List (List Int) → List (List Int)
  | [] => []
  | a :: r => insT a (sortT r)
def tI (ns : List Int) : PV := .tup (ns.map .int)
/-- each once, where it comes first -/
def dedS (acc : List Int) (x : Int) : List Int := if acc.any (· == x) then acc else acc ++ [x]
def dedI (ns : List Int) : List Int := ns.foldl dedS []
def maxI : Int → List Int → Int
  | a, [] => a
  | a, b :: r => maxI (if b > a then b else a) r
def minI : Int → List Int → Int
  | a, [] => a
  | a, b :: r => minI (if b < a then b else a) r
def maxT : List Int → List (List Int) → List Int
  | a, [] => a
  | a, b :: r => maxT (if lexI a b then b else a) r
def dGet (kvs : List (Int × PV)) (k : Int) : Option PV := (kvs.find? fun p => decide (p.1 = k)).map (·.2)
def dPut (k : Int) (v : PV) (kvs : List (Int × PV)) : List (Int × PV) :=
  if (kvs.any fun p => decide (p.1 = k)) = true then kvs.map (fun p => if p.1 = k then (p.1, v) else p) else kvs ++ [(k, v)]
def small64 (i : Int) : Bool := decide (-18446744073709551616 < i) && decide (i < 18446744073709551616)

def binop : Op → PV → PV → Option PV
  | .add, .int a, .int b => some (.int (a + b))
  | .add, .tup a, .tup b => if a.length + b.length ≤ big then some (.tup (a ++ b)) else none
  | .add, .lst a, .lst b => if a.length + b.length ≤ big then some (.lst (a ++ b)) else none
  | .sub, .int a, .int b => some (.int (a - b))
  | .mul, .int a, .int b => if small64 a || small64 b then some (.int (a * b)) else none
  | .mul, .lst a, .int b => if a.length * b.toNat ≤ big ∧ -1000000 ≤ b ∧ b ≤ 1000000 then some (.lst (List.replicate b.toNat a).flatten) else none
  | .mul, .tup a, .int b => if 2 ≤ b ∧ b ≤ 1000 ∧ a ≠ [] ∧ a.length ≤ 1000 then some (.tup (List.replicate b.toNat a).flatten) else none
  | .fdiv, .int a, .int b => if 0 < b ∧ b < 1073741824 then some (.int (a / b)) else none
  | .mod, .int a, .int b => if 0 < b then some (.int (a % b)) else none
  | .pow, .int a, .int b => if 0 ≤ b ∧ b ≤ 100 ∧ small64 a then some (.int (a ^ b.toNat)) else none
  | _, _, _ => none
def eqop (a b : PV) : Option Bool := match a with
  | .int i => match b with
    | .int j => some (decide (i = j))
    | _ => if shal 20 b then some (eqv a b) else none
  | _ => if shal 20 a && shal 20 b then some (eqv a b) else none
def ltop (a b : PV) : Option Bool := match a, b with
  | .int i, .int j => some (decide (i < j))
  | .tup xs, .tup ys => (asInts xs).bind fun ns => (asInts ys).map fun ms => HT.lexLt ns ms
  | _, _ => none
def leop (a b : PV) : Option Bool := match a, b with
  | .int i, .int j => some (decide (i ≤ j))
  | .tup xs, .tup ys => (asInts xs).bind fun ns => (asInts ys).map fun ms => L2.lexLeI ns ms
  | _, _ => none
def gtop (a b : PV) : Option Bool := match a, b with
  | .int i, .int j => some (decide (j < i))
  | _, _ => none
def geop (a b : PV) : Option Bool := match a, b with
  | .int i, .int j => some (decide (j ≤ i))
  | _, _ => none
def inop (a b : PV) : Option Bool := match b with
  | .dct kvs => match a with
    | .int i => some (dGet kvs i).isSome
    | _ => none
  | .tup xs => if shal 0 a && xs.all (shal 0) then some (xs.any fun z => eqv z a) else none
  | .lst xs => if shal 20 a && shal 20 (.lst xs) then some (xs.any fun z => eqv z a) else none
  | _ => none
def isNop (a b : PV) : Option Bool := match b with
  | .non => match a with
    | .non => some true
    | _ => some false
  | _ => none
def cmpop : Cm → PV → PV → Option Bool
  | .eq, a, b => eqop a b
  | .ne, a, b => (eqop a b).map not
  | .lt, a, b => ltop a b
  | .le, a, b => leop a b
  | .gt, a, b => gtop a b
  | .ge, a, b => geop a b
  | .isin, a, b => inop a b
  | .notin, a, b => (inop a b).map not
  | .isN, a, b => isNop a b
  | .notN, a, b => (isNop a b).map not
def tyIs : PV → List Ty → Option Bool
  | .non, _ => some false
  | .bl _, ts => some (ts.any fun t => t == .bool || t == .int)
  | .int _, ts => some (ts.any fun t => t == .int)
  | .tup _, ts => some (ts.any fun t => t == .tup)
  | .lst _, ts => some (ts.any fun t => t == .lst)
  | _, _ => none
def seqPV : PV → Option (List PV)
  | .tup xs => some xs
  | .lst xs => some xs
  | _ => none
def b1op : B1 → PV → Option PV
  | .len, .tup xs => some (.int xs.length)
  | .len, .lst xs => some (.int xs.length)
  | .len, .dct xs => some (.int xs.length)
  | .all, .lst xs => (asBls xs).map fun bs => .bl (bs.all id)
  | .any, .lst xs => (asBls xs).map fun bs => .bl (bs.any id)
  | .tuple, .lst xs => some (.tup xs)
  | .tuple, .tup xs => some (.tup xs)
  | .list, .lst xs => some (.lst xs)
  | .list, .tup xs => some (.lst xs)
  | .sorted, .lst xs => match asInts xs with
    | some ns => some (.lst ((sortI ns).map .int))
    | none => (asTups xs).bind fun ts => if ts.all (fun t => t.length == 2) then some (.lst ((sortT ts).map tI)) else none
  | .max, .lst xs => match asInts xs with
    | some (n :: r) => some (.int (maxI n r))
    | _ => none
  | .min, .lst xs => match asInts xs with
    | some (n :: r) => some (.int (minI n r))
    | _ => none
  | .max, .tup xs => match asInts xs with
    | some (n :: r) => some (.int (maxI n r))
    | _ => none
  | .min, .tup xs => match asInts xs with
    | some (n :: r) => some (.int (minI n r))
    | _ => none
  | .sum, .lst xs => (asInts xs).map fun ns => .int ns.sum
  | .abs, .int i => some (.int (if i < 0 then -i else i))
  | .int, .int i => some (.int i)
  | .int, .bl b => some (.int (if b then 1 else 0))
  | .lset, .lst xs => (asInts xs).bind fun ns => if ns.length ≤ 1000 then some (.int (dedI ns).length) else none
  | .sset, .lst xs => (asInts xs).bind fun ns => if ns.length ≤ 1000 then some (.lst ((sortI (dedI ns)).map .int)) else none
  | .sset, .tup xs => (asInts xs).bind fun ns => if ns.length ≤ 1000 then some (.lst ((sortI (dedI ns)).map .int)) else none
  | .lrng, .int n => if -1000000 ≤ n ∧ n ≤ 1000000 then some (.lst ((List.range n.toNat).map fun (k : Nat) => PV.int (0 + (k : Int)))) else none
  | .trng, .int n => if -1000000 ≤ n ∧ n ≤ 1000000 then some (.tup ((List.range n.toNat).map fun (k : Nat) => PV.int (0 + (k : Int)))) else none
  | .svals, .dct kvs => (asInts (kvs.map (·.2))).bind fun ns => if ns.length < 64 then some (.lst ((sortI ns).map .int)) else none
  | _, _ => none

/-! ### slots -/
abbrev Slots := List (Option PV)
def getS (ρ : Slots) (i : Nat) : Option PV := match ρ[i]? with
  | some (some v) => some v
  | _ => none
def setS (ρ : Slots) (i : Nat) (v : PV) : Slots := ρ.set i (some v)
def Tg.slots : Tg → List Nat
  | .v i => [i]
  | .t2 a b => a.slots ++ b.slots
  | .t3 a b c => a.slots ++ (b.slots ++ c.slots)
def wipeS (ρ : Slots) : List Nat → Slots
  | [] => ρ
  | i :: r => (wipeS ρ r).set i none
def bindT : Tg → PV → Slots → Option Slots
  | .v i, x, ρ => some (setS ρ i x)
  | .t2 a b, v, ρ => match v with
    | .tup [x, y] => (bindT a x ρ).bind fun ρ => bindT b y ρ
    | _ => none
  | .t3 a b c, v, ρ => match v with
    | .tup [x, y, z] => (bindT a x ρ).bind fun ρ => (bindT b y ρ).bind fun ρ => bindT c z ρ
    | _ => none
def enumFrom : Nat → List PV → List PV
  | _, [] => []
  | k, x :: xs => .tup [.int k, x] :: enumFrom (k + 1) xs
def zipPV : List PV → List PV → List PV
  | x :: xs, y :: ys => .tup [x, y] :: zipPV xs ys
  | _, _ => []
def rngPV (a : Int) (n : Nat) : List PV := (List.range n).map fun (k : Nat) => PV.int (a + (k : Int))

/-- what calls are worth -/
abbrev FS := Nat → List PV → M PV
open M
def compGo (f : PV → M (Option PV)) : List PV → M (List PV)
  | [] => ret []
  | x :: xs => bnd (f x) fun r => bnd (compGo f xs) fun ys => ret (match r with
    | some y => y :: ys
    | none => ys)
def comp2Go (f : PV → M (List PV)) : List PV → M (List PV)
  | [] => ret []
  | x :: xs => bnd (f x) fun r => bnd (comp2Go f xs) fun ys => ret (r ++ ys)
def asBl : PV → M Bool
  | .bl b => ret b
  | _ => fail
def asIt : PV → M (List PV)
  | .tup xs => ret xs
  | .lst xs => ret xs
  | _ => fail
def asLs : PV → M (List PV)
  | .lst xs => ret xs
  | _ => fail
def zipop : PV → PV → Option (List PV)
  | .lst xs, .lst ys => some (zipPV xs ys)
  | .tup xs, .tup ys => some (zipPV xs ys)
  | _, _ => none
def asIo : PV → Option Int
  | .int i => some i
  | _ => none
def idxop (a b : PV) : M PV := fun t => match asIo b with
  | none => none
  | some i => match a with
    | .tup xs => lift (at' xs i) t
    | .lst xs => lift (at' xs i) t
    | .dct kvs => lift (dGet kvs i) t
    | .tin => match t with
      | some p => if i = 0 then some (.int p.1, t) else if i = 1 then some (.int p.2.1, t) else if i = 2 then some (.int p.2.2, t) else none
      | none => none
    | _ => none
def slop (a : PV) (lo hi : Option Int) : Option PV := match a with
  | .tup xs => some (.tup (cut xs lo hi))
  | .lst xs => some (.lst (cut xs lo hi))
  | .scr ns => some (.lst (cut (ns.map .int) lo hi))
  | _ => none
def asI : PV → M Int
  | .int i => ret i
  | _ => fail
mutual
def evE (F : FS) : E → Slots → M PV
  | .v i, ρ => lift (getS ρ i)
  | .int i, _ => ret (.int i)
  | .gint _ i, _ => ret (.int i)
  | .bl b, _ => ret (.bl b)
  | .non, _ => ret .non
  | .tt, _ => ret (.bl true)
  | .bin o a b, ρ => bnd (evE F a ρ) fun x => bnd (evE F b ρ) fun y => lift (binop o x y)
  | .neg a, ρ => bnd (evE F a ρ) fun x => bnd (asI x) fun i => ret (.int (-i))
  | .not a, ρ => bnd (evE F a ρ) fun x => bnd (asBl x) fun b => ret (.bl (!b))
  | .and es, ρ => evAnd F es ρ
  | .or es, ρ => evOr F es ρ
  | .cmp c a b, ρ => bnd (evE F a ρ) fun x => bnd (evE F b ρ) fun y => bnd (lift (cmpop c x y)) fun r => ret (.bl r)
  | .ch c d a b e, ρ => bnd (evE F a ρ) fun x => bnd (evE F b ρ) fun y => bnd (lift (cmpop c x y)) fun r => if r then bnd (evE F e ρ) fun z => bnd (lift (cmpop d y z)) fun q => ret (.bl q) else ret (.bl false)
  | .ite c a b, ρ => bnd (evE F c ρ) fun x => bnd (asBl x) fun t => if t then evE F a ρ else evE F b ρ
  | .tup es, ρ => bnd (evEs F es ρ) fun xs => ret (.tup xs)
  | .lst es, ρ => bnd (evEs F es ρ) fun xs => ret (.lst xs)
  | .dct0, _ => ret (.dct [])
  | .dct2 a b c d, ρ => bnd (evE F a ρ) fun x => bnd (asI x) fun i => bnd (evE F b ρ) fun y => bnd (evE F c ρ) fun z => bnd (asI z) fun j => bnd (evE F d ρ) fun w => ret (.dct (dPut j w [(i, y)]))
  | .idx a b, ρ => bnd (evE F a ρ) fun x => bnd (evE F b ρ) fun y => idxop x y
  | .slL a lo, ρ => bnd (evE F a ρ) fun x => bnd (evE F lo ρ) fun y => bnd (asI y) fun i => lift (slop x (some i) none)
  | .slH a hi, ρ => bnd (evE F a ρ) fun x => bnd (evE F hi ρ) fun y => bnd (asI y) fun i => lift (slop x none (some i))
  | .slB a lo hi, ρ => bnd (evE F a ρ) fun x => bnd (evE F lo ρ) fun y => bnd (asI y) fun i => bnd (evE F hi ρ) fun z => bnd (asI z) fun j => lift (slop x (some i) (some j))
  | .rev a, ρ => bnd (evE F a ρ) fun x => match x with
    | .lst xs => ret (.lst xs.reverse)
    | _ => fail
  | .call f es, ρ => bnd (evEs F es ρ) fun xs => F f xs
  | .callK f es ks ws, ρ => bnd (evEs F es ρ) fun xs => bnd (evEs F ws ρ) fun ys => F f (xs ++ ks.map fun k => ys.getD k .non)
  | .b1 b a, ρ => bnd (evE F a ρ) fun x => lift (b1op b x)
  | .mx2 a b, ρ => bnd (evE F a ρ) fun x => bnd (asI x) fun i => bnd (evE F b ρ) fun y => bnd (asI y) fun j => ret (.int (if j > i then j else i))
  | .mn2 a b, ρ => bnd (evE F a ρ) fun x => bnd (asI x) fun i => bnd (evE F b ρ) fun y => bnd (asI y) fun j => ret (.int (if j < i then j else i))
  | .isi a ts, ρ => bnd (evE F a ρ) fun x => bnd (lift (tyIs x ts)) fun b => ret (.bl b)
  | .orL a b, ρ => bnd (evE F a ρ) fun x => match x with
    | .lst [] => evE F b ρ
    | .lst (y :: ys) => ret (.lst (y :: ys))
    | _ => fail
  | .comp el tg it c, ρ => bnd (evI F it ρ) fun xs => bnd (compGo (fun x => bnd (lift (bindT tg x (wipeS ρ tg.slots))) fun ρ' => bnd (evE F c ρ') fun t => bnd (asBl t) fun b => if b then bnd (evE F el ρ') fun y => ret (some y) else ret none) xs) fun ys => ret (.lst ys)
  | .comp2 el tg it tg2 it2 c, ρ => bnd (evI F it ρ) fun xs => bnd (comp2Go (fun x => bnd (lift (bindT tg x (wipeS ρ (tg.slots ++ tg2.slots)))) fun ρ₁ => bnd (evI F it2 ρ₁) fun zs =>
      compGo (fun z => bnd (lift (bindT tg2 z ρ₁)) fun ρ' => bnd (evE F c ρ') fun t => bnd (asBl t) fun b => if b then bnd (evE F el ρ') fun y => ret (some y) else ret none) zs) xs) fun ys => bnd (chk (decide (ys.length ≤ big))) fun _ => ret (.lst ys)
  | .count a b, ρ => bnd (evE F a ρ) fun x => bnd (asIt x) fun xs => bnd (evE F b ρ) fun y => bnd (asI y) fun k => bnd (lift (asInts xs)) fun ns => ret (.int (ns.count k))
  | .index a b, ρ => bnd (evE F a ρ) fun x => bnd (asIt x) fun xs => bnd (evE F b ρ) fun y => bnd (asI y) fun k => bnd (lift (asInts xs)) fun ns => bnd (lift (ns.findIdx? (· == k))) fun j => ret (.int j)
def evEs (F : FS) : Es → Slots → M (List PV)
  | .nil, _ => ret []
  | .cons e es, ρ => bnd (evE F e ρ) fun x => bnd (evEs F es ρ) fun xs => ret (x :: xs)
def evAnd (F : FS) : Es → Slots → M PV
  | .nil, _ => fail
  | .cons e es, ρ => match es with
    | .nil => bnd (evE F e ρ) fun x => bnd (asBl x) fun c => ret (.bl c)
    | .cons _ _ => bnd (evE F e ρ) fun x => bnd (asBl x) fun c => if c then evAnd F es ρ else ret (.bl false)
def evOr (F : FS) : Es → Slots → M PV
  | .nil, _ => fail
  | .cons e es, ρ => match es with
    | .nil => bnd (evE F e ρ) fun x => bnd (asBl x) fun c => ret (.bl c)
    | .cons _ _ => bnd (evE F e ρ) fun x => bnd (asBl x) fun c => if c then ret (.bl true) else evOr F es ρ
def evI (F : FS) : It → Slots → M (List PV)
  | .e a, ρ => bnd (evE F a ρ) asIt
  | .rng a, ρ => bnd (evE F a ρ) fun x => bnd (asI x) fun n => bnd (chk (decide (-1000000 ≤ n) && decide (n ≤ 1000000))) fun _ => ret (rngPV 0 n.toNat)
  | .rng2 a b, ρ => bnd (evE F a ρ) fun x => bnd (asI x) fun i => bnd (evE F b ρ) fun y => bnd (asI y) fun j => bnd (chk (decide (-1000000 ≤ i) && decide (i ≤ 1000000) && decide (-1000000 ≤ j) && decide (j ≤ 1000000))) fun _ => ret (rngPV i (j - i).toNat)
  | .enum a, ρ => bnd (evE F a ρ) fun x => bnd (asLs x) fun xs => ret (enumFrom 0 xs)
  | .zip a b, ρ => bnd (evE F a ρ) fun x => bnd (evE F b ρ) fun y => bnd (lift (zipop x y)) ret
end

/-! ### statements -/
inductive Fl where
  | nx (ρ : Slots) | rt (v : PV) | bk (ρ : Slots) | ct (ρ : Slots)
def loopF (f : PV → Slots → M Fl) : List PV → Slots → M Fl
  | [], ρ => ret (.nx ρ)
  | x :: xs, ρ => bnd (f x ρ) fun r => match r with
    | .nx ρ' => loopF f xs ρ'
    | .ct ρ' => loopF f xs ρ'
    | .bk ρ' => ret (.nx ρ')
    | .rt v => ret (.rt v)
def loopW (c : Slots → M Bool) (b : Slots → M Fl) : Nat → Slots → M Fl
  | 0, _ => fail
  | n + 1, ρ => bnd (c ρ) fun t => if t then bnd (b ρ) fun r => match r with
      | .nx ρ' => loopW c b n ρ'
      | .ct ρ' => loopW c b n ρ'
      | .bk ρ' => ret (.nx ρ')
      | .rt v => ret (.rt v)
    else ret (.nx ρ)
def fuelW : Nat := 1000000
def elems1 : PV → Bool
  | .lst xs => xs.all fl
  | .dct kvs => kvs.all fun p => fl p.2
  | _ => false
def elems2 : PV → Bool
  | .lst xs => xs.all elems1
  | _ => false
def stOk : Sk → PV → Bool
  | .n, _ => true
  | .f, v => fl v
  | .m, v => elems1 v
  | .mm, v => elems2 v
def evPs (F : FS) (ρ : Slots) : Ps → M (List (Nat × PV))
  | .nil => ret []
  | .cons k i e r => bnd (evE F e ρ) fun v => bnd (chk (stOk k v)) fun _ => bnd (evPs F ρ r) fun q => ret ((i, v) :: q)
def setAll (ρ : Slots) : List (Nat × PV) → Slots
  | [] => ρ
  | p :: r => setAll (setS ρ p.1 p.2) r
def lstAt (ρ : Slots) (i : Nat) : Option (List PV) := match getS ρ i with
  | some (.lst xs) => some xs
  | _ => none
def tinSet (t : Tn) (k z : Int) : Option Tn := match t with
  | some (a, b, c) => if k = 0 then some (some (z, b, c)) else if k = 1 then some (some (a, z, c)) else if k = 2 then some (some (a, b, z)) else none
  | none => none
def M.tset {α : Type} (a : α) (k z : Int) : M α := fun t => (tinSet t k z).map fun t' => (a, t')
mutual
def evS (F : FS) : S → Slots → M Fl
  | .asg k i e, ρ => bnd (evE F e ρ) fun v => bnd (chk (stOk k v)) fun _ => ret (.nx (setS ρ i v))
  | .move i j, ρ => bnd (lift (getS ρ j)) fun v => ret (.nx (setS (ρ.set j none) i v))
  | .par ps, ρ => bnd (evPs F ρ ps) fun q => ret (.nx (setAll ρ q))
  | .unp tg e, ρ => bnd (evE F e ρ) fun v => bnd (lift (bindT tg v ρ)) fun ρ' => ret (.nx ρ')
  | .setI i a e, ρ => bnd (evE F e ρ) fun v => bnd (evE F a ρ) fun x => bnd (asI x) fun k => match getS ρ i with
    | some (.lst xs) => bnd (chk (fl v)) fun _ => bnd (lift (atIx xs.length k)) fun j => ret (.nx (setS ρ i (.lst (xs.set j v))))
    | some (.dct kvs) => bnd (chk (fl v && decide (kvs.length < 100000))) fun _ => ret (.nx (setS ρ i (.dct (dPut k v kvs))))
    | _ => fail
  | .setT i a e, ρ => bnd (evE F e ρ) fun v => bnd (asI v) fun z => bnd (evE F a ρ) fun x => bnd (asI x) fun k => match getS ρ i with
    | some .tin => M.tset (.nx ρ) k z
    | _ => fail
  | .setII i a b e, ρ => bnd (evE F e ρ) fun v => bnd (evE F a ρ) fun x => bnd (asI x) fun k => bnd (evE F b ρ) fun y => bnd (asI y) fun m => bnd (chk (fl v)) fun _ => bnd (lift (lstAt ρ i)) fun xs => bnd (lift (atIx xs.length k)) fun j => match xs[j]? with
    | some (.lst ys) => bnd (lift (atIx ys.length m)) fun l => ret (.nx (setS ρ i (.lst (xs.set j (.lst (ys.set l v))))))
    | _ => fail
  | .app i e, ρ => bnd (evE F e ρ) fun v => bnd (chk (fl v)) fun _ => bnd (lift (lstAt ρ i)) fun xs => bnd (chk (decide (xs.length < big))) fun _ => ret (.nx (setS ρ i (.lst (xs ++ [v]))))
  | .appI i a e, ρ => bnd (evE F a ρ) fun x => bnd (asI x) fun k => bnd (evE F e ρ) fun v => bnd (chk (fl v)) fun _ => bnd (lift (lstAt ρ i)) fun xs => bnd (lift (atIx xs.length k)) fun j => match xs[j]? with
    | some (.lst ys) => bnd (chk (decide (ys.length < big))) fun _ => ret (.nx (setS ρ i (.lst (xs.set j (.lst (ys ++ [v]))))))
    | _ => fail
  | .ext i e, ρ => bnd (evE F e ρ) fun v => bnd (chk (elems1 v)) fun _ => bnd (lift (lstAt ρ i)) fun xs => match v with
    | .lst ys => bnd (chk (decide (xs.length + ys.length ≤ big))) fun _ => ret (.nx (setS ρ i (.lst (xs ++ ys))))
    | _ => fail
  | .pop j i, ρ => bnd (lift (lstAt ρ i)) fun xs => bnd (lift xs[xs.length - 1]?) fun v => bnd (chk (fl v)) fun _ => ret (.nx (setS (setS ρ i (.lst xs.dropLast)) j v))
  | .pop0 j i, ρ => bnd (lift (lstAt ρ i)) fun xs => bnd (lift xs[0]?) fun v => bnd (chk (fl v)) fun _ => ret (.nx (setS (setS ρ i (.lst (xs.eraseIdx 0))) j v))
  | .popX j i a k, ρ => bnd (evE F a ρ) fun x => bnd (asI x) fun m => bnd (lift (lstAt ρ i)) fun xs => bnd (lift (atIx xs.length m)) fun l => match xs[l]? with
    | some (.lst (.tup ys :: r)) => bnd (lift ys[k]?) fun v => bnd (chk (fl v)) fun _ => ret (.nx (setS (setS ρ i (.lst (xs.set l (.lst r)))) j v))
    | _ => fail
  | .appPop i j e, ρ => bnd (evE F e ρ) fun x => bnd (asI x) fun k => bnd (lift (lstAt ρ i)) fun xs => bnd (lift (lstAt ρ j)) fun ys => bnd (chk (decide (0 ≤ k) && decide (k < 1000000))) fun _ => bnd (lift ys[k.toNat]?) fun v => bnd (chk (fl v && decide (xs.length < big))) fun _ =>
      ret (.nx (setS (setS ρ j (.lst (ys.eraseIdx k.toNat))) i (.lst (xs ++ [v]))))
  | .rem i e, ρ => bnd (evE F e ρ) fun x => bnd (asI x) fun k => bnd (lift (lstAt ρ i)) fun xs => bnd (lift (asInts xs)) fun ns => if k ∈ ns then ret (.nx (setS ρ i (.lst ((ns.erase k).map .int)))) else fail
  | .ret e, ρ => bnd (evE F e ρ) fun v => ret (.rt v)
  | .retM i, ρ => bnd (lift (getS ρ i)) fun v => ret (.rt v)
  | .ife c a b, ρ => bnd (evE F c ρ) fun x => bnd (asBl x) fun t => if t then evSs F a ρ else evSs F b ρ
  | .forN tg it b, ρ => bnd (evI F it ρ) fun xs => loopF (fun x ρ => bnd (lift (bindT tg x ρ)) fun ρ' => evSs F b ρ') xs ρ
  | .forF tg it b, ρ => bnd (evI F it ρ) fun xs => bnd (chk (xs.all fl)) fun _ => loopF (fun x ρ => bnd (lift (bindT tg x ρ)) fun ρ' => evSs F b ρ') xs ρ
  | .whl c b, ρ => loopW (fun ρ => bnd (evE F c ρ) asBl) (fun ρ => evSs F b ρ) fuelW ρ
  | .brk, ρ => ret (.bk ρ)
  | .cont, ρ => ret (.ct ρ)
  | .raise, _ => fail
  | .pass, ρ => ret (.nx ρ)
def evSs (F : FS) : Ss → Slots → M Fl
  | .nil, ρ => ret (.nx ρ)
  | .cons s r, ρ => bnd (evS F s ρ) fun q => match q with
    | .nx ρ' => evSs F r ρ'
    | .rt v => ret (.rt v)
    | .bk ρ' => ret (.bk ρ')
    | .ct ρ' => ret (.ct ρ')
end

structure Fn where
  ps : Nat          -- parameters
  ns : Nat          -- slots
  mu : List Nat     -- slots whose lists the def changes
  new : Bool        -- what it hands back is its caller's alone
  body : Ss
/-- a call, by so many levels at most -/
def sem (T : Nat → Option Fn) : Nat → FS
  | 0, _, _ => fail
  | n + 1, f, xs => match T f with
    | none => fail
    | some fn => if xs.length = fn.ps then bnd (evSs (sem T n) fn.body (xs.map some ++ List.replicate (fn.ns - fn.ps) none)) fun q => match q with
      | .rt v => ret v
      | .nx _ => ret .non
      | _ => fail
      else fail
end G
set_option Elab.async false
set_option linter.all false
set_option maxRecDepth 100000
/-! S1: how a value of the small language stands in the layer's heap -/
namespace G
open PySem PySem.Spec PyProof.Rows L2

structure Tab where
  T : Nat → Option Fn
  nm : Nat → Str
  ad : Nat → Addr
  cs : List (Str × Int)

/-- a list that stands frozen, or in the written part -/
def SqF (K : PySem.W.Frag) (H : Hp) (a : Addr) (xs : List V) : Prop := (∃ o, H a = some (.frz o (.lst xs))) ∨
    ∃ (o : Obj) (its : Array Value) (n : Nat), K.lookup a = some o ∧ o.cls = .type "list" ∧ o.dict = none ∧ o.data = .seq its n ∧ its.size ≤ sizeLine ∧ Vals xs its.toList
theorem SqF.sq {K : PySem.W.Frag} {H : Hp} {a : Addr} {xs : List V} (h : SqF K H a xs) : SqL K H a xs := h.elim (fun z => .inl (.inr z)) .inr
section
variable (K : PySem.W.Frag) (B : Tab)
mutual
inductive Den (H : Hp) (A : Option Addr) : PV → V → List Addr → Prop
  | non : Den H A .non .non []
  | bl (b : Bool) : Den H A (.bl b) (.bl b) []
  | int (i : Int) : Den H A (.int i) (.int i) []
  | tup {a : Addr} {ys : List V} {xs : List PV} {fp : List Addr} (h : SqT K H a ys) (hl : ys.length ≤ sizeLine) (d : Dens H A xs ys fp) : Den H A (.tup xs) (.ref a) fp
  | lst {a : Addr} {ys : List V} {xs : List PV} {fp : List Addr} (h : H a = some (.lst ys)) (hl : ys.length ≤ sizeLine) (d : Dens H A xs ys fp) : Den H A (.lst xs) (.ref a) (a :: fp)
  | scr {a : Addr} {ns : List Int} (h : SqF K H a (ns.map V.int)) (hl : ns.length ≤ sizeLine) : Den H A (.scr ns) (.ref a) []
  | dct {a : Addr} {kvs : List (Int × PV)} {ys : List (Key × V)} (h : H a = some (.dK ys)) (d : Denk H A kvs ys) : Den H A (.dct kvs) (.ref a) [a]
  | tin {a : Addr} (h : A = some a) : Den H A .tin (.ref a) []
  | fn (n : Nat) : Den H A (.fn n) (.ref (B.ad n)) []
inductive Dens (H : Hp) (A : Option Addr) : List PV → List V → List Addr → Prop
  | nil : Dens H A [] [] []
  | cons {x : PV} {y : V} {xs : List PV} {ys : List V} {f g : List Addr} (h : Den H A x y f) (t : Dens H A xs ys g) : Dens H A (x :: xs) (y :: ys) (f ++ g)
inductive Denk (H : Hp) (A : Option Addr) : List (Int × PV) → List (Key × V) → Prop
  | nil : Denk H A [] []
  | cons {k : Int} {x : PV} {y : V} {xs : List (Int × PV)} {ys : List (Key × V)} (h : Den H A x y []) (t : Denk H A xs ys) : Denk H A ((k, x) :: xs) ((Sum.inl k, y) :: ys)
end
end

/-- all but what stands at W is as it was -/
def Fr (W : Addr → Prop) (H H' : Hp) : Prop := ∀ b o, H b = some o → ¬ W b → H' b = some o
/-- what may change: lists, dicts -/
def Wl (W : Addr → Prop) (H : Hp) : Prop := ∀ b, W b → (∃ ys, H b = some (.lst ys)) ∨ ∃ ys, H b = some (.dK ys)
abbrev Kp (A : Option Addr) : Hp → Hp → Prop := Fr fun b => A = some b
def TinOk (A : Option Addr) (t : Tn) (H : Hp) : Prop := match A, t with
  | none, none => True
  | some a, some (x, y, z) => H a = some (.lst [.int x, .int y, .int z])
  | _, _ => False
/-- the draws' list is none of these -/
def Off (A : Option Addr) (fp : List Addr) : Prop := ∀ a ∈ fp, A ≠ some a

section
variable {K : PySem.W.Frag} {B : Tab} {H H' H1 : Hp} {A : Option Addr} {W : Addr → Prop}
theorem Fr.refl : Fr W H H := fun _ _ h _ => h
theorem Fr.trans (a : Fr W H H1) (b : Fr W H1 H') : Fr W H H' := fun c o h n => b c o (a c o h n) n
theorem Fr.mono {W' : Addr → Prop} (a : Fr W H H') (h : ∀ b, W b → W' b) : Fr W' H H' := fun c o e n => a c o e fun z => n (h c z)
theorem Fr.free (e : Fr W H H') {p : Addr} (h : H' p = none) (n : ¬ W p) : H p = none := by
  cases q : H p with
  | none => rfl
  | some o => rw [e p o q n] at h; cases h
theorem TinOk.wl {t : Tn} (h : TinOk A t H) : Wl (fun b => A = some b) H := by
  intro b e
  subst e
  cases t with
  | none => exact h.elim
  | some t => obtain ⟨x, y, z⟩ := t; exact .inl ⟨_, h⟩
theorem Rd.fr {a : Addr} {u : HO} (f : Fr W H H') (w : Wl W H) (hu : ∀ ys, u ≠ .lst ys) (hd : ∀ ys, u ≠ .dK ys) (r : Rd H a u) : Rd H' a u := by
  have nw : ∀ o, H a = some o → (∀ ys, o ≠ .lst ys) → (∀ ys, o ≠ .dK ys) → ¬ W a := fun o e h1 h2 z => by
    rcases w a z with ⟨ys, q⟩ | ⟨ys, q⟩
    · rw [e] at q; exact h1 ys (Option.some.inj q)
    · rw [e] at q; exact h2 ys (Option.some.inj q)
  rcases r with r | ⟨o, r⟩
  · exact .inl (f _ _ r (nw _ r hu hd))
  · exact .inr ⟨o, f _ _ r (nw _ r (fun _ z => by cases z) (fun _ z => by cases z))⟩
theorem SqT.fr {a : Addr} {xs : List V} (f : Fr W H H') (w : Wl W H) (h : SqT K H a xs) : SqT K H' a xs := by
  rcases h with h | h
  · exact .inl (Rd.fr f w (fun _ z => by cases z) (fun _ z => by cases z) h)
  · exact .inr h
theorem SqF.fr {a : Addr} {xs : List V} (f : Fr W H H') (w : Wl W H) (h : SqF K H a xs) : SqF K H' a xs := by
  rcases h with ⟨o, h⟩ | h
  · exact .inl ⟨o, f _ _ h fun z => by
      rcases w a z with ⟨ys, q⟩ | ⟨ys, q⟩ <;> (rw [h] at q; cases q)⟩
  · exact .inr h
mutual
theorem Den.fr {A' : Option Addr} (f : Fr W H H') (w : Wl W H) (hA : ∀ a, A = some a → A' = some a) : ∀ {v : PV} {x : V} {fp : List Addr}, Den K B H A v x fp → (∀ a ∈ fp, ¬ W a) → Den K B H' A' v x fp
  | _, _, _, .non, _ => .non
  | _, _, _, .bl b, _ => .bl b
  | _, _, _, .int i, _ => .int i
  | _, _, _, .tup h hl d, n => .tup (SqT.fr f w h) hl (Dens.fr f w hA d n)
  | _, _, _, .lst h hl d, n => .lst (f _ _ h (n _ List.mem_cons_self)) hl (Dens.fr f w hA d fun a ha => n a (List.mem_cons_of_mem _ ha))
  | _, _, _, .scr h hl, n => .scr (SqF.fr f w h) hl
  | _, _, _, .dct h d, n => .dct (f _ _ h (n _ List.mem_cons_self)) (Denk.fr f w hA d)
  | _, _, _, .tin h, _ => .tin (hA _ h)
  | _, _, _, .fn n, _ => .fn n
theorem Dens.fr {A' : Option Addr} (f : Fr W H H') (w : Wl W H) (hA : ∀ a, A = some a → A' = some a) : ∀ {v : List PV} {x : List V} {fp : List Addr}, Dens K B H A v x fp → (∀ a ∈ fp, ¬ W a) → Dens K B H' A' v x fp
  | _, _, _, .nil, _ => .nil
  | _, _, _, .cons h t, n => .cons (Den.fr f w hA h fun a ha => n a (List.mem_append_left _ ha)) (Dens.fr f w hA t fun a ha => n a (List.mem_append_right _ ha))
theorem Denk.fr {A' : Option Addr} (f : Fr W H H') (w : Wl W H) (hA : ∀ a, A = some a → A' = some a) : ∀ {v : List (Int × PV)} {x : List (Key × V)}, Denk K B H A v x → Denk K B H' A' v x
  | _, _, .nil => .nil
  | _, _, .cons h t => .cons (Den.fr f w hA h fun a ha => absurd ha (by simp)) (Denk.fr f w hA t)
end
theorem Den.kp {t : Tn} {v : PV} {x : V} {fp : List Addr} (f : Kp A H H') (tk : TinOk A t H) (d : Den K B H A v x fp) (o : Off A fp) : Den K B H' A v x fp := d.fr f tk.wl (fun _ e => e) fun a ha z => o a ha z
theorem Dens.kp {t : Tn} {v : List PV} {x : List V} {fp : List Addr} (f : Kp A H H') (tk : TinOk A t H) (d : Dens K B H A v x fp) (o : Off A fp) : Dens K B H' A v x fp := d.fr f tk.wl (fun _ e => e) fun a ha z => o a ha z

mutual
/-- the footprint stands in the heap -/
theorem Den.al : ∀ {v : PV} {x : V} {fp : List Addr}, Den K B H A v x fp → ∀ a ∈ fp, ∃ o, H a = some o
  | _, _, _, .non, _, h => absurd h (by simp)
  | _, _, _, .bl b, _, h => absurd h (by simp)
  | _, _, _, .int i, _, h => absurd h (by simp)
  | _, _, _, .tup _ _ d, a, h => Dens.al d a h
  | _, _, _, .lst e _ d, a, h => (List.mem_cons.mp h).elim (fun z => ⟨_, (congrArg H z).trans e⟩) (Dens.al d a)
  | _, _, _, .scr _ _, _, h => absurd h (by simp)
  | _, _, _, .dct e _, a, h => ⟨_, (congrArg H (List.mem_singleton.mp h)).trans e⟩
  | _, _, _, .tin _, _, h => absurd h (by simp)
  | _, _, _, .fn _, _, h => absurd h (by simp)
theorem Dens.al : ∀ {v : List PV} {x : List V} {fp : List Addr}, Dens K B H A v x fp → ∀ a ∈ fp, ∃ o, H a = some o
  | _, _, _, .nil, _, h => absurd h (by simp)
  | _, _, _, .cons d t, a, h => (List.mem_append.mp h).elim (Den.al d a) (Dens.al t a)
end
theorem Dens.len : ∀ {v : List PV} {x : List V} {fp : List Addr}, Dens K B H A v x fp → v.length = x.length
  | _, _, _, .nil => rfl
  | _, _, _, .cons _ t => congrArg (· + 1) t.len
theorem Dens.get {v : List PV} {x : List V} {fp : List Addr} (d : Dens K B H A v x fp) : ∀ {i : Nat} {p : PV}, v[i]? = some p → ∃ y f, x[i]? = some y ∧ Den K B H A p y f ∧ ∀ a ∈ f, a ∈ fp := by
  induction v generalizing x fp with
  | nil => intro i p h; simp at h
  | cons v vs ih =>
    intro i p h
    cases d with
    | cons hd t =>
      cases i with
      | zero =>
        simp at h
        subst h
        exact ⟨_, _, rfl, hd, fun a ha => List.mem_append_left _ ha⟩
      | succ i =>
        obtain ⟨y, f, e, d, m⟩ := ih t (i := i) (p := p) (by simpa using h)
        exact ⟨y, f, by simpa using e, d, fun a ha => List.mem_append_right _ (m a ha)⟩
theorem Dens.append {v v' : List PV} {x x' : List V} {fp fp' : List Addr} (d : Dens K B H A v x fp) (d' : Dens K B H A v' x' fp') : Dens K B H A (v ++ v') (x ++ x') (fp ++ fp') := by
  induction v generalizing x fp with
  | nil => cases d; exact d'
  | cons v vs ih =>
    cases d with
    | cons h t =>
      rw [List.append_assoc]
      exact .cons h (ih t)
theorem Dens.one {v : PV} {x : V} {fp : List Addr} (d : Den K B H A v x fp) : Dens K B H A [v] [x] fp := by
  have := Dens.cons d (Dens.nil (K := K) (B := B) (H := H) (A := A))
  rwa [List.append_nil] at this

/-! ### flat data -/
theorem flats_eq {n : Nat} {xs : List PV} : flat (n + 1) (.tup xs) = xs.all (flat n) := rfl
mutual
theorem Den.flat : ∀ {n : Nat} {v : PV} {x : V} {fp : List Addr}, Den K B H A v x fp → G.flat n v = true → fp = []
  | _, _, _, _, .non, _ => rfl
  | _, _, _, _, .bl _, _ => rfl
  | _, _, _, _, .int _, _ => rfl
  | 0, _, _, _, .tup _ _ _, h => by simp [G.flat] at h
  | n + 1, _, _, _, .tup _ _ d, h => Dens.flat (n := n) d (by simpa [G.flat] using h)
  | n, _, _, _, .lst _ _ _, h => by cases n <;> simp [G.flat] at h
  | n, _, _, _, .scr _ _, h => by cases n <;> simp [G.flat] at h
  | n, _, _, _, .dct _ _, h => by cases n <;> simp [G.flat] at h
  | _, _, _, _, .tin _, _ => rfl
  | _, _, _, _, .fn _, _ => rfl
theorem Dens.flat : ∀ {n : Nat} {v : List PV} {x : List V} {fp : List Addr}, Dens K B H A v x fp → (∀ p ∈ v, G.flat n p = true) → fp = []
  | _, _, _, _, .nil, _ => rfl
  | n, _, _, _, .cons h t, q => by
    rw [h.flat (q _ List.mem_cons_self), t.flat fun p hp => q p (List.mem_cons_of_mem _ hp)]
    rfl
end
theorem Dens.fl {v : List PV} {x : List V} {fp : List Addr} (d : Dens K B H A v x fp) (h : v.all G.fl = true) : fp = [] := d.flat (n := 20) (List.all_eq_true.mp h)

/-! ### plain data -/
theorem toDs_map : ∀ xs : List PV, PV.toDs xs = xs.map PV.toD
  | [] => by simp [PV.toDs]
  | x :: xs => by simp [PV.toDs, toDs_map xs]
mutual
theorem Den.dp : ∀ {n : Nat} {v : PV} {x : V} {fp : List Addr}, Den K B H A v x fp → shal n v = true → Dp K H x v.toD
  | _, _, _, _, .non, _ => by simp only [PV.toD]; exact .non
  | _, _, _, _, .bl _, _ => by simp only [PV.toD]; exact .bl _
  | _, _, _, _, .int _, _ => by simp only [PV.toD]; exact .int _
  | 0, _, _, _, .tup _ _ _, h => by simp [shal] at h
  | 0, _, _, _, .lst _ _ _, h => by simp [shal] at h
  | n + 1, _, _, _, .tup hs _ d, h => by simp only [PV.toD]; exact .tup hs (Dens.dp (n := n) d (by simpa [shal] using h))
  | n + 1, _, _, _, .lst hs _ d, h => by simp only [PV.toD]; exact .lst (SqL.of hs) (Dens.dp (n := n) d (by simpa [shal] using h))
  | n, _, _, _, .scr _ _, h => by cases n <;> simp [shal] at h
  | n, _, _, _, .dct _ _, h => by cases n <;> simp [shal] at h
  | n, _, _, _, .tin _, h => by cases n <;> simp [shal] at h
  | n, _, _, _, .fn _, h => by cases n <;> simp [shal] at h
theorem Dens.dp : ∀ {n : Nat} {v : List PV} {x : List V} {fp : List Addr}, Dens K B H A v x fp → (∀ p ∈ v, shal n p = true) → DpAll K H x (PV.toDs v)
  | _, _, _, _, .nil, _ => by simp only [PV.toDs]; exact .nil
  | n, _, _, _, .cons h t, q => by simp only [PV.toDs]; exact .cons (h.dp (q _ List.mem_cons_self)) (t.dp fun p hp => q p (List.mem_cons_of_mem _ hp))
end
mutual
theorem shal_lay : ∀ {n : Nat} (v : PV), shal n v = true → v.toD.canLay0 = true ∧ v.toD.depth ≤ n
  | _, .non, _ => by simp [PV.toD, PyData.canLay0, PyData.depth]
  | _, .bl _, _ => by simp [PV.toD, PyData.canLay0, PyData.depth]
  | _, .int _, _ => by simp [PV.toD, PyData.canLay0, PyData.depth]
  | 0, .tup _, h => by simp [shal] at h
  | 0, .lst _, h => by simp [shal] at h
  | n + 1, .tup xs, h => by
    have q := shal_lays (n := n) xs (by simpa [shal] using h)
    simp only [PV.toD, PyData.canLay0, PyData.depth]
    exact ⟨q.1, by have := q.2; omega⟩
  | n + 1, .lst xs, h => by
    have q := shal_lays (n := n) xs (by simpa [shal] using h)
    simp only [PV.toD, PyData.canLay0, PyData.depth]
    exact ⟨q.1, by have := q.2; omega⟩
  | n, .scr _, h => by cases n <;> simp [shal] at h
  | n, .dct _, h => by cases n <;> simp [shal] at h
  | n, .tin, h => by cases n <;> simp [shal] at h
  | n, .fn _, h => by cases n <;> simp [shal] at h
theorem shal_lays : ∀ {n : Nat} (v : List PV), (∀ p ∈ v, shal n p = true) → PyData.canLayAll0 (PV.toDs v) = true ∧ PyData.depthAll (PV.toDs v) ≤ n
  | _, [], _ => by simp [PV.toDs, PyData.canLayAll0, PyData.depthAll]
  | n, p :: v, q => by
    obtain ⟨h1, h2⟩ := shal_lay p (q _ List.mem_cons_self)
    obtain ⟨h3, h4⟩ := shal_lays v fun p hp => q p (List.mem_cons_of_mem _ hp)
    simp only [PV.toDs, PyData.canLayAll0, PyData.depthAll, h1, h3, Bool.and_self, true_and]
    omega
end
theorem shal_shaped {v : PV} (h : shal 20 v = true) : SeqAt.shaped v.toD = true := by
  obtain ⟨h1, h2⟩ := shal_lay v h
  unfold SeqAt.shaped
  rw [h1, decide_eq_true (show v.toD.depth ≤ 64 by omega)]
  rfl

/-! ### lists of ints, of bools -/
theorem asInts_eq : ∀ {xs : List PV} {ns : List Int}, asInts xs = some ns → xs = ns.map .int
  | [], ns, h => by simp [asInts] at h; subst h; rfl
  | x :: xs, ns, h => by
    cases x with
    | int i =>
      simp only [asInts] at h
      cases q : asInts xs with
      | none => rw [q] at h; simp at h
      | some m =>
        rw [q] at h
        simp at h
        subst h
        rw [asInts_eq q]
        rfl
    | _ => simp [asInts] at h
theorem asBls_eq : ∀ {xs : List PV} {ns : List Bool}, asBls xs = some ns → xs = ns.map .bl
  | [], ns, h => by simp [asBls] at h; subst h; rfl
  | x :: xs, ns, h => by
    cases x with
    | bl i =>
      simp only [asBls] at h
      cases q : asBls xs with
      | none => rw [q] at h; simp at h
      | some m =>
        rw [q] at h
        simp at h
        subst h
        rw [asBls_eq q]
        rfl
    | _ => simp [asBls] at h
theorem Dens.ints : ∀ {ns : List Int} {x : List V} {fp : List Addr}, Dens K B H A (ns.map .int) x fp → x = ns.map V.int ∧ fp = []
  | [], _, _, d => by cases d; exact ⟨rfl, rfl⟩
  | n :: ns, _, _, d => by
    cases d with
    | cons h t =>
      cases h
      obtain ⟨e, f⟩ := Dens.ints t
      rw [e, f]
      exact ⟨rfl, rfl⟩
theorem Dens.bls : ∀ {ns : List Bool} {x : List V} {fp : List Addr}, Dens K B H A (ns.map .bl) x fp → x = ns.map V.bl
  | [], _, _, d => by cases d; rfl
  | n :: ns, _, _, d => by
    cases d with
    | cons h t =>
      cases h
      rw [Dens.bls t]
      rfl
theorem dens_ints (H : Hp) (A : Option Addr) : ∀ ns : List Int, Dens K B H A (ns.map .int) (ns.map V.int) []
  | [] => .nil
  | n :: ns => by
    have := Dens.cons (K := K) (B := B) (H := H) (A := A) (.int n) (dens_ints H A ns)
    exact this
end

/-! ### slots -/
def LD (H : Hp) (a : Addr) : Prop := (∃ ys, H a = some (.lst ys)) ∨ ∃ ys, H a = some (.dK ys)
theorem LD.ex {H : Hp} {a : Addr} (h : LD H a) : ∃ o, H a = some o := h.elim (fun ⟨_, e⟩ => ⟨_, e⟩) fun ⟨_, e⟩ => ⟨_, e⟩
theorem LD.eq {H H' : Hp} {a : Addr} (h : LD H a) (e : ∀ o, H a = some o → H' a = some o) : LD H' a := h.imp (fun ⟨y, z⟩ => ⟨y, e _ z⟩) fun ⟨y, z⟩ => ⟨y, e _ z⟩
section
variable (K : PySem.W.Frag) (B : Tab)
structure RelS (ρ : Slots) (σ : L2.St) (H : Hp) (A : Option Addr) (fps : Nat → List Addr) : Prop where
  len : ρ.length = σ.length
  at_ : ∀ i v, getS ρ i = some v → ∃ x, σ[i]? = some (some x) ∧ Den K B H A v x (fps i)
  al : ∀ i, ∀ a ∈ fps i, A ≠ some a ∧ LD H a
end
section
variable {K : PySem.W.Frag} {B : Tab} {H H' H1 : Hp} {A : Option Addr} {ρ : Slots} {σ : L2.St} {fps : Nat → List Addr} {t : Tn}
mutual
theorem Den.ld : ∀ {v : PV} {x : V} {fp : List Addr}, Den K B H A v x fp → ∀ a ∈ fp, LD H a
  | _, _, _, .non, _, h => absurd h (by simp)
  | _, _, _, .bl b, _, h => absurd h (by simp)
  | _, _, _, .int i, _, h => absurd h (by simp)
  | _, _, _, .tup _ _ d, a, h => Dens.ld d a h
  | _, _, _, .lst e _ d, a, h => (List.mem_cons.mp h).elim (fun z => .inl ⟨_, (congrArg H z).trans e⟩) (Dens.ld d a)
  | _, _, _, .scr _ _, _, h => absurd h (by simp)
  | _, _, _, .dct e _, a, h => .inr ⟨_, (congrArg H (List.mem_singleton.mp h)).trans e⟩
  | _, _, _, .tin _, _, h => absurd h (by simp)
  | _, _, _, .fn _, _, h => absurd h (by simp)
theorem Dens.ld : ∀ {v : List PV} {x : List V} {fp : List Addr}, Dens K B H A v x fp → ∀ a ∈ fp, LD H a
  | _, _, _, .nil, _, h => absurd h (by simp)
  | _, _, _, .cons d t, a, h => (List.mem_append.mp h).elim (Den.ld d a) (Dens.ld t a)
end
theorem RelS.off (r : RelS K B ρ σ H A fps) (i : Nat) (v : PV) (e : getS ρ i = some v) : Off A (fps i) := fun a ha => (r.al i a ha).1
theorem RelS.kp (r : RelS K B ρ σ H A fps) (f : Kp A H H') (tk : TinOk A t H) : RelS K B ρ σ H' A fps :=
  ⟨r.len, fun i v e => let ⟨x, h, d⟩ := r.at_ i v e; ⟨x, h, d.kp f tk (r.off i v e)⟩, fun i a ha => let ⟨h, e⟩ := r.al i a ha; ⟨h, e.eq fun o z => f a o z h⟩⟩
theorem getS_lt {ρ : Slots} {i : Nat} {v : PV} (h : getS ρ i = some v) : i < ρ.length := by
  unfold getS at h
  cases q : ρ[i]? with
  | none => rw [q] at h; cases h
  | some o => exact (List.getElem?_eq_some_iff.mp q).1
theorem getS_set {ρ : Slots} {i j : Nat} {v : PV} : getS (setS ρ i v) j = if i = j then (if i < ρ.length then some v else none) else getS ρ j := by
  unfold getS setS
  by_cases h : i = j
  · subst h
    rw [if_pos rfl]
    by_cases hl : i < ρ.length
    · rw [List.getElem?_set_self hl, if_pos hl]
    · rw [if_neg hl, List.getElem?_eq_none (by simpa using hl)]
  · rw [if_neg h, List.getElem?_set_ne h]
theorem getS_none {ρ : Slots} {i j : Nat} : getS (ρ.set i none) j = if i = j then none else getS ρ j := by
  unfold getS
  by_cases h : i = j
  · subst h
    rw [if_pos rfl]
    by_cases hl : i < ρ.length
    · rw [List.getElem?_set_self hl]
    · rw [List.getElem?_eq_none (by simpa using hl)]
  · rw [if_neg h, List.getElem?_set_ne h]
def setF (fps : Nat → List Addr) (i : Nat) (fp : List Addr) : Nat → List Addr := fun j => if j = i then fp else fps j
theorem setF_same {fps : Nat → List Addr} {i : Nat} {fp : List Addr} : setF fps i fp i = fp := by unfold setF; rw [if_pos rfl]
theorem setF_ne {fps : Nat → List Addr} {i j : Nat} {fp : List Addr} (h : j ≠ i) : setF fps i fp j = fps j := by unfold setF; rw [if_neg h]
theorem RelS.set {v : PV} {x : V} {fp : List Addr} (r : RelS K B ρ σ H A fps) (i : Nat) (d : Den K B H A v x fp) (o : Off A fp) : RelS K B (setS ρ i v) (σ.set i (some x)) H A (setF fps i fp) := by
  refine ⟨by simp [setS, r.len], fun j w e => ?_, fun j a ha => ?_⟩
  · rw [getS_set] at e
    by_cases h : i = j
    · subst h
      rw [if_pos rfl] at e
      split at e
      · cases e
        rename_i hl
        exact ⟨x, List.getElem?_set_self (by rw [← r.len]; exact hl), by rw [setF_same]; exact d⟩
      · cases e
    · rw [if_neg h] at e
      obtain ⟨y, e1, d1⟩ := r.at_ j w e
      exact ⟨y, by rw [List.getElem?_set_ne h]; exact e1, by rw [setF_ne (Ne.symm h)]; exact d1⟩
  · by_cases h : i = j
    · subst h
      rw [setF_same] at ha
      exact ⟨o a ha, d.ld a ha⟩
    · rw [setF_ne (Ne.symm h)] at ha
      exact r.al j a ha
theorem RelS.drop (r : RelS K B ρ σ H A fps) (i : Nat) : RelS K B (ρ.set i none) (σ.set i none) H A fps := by
  refine ⟨by simp [r.len], fun j w e => ?_, r.al⟩
  rw [getS_none] at e
  by_cases h : i = j
  · rw [if_pos h] at e; cases e
  · rw [if_neg h] at e
    obtain ⟨y, e1, d1⟩ := r.at_ j w e
    exact ⟨y, by rw [List.getElem?_set_ne h]; exact e1, d1⟩
theorem RelS.wipe (r : RelS K B ρ σ H A fps) : ∀ l : List Nat, RelS K B (wipeS ρ l) (wipe σ l) H A fps
  | [] => r
  | i :: l => (r.wipe l).drop i
theorem Off.sub {fp fp' : List Addr} (h : Off A fp) (s : ∀ a ∈ fp', a ∈ fp) : Off A fp' := fun a ha => h a (s a ha)
/-- new addresses are not the draws' -/
theorem TinOk.off {fp : List Addr} (tk : TinOk A t H) (h : ∀ a ∈ fp, H a = none) : Off A fp := fun a ha z => by
  subst z
  cases t with
  | none => exact tk
  | some t =>
    obtain ⟨x, y, z⟩ := t
    have q : H a = some (.lst [.int x, .int y, .int z]) := tk
    rw [h a ha] at q
    cases q
end
end G
set_option Elab.async false
set_option linter.all false
set_option maxRecDepth 100000
set_option maxHeartbeats 4000000
/-! S2: which terms of the syntax are which terms of the small language; what an expression's value promises -/
namespace G
open PySem PySem.Spec PyProof.Rows L2

/-! ### which slots a term speaks of -/
mutual
def E.vars : E → List Nat
  | .v i => [i]
  | .int _ => [] | .bl _ => [] | .non => [] | .gint _ _ => [] | .tt => [] | .dct0 => []
  | .bin _ a b => a.vars ++ b.vars
  | .neg a => a.vars
  | .not a => a.vars
  | .and es => es.vars
  | .or es => es.vars
  | .cmp _ a b => a.vars ++ b.vars
  | .ch _ _ a b c => a.vars ++ (b.vars ++ c.vars)
  | .ite c a b => c.vars ++ (a.vars ++ b.vars)
  | .tup es => es.vars
  | .lst es => es.vars
  | .dct2 a b c d => a.vars ++ (b.vars ++ (c.vars ++ d.vars))
  | .idx a b => a.vars ++ b.vars
  | .slL a b => a.vars ++ b.vars
  | .slH a b => a.vars ++ b.vars
  | .slB a b c => a.vars ++ (b.vars ++ c.vars)
  | .rev a => a.vars
  | .call _ es => es.vars
  | .callK _ es _ ws => es.vars ++ ws.vars
  | .b1 _ a => a.vars
  | .mx2 a b => a.vars ++ b.vars
  | .mn2 a b => a.vars ++ b.vars
  | .isi a _ => a.vars
  | .orL a b => a.vars ++ b.vars
  | .comp el _ it c => el.vars ++ (it.vars ++ c.vars)
  | .comp2 el _ it _ it2 c => el.vars ++ (it.vars ++ (it2.vars ++ c.vars))
  | .count a b => a.vars ++ b.vars
  | .index a b => a.vars ++ b.vars
def Es.vars : Es → List Nat
  | .nil => []
  | .cons e es => e.vars ++ es.vars
def It.vars : It → List Nat
  | .e a => a.vars
  | .rng a => a.vars
  | .rng2 a b => a.vars ++ b.vars
  | .enum a => a.vars
  | .zip a b => a.vars ++ b.vars
end
/-- where the value is a list it is a new one -/
def nw1 (B : Tab) : E → Bool
  | .lst _ => true
  | .dct0 => true
  | .dct2 _ _ _ _ => true
  | .comp _ _ _ _ => true
  | .comp2 _ _ _ _ _ _ => true
  | .bin _ _ _ => true
  | .slL _ _ => true
  | .slH _ _ => true
  | .slB _ _ _ => true
  | .rev _ => true
  | .b1 .list _ => true
  | .b1 .sorted _ => true
  | .b1 .sset _ => true
  | .b1 .lrng _ => true
  | .b1 .svals _ => true
  | .b1 .dict _ => true
  | .ite _ a b => nw1 B a && nw1 B b
  | .orL a b => nw1 B a && nw1 B b
  | .call f _ => (B.T f).any Fn.new
  | _ => false
/-- a new list of new lists -/
def nw2 (B : Tab) : E → Bool
  | .comp el _ _ _ => nw1 B el
  | _ => false

/-! ### terms of the syntax -/
def opIs : Op → Operator → Bool
  | .add, .Add => true | .sub, .Sub => true | .mul, .Mult => true | .fdiv, .FloorDiv => true | .mod, .Mod => true | .pow, .Pow => true
  | _, _ => false
def cmIs : Cm → CmpOp → Bool
  | .eq, .Eq => true | .ne, .NotEq => true | .lt, .Lt => true | .le, .LtE => true | .gt, .Gt => true | .ge, .GtE => true | .isin, .In => true | .notin, .NotIn => true | .isN, .Is => true | .notN, .IsNot => true
  | _, _ => false
def visB (sc : Scope) (x : Str) : Bool := match sc.names.lookup x with
  | some .local => true
  | some .cell => true
  | some .free => true
  | _ => false
def locB (sc : Scope) (x : Str) : Bool := match sc.names.lookup x with
  | some .local => true
  | some .cell => true
  | _ => false
def glB (sc : Scope) (x : Str) : Bool := match sc.names.lookup x with
  | some .globalImplicit => true
  | _ => false
def okN (x : Str) : Bool := !(x == ("__debug__" : Str)) && !(x == ("__classdict__" : Str)) && decide (x ≠ "__name__")
def b1nm : B1 → Str
  | .len => "len" | .all => "all" | .any => "any" | .tuple => "tuple" | .list => "list" | .sorted => "sorted" | .max => "max" | .min => "min" | .sum => "sum" | .abs => "abs" | .int => "int" | .dict => "dict"
  | .lset => "len" | .sset => "sorted" | .lrng => "list" | .trng => "tuple" | .svals => "sorted"
def tynm : Ty → Str
  | .int => "int" | .bool => "bool" | .str => "str" | .tup => "tuple" | .lst => "list"
def tysIs (sc : Scope) : List Ty → List Expr → Bool
  | [], [] => true
  | t :: ts, .Name x _ :: es => decide (x = tynm t) && glB sc x && tysIs sc ts es
  | _, _ => false
/-- targets -/
def cT (N : List Str) (sc : Scope) (fnx : Str → Bool) : Tg → Expr → Bool
  | .v i, e => match e with
    | .Name x _ => decide (N[i]? = some x) && (match sc.names.lookup x with
      | some .local => true
      | some .cell => fnx x
      | _ => false)
    | _ => false
  | .t2 a b, e => match e with
    | .Tuple [ea, eb] _ _ => cT N sc fnx a ea && cT N sc fnx b eb
    | _ => false
  | .t3 a b c, e => match e with
    | .Tuple [ea, eb, ec] _ _ => cT N sc fnx a ea && (cT N sc fnx b eb && cT N sc fnx c ec)
    | _ => false
def ownOf (N : List Str) (sl : List Nat) : List (Str × Nat) := sl.map fun i => (N.getD i "", i)
mutual
def cE (B : Tab) (N : List Str) (sc : Scope) : E → Expr → Bool
  | .v i, e => match e with
    | .Name x _ => decide (N[i]? = some x) && visB sc x && okN x
    | _ => false
  | .int i, e => match e with
    | .Constant (.int j) _ _ => decide (i = j)
    | _ => false
  | .bl i, e => match e with
    | .Constant (.bool j) _ _ => i == j
    | _ => false
  | .non, e => match e with
    | .Constant .none _ _ => true
    | _ => false
  | .tt, _ => false
  | .gint x i, e => match e with
    | .Name y _ => decide (x = y) && glB sc x && okN x && decide ((x, i) ∈ B.cs)
    | _ => false
  | .bin o a b, e => match e with
    | .BinOp ea op eb _ => opIs o op && cE B N sc a ea && cE B N sc b eb
    | _ => false
  | .neg a, e => match e with
    | .UnaryOp .USub ea _ => cE B N sc a ea
    | _ => false
  | .not a, e => match e with
    | .UnaryOp .Not ea _ => cE B N sc a ea
    | _ => false
  | .and es, e => match e with
    | .BoolOp .And l _ => cEs B N sc es l
    | _ => false
  | .or es, e => match e with
    | .BoolOp .Or l _ => cEs B N sc es l
    | _ => false
  | .cmp c a b, e => match e with
    | .Compare ea [op] [eb] _ => cmIs c op && cE B N sc a ea && cE B N sc b eb && !behindInMarks op eb
    | _ => false
  | .ch c d a b x, e => match e with
    | .Compare ea [op, op'] [eb, ex] _ => cmIs c op && cmIs d op' && cE B N sc a ea && cE B N sc b eb && cE B N sc x ex && !behindInMarks op' ex
    | _ => false
  | .ite c a b, e => match e with
    | .IfExp ec ea eb _ => cE B N sc c ec && cE B N sc a ea && cE B N sc b eb
    | _ => false
  | .tup es, e => match e with
    | .Tuple l _ _ => cEs B N sc es l && decide (l.length ≤ 1000)
    | _ => false
  | .lst es, e => match e with
    | .List l _ => cEs B N sc es l && decide (l.length ≤ 1000)
    | _ => false
  | .dct0, e => match e with
    | .Dict [] [] _ => true
    | _ => false
  | .dct2 _ _ _ _, _ => false
  | .idx a b, e => match e with
    | .Subscript ea eb _ => cE B N sc a ea && cE B N sc b eb
    | _ => false
  | .slL a lo, e => match e with
    | .Subscript ea (.Slice (some el) none none _) _ => cE B N sc a ea && cE B N sc lo el
    | _ => false
  | .slH a hi, e => match e with
    | .Subscript ea (.Slice none (some eh) none _) _ => cE B N sc a ea && cE B N sc hi eh
    | _ => false
  | .slB a lo hi, e => match e with
    | .Subscript ea (.Slice (some el) (some eh) none _) _ => cE B N sc a ea && cE B N sc lo el && cE B N sc hi eh
    | _ => false
  | .rev a, e => match e with
    | .Subscript ea (.Slice none none (some (.UnaryOp .USub (.Constant (.int 1) _ _) _)) _) _ => cE B N sc a ea
    | _ => false
  | .call f es, e => match e with
    | .Call (.Name x _) l [] _ => decide (x = B.nm f) && glB sc x && okN x && cEs B N sc es l
    | _ => false
  | .callK _ _ _ _, _ => false
  | .b1 b a, e => match e with
    | .Call (.Name x _) [ea] [] _ => decide (x = b1nm b) && glB sc x && (match b, ea with
      | .lset, .Call (.Name y _) [eb] [] _ => decide (y = "set") && glB sc y && cE B N sc a eb
      | .lset, _ => false
      | .sset, _ => false
      | .lrng, .Call (.Name y _) [eb] [] _ => decide (y = "range") && glB sc y && cE B N sc a eb
      | .lrng, _ => false
      | .trng, .Call (.Name y _) [eb] [] _ => decide (y = "range") && glB sc y && cE B N sc a eb
      | .trng, _ => false
      | .svals, .Call (.Attribute eb y ap) [] [] cp => decide (y = "values") && (ap.endLine == cp.line) && (match eb with | .Name _ _ => true | _ => false) && cE B N sc a eb
      | .svals, _ => false
      | .dict, _ => false
      | _, _ => cE B N sc a ea)
    | _ => false
  | .mx2 a b, e => match e with
    | .Call (.Name x _) [ea, eb] [] _ => decide (x = "max") && glB sc x && cE B N sc a ea && cE B N sc b eb
    | _ => false
  | .mn2 a b, e => match e with
    | .Call (.Name x _) [ea, eb] [] _ => decide (x = "min") && glB sc x && cE B N sc a ea && cE B N sc b eb
    | _ => false
  | .isi a ts, e => match e with
    | .Call (.Name x _) [ea, et] [] _ => decide (x = "isinstance") && glB sc x && cE B N sc a ea && (match et with
      | .Tuple l _ _ => tysIs sc ts l && decide (ts.length ≤ 1000)
      | _ => tysIs sc ts [et])
    | _ => false
  | .orL _ _, _ => false
  | .comp el tg it c, e => match e with
    | .ListComp ee [⟨et, ei, ifs, 0⟩] s _ => blkC N sc s (ownOf N tg.slots) && cI B N sc it et ei && cT N (relS s sc) (fun x => s.names.lookup x == some .cell) tg et && cE B N (relS s sc) el ee && (match c, ifs with
      | .tt, [] => true
      | .tt, _ => false
      | c, [ec] => cE B N (relS s sc) c ec
      | _, _ => false)
    | _ => false
  | .comp2 _ _ _ _ _ _, _ => false
  | .count _ _, _ => false
  | .index _ _, _ => false
def cEs (B : Tab) (N : List Str) (sc : Scope) : Es → List Expr → Bool
  | .nil, l => match l with
    | [] => true
    | _ => false
  | .cons e es, l => match l with
    | x :: r => cE B N sc e x && cEs B N sc es r
    | _ => false
def cI (B : Tab) (N : List Str) (sc : Scope) : It → Expr → Expr → Bool
  | .e a, _, e => cE B N sc a e
  | .rng a, _, e => match e with
    | .Call (.Name x _) [ea] [] _ => decide (x = "range") && glB sc x && cE B N sc a ea
    | _ => false
  | .rng2 a b, _, e => match e with
    | .Call (.Name x _) [ea, eb] [] _ => decide (x = "range") && glB sc x && cE B N sc a ea && cE B N sc b eb
    | _ => false
  | .enum a, t, e => match t, e with
    | .Tuple _ _ _, .Call (.Name x _) [ea] [] _ => decide (x = "enumerate") && glB sc x && cE B N sc a ea
    | _, _ => false
  | .zip a b, t, e => match t, e with
    | .Tuple _ _ _, .Call (.Name x _) [ea, eb] [] _ => decide (x = "zip") && glB sc x && cE B N sc a ea && cE B N sc b eb
    | _, _ => false
end

/-- a value to be stored -/
def cV (B : Tab) (N : List Str) (sc : Scope) (m : E) (e : Expr) : Bool := match m with
  | .orL a b => (match e with
    | .BoolOp .Or [ea, eb] _ => cE B N sc a ea && cE B N sc b eb
    | _ => false)
  | m => cE B N sc m e

/-! ### what holds of a value that has come -/
section
variable (K : PySem.W.Frag) (B : Tab)
structure Post (H H' : Hp) (A : Option Addr) (t' : Tn) (fps : Nat → List Addr) (vs : List Nat) (b1 b2 : Bool) (v : PV) (x : V) (fp : List Addr) : Prop where
  kp : Kp A H H'
  tin : TinOk A t' H'
  den : Den K B H' A v x fp
  sub : ∀ a ∈ fp, H a = none ∨ ∃ i ∈ vs, a ∈ fps i
  off : Off A fp
  n1 : b1 = true → elems1 v = true → ∀ a ∈ fp, H a = none
  n2 : b2 = true → elems2 v = true → fp.Nodup ∧ ∀ a ∈ fp, H a = none
structure Posts (H H' : Hp) (A : Option Addr) (t' : Tn) (fps : Nat → List Addr) (vs : List Nat) (v : List PV) (x : List V) (fp : List Addr) : Prop where
  kp : Kp A H H'
  tin : TinOk A t' H'
  den : Dens K B H' A v x fp
  sub : ∀ a ∈ fp, H a = none ∨ ∃ i ∈ vs, a ∈ fps i
  off : Off A fp
def tEv (F : FS) (m : E) : TE := fun σ H Q => ∃ ρ t v t' A fps, RelS K B ρ σ H A fps ∧ TinOk A t H ∧ evE F m ρ t = some (v, t') ∧
  ∀ x H' fp, Post K B H H' A t' fps m.vars (nw1 B m) (nw2 B m) v x fp → Q x H'
def tEvs (F : FS) (m : Es) : TA := fun σ H Q => ∃ ρ t v t' A fps, RelS K B ρ σ H A fps ∧ TinOk A t H ∧ evEs F m ρ t = some (v, t') ∧
  ∀ x H' fp, Posts K B H H' A t' fps m.vars v x fp → Q x H'
/-- and, or over several -/
def tEvM (g : Es → Slots → M PV) (m : Es) : TE := fun σ H Q => ∃ ρ t v t' A fps, RelS K B ρ σ H A fps ∧ TinOk A t H ∧ g m ρ t = some (v, t') ∧
  ∀ x H' fp, Post K B H H' A t' fps m.vars false false v x fp → Q x H'
/-- a def's promise -/
def spF (F : FS) (f : Nat) : Sp := fun vs H Q _ => ∃ A t xs fp v t', Dens K B H A xs vs fp ∧ Off A fp ∧ TinOk A t H ∧ F f xs t = some (v, t') ∧
  ∀ x H' fp', Kp A H H' → TinOk A t' H' → Den K B H' A v x fp' → (∀ a ∈ fp', H a = none ∨ a ∈ fp) → Off A fp' → ((B.T f).any Fn.new = true → elems1 v = true → ∀ a ∈ fp', H a = none) → Q x H'
end
def bnames : List Str := ["len", "all", "any", "tuple", "list", "sorted", "max", "min", "sum", "abs", "int", "dict", "set", "range", "isinstance", "bool", "str", "enumerate", "zip"]
structure XOk (B : Tab) (F : FS) (X : Cx) : Prop where
  calm : X.calm = true
  nd : X.N.Nodup
  room : Room 0 X.A
  bl : ∀ x ∈ bnames, X.mg x = none
  gi : ∀ x i, (x, i) ∈ B.cs → ∃ u, X.mg x = some u ∧ RelV (.int i) u
  call : ∀ f xs t r, F f xs t = some r → ∃ k fd ps, FnOk X.prog X.w X.K X.mg X.base L2.CX0 k (B.ad f) fd ps (spF X.K B F f) ∧ Room k X.A ∧ X.mg (B.nm f) = some (.ref (B.ad f)) ∧ PySem.W.keepIn X.K (.ref (B.ad f)) = true ∧ Binds X.K fd ps []
theorem XOk.blk {B : Tab} {F : FS} {X : Cx} (ok : XOk B F X) (s : Shared) (H : Hp) (scope : Scope) (cenv : Env) (fp : List Addr) : XOk B F (X.blk s H scope cenv fp) :=
  ⟨ok.calm, ok.nd, ok.room, ok.bl, ok.gi, ok.call⟩

/-! ### helpers -/
theorem PE_mono {X : Cx} {e : Expr} {t t' : TE} (h : PE X e t) (w : ∀ σ H Q, t' σ H Q → t σ H Q) : PE X e t' := ⟨fun pins s σ H Q I q => h.run pins s σ H Q I (w σ H Q q)⟩
theorem PT_mono {X : Cx} {e : Expr} {t t' : TT} (h : PT X e t) (w : ∀ σ H Q, t' σ H Q → t σ H Q) : PT X e t' := ⟨fun pins s σ H Q I q => h.run pins s σ H Q I (w σ H Q q)⟩
theorem PW_mono {X : Cx} {e : Expr} {t t' : TT} (h : PW X e t) (w : ∀ σ H Q, t' σ H Q → t σ H Q) : PW X e t' := ⟨fun wh pins s σ H Q I q => h.run wh pins s σ H Q I (w σ H Q q)⟩
theorem PA_mono {X : Cx} {e : List Expr} {t t' : TA} (h : PA X e t) (w : ∀ σ H Q, t' σ H Q → t σ H Q) : PA X e t' := ⟨fun po pins s σ H Q I q => h.run po pins s σ H Q I (w σ H Q q)⟩
theorem PI_mono {X : Cx} {tg e : Expr} {t t' : TI} (h : PI X tg e t) (w : ∀ σ H Q, t' σ H Q → t σ H Q) : PI X tg e t' := ⟨fun pins s σ H Q I q => h.run pins s σ H Q I (w σ H Q q)⟩
theorem bnd_some {α β : Type} {m : M α} {f : α → M β} {t : Tn} {r : β × Tn} : M.bnd m f t = some r ↔ ∃ a t1, m t = some (a, t1) ∧ f a t1 = some r := by
  unfold M.bnd
  cases h : m t with
  | none => simp
  | some p =>
    obtain ⟨a, t1⟩ := p
    constructor
    · intro q; exact ⟨a, t1, rfl, q⟩
    · rintro ⟨b, t2, e, q⟩; cases e; exact q
theorem ret_some {α : Type} {a : α} {t : Tn} {r : α × Tn} : M.ret a t = some r ↔ r = (a, t) := by
  unfold M.ret; constructor <;> intro h <;> first | (cases h; rfl) | (rw [h])
theorem lift_some {α : Type} {o : Option α} {t : Tn} {r : α × Tn} : M.lift o t = some r ↔ ∃ a, o = some a ∧ r = (a, t) := by
  unfold M.lift
  cases o with
  | none => simp
  | some a => simp [eq_comm]
theorem chk_some {b : Bool} {t : Tn} {r : Unit × Tn} : M.chk b t = some r ↔ b = true ∧ r = ((), t) := by
  unfold M.chk
  cases b <;> simp [eq_comm]
theorem asI_some {v : PV} {t : Tn} {r : Int × Tn} : asI v t = some r ↔ ∃ i, v = .int i ∧ r = (i, t) := by
  unfold asI
  cases v <;> simp [M.ret, M.fail, eq_comm]
theorem asBl_some {v : PV} {t : Tn} {r : Bool × Tn} : asBl v t = some r ↔ ∃ i, v = .bl i ∧ r = (i, t) := by
  unfold asBl
  cases v <;> simp [M.ret, M.fail, eq_comm]
section
variable {K : PySem.W.Frag} {B : Tab} {H H' H1 : Hp} {A : Option Addr} {t t' : Tn} {fps : Nat → List Addr} {vs vs' : List Nat}
theorem free_kp {p : Addr} (k : Kp A H H') (tk : TinOk A t H') (h : H' p = none) : H p = none := k.free h fun z => by
  subst z
  cases t with
  | none => exact tk
  | some q => obtain ⟨a, b, c⟩ := q; have w : H' p = some _ := tk; rw [h] at w; cases w
theorem fr_new {W : Addr → Prop} {p : Addr} {o : HO} (h : H p = none) : Fr W H (upd H p o) := fun b u e _ => by rw [upd_ne (ne_of_none e h)]; exact e
theorem tin_new {p : Addr} {o : HO} (tk : TinOk A t H) (h : H p = none) : TinOk A t (upd H p o) := by
  cases A with
  | none => cases t with
    | none => trivial
    | some q => exact tk.elim
  | some a => cases t with
    | none => exact tk.elim
    | some q =>
      obtain ⟨x, y, z⟩ := q
      have w : H a = some _ := tk
      show upd H p o a = some _
      rw [upd_ne (ne_of_none w h)]
      exact w
theorem wl0 : Wl (fun _ => False) H := fun _ h => h.elim
theorem Den.new {v : PV} {x : V} {fp : List Addr} {p : Addr} {o : HO} (d : Den K B H A v x fp) (h : H p = none) : Den K B (upd H p o) A v x fp := d.fr (W := fun _ => False) (fr_new h) wl0 (fun _ e => e) fun _ _ z => z
theorem Dens.new {v : List PV} {x : List V} {fp : List Addr} {p : Addr} {o : HO} (d : Dens K B H A v x fp) (h : H p = none) : Dens K B (upd H p o) A v x fp := d.fr (W := fun _ => False) (fr_new h) wl0 (fun _ e => e) fun _ _ z => z
/-- a value without footprint -/
theorem Post.nil {b1 b2 : Bool} {v : PV} {x : V} (k : Kp A H H') (tk : TinOk A t' H') (d : Den K B H' A v x []) : Post K B H H' A t' fps vs b1 b2 v x [] :=
  ⟨k, tk, d, fun _ h => absurd h (by simp), fun _ h => absurd h (by simp), fun _ _ _ h => absurd h (by simp), fun _ _ => ⟨List.nodup_nil, fun _ h => absurd h (by simp)⟩⟩
theorem Post.weak {b1 b2 b1' b2' : Bool} {v : PV} {x : V} {fp : List Addr} (p : Post K B H H' A t' fps vs b1 b2 v x fp) (hv : ∀ i ∈ vs, i ∈ vs') (h1 : b1' = true → b1 = true) (h2 : b2' = true → b2 = true) : Post K B H H' A t' fps vs' b1' b2' v x fp :=
  ⟨p.kp, p.tin, p.den, fun a ha => (p.sub a ha).imp id fun ⟨i, hi, h⟩ => ⟨i, hv i hi, h⟩, p.off, fun h => p.n1 (h1 h), fun h => p.n2 (h2 h)⟩
/-- seen from an earlier heap -/
theorem Post.back {b1 b2 : Bool} {v : PV} {x : V} {fp : List Addr} {t1 : Tn} (k : Kp A H H1) (tk : TinOk A t1 H1) (p : Post K B H1 H' A t' fps vs b1 b2 v x fp) : Post K B H H' A t' fps vs b1 b2 v x fp :=
  ⟨k.trans p.kp, p.tin, p.den, fun a ha => (p.sub a ha).imp (free_kp k tk) id, p.off, fun h e a ha => free_kp k tk (p.n1 h e a ha), fun h e => ⟨(p.n2 h e).1, fun a ha => free_kp k tk ((p.n2 h e).2 a ha)⟩⟩
theorem elems1_fp {v : PV} {x : V} {fp : List Addr} (d : Den K B H A v x fp) (h : elems1 v = true) : ∃ a, x = .ref a ∧ fp = [a] := by
  cases d with
  | lst hH hl ds =>
    have e := ds.fl (by simpa [elems1] using h)
    exact ⟨_, rfl, by rw [e]⟩
  | dct hH ds => exact ⟨_, rfl, rfl⟩
  | _ => simp [elems1] at h
/-- a new list -/
theorem Post.lst {b1 b2 : Bool} {v : List PV} {x : List V} {fp : List Addr} {p : Addr} (q : Posts K B H H1 A t' fps vs v x fp) (hp : H1 p = none) (hl : x.length ≤ sizeLine)
    (h2 : b2 = true → elems2 (.lst v) = true → fp.Nodup ∧ ∀ a ∈ fp, H a = none ∧ a ≠ p) : Post K B H (upd H1 p (.lst x)) A t' fps vs b1 b2 (.lst v) (.ref p) (p :: fp) := by
  have hp0 : H p = none := free_kp q.kp q.tin hp
  refine ⟨q.kp.trans (fr_new hp), tin_new q.tin hp, .lst upd_same hl (q.den.new hp), fun a ha => ?_, fun a ha => ?_, fun _ e a ha => ?_, fun hb e => ?_⟩
  · rcases List.mem_cons.mp ha with rfl | ha
    · exact .inl hp0
    · exact q.sub a ha
  · rcases List.mem_cons.mp ha with rfl | ha
    · exact q.tin.off (fp := [a]) (fun b hb => by simp at hb; rw [hb]; exact hp) a (by simp)
    · exact q.off a ha
  · have ef : fp = [] := q.den.fl (by simpa [elems1] using e)
    subst ef
    simp at ha
    rw [ha]; exact hp0
  · obtain ⟨n, f⟩ := h2 hb e
    refine ⟨List.nodup_cons.mpr ⟨fun h => (f p h).2 rfl, n⟩, fun a ha => ?_⟩
    rcases List.mem_cons.mp ha with rfl | ha
    · exact hp0
    · exact (f a ha).1
/-- a new tuple -/
theorem Post.tup {b1 b2 : Bool} {v : List PV} {x : List V} {fp : List Addr} {p : Addr} (q : Posts K B H H1 A t' fps vs v x fp) (hp : H1 p = none) (hl : x.length ≤ sizeLine) : Post K B H (upd H1 p (.tup x)) A t' fps vs b1 b2 (.tup v) (.ref p) fp :=
  ⟨q.kp.trans (fr_new hp), tin_new q.tin hp, .tup (SqT.of upd_same) hl (q.den.new hp), q.sub, q.off, fun _ e => by simp [elems1] at e, fun _ e => by simp [elems2] at e⟩
theorem Posts.weak {v : List PV} {x : List V} {fp : List Addr} (p : Posts K B H H' A t' fps vs v x fp) (hv : ∀ i ∈ vs, i ∈ vs') : Posts K B H H' A t' fps vs' v x fp :=
  ⟨p.kp, p.tin, p.den, fun a ha => (p.sub a ha).imp id fun ⟨i, hi, h⟩ => ⟨i, hv i hi, h⟩, p.off⟩
theorem big_eq : big = sizeLine := by rw [sizeLine_eq]; rfl
end

/-- to go on with a part of a term -/
theorem tEv.go {K : PySem.W.Frag} {B : Tab} {F : FS} {m : E} {ρ : Slots} {σ : L2.St} {H : Hp} {A : Option Addr} {t t' : Tn} {fps : Nat → List Addr} {v : PV} {Q : VK} (r : RelS K B ρ σ H A fps) (tk : TinOk A t H) (e : evE F m ρ t = some (v, t'))
    (h : ∀ x H' fp, Post K B H H' A t' fps m.vars (nw1 B m) (nw2 B m) v x fp → Q x H') : tEv K B F m σ H Q := ⟨ρ, t, v, t', A, fps, r, tk, e, h⟩
theorem tEvs.go {K : PySem.W.Frag} {B : Tab} {F : FS} {m : Es} {ρ : Slots} {σ : L2.St} {H : Hp} {A : Option Addr} {t t' : Tn} {fps : Nat → List Addr} {v : List PV} {Q : List V → Hp → Prop} (r : RelS K B ρ σ H A fps) (tk : TinOk A t H) (e : evEs F m ρ t = some (v, t'))
    (h : ∀ x H' fp, Posts K B H H' A t' fps m.vars v x fp → Q x H') : tEvs K B F m σ H Q := ⟨ρ, t, v, t', A, fps, r, tk, e, h⟩
/-- two parts, one behind the other: what holds of both at the end -/
structure Post2 (K : PySem.W.Frag) (B : Tab) (H H' : Hp) (A : Option Addr) (t' : Tn) (fps : Nat → List Addr) (va vb : List Nat) (v w : PV) (x y : V) (fp fq : List Addr) : Prop where
  kp : Kp A H H'
  tin : TinOk A t' H'
  den : Den K B H' A v x fp
  den2 : Den K B H' A w y fq
  sub : ∀ a ∈ fp, H a = none ∨ ∃ i ∈ va, a ∈ fps i
  sub2 : ∀ a ∈ fq, H a = none ∨ ∃ i ∈ vb, a ∈ fps i
  off : Off A fp
  off2 : Off A fq
theorem ev2 {K : PySem.W.Frag} {B : Tab} {F : FS} {a b : E} {ρ : Slots} {σ : L2.St} {H : Hp} {A : Option Addr} {t t1 t2 : Tn} {fps : Nat → List Addr} {v w : PV} {R : V → V → Hp → Prop} (r : RelS K B ρ σ H A fps) (tk : TinOk A t H)
    (e1 : evE F a ρ t = some (v, t1)) (e2 : evE F b ρ t1 = some (w, t2))
    (h : ∀ x y H' fp fq, Post2 K B H H' A t2 fps a.vars b.vars v w x y fp fq → R x y H') : tEv K B F a σ H fun x H1 => tEv K B F b σ H1 fun y H2 => R x y H2 :=
  tEv.go r tk e1 fun x H1 fp p => tEv.go (r.kp p.kp tk) p.tin e2 fun y H2 fq q =>
    h x y H2 fp fq ⟨p.kp.trans q.kp, q.tin, p.den.kp q.kp p.tin p.off, q.den, p.sub, fun c hc => (q.sub c hc).imp (free_kp p.kp p.tin) id, p.off, q.off⟩
end G
set_option Elab.async false
set_option linter.all false
set_option maxRecDepth 100000
set_option maxHeartbeats 4000000
/-! S3a: operators, comparisons, subscripts by values -/
namespace G
open PySem PySem.Spec PyProof.Rows L2

section
variable {K : PySem.W.Frag} {B : Tab} {H H' H1 : Hp} {A : Option Addr} {t t' : Tn} {fps : Nat → List Addr} {va vb : List Nat} {v w : PV} {x y : V} {fp fq : List Addr}
theorem Den.tupI {xs : List PV} (d : Den K B H A (.tup xs) x fp) : ∃ a ys, x = .ref a ∧ SqT K H a ys ∧ ys.length ≤ sizeLine ∧ Dens K B H A xs ys fp := by
  cases d with
  | tup h hl d => exact ⟨_, _, rfl, h, hl, d⟩
theorem Den.lstI {xs : List PV} (d : Den K B H A (.lst xs) x fp) : ∃ a ys f, x = .ref a ∧ fp = a :: f ∧ H a = some (.lst ys) ∧ ys.length ≤ sizeLine ∧ Dens K B H A xs ys f := by
  cases d with
  | lst h hl d => exact ⟨_, _, _, rfl, rfl, h, hl, d⟩
theorem Den.intI {i : Int} (d : Den K B H A (.int i) x fp) : x = .int i := by cases d; rfl
theorem Den.blI {i : Bool} (d : Den K B H A (.bl i) x fp) : x = .bl i := by cases d; rfl
theorem Den.dctI {kvs : List (Int × PV)} (d : Den K B H A (.dct kvs) x fp) : ∃ a ys, x = .ref a ∧ fp = [a] ∧ H a = some (.dK ys) ∧ Denk K B H A kvs ys := by
  cases d with
  | dct h d => exact ⟨_, _, rfl, rfl, h, d⟩
theorem Den.scrI {ns : List Int} (d : Den K B H A (.scr ns) x fp) : ∃ a, x = .ref a ∧ SqL K H a (ns.map V.int) ∧ ns.length ≤ sizeLine := by
  cases d with
  | scr h hl => exact ⟨_, rfl, h.sq, hl⟩
theorem Dens.nilV {ys : List V} (d : Dens K B H A [] ys fp) : ys = [] ∧ fp = [] := by cases d; exact ⟨rfl, rfl⟩
theorem Dens.nil_iff {xs : List PV} {ys : List V} (d : Dens K B H A xs ys fp) : ys = [] → xs = [] := fun e => by
  subst e
  cases d
  rfl
theorem Post2.int {i : Int} {b1 b2 : Bool} {vs : List Nat} (p : Post2 K B H H' A t' fps va vb v w x y fp fq) : Post K B H H' A t' fps vs b1 b2 (.int i) (.int i) [] := Post.nil p.kp p.tin (.int i)
theorem Post2.bl {i : Bool} {b1 b2 : Bool} {vs : List Nat} (p : Post2 K B H H' A t' fps va vb v w x y fp fq) : Post K B H H' A t' fps vs b1 b2 (.bl i) (.bl i) [] := Post.nil p.kp p.tin (.bl i)
theorem Post2.fst {b1 b2 : Bool} (p : Post2 K B H H' A t' fps va vb v w x y fp fq) (h1 : elems1 v = false) (h2 : elems2 v = false) : Post K B H H' A t' fps (va ++ vb) b1 b2 v x fp :=
  ⟨p.kp, p.tin, p.den, fun a ha => (p.sub a ha).imp id fun ⟨i, hi, h⟩ => ⟨i, List.mem_append_left _ hi, h⟩, p.off, fun _ e => (by rw [h1] at e; cases e), fun _ e => (by rw [h2] at e; cases e)⟩
theorem Post2.snd {b1 b2 : Bool} (p : Post2 K B H H' A t' fps va vb v w x y fp fq) (h1 : elems1 w = false) (h2 : elems2 w = false) : Post K B H H' A t' fps (va ++ vb) b1 b2 w y fq :=
  ⟨p.kp, p.tin, p.den2, fun a ha => (p.sub2 a ha).imp id fun ⟨i, hi, h⟩ => ⟨i, List.mem_append_right _ hi, h⟩, p.off2, fun _ e => (by rw [h1] at e; cases e), fun _ e => (by rw [h2] at e; cases e)⟩
/-- parts of both, together -/
theorem Post2.posts (p : Post2 K B H H' A t' fps va vb v w x y fp fq) {l : List PV} {m : List V} {f : List Addr} (d : Dens K B H' A l m f) (s : ∀ a ∈ f, a ∈ fp ∨ a ∈ fq) : Posts K B H H' A t' fps (va ++ vb) l m f :=
  ⟨p.kp, p.tin, d, fun a ha => (s a ha).elim (fun h => (p.sub a h).imp id fun ⟨i, hi, h⟩ => ⟨i, List.mem_append_left _ hi, h⟩) fun h => (p.sub2 a h).imp id fun ⟨i, hi, h⟩ => ⟨i, List.mem_append_right _ hi, h⟩,
    fun a ha => (s a ha).elim (p.off a) (p.off2 a)⟩
theorem elems_tup {xs : List PV} : elems1 (.tup xs) = false := rfl
theorem elems2_tup {xs : List PV} : elems2 (.tup xs) = false := rfl
end

/-! ### operators -/
def Yields (K : PySem.W.Frag) (B : Tab) (H H' : Hp) (A : Option Addr) (t' : Tn) (fps : Nat → List Addr) (vs : List Nat) (b1 b2 : Bool) (r : PV) (Q : VK) : Prop := ∀ x H' fp, Post K B H H' A t' fps vs b1 b2 r x fp → Q x H'
def rBin (K : PySem.W.Frag) : Op → R2
  | .add => fun x y H Q => rI0 (fun i j => .int (i + j)) x y H Q ∨ (rCatA K x y H Q ∨ rCat x y H Q)
  | .sub => rI0 fun i j => .int (i - j)
  | .mul => fun x y H Q => rI CMul (fun i j => .int (i * j)) x y H Q ∨ (rRep x y H Q ∨ rRepT K x y H Q)
  | .fdiv => rI CDiv fun i j => .int (i / j)
  | .mod => rI (fun _ j => 0 < j) fun i j => .int (i % j)
  | .pow => rI CPow fun i j => .int (i ^ j.toNat)
theorem opr_bin {X : Cx} {o : Op} {op : Operator} (h : opIs o op = true) : OpR X (binaryOp op) (rBin X.K o) := by
  cases o <;> cases op <;> first | (exact absurd h Bool.false_ne_true) | skip
  · exact op_add.or (op_catA.or op_cat)
  · exact op_sub
  · exact op_mul.or (op_rep.or op_repT)
  · exact op_fdiv
  · exact op_mod
  · exact op_pow
theorem small_mul {i : Int} (h : small64 i = true) : -(2 ^ 64) < i ∧ i < 2 ^ 64 := by
  unfold small64 at h
  simp only [Bool.and_eq_true, decide_eq_true_eq] at h
  omega
theorem dens_rep {K : PySem.W.Frag} {B : Tab} {H : Hp} {A : Option Addr} {xs : List PV} {ys : List V} {fp : List Addr} (d : Dens K B H A xs ys fp) : ∀ k : Nat, ∃ f, Dens K B H A (List.replicate k xs).flatten (List.replicate k ys).flatten f ∧ ∀ a ∈ f, a ∈ fp
  | 0 => ⟨[], .nil, fun _ h => absurd h (by simp)⟩
  | k + 1 => by
    obtain ⟨f, q, s⟩ := dens_rep d k
    refine ⟨fp ++ f, ?_, fun a ha => (List.mem_append.mp ha).elim id (s a)⟩
    rw [List.replicate_succ, List.replicate_succ, List.flatten_cons, List.flatten_cons]
    exact d.append q
theorem flat_len {α : Type} (k : Nat) (xs : List α) : (List.replicate k xs).flatten.length = k * xs.length := by
  induction k with
  | zero => simp
  | succ k ih => rw [List.replicate_succ, List.flatten_cons, List.length_append, ih, Nat.succ_mul]; omega
theorem bin_ok {K : PySem.W.Frag} {B : Tab} {o : Op} {v w r : PV} {x y : V} {H H' : Hp} {A : Option Addr} {t' : Tn} {fps : Nat → List Addr} {va vb : List Nat} {fp fq : List Addr} {Q : VK} (e : binop o v w = some r)
    (p : Post2 K B H H' A t' fps va vb v w x y fp fq) (q : ∀ z H2 f, Post K B H H2 A t' fps (va ++ vb) true false r z f → Q z H2) : rBin K o x y H' Q := by
  cases v with
  | int i =>
    cases w with
    | int j =>
      have ex := p.den.intI
      have ey := p.den2.intI
      cases o with
      | add => simp only [binop, Option.some.injEq] at e; subst e; exact .inl ⟨i, j, ex, ey, q _ _ _ p.int⟩
      | sub => simp only [binop, Option.some.injEq] at e; subst e; exact ⟨i, j, ex, ey, q _ _ _ p.int⟩
      | mul =>
        simp only [binop] at e
        split at e
        · rename_i h
          cases e
          rw [Bool.or_eq_true] at h
          exact .inl ⟨i, j, ex, ey, h.imp small_mul small_mul, q _ _ _ p.int⟩
        · cases e
      | fdiv =>
        simp only [binop] at e
        split at e
        · rename_i h
          cases e
          exact ⟨i, j, ex, ey, h, q _ _ _ p.int⟩
        · cases e
      | mod =>
        simp only [binop] at e
        split at e
        · rename_i h
          cases e
          exact ⟨i, j, ex, ey, h, q _ _ _ p.int⟩
        · cases e
      | pow =>
        simp only [binop] at e
        split at e
        · rename_i h
          cases e
          obtain ⟨h1, h2, h3⟩ := h
          have h4 := small_mul h3
          exact ⟨i, j, ex, ey, ⟨h1, by omega, by omega⟩, q _ _ _ p.int⟩
        · cases e
    | _ => cases o <;> simp [binop] at e
  | tup xs =>
    obtain ⟨a, zs, rfl, hs, hl, ds⟩ := p.den.tupI
    cases w with
    | tup ys =>
      obtain ⟨b, ws, rfl, hs2, hl2, ds2⟩ := p.den2.tupI
      cases o with
      | add =>
        simp only [binop] at e
        split at e
        · rename_i h
          cases e
          have l1 := ds.len
          have l2 := ds2.len
          rw [big_eq] at h
          have hz : zs.length + ws.length ≤ sizeLine := by omega
          refine .inr (.inl ⟨a, b, zs, ws, rfl, rfl, hs, hs2, hz, fun e1 => ?_, fun n1 e2 => ?_, fun n1 n2 pa hp => ?_⟩)
          · have := ds.nil_iff e1
            subst this
            rw [List.nil_append] at q
            exact q _ _ _ (p.snd rfl rfl)
          · have := ds2.nil_iff e2
            subst this
            rw [List.append_nil] at q
            exact q _ _ _ (p.fst rfl rfl)
          · exact q _ _ _ (Post.tup (p.posts (ds.append ds2) fun c hc => List.mem_append.mp hc) hp (by rw [List.length_append]; exact hz))
        · cases e
      | _ => simp [binop] at e
    | int k =>
      have ey := p.den2.intI
      cases o with
      | mul =>
        simp only [binop] at e
        split at e
        · rename_i h
          cases e
          obtain ⟨h1, h2, h3, h4⟩ := h
          obtain ⟨f, df, sf⟩ := dens_rep ds k.toNat
          have l1 := ds.len
          refine .inr (.inr ⟨a, k, zs, rfl, ey, hs, fun z => h3 (ds.nil_iff z), h1, h2, by omega, fun pa hp => ?_⟩)
          refine q _ _ _ (Post.tup (p.posts df fun c hc => .inl (sf c hc)) hp ?_)
          rw [flat_len, sizeLine_eq]
          have h5 : k.toNat ≤ 1000 := by omega
          have h6 : zs.length ≤ 1000 := by omega
          have := Nat.mul_le_mul h5 h6
          omega
        · cases e
      | _ => simp [binop] at e
    | _ => cases o <;> simp [binop] at e
  | lst xs =>
    obtain ⟨a, zs, f1, rfl, rfl, hs, hl, ds⟩ := p.den.lstI
    cases w with
    | lst ys =>
      obtain ⟨b, ws, f2, rfl, rfl, hs2, hl2, ds2⟩ := p.den2.lstI
      cases o with
      | add =>
        simp only [binop] at e
        split at e
        · rename_i h
          cases e
          have l1 := ds.len
          have l2 := ds2.len
          rw [big_eq] at h
          have hz : zs.length + ws.length ≤ sizeLine := by omega
          refine .inr (.inr ⟨a, b, zs, ws, rfl, rfl, hs, hs2, hz, fun pa hp => ?_⟩)
          exact q _ _ _ (Post.lst (p.posts (ds.append ds2) fun c hc => (List.mem_append.mp hc).imp (List.mem_cons_of_mem _) (List.mem_cons_of_mem _)) hp (by rw [List.length_append]; exact hz) fun z => by cases z)
        · cases e
      | _ => simp [binop] at e
    | int k =>
      have ey := p.den2.intI
      cases o with
      | mul =>
        simp only [binop] at e
        split at e
        · rename_i h
          cases e
          obtain ⟨h1, h2, h3⟩ := h
          obtain ⟨f, df, sf⟩ := dens_rep ds k.toNat
          have l1 := ds.len
          rw [big_eq] at h1
          have hz : zs.length * k.toNat ≤ sizeLine := by rw [← l1]; exact h1
          refine .inr (.inl ⟨a, k, zs, rfl, ey, hs, by omega, by omega, hz, fun pa hp => ?_⟩)
          refine q _ _ _ (Post.lst (p.posts df fun c hc => .inl (List.mem_cons_of_mem _ (sf c hc))) hp ?_ fun z => by cases z)
          rw [flat_len, Nat.mul_comm]
          exact hz
        · cases e
      | _ => simp [binop] at e
    | _ => cases o <;> simp [binop] at e
  | _ => cases o <;> simp [binop] at e
end G
namespace G
open PySem PySem.Spec PyProof.Rows L2
/-! ### comparisons -/
theorem lexAt_le : ∀ (ns ms : List Int) (f g : Nat → Int) (k : Nat), (∀ j, f (k + j) = ns.getD j 0) → (∀ j, g (k + j) = ms.getD j 0) →
    Ob.lexAt (fun j => decide (f j = g j)) (fun j => decide (f j ≤ g j)) (decide (ns.length ≤ ms.length)) k (min ns.length ms.length) = lexLeI ns ms
  | [], ms, f, g, k, _, _ => by
    rw [show min ([] : List Int).length ms.length = 0 from Nat.zero_min _, Ob.lexAt_zero, decide_eq_true (show ([] : List Int).length ≤ ms.length from Nat.zero_le _)]
    rfl
  | x :: ns, [], f, g, k, _, _ => by
    rw [show min (x :: ns).length ([] : List Int).length = 0 from Nat.min_zero _, Ob.lexAt_zero, decide_eq_false (show ¬ (x :: ns).length ≤ ([] : List Int).length from Nat.not_succ_le_zero _)]
    rfl
  | x :: ns, y :: ms, f, g, k, hf, hg => by
    have ef : f k = x := hf 0
    have eg : g k = y := hg 0
    have e1 : min (x :: ns).length (y :: ms).length = min ns.length ms.length + 1 := Nat.succ_min_succ _ _
    have e2 : decide ((x :: ns).length ≤ (y :: ms).length) = decide (ns.length ≤ ms.length) := by
      exact decide_eq_decide.mpr Nat.add_le_add_iff_right
    rw [e1, e2, Ob.lexAt_succ, ef, eg, lexAt_le ns ms f g (k + 1) (fun j => by rw [Nat.add_assoc, Nat.add_comm 1 j]; exact hf (j + 1)) (fun j => by rw [Nat.add_assoc, Nat.add_comm 1 j]; exact hg (j + 1))]
    show _ = if x = y then lexLeI ns ms else decide (x ≤ y)
    by_cases h : x = y
    · rw [if_pos h, if_pos (decide_eq_true h)]
    · rw [if_neg h, if_neg (by rw [decide_eq_false h]; exact Bool.false_ne_true)]
theorem op_leT2 {X : Cx} (hu : X.A.units < cLine) : OpR X (compareOp .LtE) (fun x y H Q => ∃ (a b : Addr) (ns ms : List Int), x = .ref a ∧ y = .ref b ∧ SqT X.K H a (ns.map V.int) ∧ SqT X.K H b (ms.map V.int) ∧ Q (.bl (lexLeI ns ms)) H) := by
  intro pins s σ H x y v u Q I rx ry ⟨a, b, ns, ms, ex, ey, ha, hb, q⟩
  refine op_leT hu pins s σ H x y v u Q I rx ry ⟨a, b, ns, ms, ex, ey, ha, hb, ?_⟩
  have e := lexAt_le ns ms (fun j => ns.getD j 0) (fun j => ms.getD j 0) 0 (fun j => by rw [Nat.zero_add]) (fun j => by rw [Nat.zero_add])
  rw [e]
  exact q
theorem op_in_dict {X : Cx} (hu : X.A.units + 1 < cLine) : OpR X (compareOp .In) (fun x y H Q => ∃ (a : Addr) (kvs : List (Key × V)) (k : Key), y = .ref a ∧ H a = some (.dK kvs) ∧ x = kV k ∧ Q (.bl (valV kvs k).isSome) H) := by
  intro pins s σ H x y v u Q I rx ry ⟨a, kvs, k, ey, hH, ex, q⟩
  subst ey ex
  obtain rfl : u = Value.ref a := ry
  exact d_in hu I (DGet.k hH) rx fun s3 I3 => ⟨.bl _, H, I3, rfl, q⟩
theorem op_notin_dict {X : Cx} (hu : X.A.units + 1 < cLine) : OpR X (compareOp .NotIn) (fun x y H Q => ∃ (a : Addr) (kvs : List (Key × V)) (k : Key), y = .ref a ∧ H a = some (.dK kvs) ∧ x = kV k ∧ Q (.bl (!(valV kvs k).isSome)) H) := by
  intro pins s σ H x y v u Q I rx ry ⟨a, kvs, k, ey, hH, ex, q⟩
  subst ey ex
  obtain rfl : u = Value.ref a := ry
  exact d_notIn hu I (DGet.k hH) rx fun s3 I3 => ⟨.bl _, H, I3, rfl, q⟩
theorem subscriptTail_D {prog : Program} {w : World} {A : Around} {E : Value → Shared → Prop} {s : Shared} {value slice : Expr} {o i : Value} {T id : String} {Q : Value → Shared → Prop} (hT : s.TypeIs o T)
    (hl : typeLookup (.type T) "__getitem__" = pure (some (.builtin id))) (hs : subscripted slice false o i = operate [o, i] (getItem o i))
    (h : wpAny (model prog w) A (getItem o i) Q E s) : wpAny (model prog w) A (subscriptTail value slice o i) Q E s := by
  unfold subscriptTail
  refine wpAny_bind ?_
  rw [getitemInPython_of_ne hT.not_modules]
  refine wpAny_bind (wpAny_specialOf hT hl ?_)
  have fin : wpAny (model prog w) A (subscripted slice false o i) (fun r s₃ => wpAny (model prog w) A (letTemporaryGo value o r >>= fun _ => pure r) Q E s₃) E s := by
    rw [hs]
    exact wpAny_operating (wpAny_mono h (fun r s₃ h₃ => wpAny_bind (wpAny_letTemporaryGo (wpAny_pure h₃))) fun _ _ x => x)
  first
    | exact wpAny_pure (wpAny_bind fin)
    | exact wpAny_bind (wpAny_pure (wpAny_bind fin))
    | exact wpAny_bind fin
theorem ix_dict {X : Cx} (hu : X.A.units + 1 < cLine) : IxR X (fun x y H Q => ∃ (a : Addr) (kvs : List (Key × V)) (k : Key) (v : V), x = .ref a ∧ H a = some (.dK kvs) ∧ y = kV k ∧ valV kvs k = some v ∧ Q v H) := by
  intro value slice pins s σ H x y v u Q I rx ry ⟨a, kvs, k, w, ex, hH, ey, hv, q⟩ hs
  subst ex ey
  obtain rfl : v = Value.ref a := rx
  have g : DGet H a (kV k) (some w) := by
    have := DGet.k (k := k) hH
    rw [hv] at this
    exact this
  have hT := dict_typeIs I g
  refine subscriptTail_D hT PySem.F.slot_dict_getitem.lookup hs ?_
  exact thn (d_getItem hu I g ry fun w' s3 I3 rw' => (⟨w, H, I3, rw', q⟩ : EP X pins σ Q w' s3)) fun r s₃ h₃ => h₃
/-- reading the draws' list -/
theorem get_find {K : PySem.W.Frag} {B : Tab} {H : Hp} {A : Option Addr} : ∀ {kvs : List (Int × PV)} {ys : List (Key × V)} {k : Int}, Denk K B H A kvs ys → match dGet kvs k with
    | some v => ∃ x, valV ys (Sum.inl k) = some x ∧ Den K B H A v x []
    | none => valV ys (Sum.inl k) = none
  | _, _, k, .nil => rfl
  | _, _, k, @Denk.cons _ _ _ _ j v x kvs ys h t => by
    have ih := get_find (k := k) t
    unfold dGet valV
    rw [List.find?_cons, List.find?_cons]
    by_cases e : j = k
    · subst e
      rw [decide_eq_true (rfl : j = j), decide_eq_true (rfl : (Sum.inl j : Key) = Sum.inl j)]
      exact ⟨x, rfl, h⟩
    · rw [decide_eq_false e, decide_eq_false (fun z => e (Sum.inl.inj z) : ¬ ((Sum.inl j : Key) = Sum.inl k))]
      exact ih
theorem dput_ok {K : PySem.W.Frag} {B : Tab} {H : Hp} {A : Option Addr} {k : Int} {v : PV} {x : V} (d : Den K B H A v x []) : ∀ {kvs : List (Int × PV)} {ys : List (Key × V)}, Denk K B H A kvs ys →
    (kvs.any fun p => decide (p.1 = k)) = (ys.any fun p => decide (p.1 = Sum.inl k)) ∧ Denk K B H A (kvs.map fun p => if p.1 = k then (p.1, v) else p) (ys.map fun p => if p.1 = Sum.inl k then (p.1, x) else p) ∧ Denk K B H A (kvs ++ [(k, v)]) (ys ++ [(Sum.inl k, x)])
  | _, _, .nil => ⟨rfl, .nil, .cons d .nil⟩
  | _, _, @Denk.cons _ _ _ _ j w y kvs ys h t => by
    obtain ⟨h1, h2, h3⟩ := dput_ok d t
    refine ⟨?_, ?_, .cons h h3⟩
    · rw [List.any_cons, List.any_cons, h1]
      congr 1
      exact decide_eq_decide.mpr ⟨fun e => congrArg Sum.inl e, fun e => Sum.inl.inj e⟩
    · rw [List.map_cons, List.map_cons]
      by_cases e : j = k
      · subst e
        rw [if_pos rfl, if_pos rfl]
        exact .cons d h2
      · rw [if_neg e, if_neg (fun z => e (Sum.inl.inj z))]
        exact .cons h h2
theorem dPut_ok {K : PySem.W.Frag} {B : Tab} {H : Hp} {A : Option Addr} {k : Int} {v : PV} {x : V} (d : Den K B H A v x []) {kvs : List (Int × PV)} {ys : List (Key × V)} (h : Denk K B H A kvs ys) : Denk K B H A (dPut k v kvs) (putK ys (Sum.inl k) x) := by
  obtain ⟨h1, h2, h3⟩ := dput_ok (k := k) d h
  unfold dPut putK
  rw [h1]
  split
  · exact h2
  · exact h3
theorem Denk.len {K : PySem.W.Frag} {B : Tab} {H : Hp} {A : Option Addr} : ∀ {kvs : List (Int × PV)} {ys : List (Key × V)}, Denk K B H A kvs ys → kvs.length = ys.length
  | _, _, .nil => rfl
  | _, _, .cons _ t => congrArg (· + 1) t.len

/-- plain scalars -/
theorem shal0_flat {K : PySem.W.Frag} {B : Tab} {H : Hp} {A : Option Addr} {v : PV} {x : V} {fp : List Addr} (d : Den K B H A v x fp) (h : shal 0 v = true) : flatV x = true := by
  cases d with
  | non => rfl
  | bl b => rfl
  | int i => rfl
  | _ => simp [shal] at h
theorem shal0_eq {K : PySem.W.Frag} {B : Tab} {H : Hp} {A : Option Addr} {v w : PV} {x y : V} {fp fq : List Addr} (d : Den K B H A v x fp) (d2 : Den K B H A w y fq) (h : shal 0 v = true) (h2 : shal 0 w = true) : eqV x y = eqv v w := by
  cases d with
  | non => cases d2 <;> first | rfl | (simp [shal] at h2) | (simp [eqv, PV.toD, PyData.eqv, eqV])
  | bl b => cases d2 <;> first | rfl | (simp [shal] at h2) | (simp [eqv, PV.toD, PyData.eqv, eqV])
  | int i => cases d2 <;> first | rfl | (simp [shal] at h2) | (simp [eqv, PV.toD, PyData.eqv, eqV])
  | _ => simp [shal] at h
theorem shal0_all {K : PySem.W.Frag} {B : Tab} {H : Hp} {A : Option Addr} {w : PV} {y : V} {fq : List Addr} (d2 : Den K B H A w y fq) (h2 : shal 0 w = true) : ∀ {xs : List PV} {ys : List V} {fp : List Addr}, Dens K B H A xs ys fp → xs.all (shal 0) = true → ys.all flatV = true ∧ inV y ys = (xs.any fun z => eqv z w)
  | _, _, _, .nil, _ => ⟨rfl, rfl⟩
  | _, _, _, .cons h t, q => by
    rw [List.all_cons, Bool.and_eq_true] at q
    obtain ⟨a, b⟩ := shal0_all d2 h2 t q.2
    unfold inV at b ⊢
    rw [List.all_cons, List.any_cons, List.any_cons, a, b, shal0_flat h q.1, shal0_eq h d2 q.1 h2]
    exact ⟨rfl, rfl⟩

def rCm (K : PySem.W.Frag) : Cm → R2
  | .eq => rEqD K
  | .ne => rNeD K
  | .lt => fun x y H Q => rI0 (fun i j => .bl (decide (i < j))) x y H Q ∨ rLtT K x y H Q
  | .le => fun x y H Q => rI0 (fun i j => .bl (decide (i ≤ j))) x y H Q ∨ ∃ (a b : Addr) (ns ms : List Int), x = .ref a ∧ y = .ref b ∧ SqT K H a (ns.map V.int) ∧ SqT K H b (ms.map V.int) ∧ Q (.bl (lexLeI ns ms)) H
  | .gt => rI0 fun i j => .bl (decide (j < i))
  | .ge => rI0 fun i j => .bl (decide (j ≤ i))
  | .isin => fun x y H Q => rInD K x y H Q ∨ (rIn K false x y H Q ∨ ∃ (a : Addr) (kvs : List (Key × V)) (k : Key), y = .ref a ∧ H a = some (.dK kvs) ∧ x = kV k ∧ Q (.bl (valV kvs k).isSome) H)
  | .notin => fun x y H Q => rNotInD K x y H Q ∨ (rIn K true x y H Q ∨ ∃ (a : Addr) (kvs : List (Key × V)) (k : Key), y = .ref a ∧ H a = some (.dK kvs) ∧ x = kV k ∧ Q (.bl (!(valV kvs k).isSome)) H)
  | .isN => fun x y H Q => y = .non ∧ Q (.bl (decide (x = .non))) H
  | .notN => fun x y H Q => y = .non ∧ Q (.bl (!decide (x = .non))) H
theorem opr_cm {X : Cx} (hr : Room 0 X.A) {c : Cm} {op : CmpOp} (h : cmIs c op = true) : OpR X (compareOp op) (rCm X.K c) := by
  have u0 := hr.un
  cases c <;> cases op <;> first | (exact absurd h Bool.false_ne_true) | skip
  · exact op_eqD (by omega)
  · exact op_neD (by omega)
  · exact op_lt.or (op_ltT (by omega))
  · exact op_le.or (op_leT2 (by omega))
  · exact op_gt
  · exact op_ge
  · exact (op_inD (by omega)).or (op_in_seq.or (op_in_dict (by omega)))
  · exact (op_notInD (by omega)).or (op_notIn_seq.or (op_notin_dict (by omega)))
  · exact op_isN
  · exact op_notN
theorem eqvAny (xs : List PV) (a : PV) : ((PV.toDs xs).any fun z => PyData.eqv z a.toD) = xs.any fun z => eqv z a := by
  rw [toDs_map, List.any_map]
  rfl
section
variable {K : PySem.W.Frag} {B : Tab} {v w : PV} {r : Bool} {x y : V} {H H' : Hp} {A : Option Addr} {t' : Tn} {fps : Nat → List Addr} {va vb : List Nat} {fp fq : List Addr} {Q : VK}
theorem eqop_shal (e : eqop v w = some r) : shal 20 v = true ∧ shal 20 w = true ∧ r = eqv v w := by
  unfold eqop at e
  split at e
  · split at e
    · simp only [Option.some.injEq] at e
      refine ⟨rfl, rfl, ?_⟩
      rw [← e]
      simp [eqv, PV.toD, PyData.eqv, Bool.beq_eq_decide_eq]
    · split at e
      · rename_i h
        cases e
        exact ⟨rfl, h, rfl⟩
      · cases e
  · split at e
    · rename_i h
      rw [Bool.and_eq_true] at h
      cases e
      exact ⟨h.1, h.2, rfl⟩
    · cases e
theorem in_ok (neg : Bool) (e : inop v w = some r) (p : Post2 K B H H' A t' fps va vb v w x y fp fq) (q : Q (.bl (if neg = true then !r else r)) H') : rCm K (if neg = true then .notin else .isin) x y H' Q := by
  unfold inop at e
  split at e
  · rename_i kvs
    split at e
    · rename_i i
      simp only [Option.some.injEq] at e
      obtain ⟨a, ys, rfl, _, hH, dk⟩ := p.den2.dctI
      have g := get_find (k := i) dk
      have e2 : (valV ys (Sum.inl i)).isSome = r := by
        rw [← e]
        cases z : dGet kvs i with
        | none => rw [z] at g; rw [g]; rfl
        | some v' => rw [z] at g; obtain ⟨x', g1, _⟩ := g; rw [g1]; rfl
      cases neg with
      | true => exact .inr (.inr ⟨a, ys, .inl i, rfl, hH, p.den.intI, by rw [e2]; exact q⟩)
      | false => exact .inr (.inr ⟨a, ys, .inl i, rfl, hH, p.den.intI, by rw [e2]; exact q⟩)
    · cases e
  · rename_i xs
    split at e
    · rename_i h
      rw [Bool.and_eq_true] at h
      simp only [Option.some.injEq] at e
      obtain ⟨a, ys, rfl, hs, hl, ds⟩ := p.den2.tupI
      obtain ⟨g1, g2⟩ := shal0_all p.den h.1 ds h.2
      rw [e] at g2
      cases neg with
      | true => exact .inr (.inl ⟨a, ys, rfl, .inr hs, shal0_flat p.den h.1, g1, by rw [g2]; exact q⟩)
      | false => exact .inr (.inl ⟨a, ys, rfl, .inr hs, shal0_flat p.den h.1, g1, by rw [g2]; exact q⟩)
    · cases e
  · rename_i xs
    split at e
    · rename_i h
      rw [Bool.and_eq_true] at h
      simp only [Option.some.injEq] at e
      have dy := p.den2.dp h.2
      simp only [PV.toD] at dy
      have sh := shal_shaped h.2
      simp only [PV.toD] at sh
      have g := eqvAny xs v
      rw [e] at g
      cases neg with
      | true => exact .inl ⟨v.toD, PV.toDs xs, p.den.dp h.1, dy, shal_shaped h.1, sh, by rw [g]; exact q⟩
      | false => exact .inl ⟨v.toD, PV.toDs xs, p.den.dp h.1, dy, shal_shaped h.1, sh, by rw [g]; exact q⟩
    · cases e
  · cases e
theorem den_non (d : Den K B H A v x fp) : (x = .non) ↔ v = .non := by
  constructor
  · intro e; subst e; cases d; rfl
  · intro e; subst e; cases d; rfl
theorem isN_ok (e : isNop v w = some r) (p : Post2 K B H H' A t' fps va vb v w x y fp fq) : y = .non ∧ decide (x = .non) = r := by
  unfold isNop at e
  split at e
  · have ey : y = .non := by have := p.den2; cases this; rfl
    refine ⟨ey, ?_⟩
    split at e
    · cases e
      exact decide_eq_true ((den_non p.den).mpr rfl)
    · rename_i h
      cases e
      exact decide_eq_false fun z => h ((den_non p.den).mp z)
  · cases e
theorem ints2 {xs ys : List PV} {ns ms : List Int} (h1 : asInts xs = some ns) (h2 : asInts ys = some ms) (p : Post2 K B H H' A t' fps va vb (.tup xs) (.tup ys) x y fp fq) : ∃ a b, x = .ref a ∧ y = .ref b ∧ SqT K H' a (ns.map V.int) ∧ SqT K H' b (ms.map V.int) := by
  have e1 := asInts_eq h1
  have e2 := asInts_eq h2
  subst e1 e2
  obtain ⟨a, zs, rfl, hs, _, ds⟩ := p.den.tupI
  obtain ⟨b, ws, rfl, hs2, _, ds2⟩ := p.den2.tupI
  rw [ds.ints.1] at hs
  rw [ds2.ints.1] at hs2
  exact ⟨a, b, rfl, rfl, hs, hs2⟩
theorem cm_ok {c : Cm} (e : cmpop c v w = some r) (p : Post2 K B H H' A t' fps va vb v w x y fp fq) (q : Q (.bl r) H') : rCm K c x y H' Q := by
  cases c with
  | eq =>
    obtain ⟨h1, h2, h3⟩ := eqop_shal e
    exact ⟨v.toD, w.toD, p.den.dp h1, p.den2.dp h2, shal_shaped h1, shal_shaped h2, by rw [h3] at q; exact q⟩
  | ne =>
    obtain ⟨r', e', rfl⟩ := Option.map_eq_some_iff.mp (show (eqop v w).map not = some r from e)
    obtain ⟨h1, h2, h3⟩ := eqop_shal e'
    exact ⟨v.toD, w.toD, p.den.dp h1, p.den2.dp h2, shal_shaped h1, shal_shaped h2, by rw [h3] at q; exact q⟩
  | lt =>
    have e : ltop v w = some r := e
    unfold ltop at e
    split at e
    · simp only [Option.some.injEq] at e
      exact .inl ⟨_, _, p.den.intI, p.den2.intI, by subst e; exact q⟩
    · obtain ⟨ns, e1, e⟩ := Option.bind_eq_some_iff.mp e
      obtain ⟨ms, e2, e⟩ := Option.map_eq_some_iff.mp e
      obtain ⟨a, b, ex, ey, h1, h2⟩ := ints2 e1 e2 p
      exact .inr ⟨a, b, ns, ms, ex, ey, h1, h2, by rw [e]; exact q⟩
    · cases e
  | le =>
    have e : leop v w = some r := e
    unfold leop at e
    split at e
    · simp only [Option.some.injEq] at e
      exact .inl ⟨_, _, p.den.intI, p.den2.intI, by subst e; exact q⟩
    · obtain ⟨ns, e1, e⟩ := Option.bind_eq_some_iff.mp e
      obtain ⟨ms, e2, e⟩ := Option.map_eq_some_iff.mp e
      obtain ⟨a, b, ex, ey, h1, h2⟩ := ints2 e1 e2 p
      exact .inr ⟨a, b, ns, ms, ex, ey, h1, h2, by rw [e]; exact q⟩
    · cases e
  | gt =>
    have e : gtop v w = some r := e
    unfold gtop at e
    split at e
    · simp only [Option.some.injEq] at e
      exact ⟨_, _, p.den.intI, p.den2.intI, by subst e; exact q⟩
    · cases e
  | ge =>
    have e : geop v w = some r := e
    unfold geop at e
    split at e
    · simp only [Option.some.injEq] at e
      exact ⟨_, _, p.den.intI, p.den2.intI, by subst e; exact q⟩
    · cases e
  | isin => exact in_ok false e p q
  | notin =>
    obtain ⟨r', e', rfl⟩ := Option.map_eq_some_iff.mp (show (inop v w).map not = some r from e)
    exact in_ok true e' p q
  | isN =>
    obtain ⟨h1, h2⟩ := isN_ok e p
    exact ⟨h1, by rw [h2]; exact q⟩
  | notN =>
    obtain ⟨r', e', rfl⟩ := Option.map_eq_some_iff.mp (show (isNop v w).map not = some r from e)
    obtain ⟨h1, h2⟩ := isN_ok e' p
    exact ⟨h1, by rw [h2]; exact q⟩
end
end G
set_option Elab.async false
set_option linter.all false
set_option maxRecDepth 100000
set_option maxHeartbeats 4000000
/-! S3b: subscripts, slices, built-in calls by values -/
namespace G
open PySem PySem.Spec PyProof.Rows L2

section
variable {K : PySem.W.Frag} {B : Tab} {v w : PV} {x y : V} {H H' : Hp} {A : Option Addr} {t t' : Tn} {fps : Nat → List Addr} {va vb vs : List Nat} {fp fq : List Addr} {Q : VK}
theorem Dens.at {xs : List PV} {ys : List V} (d : Dens K B H A xs ys fp) {i : Int} {p : PV} (h : atI xs i = some p) : ∃ z f, atI ys i = some z ∧ Den K B H A p z f ∧ ∀ a ∈ f, a ∈ fp := by
  unfold atI at h ⊢
  rw [← d.len]
  obtain ⟨j, e1, e2⟩ := Option.bind_eq_some_iff.mp h
  obtain ⟨z, f, e3, d3, s⟩ := d.get e2
  exact ⟨z, f, by rw [e1]; exact e3, d3, s⟩
/-- a part of what is there -/
theorem Post2.part {b1 b2 : Bool} {p : PV} {z : V} {f : List Addr} (q : Post2 K B H H' A t' fps va vb v w x y fp fq) (d : Den K B H' A p z f) (s : ∀ a ∈ f, a ∈ fp) (h1 : b1 = false) (h2 : b2 = false) : Post K B H H' A t' fps (va ++ vb) b1 b2 p z f :=
  ⟨q.kp, q.tin, d, fun a ha => (q.sub a (s a ha)).imp id fun ⟨i, hi, h⟩ => ⟨i, List.mem_append_left _ hi, h⟩, fun a ha => q.off a (s a ha), fun e => (by rw [h1] at e; cases e), fun e => (by rw [h2] at e; cases e)⟩
end

/-! ### a[b] -/
def rIdx (K : PySem.W.Frag) : R2 := fun x y H Q => rIxL K x y H Q ∨ (rIxT K x y H Q ∨ ∃ (a : Addr) (kvs : List (Key × V)) (k : Key) (v : V), x = .ref a ∧ H a = some (.dK kvs) ∧ y = kV k ∧ valV kvs k = some v ∧ Q v H)
theorem ixr {X : Cx} (hr : Room 0 X.A) : IxR X (rIdx X.K) := ix_list.or (ix_tup.or (ix_dict (by have := hr.un; omega)))
section
variable {K : PySem.W.Frag} {B : Tab} {v w : PV} {x y : V} {H H' : Hp} {A : Option Addr} {t t' t2 : Tn} {fps : Nat → List Addr} {va vb vs : List Nat} {fp fq : List Addr} {Q : VK}
theorem idx_ok {r : PV} (e : idxop v w t' = some (r, t2)) (p : Post2 K B H H' A t' fps va vb v w x y fp fq) (q : ∀ z H2 f, Post K B H H2 A t2 fps (va ++ vb) false false r z f → Q z H2) : rIdx K x y H' Q := by
  unfold idxop at e
  cases hb : asIo w with
  | none => rw [hb] at e; cases e
  | some i =>
    rw [hb] at e
    have ew : w = .int i := by
      cases w <;> simp [asIo] at hb
      rw [hb]
    subst ew
    cases v with
    | tup xs =>
      obtain ⟨p1, e1, e2⟩ := lift_some.mp e
      cases e2
      obtain ⟨a, ys, rfl, hs, hl, ds⟩ := p.den.tupI
      obtain ⟨z, f, e3, dz, s⟩ := ds.at e1
      exact .inr (.inl ⟨a, ys, i, z, rfl, p.den2.intI, hs, e3, q _ _ _ (p.part dz s rfl rfl)⟩)
    | lst xs =>
      obtain ⟨p1, e1, e2⟩ := lift_some.mp e
      cases e2
      obtain ⟨a, ys, f0, rfl, rfl, hs, hl, ds⟩ := p.den.lstI
      obtain ⟨z, f, e3, dz, s⟩ := ds.at e1
      exact .inl ⟨a, ys, i, z, rfl, p.den2.intI, SqL.of hs, e3, q _ _ _ (p.part dz (fun c hc => List.mem_cons_of_mem _ (s c hc)) rfl rfl)⟩
    | dct kvs =>
      obtain ⟨p1, e1, e2⟩ := lift_some.mp e
      cases e2
      obtain ⟨a, ys, rfl, _, hs, dk⟩ := p.den.dctI
      have g := get_find (k := i) dk
      rw [e1] at g
      obtain ⟨z, g1, g2⟩ := g
      exact .inr (.inr ⟨a, ys, .inl i, z, rfl, hs, p.den2.intI, g1, q _ _ _ (p.part g2 (fun c hc => absurd hc (by simp)) rfl rfl)⟩)
    | tin =>
      obtain ⟨a, rfl, eA⟩ : ∃ a, x = .ref a ∧ A = some a := by
        have := p.den
        cases this with
        | tin h => exact ⟨_, rfl, h⟩
      subst eA
      cases t' with
      | none => exact p.tin.elim
      | some tt =>
        obtain ⟨i0, i1, i2⟩ := tt
        have hT : H' a = some (.lst [.int i0, .int i1, .int i2]) := p.tin
        simp only at e
        have fin : ∀ (k : Int) (j : Nat), i = (j : Int) → ([V.int i0, V.int i1, V.int i2])[j]? = some (.int k) → r = .int k → t2 = some (i0, i1, i2) → rIdx K (.ref a) y H' Q := fun k j ei ek er et => by
          subst er et ei
          exact .inl ⟨a, _, _, _, rfl, p.den2.intI, SqL.of hT, atI_nat ek, q _ _ _ (Post.nil p.kp p.tin (.int k))⟩
        split at e
        · cases e; exact fin i0 0 (by assumption) rfl rfl rfl
        · split at e
          · cases e; exact fin i1 1 (by assumption) rfl rfl rfl
          · split at e
            · cases e; exact fin i2 2 (by assumption) rfl rfl rfl
            · cases e
    | _ => cases e

/-! ### slices -/
theorem Dens.take {xs : List PV} {ys : List V} (d : Dens K B H A xs ys fp) (n : Nat) : ∃ f, Dens K B H A (xs.take n) (ys.take n) f ∧ ∀ a ∈ f, a ∈ fp := by
  induction n generalizing xs ys fp with
  | zero => exact ⟨[], .nil, fun _ h => absurd h (by simp)⟩
  | succ n ih =>
    cases d with
    | nil => exact ⟨[], .nil, fun _ h => absurd h (by simp)⟩
    | cons h t =>
      obtain ⟨f, q, s⟩ := ih t
      exact ⟨_, .cons h q, fun a ha => (List.mem_append.mp ha).elim (List.mem_append_left _) fun z => List.mem_append_right _ (s a z)⟩
theorem Dens.drop {xs : List PV} {ys : List V} (d : Dens K B H A xs ys fp) (n : Nat) : ∃ f, Dens K B H A (xs.drop n) (ys.drop n) f ∧ ∀ a ∈ f, a ∈ fp := by
  induction n generalizing xs ys fp with
  | zero => exact ⟨fp, d, fun _ h => h⟩
  | succ n ih =>
    cases d with
    | nil => exact ⟨[], .nil, fun _ h => absurd h (by simp)⟩
    | cons h t =>
      obtain ⟨f, q, s⟩ := ih t
      exact ⟨f, q, fun a ha => List.mem_append_right _ (s a ha)⟩
theorem Dens.cut {xs : List PV} {ys : List V} (d : Dens K B H A xs ys fp) (lo hi : Option Int) : ∃ f, Dens K B H A (G.cut xs lo hi) (cutV ys lo hi) f ∧ ∀ a ∈ f, a ∈ fp := by
  unfold G.cut cutV
  rw [d.len]
  obtain ⟨f, q, s⟩ := d.drop (HT.sIx ys.length 0 lo)
  obtain ⟨g, q2, s2⟩ := q.take (HT.sIx ys.length ys.length hi - HT.sIx ys.length 0 lo)
  exact ⟨g, q2, fun a ha => s a (s2 a ha)⟩
theorem Dens.reverse {xs : List PV} {ys : List V} (d : Dens K B H A xs ys fp) : ∃ f, Dens K B H A xs.reverse ys.reverse f ∧ ∀ a ∈ f, a ∈ fp := by
  induction xs generalizing ys fp with
  | nil => cases d; exact ⟨[], .nil, fun _ h => h⟩
  | cons x xs ih =>
    cases d with
    | cons h t =>
      obtain ⟨f, q, s⟩ := ih t
      rw [List.reverse_cons, List.reverse_cons]
      exact ⟨_, q.append (.one h), fun a ha => (List.mem_append.mp ha).elim (fun z => List.mem_append_right _ (s a z)) (List.mem_append_left _)⟩
/-- a whole slice of a tuple is the tuple itself -/
theorem cut_whole {xs : List PV} {lo hi : Option Int} (h1 : HT.sIx xs.length 0 lo = 0) (h2 : HT.sIx xs.length xs.length hi = xs.length) : G.cut xs lo hi = xs := by
  unfold G.cut
  rw [h1, h2, List.drop_zero, Nat.sub_zero, List.take_length]
/-- what holds of a list of parts made of one value -/
structure PostM (K : PySem.W.Frag) (B : Tab) (H H' : Hp) (A : Option Addr) (t' : Tn) (fps : Nat → List Addr) (va : List Nat) (v : PV) (x : V) (fp : List Addr) : Prop where
  kp : Kp A H H'
  tin : TinOk A t' H'
  den : Den K B H' A v x fp
  sub : ∀ a ∈ fp, H a = none ∨ ∃ i ∈ va, a ∈ fps i
  off : Off A fp
theorem Post.m {b1 b2 : Bool} (p : Post K B H H' A t' fps va b1 b2 v x fp) : PostM K B H H' A t' fps va v x fp := ⟨p.kp, p.tin, p.den, p.sub, p.off⟩
theorem PostM.posts (p : PostM K B H H' A t' fps va v x fp) {l : List PV} {m : List V} {f : List Addr} (d : Dens K B H' A l m f) (s : ∀ a ∈ f, a ∈ fp) : Posts K B H H' A t' fps va l m f :=
  ⟨p.kp, p.tin, d, fun a ha => p.sub a (s a ha), fun a ha => p.off a (s a ha)⟩
theorem PostM.weak (p : PostM K B H H' A t' fps va v x fp) (h : ∀ i ∈ va, i ∈ vb) : PostM K B H H' A t' fps vb v x fp := ⟨p.kp, p.tin, p.den, fun a ha => (p.sub a ha).imp id fun ⟨i, hi, z⟩ => ⟨i, h i hi, z⟩, p.off⟩
theorem PostM.back {t1 : Tn} {H1 : Hp} (k : Kp A H H1) (tk : TinOk A t1 H1) (p : PostM K B H1 H' A t' fps va v x fp) : PostM K B H H' A t' fps va v x fp :=
  ⟨k.trans p.kp, p.tin, p.den, fun a ha => (p.sub a ha).imp (free_kp k tk) id, p.off⟩
/-- the value further on -/
theorem PostM.on {t1 : Tn} {H1 : Hp} (p : PostM K B H H1 A t1 fps va v x fp) (k : Kp A H1 H') (tk : TinOk A t' H') : PostM K B H H' A t' fps va v x fp :=
  ⟨p.kp.trans k, tk, p.den.kp k p.tin p.off, p.sub, p.off⟩
def rSl (K : PySem.W.Frag) : V → Option Int → Option Int → Hp → VK → Prop := fun x lo hi H Q => rSlA K x lo hi H Q ∨ rSlL K x lo hi H Q
theorem slr {X : Cx} : SlR X (rSl X.K) := sl_tupA.or sl_list
theorem sl_ok {r : PV} {lo hi : Option Int} (e : slop v lo hi = some r) (p : PostM K B H H' A t' fps vs v x fp) (q : ∀ z H2 f, Post K B H H2 A t' fps vs true false r z f → Q z H2) : rSl K x lo hi H' Q := by
  unfold slop at e
  split at e
  · rename_i xs
    cases e
    obtain ⟨a, ys, rfl, hs, hl, ds⟩ := p.den.tupI
    refine .inl ⟨a, ys, rfl, hs, fun hw => ?_, fun _ pa hp => ?_⟩
    · rw [← ds.len] at hw
      rw [cut_whole hw.1 hw.2] at q
      exact q _ _ _ ⟨p.kp, p.tin, p.den, p.sub, p.off, fun _ z => (by cases z), fun z => by cases z⟩
    · obtain ⟨f, d, s⟩ := ds.cut lo hi
      exact q _ _ _ (Post.tup (p.posts d s) hp (Nat.le_trans (cutV_length ys lo hi) hl))
  · rename_i xs
    cases e
    obtain ⟨a, ys, f0, rfl, rfl, hs, hl, ds⟩ := p.den.lstI
    obtain ⟨f, d, s⟩ := ds.cut lo hi
    exact .inr ⟨a, ys, rfl, SqL.of hs, fun pa hp => q _ _ _ (Post.lst (p.posts d fun c hc => List.mem_cons_of_mem _ (s c hc)) hp (Nat.le_trans (cutV_length ys lo hi) hl) fun z => by cases z)⟩
  · rename_i ns
    cases e
    obtain ⟨a, rfl, hs, hl⟩ := p.den.scrI
    obtain ⟨f, d, s⟩ := (dens_ints (K := K) (B := B) H' A ns).cut lo hi
    refine .inr ⟨a, ns.map V.int, rfl, hs, fun pa hp => q _ _ _ (Post.lst (p.posts d fun c hc => absurd (s c hc) (by simp)) hp (Nat.le_trans (cutV_length _ lo hi) (by rw [List.length_map]; exact hl)) fun z => by cases z)⟩
  · cases e
end

/-! ### sorted, least, greatest -/
theorem perm_sorted {α : Type} {r : α → α → Prop} (anti : ∀ a b, r a b → r b a → a = b) : ∀ {l m : List α}, l.Perm m → l.Pairwise r → m.Pairwise r → l = m
  | [], m, p, _, _ => p.nil_eq
  | x :: l, m, p, hl, hm => by
    cases m with
    | nil => exact absurd p.length_eq (by simp)
    | cons y m =>
      have e : x = y := by
        rcases List.mem_cons.mp (p.mem_iff.mp (List.mem_cons_self (a := x) (l := l))) with e | hx
        · exact e
        · rcases List.mem_cons.mp (p.mem_iff.mpr (List.mem_cons_self (a := y) (l := m))) with e | hy
          · exact e.symm
          · exact anti x y ((List.pairwise_cons.mp hl).1 y hy) ((List.pairwise_cons.mp hm).1 x hx)
      subst e
      rw [perm_sorted anti p.cons_inv (List.pairwise_cons.mp hl).2 (List.pairwise_cons.mp hm).2]
theorem insI_perm (a : Int) : ∀ l : List Int, (insI a l).Perm (a :: l)
  | [] => .refl _
  | b :: r => by
    unfold insI
    split
    · exact .refl _
    · exact ((insI_perm a r).cons b).trans (.swap a b r)
theorem sortI_perm : ∀ l : List Int, (sortI l).Perm l
  | [] => .refl _
  | a :: r => (insI_perm a (sortI r)).trans ((sortI_perm r).cons a)
theorem insI_sorted {a : Int} : ∀ {l : List Int}, l.Pairwise (· ≤ ·) → (insI a l).Pairwise (· ≤ ·)
  | [], _ => List.pairwise_singleton _ _
  | b :: r, h => by
    unfold insI
    obtain ⟨h1, h2⟩ := List.pairwise_cons.mp h
    split
    · rename_i hab
      exact List.pairwise_cons.mpr ⟨fun x hx => by
        rcases List.mem_cons.mp hx with rfl | hx
        · exact hab
        · exact Int.le_trans hab (h1 x hx), h⟩
    · rename_i hab
      refine List.pairwise_cons.mpr ⟨fun x hx => ?_, insI_sorted h2⟩
      rcases List.mem_cons.mp ((insI_perm a r).mem_iff.mp hx) with rfl | hx
      · omega
      · exact h1 x hx
theorem sortI_sorted : ∀ l : List Int, (sortI l).Pairwise (· ≤ ·)
  | [] => .nil
  | a :: r => insI_sorted (sortI_sorted r)
theorem sortI_uniq {l m : List Int} (p : l.Perm m) (h : l.Pairwise (· ≤ ·)) : l = sortI m :=
  perm_sorted (fun _ _ h1 h2 => Int.le_antisymm h1 h2) (p.trans (sortI_perm m).symm) h (sortI_sorted m)
/-- tuples of ints -/
def leT (a b : List Int) : Prop := HT.lexLt b a = false
theorem lex_irr : ∀ a : List Int, HT.lexLt a a = false
  | [] => rfl
  | x :: r => by rw [HT.lexLt_cons, if_pos rfl]; exact lex_irr r
theorem lex_tot : ∀ a b : List Int, HT.lexLt a b = false → HT.lexLt b a = false → a = b
  | [], [], _, _ => rfl
  | [], y :: s, h, _ => by cases h
  | x :: r, [], _, h => by cases h
  | x :: r, y :: s, h1, h2 => by
    rw [HT.lexLt_cons] at h1 h2
    by_cases e : x = y
    · subst e
      rw [if_pos rfl] at h1 h2
      rw [lex_tot r s h1 h2]
    · rw [if_neg e] at h1
      rw [if_neg (Ne.symm e)] at h2
      have a1 := of_decide_eq_false h1
      have a2 := of_decide_eq_false h2
      omega
theorem lex_asym : ∀ a b : List Int, HT.lexLt a b = true → HT.lexLt b a = false
  | [], [], h => by cases h
  | [], y :: s, _ => rfl
  | x :: r, [], h => by cases h
  | x :: r, y :: s, h => by
    rw [HT.lexLt_cons] at h ⊢
    by_cases e : x = y
    · subst e
      rw [if_pos rfl] at h ⊢
      exact lex_asym r s h
    · rw [if_neg e] at h
      rw [if_neg (Ne.symm e)]
      have a1 := of_decide_eq_true h
      exact decide_eq_false (by omega)
/-- not before, carried on -/
theorem lex_tr : ∀ a b c : List Int, HT.lexLt b a = false → HT.lexLt c b = false → HT.lexLt c a = false
  | [], _, [], _, _ => rfl
  | [], [], z :: t, _, _ => rfl
  | [], y :: s, z :: t, _, _ => rfl
  | x :: r, [], _, h, _ => by cases h
  | x :: r, y :: s, [], _, h => by cases h
  | x :: r, y :: s, z :: t, h1, h2 => by
    rw [HT.lexLt_cons] at h1 h2 ⊢
    by_cases e : y = x
    · subst e
      rw [if_pos rfl] at h1
      by_cases e2 : z = y
      · subst e2
        rw [if_pos rfl] at h2 ⊢
        exact lex_tr r s t h1 h2
      · rw [if_neg e2] at h2 ⊢
        exact h2
    · rw [if_neg e] at h1
      have a1 := of_decide_eq_false h1
      by_cases e2 : z = y
      · subst e2
        rw [if_neg e]
        exact h1
      · rw [if_neg e2] at h2
        have a2 := of_decide_eq_false h2
        rw [if_neg (by omega)]
        exact decide_eq_false (by omega)
theorem insT_perm (a : List Int) : ∀ l : List (List Int), (insT a l).Perm (a :: l)
  | [] => .refl _
  | b :: r => by
    unfold insT
    split
    · exact ((insT_perm a r).cons b).trans (.swap a b r)
    · exact .refl _
theorem sortT_perm : ∀ l : List (List Int), (sortT l).Perm l
  | [] => .refl _
  | a :: r => (insT_perm a (sortT r)).trans ((sortT_perm r).cons a)
theorem insT_sorted {a : List Int} : ∀ {l : List (List Int)}, l.Pairwise leT → (insT a l).Pairwise leT
  | [], _ => List.pairwise_singleton _ _
  | b :: r, h => by
    unfold insT
    obtain ⟨h1, h2⟩ := List.pairwise_cons.mp h
    split
    · rename_i hab
      refine List.pairwise_cons.mpr ⟨fun x hx => ?_, insT_sorted h2⟩
      rcases List.mem_cons.mp ((insT_perm a r).mem_iff.mp hx) with rfl | hx
      · exact lex_asym _ _ hab
      · exact h1 x hx
    · rename_i hab
      have hab' : leT a b := by
        unfold leT
        cases q : HT.lexLt b a with
        | false => rfl
        | true => exact absurd q hab
      exact List.pairwise_cons.mpr ⟨fun x hx => by
        rcases List.mem_cons.mp hx with rfl | hx
        · exact hab'
        · exact lex_tr _ _ _ hab' (h1 x hx), h⟩
theorem sortT_sorted : ∀ l : List (List Int), (sortT l).Pairwise leT
  | [] => .nil
  | a :: r => insT_sorted (sortT_sorted r)
theorem sortT_uniq {l m : List (List Int)} (p : l.Perm m) (h : l.Pairwise leT) : l = sortT m :=
  perm_sorted (fun a b h1 h2 => lex_tot a b h2 h1) (p.trans (sortT_perm m).symm) h (sortT_sorted m)
theorem maxI_spec : ∀ (r : List Int) (n : Int), maxI n r ∈ n :: r ∧ ∀ y ∈ n :: r, y ≤ maxI n r
  | [], n => ⟨by simp [maxI], fun y hy => by simp at hy; simp [maxI, hy]⟩
  | b :: r, n => by
    unfold maxI
    obtain ⟨h1, h2⟩ := maxI_spec r (if b > n then b else n)
    refine ⟨?_, fun y hy => ?_⟩
    · rcases List.mem_cons.mp h1 with e | h
      · rw [e]
        split
        · simp
        · simp
      · exact List.mem_cons_of_mem _ (List.mem_cons_of_mem _ h)
    · have h0 := h2 _ List.mem_cons_self
      rcases List.mem_cons.mp hy with rfl | hy
      · split at h0 <;> split <;> omega
      · rcases List.mem_cons.mp hy with rfl | hy
        · split at h0 <;> split <;> omega
        · exact h2 y (List.mem_cons_of_mem _ hy)
theorem minI_spec : ∀ (r : List Int) (n : Int), minI n r ∈ n :: r ∧ ∀ y ∈ n :: r, minI n r ≤ y
  | [], n => ⟨by simp [minI], fun y hy => by simp at hy; simp [minI, hy]⟩
  | b :: r, n => by
    unfold minI
    obtain ⟨h1, h2⟩ := minI_spec r (if b < n then b else n)
    refine ⟨?_, fun y hy => ?_⟩
    · rcases List.mem_cons.mp h1 with e | h
      · rw [e]
        split
        · simp
        · simp
      · exact List.mem_cons_of_mem _ (List.mem_cons_of_mem _ h)
    · have h0 := h2 _ List.mem_cons_self
      rcases List.mem_cons.mp hy with rfl | hy
      · split at h0 <;> split <;> omega
      · rcases List.mem_cons.mp hy with rfl | hy
        · split at h0 <;> split <;> omega
        · exact h2 y (List.mem_cons_of_mem _ hy)

/-! ### rules that the layer lacks: max, min of a tuple; sorted of pairs wherever they stand -/
section
variable {prog : Program} {w : World} {A : Around} {E : Value → Shared → Prop} {s : Shared} {l : Addr} {xs : Array (Int × Tok)}
theorem iter_intTup {Q : Value → Shared → Prop} (hl : s.heap.IsTuple l (intItems xs))
    (h : ∀ s₂ : Shared, s₂ = { s with heap := s.heap.push { cls := .type "tuple_iterator", data := .fields #[.ref l, .int 0 0] } } →
      (s₂.heap.IsTupleIter s.heap.objs.size l 0 ∧ s₂.heap.IsTuple l (intItems xs)) → (∀ b ∈ [s.heap.objs.size, l], b < s₂.heap.objs.size) → l ≠ s.heap.objs.size → Q (.ref s.heap.objs.size) s₂) :
    wpAny (model prog w) A (pyIter (.ref l)) Q E s := by
  have hlt : l < s.heap.objs.size := by obtain ⟨_, e, _⟩ := hl; exact Heap.lt_size e
  refine wpAny_pyIter_tuple hl (h _ rfl ⟨⟨_, Heap.get?_push_size _ rfl, rfl, rfl⟩, hl.push _⟩ (fun b hb => ?_) (Nat.ne_of_lt hlt))
  show b < (s.heap.push _).objs.size
  rw [Heap.size_push]
  rcases List.mem_cons.mp hb with rfl | hb
  · exact Nat.lt_succ_self _
  · rcases List.mem_cons.mp hb with rfl | hb
    · exact Nat.lt_succ_of_lt hlt
    · cases hb
theorem old_kept2 {h' : Heap} (hk : ∀ b o, b ∉ [s.heap.objs.size] → (s.heap.push { cls := .type "tuple_iterator", data := .fields #[.ref l, .int 0 0] }).get? b = some o → h'.get? b = some o) :
    ∀ b o, s.heap.get? b = some o → h'.get? b = some o := fun b o e => by
  refine hk b o (fun hm => ?_) (Heap.get?_push_of_some _ e)
  rcases List.mem_cons.mp hm with e1 | hm
  · exact absurd (e1 ▸ Heap.lt_size e) (Nat.lt_irrefl _)
  · cases hm
theorem max_intTup {Q : Value → Shared → Prop} (hh : A.handled = none) (hl : s.heap.IsTuple l (intItems xs)) (hne : 0 < xs.size)
    (h : ∀ v h' tk, (intItems xs)[argBest (fun i j => decide (numAt xs i > numAt xs j)) (xs.size - 1)]? = some v → (∀ b o, s.heap.get? b = some o → h'.get? b = some o) → Q v { s with heap := h', toks := tk }) :
    wpAny (model prog w) A (call (.builtin "max") [.ref l]) Q E s := by
  refine call_max_walk (iter_intTup hl fun s₂ e st hfp hlI => ?_)
  subst e
  refine ⟨_, _, _, _, _, _, _, rfl, Walks.tuple (A := A.in1) hh _ l hlI (intItems xs), st, hfp, by simpa [intItems] using hne, CmpOf.ints_gt (numAt xs) (fun _ _ => intItems_at), fun v h' tk hP hk => ?_⟩
  exact h v h' tk (by simpa [intItems] using hP) (old_kept2 hk)
theorem min_intTup {Q : Value → Shared → Prop} (hh : A.handled = none) (hl : s.heap.IsTuple l (intItems xs)) (hne : 0 < xs.size)
    (h : ∀ v h' tk, (intItems xs)[argBest (fun i j => decide (numAt xs i < numAt xs j)) (xs.size - 1)]? = some v → (∀ b o, s.heap.get? b = some o → h'.get? b = some o) → Q v { s with heap := h', toks := tk }) :
    wpAny (model prog w) A (call (.builtin "min") [.ref l]) Q E s := by
  refine call_min_walk (iter_intTup hl fun s₂ e st hfp hlI => ?_)
  subst e
  refine ⟨_, _, _, _, _, _, _, rfl, Walks.tuple (A := A.in1) hh _ l hlI (intItems xs), st, hfp, by simpa [intItems] using hne, CmpOf.ints_lt (numAt xs) (fun _ _ => intItems_at), fun v h' tk hP hk => ?_⟩
  exact h v h' tk (by simpa [intItems] using hP) (old_kept2 hk)
end
end G
set_option Elab.async false
set_option linter.all false
set_option maxRecDepth 100000
set_option maxHeartbeats 4000000
/-! S3c: built-in calls -/
namespace G
open PySem PySem.Spec PyProof.Rows L2
section
variable {X : Cx}
theorem intsAre_items {its : List Value} {ns : List Int} (hi : IntsAre its ns) : ∃ xs : Array (Int × Tok), its.toArray = intItems xs ∧ xs.toList.map (·.1) = ns := by
  induction hi with
  | nil => exact ⟨#[], by simp [intItems], rfl⟩
  | cons n t h ih =>
    rename_i vs ns
    obtain ⟨xs, e1, e2⟩ := ih
    refine ⟨((n, t) :: xs.toList).toArray, ?_, ?_⟩
    · have e3 : vs = (intItems xs).toList := by rw [← e1]
      rw [e3]
      simp [intItems]
    · simp [e2]
theorem numAt_get {xs : Array (Int × Tok)} {i : Nat} (h : i < xs.size) : numAt xs i ∈ xs.toList.map (·.1) := by
  unfold numAt
  rw [Array.getElem?_eq_getElem h]
  simp only [Option.map_some, Option.getD_some]
  exact List.mem_map.mpr ⟨xs[i], Array.getElem_mem_toList h, rfl⟩
theorem numAt_all {xs : Array (Int × Tok)} {y : Int} (h : y ∈ xs.toList.map (·.1)) : ∃ i, i < xs.size ∧ numAt xs i = y := by
  obtain ⟨p, hp, rfl⟩ := List.mem_map.mp h
  obtain ⟨i, hi, e⟩ := List.mem_iff_getElem.mp hp
  refine ⟨i, by simpa using hi, ?_⟩
  unfold numAt
  rw [Array.getElem?_eq_getElem (by simpa using hi)]
  have e' : xs[i]'(by simpa using hi) = p := by simpa using e
  simp [e']
/-- max, min of a list or a tuple of ints -/
def rMx (K : PySem.W.Frag) : List V → Hp → VK → Prop := fun vs H Q => ∃ (a : Addr) (n : Int) (r : List Int), vs = [V.ref a] ∧ (SqL K H a ((n :: r).map V.int) ∨ SqT K H a ((n :: r).map V.int)) ∧ Q (.int (maxI n r)) H
def rMn (K : PySem.W.Frag) : List V → Hp → VK → Prop := fun vs H Q => ∃ (a : Addr) (n : Int) (r : List Int), vs = [V.ref a] ∧ (SqL K H a ((n :: r).map V.int) ∨ SqT K H a ((n :: r).map V.int)) ∧ Q (.int (minI n r)) H
theorem cr_mx (hc : X.calm = true) : CallR X (.builtin "max") (rMx X.K) := by
  intro pins s σ H vs us Q I r ⟨a, n, rr, e, hs, q⟩
  rcases hs with hs | hs
  · refine cr_max hc pins s σ H vs us Q I r ⟨a, n :: rr, e, hs, by simp, fun m h1 h2 => ?_⟩
    obtain ⟨g1, g2⟩ := maxI_spec rr n
    rw [Int.le_antisymm (g2 m h1) (h2 _ g1)]
    exact q
  · subst e
    obtain ⟨its, rv, hl, _⟩ := I.tuple hs
    rw [Vals.ref1 r]
    obtain ⟨xs, e1, e2⟩ := intsAre_items rv.ints
    have hl' : s.heap.IsTuple a (intItems xs) := by rw [← e1]; exact hl
    have hsz : 0 < xs.size := by
      have := congrArg List.length e2
      simp at this
      omega
    refine max_intTup (I.ok.hd hc) hl' hsz fun v h' tk hv hk => ?_
    obtain ⟨t, rfl⟩ := intItems_at hv
    obtain ⟨h1, h2⟩ := argBest_gt (numAt xs) (xs.size - 1)
    obtain ⟨g1, g2⟩ := maxI_spec rr n
    rw [← e2] at g1 g2
    have hb : argBest (fun i j => decide (numAt xs i > numAt xs j)) (xs.size - 1) < xs.size := by omega
    have eM : numAt xs (argBest (fun i j => decide (numAt xs i > numAt xs j)) (xs.size - 1)) = maxI n rr := by
      refine Int.le_antisymm (g2 _ (numAt_get hb)) ?_
      obtain ⟨i, hi, ei⟩ := numAt_all g1
      rw [← ei]
      exact h2 i (by omega)
    exact ⟨.int _, H, I.kept hk, ⟨_, by rw [eM]⟩, q⟩
theorem cr_mn (hc : X.calm = true) : CallR X (.builtin "min") (rMn X.K) := by
  intro pins s σ H vs us Q I r ⟨a, n, rr, e, hs, q⟩
  rcases hs with hs | hs
  · refine cr_min hc pins s σ H vs us Q I r ⟨a, n :: rr, e, hs, by simp, fun m h1 h2 => ?_⟩
    obtain ⟨g1, g2⟩ := minI_spec rr n
    rw [Int.le_antisymm (h2 _ g1) (g2 m h1)]
    exact q
  · subst e
    obtain ⟨its, rv, hl, _⟩ := I.tuple hs
    rw [Vals.ref1 r]
    obtain ⟨xs, e1, e2⟩ := intsAre_items rv.ints
    have hl' : s.heap.IsTuple a (intItems xs) := by rw [← e1]; exact hl
    have hsz : 0 < xs.size := by
      have := congrArg List.length e2
      simp at this
      omega
    refine min_intTup (I.ok.hd hc) hl' hsz fun v h' tk hv hk => ?_
    obtain ⟨t, rfl⟩ := intItems_at hv
    obtain ⟨h1, h2⟩ := argBest_lt (numAt xs) (xs.size - 1)
    obtain ⟨g1, g2⟩ := minI_spec rr n
    rw [← e2] at g1 g2
    have hb : argBest (fun i j => decide (numAt xs i < numAt xs j)) (xs.size - 1) < xs.size := by omega
    have eM : numAt xs (argBest (fun i j => decide (numAt xs i < numAt xs j)) (xs.size - 1)) = minI n rr := by
      refine Int.le_antisymm ?_ (g2 _ (numAt_get hb))
      obtain ⟨i, hi, ei⟩ := numAt_all g1
      rw [← ei]
      exact h2 i (by omega)
    exact ⟨.int _, H, I.kept hk, ⟨_, by rw [eM]⟩, q⟩
/-- pairs of ints stand there -/
def PairAt (K : PySem.W.Frag) (H : Hp) (y : V) (p : List Int) : Prop := ∃ a n m, y = .ref a ∧ p = [n, m] ∧ SqT K H a [.int n, .int m]
theorem paired_mem {α β : Type} {R : α → β → Prop} : ∀ {xs : List α} {ys : List β}, Paired R xs ys → ∀ x ∈ xs, ∃ y ∈ ys, R x y
  | _, _, .nil, x, h => absurd h (by simp)
  | _, _, .cons r t, x, h => by
    rcases List.mem_cons.mp h with rfl | h
    · exact ⟨_, List.mem_cons_self, r⟩
    · obtain ⟨y, h1, h2⟩ := paired_mem t x h
      exact ⟨y, List.mem_cons_of_mem _ h1, h2⟩
theorem paired_map {α β : Type} {R : α → β → Prop} (f : α → β) : ∀ {xs : List α} {ys : List β}, Paired R xs ys → (∀ x y, R x y → f x = y) → xs.map f = ys
  | _, _, .nil, _ => rfl
  | _, _, .cons r t, h => by rw [List.map_cons, h _ _ r, paired_map f t h]
theorem map_paired {α β : Type} {R : α → β → Prop} (f : α → β) : ∀ {xs : List α}, (∀ x ∈ xs, R x (f x)) → Paired R xs (xs.map f)
  | [], _ => .nil
  | x :: xs, h => .cons (h x List.mem_cons_self) (map_paired f fun y hy => h y (List.mem_cons_of_mem _ hy))
/-- sorted of a list of pairs of ints -/
def rSP (K : PySem.W.Frag) : List V → Hp → VK → Prop := fun vs H Q => ∃ (a : Addr) (xs : List V) (ts : List (List Int)), vs = [V.ref a] ∧ SqL K H a xs ∧ Paired (PairAt K H) xs ts ∧
  ∀ ys p, ys.Perm xs → Paired (PairAt K H) ys (sortT ts) → H p = none → Q (.ref p) (upd H p (.lst ys))
theorem lexB_lex (p q : Int × Int) : SrtO.lexB p q = HT.lexLt [p.1, p.2] [q.1, q.2] := by
  rw [HT.lexLt_cons, HT.lexLt_cons]
  cases h : SrtO.lexB p q with
  | true =>
    have := SrtO.lexB_iff.mp h
    by_cases e : p.1 = q.1
    · rw [if_pos e]
      by_cases e2 : p.2 = q.2
      · omega
      · rw [if_neg e2]
        exact (decide_eq_true (by omega)).symm
    · rw [if_neg e]
      exact (decide_eq_true (by omega)).symm
  | false =>
    have := SrtO.lexB_no.mp h
    by_cases e : p.1 = q.1
    · rw [if_pos e]
      by_cases e2 : p.2 = q.2
      · rw [if_pos e2]; rfl
      · rw [if_neg e2]
        exact (decide_eq_false (by omega)).symm
    · rw [if_neg e]
      exact (decide_eq_false (by omega)).symm
open Classical in
/-- the pair that stands at a value -/
noncomputable def pairAt (K : PySem.W.Frag) (H : Hp) (y : V) : Int × Int := if h : ∃ p : Int × Int, PairAt K H y [p.1, p.2] then h.choose else (0, 0)
theorem cr_sp : CallR X (.builtin "sorted") (rSP X.K) := by
  intro pins s σ H vs us Q I r h
  obtain ⟨a, xs, ts, rfl, hs, hx, q⟩ := h
  obtain ⟨its, rv, hl, hz⟩ := I.list hs
  obtain ⟨u, rfl, ru⟩ := vals1 r
  obtain rfl : u = Value.ref a := ru
  have uniq : ∀ y p, PairAt X.K H y p → [(pairAt X.K H y).1, (pairAt X.K H y).2] = p := fun y p hp => by
    obtain ⟨b, n, m, rfl, rfl, hq⟩ := hp
    have hx : ∃ p : Int × Int, PairAt X.K H (.ref b) [p.1, p.2] := ⟨(n, m), b, n, m, rfl, rfl, hq⟩
    have hc : PairAt X.K H (.ref b) [(pairAt X.K H (.ref b)).1, (pairAt X.K H (.ref b)).2] := by
      unfold pairAt
      rw [dif_pos hx]
      exact hx.choose_spec
    obtain ⟨b', n', m', e1, e2, hq'⟩ := hc
    cases e1
    rw [e2]
    have e3 := I.tuple_inj hq' hq
    injection e3 with e4 e5
    injection e5 with e5 _
    injection e4 with e4
    injection e5 with e5
    rw [e4, e5]
  have at_ : ∀ x ∈ xs, ∃ t, x = V.ref t ∧ SqT X.K H t [.int (pairAt X.K H x).1, .int (pairAt X.K H x).2] := fun x hm => by
    obtain ⟨p, _, hp⟩ := paired_mem hx x hm
    have e := uniq x p hp
    obtain ⟨b, n, m, rfl, rfl, hq⟩ := hp
    injection e with e1 e2
    injection e2 with e2 _
    exact ⟨b, rfl, by rw [e1, e2]; exact hq⟩
  have ets : xs.map (fun x => [(pairAt X.K H x).1, (pairAt X.K H x).2]) = ts := paired_map _ hx uniq
  obtain ⟨e1, e2⟩ := refs_back rv fun x m => by
    obtain ⟨t, e, _⟩ := at_ x m
    exact ⟨t, e⟩
  refine SrtO.sorted_pairsO (k := fun u => pairAt X.K H (backV u)) hl.isList (by rw [← rv.length]; exact hz) (fun v hv => ?_) fun h' d out h1 h2 kp hd hn => ?_
  · obtain ⟨t, rfl⟩ := e2 v hv
    have hm : V.ref t ∈ xs := by rw [e1]; exact List.mem_map.mpr ⟨_, hv, rfl⟩
    obtain ⟨t', e, ht⟩ := at_ _ hm
    cases e
    obtain ⟨its2, r2, ⟨o, ho, hc, n, hd⟩, _⟩ := I.tuple ht
    obtain ⟨u1, u2, rfl, ri, rj⟩ := vals2 r2
    obtain ⟨t1, rfl⟩ := ri
    obtain ⟨t2, rfl⟩ := rj
    exact ⟨t, o, t1, t2, n, rfl, ho, hc, hd⟩
  · have h3 : ∀ u ∈ out, ∃ a, u = Value.ref a := fun u hu => e2 u (h2.perm.mem_iff.mp hu)
    obtain ⟨n, hn⟩ := hn
    have hb : SrtO.Stb (ltP (pairAt X.K H)) (out.map backV) xs := by
      rw [e1]
      exact SrtO.Stb.map (ltP_swo (pairAt X.K H)) backV h2
    have hsrt : SrtO.Srtd (ltP (pairAt X.K H)) (out.map backV) := SrtO.srtd_map h1
    have hp : Paired (PairAt X.K H) (out.map backV) ((out.map backV).map fun x => [(pairAt X.K H x).1, (pairAt X.K H x).2]) := map_paired _ fun x hx => by
      obtain ⟨t, e, hq⟩ := at_ x (hb.perm.mem_iff.mp hx)
      exact ⟨t, _, _, e, rfl, hq⟩
    have es : (out.map backV).map (fun x => [(pairAt X.K H x).1, (pairAt X.K H x).2]) = sortT ts := by
      refine sortT_uniq ?_ ?_
      · rw [← ets]
        exact hb.perm.map _
      · refine List.pairwise_map.mpr (hsrt.imp fun {x y} hxy => ?_)
        show HT.lexLt _ _ = false
        rw [← lexB_lex]
        exact hxy
    rw [es] at hp
    refine ⟨.ref d, upd H d (.lst (out.map backV)), I.laid (t' := s.toks) kp hd ⟨?_, out, n, vals_back h3, hn⟩, rfl, q _ d hb.perm hp (I.hok.fresh hd)⟩
    rw [hb.len]
    exact hz
/-- the ints of a sequence, sorted -/
def rSI (K : PySem.W.Frag) : List V → Hp → VK → Prop := fun vs H Q => ∃ (a : Addr) (ns : List Int), vs = [V.ref a] ∧ SqL K H a (ns.map V.int) ∧ ∀ p, H p = none → Q (.ref p) (upd H p (.lst ((sortI ns).map V.int)))
theorem cr_si : CallR X (.builtin "sorted") (rSI X.K) := by
  intro pins s σ H vs us Q I r ⟨a, ns, e, hs, q⟩
  refine cr_sortedI pins s σ H vs us Q I r ⟨a, ns, e, hs, fun ns' p h1 h2 h3 => ?_⟩
  rw [sortI_uniq h1 h2]
  exact q p h3
theorem CallR.or {v : Value} {r r' : List V → Hp → VK → Prop} (h : CallR X v r) (h' : CallR X v r') : CallR X v (fun xs H Q => r xs H Q ∨ r' xs H Q) := by
  intro pins s σ H xs us Q I rs q
  rcases q with q | q
  · exact h pins s σ H xs us Q I rs q
  · exact h' pins s σ H xs us Q I rs q
end

/-! ### by kind -/
def rB (K : PySem.W.Frag) : B1 → List V → Hp → VK → Prop
  | .len => fun xs H Q => (∃ p ys, xs = [.ref p] ∧ (SqL K H p ys ∨ SqT K H p ys) ∧ Q (.int ys.length) H) ∨ ∃ a kvs, xs = [.ref a] ∧ H a = some (.dK kvs) ∧ Q (.int (kvs.length : Nat)) H
  | .all => rAll K
  | .any => rAny K
  | .sorted => fun xs H Q => rSI K xs H Q ∨ rSP K xs H Q
  | .max => rMx K
  | .min => rMn K
  | .sum => rSum K
  | .abs => fun xs H Q => ∃ i, xs = [.int i] ∧ Q (.int (if i < 0 then -i else i)) H
  | .tuple => fun xs H Q => ∃ p ys, xs = [.ref p] ∧ ((SqL K H p ys ∧ ∀ l, H l = none → Q (.ref l) (upd H l (.tup ys))) ∨ (SqT K H p ys ∧ Q (.ref p) H))
  | .list => fun xs H Q => ∃ p ys, xs = [.ref p] ∧ (SqL K H p ys ∨ SqT K H p ys) ∧ ∀ l, H l = none → Q (.ref l) (upd H l (.lst ys))
  | .int => fun xs H Q => (∃ i, xs = [.int i] ∧ Q (.int i) H) ∨ ∃ k, xs = [.bl k] ∧ Q (.int (if k then 1 else 0)) H
  | _ => fun _ _ _ => False
def simpB : B1 → Bool
  | .lset => false | .sset => false | .lrng => false | .trng => false | .svals => false | .dict => false
  | _ => true
/-- a call of a built-in by its name, one argument -/
theorem pe_b1n {X : Cx} {ea : Expr} {ta : TE} {pos p : Pos} (hc : X.calm = true) (hm : ∀ x ∈ bnames, X.mg x = none) (b : B1) (hsb : simpB b = true) (hg : Gl X (b1nm b)) (ha : PE X ea ta) (hs : starEach [ea] X.env = (false, eval ea X.env) :: starEach [] X.env) :
    PE X (.Call (.Name (b1nm b) p) [ea] [] pos) (tCB (rB X.K b) (tCons ta tNil)) := by
  have pa : PA X [ea] (tCons ta tNil) := pa_cons ha pa_nil hs
  have hp : (backTo pos (starEach [] X.env)).any (·.1) = false := rfl
  cases b with
  | len => exact pe_callB (CallR.or call_len_seq call_lenD) hg (hm _ (by decide)) PySem.boot_len pa (by decide) (by decide) hs hp
  | all => exact pe_callB (cr_all hc) hg (hm _ (by decide)) (by decide +kernel) pa (by decide) (by decide) hs hp
  | any => exact pe_callB (cr_any hc) hg (hm _ (by decide)) (by decide +kernel) pa (by decide) (by decide) hs hp
  | sorted => exact pe_callB (CallR.or cr_si cr_sp) hg (hm _ (by decide)) (by decide +kernel) pa (by decide) (by decide) hs hp
  | max => exact pe_callB (cr_mx hc) hg (hm _ (by decide)) (by decide +kernel) pa (by decide) (by decide) hs hp
  | min => exact pe_callB (cr_mn hc) hg (hm _ (by decide)) (by decide +kernel) pa (by decide) (by decide) hs hp
  | sum => exact pe_callB (cr_sum hc) hg (hm _ (by decide)) (by decide +kernel) pa (by decide) (by decide) hs hp
  | abs => exact pe_callB call_abs hg (hm _ (by decide)) (by decide +kernel) pa (by decide) (by decide) hs hp
  | tuple => exact pe_callTy call_tuple_of hg (hm _ (by decide)) (by decide +kernel) pa (by decide) (by decide) hs hp
  | list => exact pe_callTy call_list_of hg (hm _ (by decide)) (by decide +kernel) pa (by decide) (by decide) hs hp
  | int => exact pe_callTy call_int1 hg (hm _ (by decide)) (by decide +kernel) pa (by decide) (by decide) hs hp
  | _ => exact absurd hsb Bool.false_ne_true
section
variable {K : PySem.W.Frag} {B : Tab} {v r : PV} {x y : V} {H H' : Hp} {A : Option Addr} {t t' : Tn} {fps : Nat → List Addr} {va vb vs : List Nat} {fp fq : List Addr} {Q : VK}
theorem PostM.nil {b1 b2 : Bool} {w : PV} {z : V} (p : PostM K B H H' A t' fps va v x fp) (d : Den K B H' A w z []) : Post K B H H' A t' fps vs b1 b2 w z [] := Post.nil p.kp p.tin d
theorem asTups_eq : ∀ {xs : List PV} {ts : List (List Int)}, asTups xs = some ts → xs = ts.map tI
  | [], ts, h => by simp [asTups] at h; subst h; rfl
  | x :: xs, ts, h => by
    cases x with
    | tup l =>
      simp only [asTups] at h
      obtain ⟨ns, h1, h2⟩ := Option.bind_eq_some_iff.mp h
      obtain ⟨ms, h3, rfl⟩ := Option.map_eq_some_iff.mp h2
      rw [asInts_eq h1, asTups_eq h3]
      rfl
    | _ => simp [asTups] at h
/-- pairs -/
theorem dens_pairs : ∀ {ts : List (List Int)} {ys : List V} {fp : List Addr}, Dens K B H A (ts.map tI) ys fp → (∀ t ∈ ts, t.length = 2) → fp = [] ∧ Paired (PairAt K H) ys ts
  | [], _, _, d, _ => by
    cases d
    exact ⟨rfl, .nil⟩
  | t :: ts, _, _, d, hl => by
    cases d with
    | cons h q =>
      obtain ⟨e1, e2⟩ := dens_pairs q fun t ht => hl t (List.mem_cons_of_mem _ ht)
      obtain ⟨a, zs, rfl, hs, _, ds⟩ := h.tupI
      obtain ⟨e3, e4⟩ := ds.ints
      have l2 := hl t List.mem_cons_self
      obtain ⟨n, m, rfl⟩ : ∃ n m, t = [n, m] := by
        match t, l2 with
        | [n, m], _ => exact ⟨n, m, rfl⟩
      rw [e3] at hs
      exact ⟨by rw [e4, e1]; rfl, .cons ⟨a, n, m, rfl, rfl, hs⟩ e2⟩
theorem pairs_dens : ∀ {ys : List V} {ts : List (List Int)}, Paired (PairAt K H) ys ts → Dens K B H A (ts.map tI) ys []
  | _, _, .nil => .nil
  | _, _, .cons ⟨a, n, m, e, e2, hq⟩ t => by
    subst e e2
    have h1 : Den K B H A (tI [n, m]) (.ref a) [] := .tup hq (by show 2 ≤ sizeLine; decide) (dens_ints H A [n, m])
    exact .cons h1 (pairs_dens t)
theorem b1_ok {b : B1} (hsb : simpB b = true) (e : b1op b v = some r) (p : PostM K B H H' A t' fps vs v x fp) (q : ∀ z H2 f b2, Post K B H H2 A t' fps vs (nw1 B (.b1 b .non)) b2 r z f → Q z H2) : rB K b [x] H' Q := by
  cases b with
  | len =>
    unfold b1op at e
    cases v <;> simp at e
    · subst e
      obtain ⟨a, ys, rfl, hs, _, ds⟩ := p.den.tupI
      exact .inl ⟨a, ys, rfl, .inr hs, by rw [← ds.len]; exact q _ _ _ false (p.nil (.int _))⟩
    · subst e
      obtain ⟨a, ys, f, rfl, rfl, hs, _, ds⟩ := p.den.lstI
      exact .inl ⟨a, ys, rfl, .inl (SqL.of hs), by rw [← ds.len]; exact q _ _ _ false (p.nil (.int _))⟩
    · subst e
      obtain ⟨a, ys, rfl, _, hs, dk⟩ := p.den.dctI
      exact .inr ⟨a, ys, rfl, hs, by rw [← dk.len]; exact q _ _ _ false (p.nil (.int _))⟩
  | all =>
    unfold b1op at e
    cases v <;> simp at e
    obtain ⟨bs, e1, rfl⟩ := e
    have e2 := asBls_eq e1
    subst e2
    obtain ⟨a, ys, f, rfl, rfl, hs, _, ds⟩ := p.den.lstI
    rw [ds.bls] at hs
    exact ⟨a, bs, rfl, SqL.of hs, q _ _ _ false (p.nil (.bl _))⟩
  | any =>
    unfold b1op at e
    cases v <;> simp at e
    obtain ⟨bs, e1, rfl⟩ := e
    have e2 := asBls_eq e1
    subst e2
    obtain ⟨a, ys, f, rfl, rfl, hs, _, ds⟩ := p.den.lstI
    rw [ds.bls] at hs
    exact ⟨a, bs, rfl, SqL.of hs, q _ _ _ false (p.nil (.bl _))⟩
  | tuple =>
    unfold b1op at e
    cases v <;> simp at e
    · subst e
      obtain ⟨a, ys, rfl, hs, _, ds⟩ := p.den.tupI
      exact ⟨a, ys, rfl, .inr ⟨hs, q _ _ _ false ⟨p.kp, p.tin, p.den, p.sub, p.off, fun z => (by cases z), fun z => (by cases z)⟩⟩⟩
    · subst e
      obtain ⟨a, ys, f, rfl, rfl, hs, hl, ds⟩ := p.den.lstI
      exact ⟨a, ys, rfl, .inl ⟨SqL.of hs, fun l h0 => q _ _ _ false (Post.tup (p.posts ds fun c hc => List.mem_cons_of_mem _ hc) h0 hl)⟩⟩
  | list =>
    unfold b1op at e
    cases v <;> simp at e
    · subst e
      obtain ⟨a, ys, rfl, hs, hl, ds⟩ := p.den.tupI
      exact ⟨a, ys, rfl, .inr hs, fun l h0 => q _ _ _ false (Post.lst (p.posts ds fun c hc => hc) h0 hl fun z => (by cases z))⟩
    · subst e
      obtain ⟨a, ys, f, rfl, rfl, hs, hl, ds⟩ := p.den.lstI
      exact ⟨a, ys, rfl, .inl (SqL.of hs), fun l h0 => q _ _ _ false (Post.lst (p.posts ds fun c hc => List.mem_cons_of_mem _ hc) h0 hl fun z => (by cases z))⟩
  | sorted =>
    unfold b1op at e
    cases v <;> simp at e
    · rename_i xs
      split at e
      · rename_i ns h
        cases e
        have e2 := asInts_eq h
        subst e2
        obtain ⟨a, ys, f, rfl, rfl, hs, hl, ds⟩ := p.den.lstI
        rw [ds.ints.1] at hs hl
        refine .inl ⟨a, ns, rfl, SqL.of hs, fun l h0 => q _ _ _ false (Post.lst (p.posts (dens_ints H' A (sortI ns)) fun c hc => absurd hc (by simp)) h0 ?_ fun z => (by cases z))⟩
        rw [List.length_map, (sortI_perm ns).length_eq, ← List.length_map (f := V.int)]
        exact hl
      · obtain ⟨ts, h1, h2⟩ := Option.bind_eq_some_iff.mp e
        split at h2
        · rename_i h3
          cases h2
          have e2 := asTups_eq h1
          subst e2
          obtain ⟨a, ys, f, rfl, rfl, hs, hl, ds⟩ := p.den.lstI
          obtain ⟨ef, hp⟩ := dens_pairs ds h3
          refine .inr ⟨a, ys, ts, rfl, SqL.of hs, hp, fun zs l hperm hp2 h0 => q _ _ _ false (Post.lst (p.posts (pairs_dens hp2) fun c hc => absurd hc (by simp)) h0 (by rw [hperm.length_eq]; exact hl) fun z => (by cases z))⟩
        · cases h2
  | max =>
    unfold b1op at e
    cases v <;> simp at e
    · rename_i xs
      split at e
      · rename_i n rr h
        cases e
        have e2 := asInts_eq h
        subst e2
        obtain ⟨a, ys, rfl, hs, _, ds⟩ := p.den.tupI
        rw [ds.ints.1] at hs
        exact ⟨a, n, rr, rfl, .inr hs, q _ _ _ false (p.nil (.int _))⟩
      · cases e
    · rename_i xs
      split at e
      · rename_i n rr h
        cases e
        have e2 := asInts_eq h
        subst e2
        obtain ⟨a, ys, f, rfl, rfl, hs, _, ds⟩ := p.den.lstI
        rw [ds.ints.1] at hs
        exact ⟨a, n, rr, rfl, .inl (SqL.of hs), q _ _ _ false (p.nil (.int _))⟩
      · cases e
  | min =>
    unfold b1op at e
    cases v <;> simp at e
    · rename_i xs
      split at e
      · rename_i n rr h
        cases e
        have e2 := asInts_eq h
        subst e2
        obtain ⟨a, ys, rfl, hs, _, ds⟩ := p.den.tupI
        rw [ds.ints.1] at hs
        exact ⟨a, n, rr, rfl, .inr hs, q _ _ _ false (p.nil (.int _))⟩
      · cases e
    · rename_i xs
      split at e
      · rename_i n rr h
        cases e
        have e2 := asInts_eq h
        subst e2
        obtain ⟨a, ys, f, rfl, rfl, hs, _, ds⟩ := p.den.lstI
        rw [ds.ints.1] at hs
        exact ⟨a, n, rr, rfl, .inl (SqL.of hs), q _ _ _ false (p.nil (.int _))⟩
      · cases e
  | sum =>
    unfold b1op at e
    cases v <;> simp at e
    obtain ⟨ns, h, rfl⟩ := e
    have e2 := asInts_eq h
    subst e2
    obtain ⟨a, ys, f, rfl, rfl, hs, _, ds⟩ := p.den.lstI
    rw [ds.ints.1] at hs
    exact ⟨a, ns, rfl, SqL.of hs, q _ _ _ false (p.nil (.int _))⟩
  | abs =>
    unfold b1op at e
    cases v <;> simp at e
    subst e
    exact ⟨_, by rw [p.den.intI], q _ _ _ false (p.nil (.int _))⟩
  | int =>
    unfold b1op at e
    cases v <;> simp at e
    · subst e
      exact .inr ⟨_, by rw [p.den.blI], q _ _ _ false (p.nil (.int _))⟩
    · subst e
      exact .inl ⟨_, by rw [p.den.intI], q _ _ _ false (p.nil (.int _))⟩
  | _ => exact absurd hsb Bool.false_ne_true
end
end G
set_option Elab.async false
set_option linter.all false
set_option maxRecDepth 100000
set_option maxHeartbeats 4000000
/-! S3d: len(set(..)), list(range(..)), sorted(d.values()), isinstance -/
namespace G
open PySem PySem.Spec PyProof.Rows L2
theorem dedI_eq (ns : List Int) : dedI ns = firstMet (fun i => ns.getD i 0) ns.length := by
  unfold dedI firstMet
  have e : (List.range ns.length).map (fun i => ns.getD i 0) = ns := by
    apply List.ext_getElem
    · simp
    · intro i h1 h2
      simp [List.getD_eq_getElem?_getD, List.getElem?_eq_getElem h2]
  rw [e]
  rfl
section
variable {X : Cx}
def tLset (K : PySem.W.Frag) (ta : TE) : TE := fun σ H Q => ta σ H fun x H1 => ∃ (l : Addr) (ns : List Int), x = .ref l ∧ SqL K H1 l (ns.map V.int) ∧ ns.length ≤ 1000 ∧ Q (.int (dedI ns).length) H1
theorem pe_lset {a : Expr} {ta : TE} {p p2 q pos : Pos} (hg : Gl X "len") (hm : X.mg "len" = none) (hg2 : Gl X "set") (hm2 : X.mg "set" = none) (ha : PE X a ta) (hc : X.calm = true)
    (na : starEach [a] X.env = (false, eval a X.env) :: starEach [] X.env) : PE X (.Call (.Name "len" p) [.Call (.Name "set" p2) [a] [] q] [] pos) (tLset X.K ta) := by
  refine ⟨fun pins s σ H Q I h => ?_⟩
  refine Call_ (ld_blt I hg hm boot_len ?_)
  refine PyProof.Rows.callWith_builtin1 (PyProof.Rows.args_cons ?_ rfl) rfl rfl
  refine Call_ (ld_blt I hg2 hm2 boot_set ?_)
  refine PyProof.Rows.callWith_type1 (PyProof.Rows.args_cons (thn (ha.run pins s σ H _ I h) fun v s1 ⟨x, H1, I1, r1, q1⟩ => PyProof.Rows.args_nil ?_) na) na rfl
  obtain ⟨l, ns, rfl, hq, hl, q1⟩ := q1
  cases r1
  obtain ⟨its, r, pl, hz⟩ := I1.list hq
  have hlen : its.toArray.size = ns.length := by rw [List.size_toArray, ← r.length, List.length_map]
  refine call_set_list (I1.ok.hd hc) pl.isList (by simpa using RZ.intsAre_vals r) (by rw [hlen]; unfold scanBound; omega) fun h' tk hS hk => ?_
  refine PyProof.Rows.args_nil ?_
  rw [hlen, ← dedI_eq] at hS
  obtain ⟨o, es, ep, t, ho, hex, hd, _, _, _, hf, hn⟩ := hS
  have hle : (dedI ns).length ≤ ns.length := by rw [dedI_eq]; exact firstMet_length_le _ _
  have I2 : Inv X pins σ H1 { s1 with heap := h', toks := tk } := I1.kept fun b o e => hk b o (Heap.lt_size e) e
  exact call_len_set ho hex hd hf (by rw [hn] <;> omega) ⟨.int (dedI ns).length, H1, I2.tok _, ⟨_, by rw [hn]⟩, q1⟩
def tSvals (td : TE) : TE := fun σ H Q => td σ H fun x H1 => ∃ a kvs is, x = V.ref a ∧ H1 a = some (.dK kvs) ∧ kvs.map (·.2) = is.map V.int ∧ is.length < 64 ∧ ∀ p, H1 p = none → Q (.ref p) (upd H1 p (.lst ((sortI is).map V.int)))
theorem pe_svals {o : Expr} {p pos apos mpos : Pos} {td : TE} (hc : X.calm = true) (hg : Gl X "sorted") (hm : X.mg "sorted" = none) (hd : PE X o td) (hbase : attributeBase o "values" X.env (eval o X.env) = eval o X.env) (hline : (apos.endLine == mpos.line) = true)
    (hse : starEach [Expr.Call (.Attribute o "values" apos) [] [] mpos] X.env = [(false, eval (Expr.Call (.Attribute o "values" apos) [] [] mpos) X.env)] := by rfl) :
    PE X (.Call (.Name "sorted" p) [.Call (.Attribute o "values" apos) [] [] mpos] [] pos) (tSvals td) := by
  refine ⟨fun pins s σ H Q I h => ?_⟩
  refine wpAny_Call_Name_kw (ld_blt I hg hm (u := .builtin "sorted") (by first | rfl | decide +kernel) ?_ (by first | decide +kernel | decide) (by first | decide +kernel | decide))
  rw [hse]
  refine PySem.callWith_builtin1 (wpAny_Call_method0_late hbase hline (thn (hd.run pins s σ H _ I h) fun v s1 ⟨x, H1, I1, r1, a, kvs, is, ex, ha, hv, h64, q⟩ => ?_))
  subst ex
  obtain rfl : v = Value.ref a := r1
  obtain ⟨_, hsys, vs, rel, dof⟩ := dk_of I1.hok ha
  obtain ⟨ep, dat⟩ := dof.dictAt
  have dat' := dat
  obtain ⟨ob, es, ho, ex, hdat, hko, hpr, hnd⟩ := dat'
  refine ⟨"dict", "dict.values", F.plainAttrs_dict, F.slot_dict_values, F.type_dict_values, ⟨ob, ho, ex.1⟩, fun b e => ?_, Calls.callWith_builtin rfl (PySem.evalArgs_none ?_)⟩
  · cases e
    exact ⟨ob, ho, ex.2.1⟩
  refine call_meetsIn F.slot_dict_values ⟨ob, ho, ex.1⟩ F.entry_dict_values (F.args_dict_values_1 _) (meets_dict_values (mixKind X.prog X.w) a hsys) ⟨⟨vs, dof⟩, ?_⟩
  have k1 : ∀ b u, s1.heap.get? b = some u → (s1.heap.push { cls := .type "dict_values", data := .fields #[.ref a] }).get? b = some u := fun b u e => Heap.get?_push_of_some _ e
  have dat1 : (s1.heap.push { cls := .type "dict_values", data := .fields #[.ref a] }).DictAt (mixKind X.prog X.w) a vs ep := dat.keep k1
  have hlv : vs.length = is.length := by
    have e1 := congrArg List.length hv
    rw [List.length_map, List.length_map] at e1
    rw [← e1]
    exact (KV.length rel).symm
  have I2 : Inv X pins σ H1 { s1 with heap := s1.heap.push { cls := .type "dict_values", data := .fields #[.ref a] } } := I1.kept (t' := s1.toks) k1
  refine Calls.call_function_entry PyProof.Rows.kind_sorted PyProof.Rows.plain_sorted PyProof.Rows.entry_sorted (PyProof.Rows.args_sorted1 _) ?_
  unfold Builtin.«sorted»
  refine wpAny_bind (m := checkCount "sorted" 1 1 _) (wpAny_pure ?_)
  refine wpAny_bind (PySem.W.kdu_collect (A := X.A.in1) (PySem.W.kdl_values (prog := X.prog) (w := X.w) (knd := mixKind X.prog X.w) (r := s1.heap.objs.size) (d := a) (kvs := vs) (ep := ep)) (I.ok.hd hc) ⟨⟨_, Heap.get?_push_size _ rfl, rfl, rfl⟩, dat1⟩ (by rw [hlv, sizeLine_eq]; omega) fun h' tk acc hk hacc => ?_)
  have hal : acc.toList.length = is.length := by rw [Array.length_toList, hacc.1, hlv]
  have hS : IntsAre acc.toList is := ints_each hal fun j v e => by
    obtain ⟨k, e1⟩ := hacc.2 j v (by rw [← Array.getElem?_toList]; exact e)
    obtain ⟨x, h1, h2⟩ := KV.at' rel e1
    have e2 : (kvs.map (·.2))[j]? = some x := by rw [List.getElem?_map, h1] <;> rfl
    rw [hv, List.getElem?_map] at e2
    obtain ⟨i, hi, e3⟩ := Option.map_eq_some_iff.mp e2
    subst e3
    obtain ⟨t, e4⟩ := h2
    exact ⟨i, t, hi, e4⟩
  have I3 : Inv X pins σ H1 { s1 with heap := h', toks := tk } := I1.kept fun b u e => hk b u (k1 b u e)
  refine wpAny_bind (wpAny_newList ?_ (by rw [hal, sizeLine_eq]; omega))
  have hoL : (h'.push (seqObj "list" acc.toList.toArray 0)).get? h'.objs.size = some (seqObj "list" acc.toList.toArray 0) := Heap.get?_push_size _ rfl
  show wpAny _ _ _ _ _ { s1 with heap := h'.push (seqObj "list" acc.toList.toArray 0), toks := tk }
  refine wpAny_bind (wpAny_holding (wpAny_call_entry PyProof.Rows.slot_list_sort ⟨_, hoL, rfl⟩ PyProof.Rows.entry_list_sort
    (PyProof.Rows.list_sort_tree (s := { s1 with heap := h'.push (seqObj "list" acc.toList.toArray 0), toks := tk }) hoL hS (by rw [hal]; exact h64) fun out ys g1 g2 g3 => ⟨_, rfl, ?_⟩) (PyProof.Rows.args_list_sort _)))
  obtain ⟨e', he'⟩ := PyProof.Rows.sortedHeap_at (vs := acc.toList) (out := out) hoL
  have hlen : (ys.map V.int).length ≤ sizeLine := by
    rw [List.length_map, g2.length_eq]
    exact Nat.le_trans (Nat.le_of_lt h64) (by decide)
  have ey : ys = sortI is := sortI_uniq g2 g3
  have qq := q h'.objs.size (I3.hok.fresh (Nat.le_refl _))
  rw [← ey] at qq
  refine wpAny_pure ⟨_, rfl, .ref h'.objs.size, upd H1 h'.objs.size (.lst (ys.map V.int)), I3.laid (t' := tk) (fun b u e => ?_) (Nat.le_refl _)
    (show ObjOk X.prog X.w _ _ _ (.lst (ys.map V.int)) from ⟨hlen, out.toList, e', vals_of_ints g1, by rw [Array.toArray_toList]; exact he'⟩), rfl, qq⟩
  have hb : b < h'.objs.size := Heap.lt_size e
  rw [PyProof.Rows.sortedHeap_old (Nat.ne_of_lt hb) (by rw [size_push']; exact Nat.lt_succ_of_lt hb)]
  exact Heap.get?_push_of_some _ e
end

/-! ### isinstance -/
def tyS : Ty → String
  | .int => "int" | .bool => "bool" | .str => "str" | .tup => "tuple" | .lst => "list"
/-- the type of a value -/
theorem den_ty {K : PySem.W.Frag} {B : Tab} {H : Hp} {A : Option Addr} {v : PV} {x : V} {fp : List Addr} (d : Den K B H A v x fp) {ts : List Ty} {b : Bool} (e : tyIs v ts = some b) :
    ∃ T : String, TyX K H x (.type T) ∧ PySem.W.kitAny K (.type T) (ts.map fun t => .type (tyS t)) = some b := by
  have any : ∀ (T : String) (g : Ty → Bool), (∀ t, kitB T (tyS t) = some (g t)) → ∀ ts : List Ty, PySem.W.kitAny K (.type T) (ts.map fun t => .type (tyS t)) = some (ts.any g) := fun T g hg ts => by
    induction ts with
    | nil => exact kitAny_nil
    | cons t ts ih =>
      rw [List.map_cons, List.any_cons]
      refine kitAny_cons (b := g t) (kit_ty (hg t)) (fun z => ?_) fun z => ?_
      · rw [z, ih]; rfl
      · rw [z]; rfl
  cases d with
  | non => exact ⟨"NoneType", .base .non, by
      have := any "NoneType" (fun _ => false) (fun t => by cases t <;> decide +kernel) ts
      simp [tyIs] at e
      subst e
      rw [this]
      simp⟩
  | bl c => exact ⟨"bool", .base (.bl c), by
      rw [any "bool" (fun t => t == .bool || t == .int) (fun t => by cases t <;> decide +kernel) ts]; exact e⟩
  | int i => exact ⟨"int", .base (.int i), by
      rw [any "int" (fun t => t == .int) (fun t => by cases t <;> decide +kernel) ts]; exact e⟩
  | tup hs hl ds => exact ⟨"tuple", by
      rcases hs with (hs | ⟨o, hs⟩) | ⟨o, its, n, hk, hcl, _⟩
      · exact .base (.tup hs)
      · exact .fTuple hs
      · exact .kTuple hk hcl, by
      rw [any "tuple" (fun t => t == .tup) (fun t => by cases t <;> decide +kernel) ts]; exact e⟩
  | lst hs hl ds => exact ⟨"list", .base (.lst hs), by
      rw [any "list" (fun t => t == .lst) (fun t => by cases t <;> decide +kernel) ts]; exact e⟩
  | _ => simp [tyIs] at e
end G
set_option Elab.async false
set_option linter.all false
set_option maxRecDepth 100000
set_option maxHeartbeats 4000000
/-! S3e: the nodes of an expression, one by one -/
namespace G
open PySem PySem.Spec PyProof.Rows L2

/-! ### the syntax is plain -/
theorem cE_star {B : Tab} {N : List Str} {sc : Scope} {m : E} {e : Expr} (h : cE B N sc m e = true) (es : List Expr) (env : Env) : starEach (e :: es) env = (false, eval e env) :: starEach es env := by
  cases e <;> first | rfl | (exfalso; cases m <;> simp [cE] at h)
theorem cE_ix {B : Tab} {N : List Str} {sc : Scope} {m : E} {e : Expr} (h : cE B N sc m e = true) : PlainIx e := by
  cases e <;> first | (intro o i; rfl) | (exfalso; cases m <;> simp [cE] at h)
theorem cE_fold {B : Tab} {N : List Str} {sc : Scope} {m : E} {e : Expr} (h : cE B N sc m e = true) (env : Env) (x : Value) : foldedSetIterable e env x = pure x := by
  cases e <;> first | rfl | (exfalso; cases m <;> simp [cE] at h)
theorem glB_gl {X : Cx} {x : Str} (h : glB X.env.scope x = true) : Gl X x := by
  unfold glB at h
  show X.env.scope.names.lookup x = _
  split at h
  · assumption
  · cases h
theorem visB_vis {sc : Scope} {x : Str} (h : visB sc x = true) : Vis sc x := by
  unfold visB at h
  split at h
  · exact .inl (by assumption)
  · exact .inr (.inl (by assumption))
  · exact .inr (.inr (by assumption))
  · cases h
theorem okN1 {x : Str} (h : okN x = true) : (x == ("__debug__" : Str)) = false := by
  unfold okN at h
  simp only [Bool.and_eq_true, Bool.not_eq_true'] at h
  exact h.1.1
theorem okN2 {x : Str} (h : okN x = true) : (x == ("__classdict__" : Str)) = false := by
  unfold okN at h
  simp only [Bool.and_eq_true, Bool.not_eq_true'] at h
  exact h.1.2

/-- as a value and as a test -/
structure Ok (X : Cx) (B : Tab) (F : FS) (m : E) (e : Expr) : Prop where
  pe : PE X e (tEv X.K B F m)
  pt : PT X e (tTest (tEv X.K B F m))
section
variable {X : Cx} {B : Tab} {F : FS} {a b c : E} {ea eb ec : Expr} {pos : Pos}
theorem Ok.val {m : E} {e : Expr} (h : PE X e (tEv X.K B F m)) (he : ∀ whole, isTrue e X.env whole = (do let v ← whole; standAt e.pos; holding [v] (truthy v)) := by intro _; rfl) : Ok X B F m e := ⟨h, pt_val h he⟩
abbrev Pe (X : Cx) (B : Tab) (F : FS) (m : E) (e : Expr) : Prop := PE X e (tEv X.K B F m)
theorem n_v {i : Nat} {x : Str} (h1 : X.N[i]? = some x) (h2 : visB X.env.scope x = true) (h3 : okN x = true) : Ok X B F (.v i) (.Name x pos) :=
  .val (PE_mono (pe_var h1 (visB_vis h2) (okN1 h3) (okN2 h3)) fun σ H Q ⟨ρ, t, v, t', A, fps, r, tk, e, q⟩ => by
    simp only [evE, lift_some] at e
    obtain ⟨y, e1, e2⟩ := e
    cases e2
    obtain ⟨z, e3, d⟩ := r.at_ i v e1
    exact ⟨z, e3, q _ _ _ ⟨Fr.refl, tk, d, fun a ha => .inr ⟨i, List.mem_singleton_self i, ha⟩, r.off i v e1, fun z => (by cases z), fun z => (by cases z)⟩⟩)
theorem n_con {m : E} {e : Expr} {v : PV} {x : V} (h : PE X e (tC x)) (hm : ∀ ρ, evE F m ρ = M.ret v) (hd : ∀ H A, Den X.K B H A v x []) (he : ∀ whole, isTrue e X.env whole = (do let v ← whole; standAt e.pos; holding [v] (truthy v)) := by intro _; rfl) : Ok X B F m e :=
  .val (PE_mono h fun σ H Q ⟨ρ, t, w, t', A, fps, r, tk, e, q⟩ => by
    rw [hm, ret_some] at e
    cases e
    exact q _ _ _ (Post.nil Fr.refl tk (hd _ _))) he
theorem n_bin {o : Op} {op : Operator} (h : opIs o op = true) (ha : Pe X B F a ea) (hb : Pe X B F b eb) : Ok X B F (.bin o a b) (.BinOp ea op eb pos) :=
  .val (PE_mono (pe_op (opr_bin h) ha hb) fun σ H Q ⟨ρ, t, v, t', A, fps, r, tk, e, q⟩ => by
    simp only [evE, bnd_some, lift_some] at e
    obtain ⟨x, t1, e1, y, t2, e2, z, e3, e4⟩ := e
    cases e4
    exact ev2 r tk e1 e2 fun x y H' fp fq p => bin_ok e3 p fun z H2 f ps => q _ _ _ (ps.weak (fun i hi => hi) (fun z => z) fun z => by cases z))
theorem n_neg (ha : Pe X B F a ea) : Ok X B F (.neg a) (.UnaryOp .USub ea pos) :=
  .val (PE_mono (pe_un un_neg ha) fun σ H Q ⟨ρ, t, v, t', A, fps, r, tk, e, q⟩ => by
    simp only [evE, bnd_some, asI_some, ret_some] at e
    obtain ⟨x, t1, e1, i, t2, ⟨j, rfl, e2⟩, e3⟩ := e
    cases e2
    cases e3
    exact tEv.go r tk e1 fun x H1 fp p => ⟨i, p.den.intI, q _ _ _ (Post.nil p.kp p.tin (.int _))⟩)
theorem n_not (ha : Ok X B F a ea) : Ok X B F (.not a) (.UnaryOp .Not ea pos) := by
  refine ⟨PE_mono (pe_not ha.pe) fun σ H Q ⟨ρ, t, v, t', A, fps, r, tk, e, q⟩ => ?_, PT_mono (pt_not ha.pt) fun σ H Q ⟨ρ, t, v, t', A, fps, r, tk, e, q⟩ => ?_⟩ <;>
  · simp only [evE, bnd_some, asBl_some, ret_some] at e
    obtain ⟨x, t1, e1, i, t2, ⟨j, rfl, e2⟩, e3⟩ := e
    cases e2
    cases e3
    first
    | exact tEv.go r tk e1 fun x H1 fp p => ⟨i, p.den.blI, q _ _ _ (Post.nil p.kp p.tin (.bl _))⟩
    | exact tEv.go r tk e1 fun x H1 fp p => ⟨i, p.den.blI, by
        obtain ⟨k, hk, h2⟩ := q (.bl (!i)) H1 [] (Post.nil p.kp p.tin (.bl _))
        cases hk
        exact h2⟩
theorem cmp_go {c : Cm} {σ : L2.St} {H : Hp} {Q : VK} (h : tEv X.K B F (.cmp c a b) σ H Q) : tOp (rCm X.K c) (tEv X.K B F a) (tEv X.K B F b) σ H Q := by
  obtain ⟨ρ, t, v, t', A, fps, r, tk, e, q⟩ := h
  simp only [evE, bnd_some, lift_some, ret_some] at e
  obtain ⟨x, t1, e1, y, t2, e2, z, t3, ⟨z', e3, e4⟩, e5⟩ := e
  cases e4
  cases e5
  exact ev2 r tk e1 e2 fun x y H' fp fq p => cm_ok e3 p (q _ _ _ p.bl)
theorem n_cmp {c : Cm} {op : CmpOp} (hr : Room 0 X.A) (h : cmIs c op = true) (ha : Pe X B F a ea) (hb : Pe X B F b eb) (hm : behindInMarks op eb = false) : Ok X B F (.cmp c a b) (.Compare ea [op] [eb] pos) :=
  ⟨PE_mono (pe_cmpR (opr_cm hr h) ha hb hm) fun σ H Q h => cmp_go h, PT_mono (pt_cmpR (opr_cm hr h) ha hb hm) fun σ H Q h => cmp_go h⟩
theorem ch_go {c d : Cm} {x : E} {σ : L2.St} {H : Hp} {Q : VK} (h : tEv X.K B F (.ch c d a b x) σ H Q) : tChain (rCm X.K c) (rCm X.K d) (tEv X.K B F a) (tEv X.K B F b) (tEv X.K B F x) σ H Q := by
  obtain ⟨ρ, t, v, t', A, fps, r, tk, e, q⟩ := h
  simp only [evE, bnd_some, lift_some] at e
  obtain ⟨x, t1, e1, y, t2, e2, z, t3, ⟨z', e3, e4⟩, e5⟩ := e
  cases e4
  refine tEv.go r tk e1 fun x H1 fp p => tEv.go (r.kp p.kp tk) p.tin e2 fun y H2 fq q2 => ?_
  have p2 : Post2 X.K B H H2 A t2 fps a.vars b.vars _ _ x y fp fq := ⟨p.kp.trans q2.kp, q2.tin, p.den.kp q2.kp p.tin p.off, q2.den, p.sub, fun c hc => (q2.sub c hc).imp (free_kp p.kp p.tin) id, p.off, q2.off⟩
  refine cm_ok e3 p2 ⟨z, rfl, ?_⟩
  cases z with
  | false =>
    rw [if_neg Bool.false_ne_true] at e5
    rw [if_neg Bool.false_ne_true]
    rw [ret_some] at e5
    cases e5
    exact q _ _ _ p2.bl
  | true =>
    rw [if_pos rfl] at e5
    rw [if_pos rfl]
    simp only [bnd_some, lift_some, ret_some] at e5
    obtain ⟨w, t4, e6, k, t5, ⟨k', e7, e8⟩, e9⟩ := e5
    cases e8
    cases e9
    refine tEv.go (r.kp p2.kp tk) p2.tin e6 fun w' H4 fr q4 => ?_
    have p3 : Post2 X.K B H H4 A _ fps b.vars (E.vars ‹E›) _ _ y w' fq fr := ⟨p2.kp.trans q4.kp, q4.tin, p2.den2.kp q4.kp p2.tin p2.off2, q4.den, p2.sub2, fun c hc => (q4.sub c hc).imp (free_kp p2.kp p2.tin) id, p2.off2, q4.off⟩
    exact cm_ok e7 p3 (q _ _ _ p3.bl)
theorem n_ch {c d : Cm} {op op' : CmpOp} {x : E} {ex : Expr} (hr : Room 0 X.A) (h : cmIs c op = true) (h' : cmIs d op' = true) (ha : Pe X B F a ea) (hb : Pe X B F b eb) (hx : Pe X B F x ex) (hm : behindInMarks op' ex = false) : Ok X B F (.ch c d a b x) (.Compare ea [op, op'] [eb, ex] pos) :=
  ⟨PE_mono (pe_chain (opr_cm hr h) (opr_cm hr h') ha hb hx hm) fun σ H Q h => ch_go h, PT_mono (pt_chain (opr_cm hr h) (opr_cm hr h') ha hb hx hm) fun σ H Q h => ch_go h⟩
theorem pt_ifExp {c : Expr} {tA tB tC : TT} (hc : PT X c tA) (ha : PT X ea tB) (hb : PT X eb tC) : PT X (.IfExp c ea eb pos) (fun σ H Q => tA σ H fun d H1 => if d = true then tB σ H1 Q else tC σ H1 Q) := by
  refine ⟨fun pins s σ H Q I h => isTrue_IfExp (thn (hc.run pins s σ H _ I h) fun d s1 ⟨H1, I1, q1⟩ => ?_)⟩
  cases d with
  | true => exact ha.run pins s1 σ H1 Q I1 q1
  | false => exact hb.run pins s1 σ H1 Q I1 q1
theorem Post.via {K : PySem.W.Frag} {H H1 H' : Hp} {A : Option Addr} {t1 t' : Tn} {fps : Nat → List Addr} {vs vs' : List Nat} {b1 b2 b1' b2' : Bool} {v : PV} {x : V} {fp : List Addr} (k : Kp A H H1) (tk : TinOk A t1 H1) (p : Post K B H1 H' A t' fps vs b1 b2 v x fp) (hv : ∀ i ∈ vs, i ∈ vs')
    (h1 : b1' = true → b1 = true) (h2 : b2' = true → b2 = true) : Post K B H H' A t' fps vs' b1' b2' v x fp := (p.back k tk).weak hv h1 h2
theorem n_ite (hc : Ok X B F c ec) (ha : Ok X B F a ea) (hb : Ok X B F b eb) : Ok X B F (.ite c a b) (.IfExp ec ea eb pos) := by
  have key : ∀ σ H (Q : VK), tEv X.K B F (.ite c a b) σ H Q → tEv X.K B F c σ H fun x H1 => ∃ d, x = .bl d ∧ if d = true then tEv X.K B F a σ H1 Q else tEv X.K B F b σ H1 Q := fun σ H Q ⟨ρ, t, v, t', A, fps, r, tk, e, q⟩ => by
    simp only [evE, bnd_some, asBl_some] at e
    obtain ⟨x, t1, e1, d, t2, ⟨j, rfl, e2⟩, e3⟩ := e
    cases e2
    refine tEv.go r tk e1 fun x H1 fp p => ⟨d, p.den.blI, ?_⟩
    cases d with
    | true =>
      rw [if_pos rfl] at e3
      rw [if_pos rfl]
      exact tEv.go (r.kp p.kp tk) p.tin e3 fun y H2 fq p2 => q _ _ _ (p2.via p.kp p.tin (fun i hi => List.mem_append_right _ (List.mem_append_left _ hi)) (fun z => (Bool.and_eq_true_iff.mp z).1) fun z => by cases z)
    | false =>
      rw [if_neg Bool.false_ne_true] at e3
      rw [if_neg Bool.false_ne_true]
      exact tEv.go (r.kp p.kp tk) p.tin e3 fun y H2 fq p2 => q _ _ _ (p2.via p.kp p.tin (fun i hi => List.mem_append_right _ (List.mem_append_right _ hi)) (fun z => (Bool.and_eq_true_iff.mp z).2) fun z => by cases z)
  refine ⟨PE_mono (pe_ifExp hc.pt ha.pe hb.pe) fun σ H Q h => ?_, PT_mono (pt_ifExp hc.pt ha.pt hb.pt) fun σ H Q h => ?_⟩
  · exact key σ H Q h
  · exact key σ H _ h
theorem Posts.len {K : PySem.W.Frag} {H H' : Hp} {A : Option Addr} {t' : Tn} {fps : Nat → List Addr} {vs : List Nat} {v : List PV} {x : List V} {fp : List Addr} (p : Posts K B H H' A t' fps vs v x fp) : v.length = x.length := p.den.len
theorem evEs_len : ∀ {es : Es} {N : List Str} {sc : Scope} {l : List Expr} {ρ : Slots} {t t' : Tn} {xs : List PV}, cEs B N sc es l = true → evEs F es ρ t = some (xs, t') → xs.length = l.length
  | .nil, N, sc, l, ρ, t, t', xs, h, e => by
    cases l with
    | nil => simp only [evEs, ret_some] at e; cases e; rfl
    | cons a l => simp [cEs] at h
  | .cons m es, N, sc, l, ρ, t, t', xs, h, e => by
    cases l with
    | nil => simp [cEs] at h
    | cons a l =>
      simp only [cEs, Bool.and_eq_true] at h
      simp only [evEs, bnd_some, ret_some] at e
      obtain ⟨x, t1, e1, ys, t2, e2, e3⟩ := e
      cases e3
      simp [evEs_len h.2 e2]
theorem le_big {n : Nat} (h : n ≤ 1000) : n ≤ sizeLine := by rw [sizeLine_eq]; omega
theorem n_tup {es : Es} {l : List Expr} {k : Nat} (hl : cEs B X.N X.env.scope es l = true) (hk : l.length ≤ 1000) (h : PA X l (tEvs X.K B F es)) : Ok X B F (.tup es) (.Tuple l k pos) :=
  .val (PE_mono (pe_tup h) fun σ H Q ⟨ρ, t, v, t', A, fps, r, tk, e, q⟩ => by
    simp only [evE, bnd_some, ret_some] at e
    obtain ⟨xs, t1, e1, e2⟩ := e
    cases e2
    refine tEvs.go r tk e1 fun x H1 fp p => ?_
    have hx : x.length ≤ sizeLine := by rw [← p.len, evEs_len hl e1]; exact le_big hk
    exact ⟨hx, fun a h0 => q _ _ _ (Post.tup p h0 hx)⟩)
theorem n_lst {es : Es} {l : List Expr} (hl : cEs B X.N X.env.scope es l = true) (hk : l.length ≤ 1000) (h : PA X l (tEvs X.K B F es)) : Ok X B F (.lst es) (.List l pos) :=
  .val (PE_mono (pe_lst h) fun σ H Q ⟨ρ, t, v, t', A, fps, r, tk, e, q⟩ => by
    simp only [evE, bnd_some, ret_some] at e
    obtain ⟨xs, t1, e1, e2⟩ := e
    cases e2
    refine tEvs.go r tk e1 fun x H1 fp p => ?_
    have hx : x.length ≤ sizeLine := by rw [← p.len, evEs_len hl e1]; exact le_big hk
    exact ⟨hx, fun a h0 => q _ _ _ (Post.lst p h0 hx fun z => by cases z)⟩)
theorem n_dct0 : Ok X B F .dct0 (.Dict [] [] pos) :=
  .val (PE_mono pe_dnewK fun σ H Q ⟨ρ, t, v, t', A, fps, r, tk, e, q⟩ => by
    simp only [evE, ret_some] at e
    cases e
    exact fun p h0 => q _ _ _ ⟨fr_new h0, tin_new tk h0, .dct upd_same .nil, fun a ha => .inl (by simp at ha; rw [ha]; exact h0), tk.off fun a ha => (by simp at ha; rw [ha]; exact h0), fun _ _ a ha => (by simp at ha; rw [ha]; exact h0), fun z => (by cases z)⟩)
theorem n_idx (hr : Room 0 X.A) (hx : PlainIx eb) (ha : Pe X B F a ea) (hb : Pe X B F b eb) : Ok X B F (.idx a b) (.Subscript ea eb pos) :=
  .val (PE_mono (pe_ix (ixr hr) ha hb hx) fun σ H Q ⟨ρ, t, v, t', A, fps, r, tk, e, q⟩ => by
    simp only [evE, bnd_some] at e
    obtain ⟨x, t1, e1, y, t2, e2, e3⟩ := e
    exact ev2 r tk e1 e2 fun x y H' fp fq p => idx_ok e3 p q)
theorem n_slL (ha : Pe X B F a ea) (hb : Pe X B F b eb) {p2 : Pos} : Ok X B F (.slL a b) (.Subscript ea (.Slice (some eb) none none p2) pos) :=
  .val (PE_mono (pe_slice slr ha (po_some hb) po_none) fun σ H Q ⟨ρ, t, v, t', A, fps, r, tk, e, q⟩ => by
    simp only [evE, bnd_some, asI_some, lift_some] at e
    obtain ⟨x, t1, e1, y, t2, e2, i, t3, ⟨j, rfl, e3⟩, z, e4, e5⟩ := e
    cases e3
    cases e5
    exact tEv.go r tk e1 fun x H1 fp p => tEv.go (r.kp p.kp tk) p.tin e2 fun y H2 fq p2 => ⟨i, p2.den.intI, sl_ok e4 ((p.m.on p2.kp p2.tin).weak fun i hi => List.mem_append_left _ hi) q⟩)
theorem n_slH (ha : Pe X B F a ea) (hb : Pe X B F b eb) {p2 : Pos} : Ok X B F (.slH a b) (.Subscript ea (.Slice none (some eb) none p2) pos) :=
  .val (PE_mono (pe_slice slr ha po_none (po_some hb)) fun σ H Q ⟨ρ, t, v, t', A, fps, r, tk, e, q⟩ => by
    simp only [evE, bnd_some, asI_some, lift_some] at e
    obtain ⟨x, t1, e1, y, t2, e2, i, t3, ⟨j, rfl, e3⟩, z, e4, e5⟩ := e
    cases e3
    cases e5
    exact tEv.go r tk e1 fun x H1 fp p => tEv.go (r.kp p.kp tk) p.tin e2 fun y H2 fq p2 => ⟨i, p2.den.intI, sl_ok e4 ((p.m.on p2.kp p2.tin).weak fun i hi => List.mem_append_left _ hi) q⟩)
theorem n_slB (ha : Pe X B F a ea) (hb : Pe X B F b eb) (hc : Pe X B F c ec) {p2 : Pos} : Ok X B F (.slB a b c) (.Subscript ea (.Slice (some eb) (some ec) none p2) pos) :=
  .val (PE_mono (pe_slice slr ha (po_some hb) (po_some hc)) fun σ H Q ⟨ρ, t, v, t', A, fps, r, tk, e, q⟩ => by
    simp only [evE, bnd_some, asI_some, lift_some] at e
    obtain ⟨x, t1, e1, y, t2, e2, i, t3, ⟨j, rfl, e3⟩, y', t4, e4, i', t5, ⟨j', rfl, e5⟩, z, e6, e7⟩ := e
    cases e3
    cases e5
    cases e7
    exact tEv.go r tk e1 fun x H1 fp p => tEv.go (r.kp p.kp tk) p.tin e2 fun y H2 fq p2 => ⟨i, p2.den.intI, tEv.go ((r.kp p.kp tk).kp p2.kp p.tin) p2.tin e4 fun y H3 fr p3 => ⟨i', p3.den.intI,
      sl_ok e6 (((p.m.on p2.kp p2.tin).on p3.kp p3.tin).weak fun i hi => List.mem_append_left _ hi) q⟩⟩)
theorem n_rev (ha : Pe X B F a ea) {k : Nat} {p1 p2 p3 : Pos} : Ok X B F (.rev a) (.Subscript ea (.Slice none none (some (.UnaryOp .USub (.Constant (.int 1) k p1) p2)) p3) pos) :=
  .val (PE_mono (pe_revL ha) fun σ H Q ⟨ρ, t, v, t', A, fps, r, tk, e, q⟩ => by
    simp only [evE, bnd_some] at e
    obtain ⟨x, t1, e1, e2⟩ := e
    cases x with
    | lst xs =>
      simp only [ret_some] at e2
      cases e2
      refine tEv.go r tk e1 fun x H1 fp p => ?_
      obtain ⟨a, ys, f, rfl, rfl, hs, hl, ds⟩ := p.den.lstI
      obtain ⟨f', d', s'⟩ := ds.reverse
      exact ⟨a, ys, rfl, SqL.of hs, fun l h0 => q _ _ _ (Post.lst (p.m.posts d' fun c hc => List.mem_cons_of_mem _ (s' c hc)) h0 (by rw [List.length_reverse]; exact hl) fun z => by cases z)⟩
    | _ => simp [M.fail] at e2)
theorem n_orL (ha : Ok X B F a ea) (hb : Ok X B F b eb) : PE X (.BoolOp .Or [ea, eb] pos) (tEv X.K B F (.orL a b)) :=
  PE_mono (pe_orT ha.pe (pe_one hb.pe)) fun σ H Q ⟨ρ, t, v, t', A, fps, r, tk, e, q⟩ => by
    simp only [evE, bnd_some] at e
    obtain ⟨x, t1, e1, e2⟩ := e
    cases x with
    | lst xs =>
      refine tEv.go r tk e1 fun x H1 fp p => ?_
      obtain ⟨a', ys, f, rfl, ef, hs, hl, ds⟩ := p.den.lstI
      cases xs with
      | nil =>
        obtain ⟨ey, _⟩ := ds.nilV
        subst ey
        refine ⟨false, .inl ⟨_, SqL.of hs, rfl⟩, ?_⟩
        rw [if_neg Bool.false_ne_true]
        exact tEv.go (r.kp p.kp tk) p.tin e2 fun y H2 fq p2 => q _ _ _ (p2.via p.kp p.tin (fun i hi => List.mem_append_right _ hi) (fun z => (Bool.and_eq_true_iff.mp z).2) fun z => by cases z)
      | cons x0 xs =>
        simp only [ret_some] at e2
        cases e2
        refine ⟨true, ?_, ?_⟩
        · cases ds with
          | cons d0 ds => exact .inl ⟨_, SqL.of hs, rfl⟩
        · rw [if_pos rfl]
          exact q _ _ _ (p.weak (fun i hi => List.mem_append_left _ hi) (fun z => (Bool.and_eq_true_iff.mp z).1) fun z => by cases z)
    | _ => simp [M.fail] at e2
end
end G
set_option Elab.async false
set_option linter.all false
set_option maxRecDepth 100000
set_option maxHeartbeats 4000000
/-! S3f: and, or, built-in calls, isinstance, calls of defs -/
namespace G
open PySem PySem.Spec PyProof.Rows L2
section
variable {X : Cx} {B : Tab} {F : FS} {a b c : E} {ea eb ec : Expr} {pos : Pos}
structure OkM (X : Cx) (B : Tab) (g : Es → Slots → M PV) (op : BoolOp) (m : Es) (l : List Expr) (pos : Pos) : Prop where
  pe : PE X (.BoolOp op l pos) (tEvM X.K B g m)
  pw : PW X (.BoolOp op l pos) (tTest (tEvM X.K B g m))
theorem and1_go {σ : L2.St} {H : Hp} {Q : VK} (h : tEvM X.K B (evAnd F) (.cons a .nil) σ H Q) : tEv X.K B F a σ H Q := by
  obtain ⟨ρ, t, v, t', A, fps, r, tk, e, q⟩ := h
  simp only [evAnd, bnd_some, asBl_some, ret_some] at e
  obtain ⟨x, t1, e1, d, t2, ⟨j, rfl, e2⟩, e3⟩ := e
  cases e2
  cases e3
  exact tEv.go r tk e1 fun x H1 fp p => q _ _ _ (p.weak (fun i hi => List.mem_append_left _ hi) (fun z => by cases z) fun z => by cases z)
theorem or1_go {σ : L2.St} {H : Hp} {Q : VK} (h : tEvM X.K B (evOr F) (.cons a .nil) σ H Q) : tEv X.K B F a σ H Q := by
  obtain ⟨ρ, t, v, t', A, fps, r, tk, e, q⟩ := h
  simp only [evOr, bnd_some, asBl_some, ret_some] at e
  obtain ⟨x, t1, e1, d, t2, ⟨j, rfl, e2⟩, e3⟩ := e
  cases e2
  cases e3
  exact tEv.go r tk e1 fun x H1 fp p => q _ _ _ (p.weak (fun i hi => List.mem_append_left _ hi) (fun z => by cases z) fun z => by cases z)
theorem and2_go {m : E} {es : Es} {σ : L2.St} {H : Hp} {Q : VK} (h : tEvM X.K B (evAnd F) (.cons a (.cons m es)) σ H Q) : tEv X.K B F a σ H fun x H1 => ∃ c, x = .bl c ∧ if c = true then tEvM X.K B (evAnd F) (.cons m es) σ H1 Q else Q (.bl false) H1 := by
  obtain ⟨ρ, t, v, t', A, fps, r, tk, e, q⟩ := h
  rw [evAnd] at e
  simp only [bnd_some, asBl_some] at e
  obtain ⟨x, t1, e1, d, t2, ⟨j, rfl, e2⟩, e3⟩ := e
  cases e2
  refine tEv.go r tk e1 fun x H1 fp p => ⟨d, p.den.blI, ?_⟩
  cases d with
  | true =>
    rw [if_pos rfl] at e3 ⊢
    exact ⟨ρ, _, v, t', A, fps, r.kp p.kp tk, p.tin, e3, fun y H2 fq p2 => q _ _ _ (p2.via p.kp p.tin (fun i hi => List.mem_append_right _ hi) (fun z => z) fun z => z)⟩
  | false =>
    rw [if_neg Bool.false_ne_true] at e3 ⊢
    simp only [ret_some] at e3
    cases e3
    exact q _ _ _ (Post.nil p.kp p.tin (.bl _))
theorem or2_go {m : E} {es : Es} {σ : L2.St} {H : Hp} {Q : VK} (h : tEvM X.K B (evOr F) (.cons a (.cons m es)) σ H Q) : tEv X.K B F a σ H fun x H1 => ∃ c, x = .bl c ∧ if c = true then Q (.bl true) H1 else tEvM X.K B (evOr F) (.cons m es) σ H1 Q := by
  obtain ⟨ρ, t, v, t', A, fps, r, tk, e, q⟩ := h
  rw [evOr] at e
  simp only [bnd_some, asBl_some] at e
  obtain ⟨x, t1, e1, d, t2, ⟨j, rfl, e2⟩, e3⟩ := e
  cases e2
  refine tEv.go r tk e1 fun x H1 fp p => ⟨d, p.den.blI, ?_⟩
  cases d with
  | false =>
    rw [if_neg Bool.false_ne_true] at e3 ⊢
    exact ⟨ρ, _, v, t', A, fps, r.kp p.kp tk, p.tin, e3, fun y H2 fq p2 => q _ _ _ (p2.via p.kp p.tin (fun i hi => List.mem_append_right _ hi) (fun z => z) fun z => z)⟩
  | true =>
    rw [if_pos rfl] at e3 ⊢
    simp only [ret_some] at e3
    cases e3
    exact q _ _ _ (Post.nil p.kp p.tin (.bl _))
theorem n_and1 (ha : Ok X B F a ea) : OkM X B (evAnd F) .And (.cons a .nil) [ea] pos :=
  ⟨PE_mono (pe_one ha.pe) fun σ H Q h => and1_go h, PW_mono (pw_and1 ha.pt) fun σ H Q h => and1_go h⟩
theorem n_or1 (ha : Ok X B F a ea) : OkM X B (evOr F) .Or (.cons a .nil) [ea] pos :=
  ⟨PE_mono (pe_one ha.pe) fun σ H Q h => or1_go h, PW_mono (pw_or1 ha.pt) fun σ H Q h => or1_go h⟩
theorem tTest_bl {t : TE} {σ : L2.St} {H : Hp} {Q : Bool → Hp → Prop} {b : Bool} (h : ∃ k, V.bl b = V.bl k ∧ Q k H) : Q b H := by
  obtain ⟨k, e, q⟩ := h
  cases e
  exact q
theorem n_and2 {m : E} {es : Es} {l : List Expr} (ha : Ok X B F a ea) (hr : OkM X B (evAnd F) .And (.cons m es) (eb :: l) pos) : OkM X B (evAnd F) .And (.cons a (.cons m es)) (ea :: eb :: l) pos := by
  refine ⟨PE_mono (pe_and ha.pe hr.pe) fun σ H Q h => and2_go h, PW_mono (pw_and ha.pt hr.pw) fun σ H Q h => ?_⟩
  obtain ⟨ρ, t, v, t', A, fps, r, tk, e, q⟩ := and2_go h
  refine ⟨ρ, t, v, t', A, fps, r, tk, e, fun x H1 fp p => ?_⟩
  obtain ⟨k, ek, hk⟩ := q x H1 fp p
  refine ⟨k, ek, ?_⟩
  cases k with
  | true => rw [if_pos rfl] at hk ⊢; exact hk
  | false => rw [if_neg Bool.false_ne_true] at hk ⊢; exact tTest_bl (t := fun _ _ _ => True) (σ := σ) hk
theorem n_or2 {m : E} {es : Es} {l : List Expr} (ha : Ok X B F a ea) (hr : OkM X B (evOr F) .Or (.cons m es) (eb :: l) pos) : OkM X B (evOr F) .Or (.cons a (.cons m es)) (ea :: eb :: l) pos := by
  refine ⟨PE_mono (pe_or ha.pe hr.pe) fun σ H Q h => or2_go h, PW_mono (pw_or ha.pt hr.pw) fun σ H Q h => ?_⟩
  obtain ⟨ρ, t, v, t', A, fps, r, tk, e, q⟩ := or2_go h
  refine ⟨ρ, t, v, t', A, fps, r, tk, e, fun x H1 fp p => ?_⟩
  obtain ⟨k, ek, hk⟩ := q x H1 fp p
  refine ⟨k, ek, ?_⟩
  cases k with
  | false => rw [if_neg Bool.false_ne_true] at hk ⊢; exact hk
  | true => rw [if_pos rfl] at hk ⊢; exact tTest_bl (t := fun _ _ _ => True) (σ := σ) hk
theorem n_and {es : Es} {l : List Expr} (h : OkM X B (evAnd F) .And es l pos) : Ok X B F (.and es) (.BoolOp .And l pos) :=
  ⟨PE_mono h.pe fun σ H Q ⟨ρ, t, v, t', A, fps, r, tk, e, q⟩ => ⟨ρ, t, v, t', A, fps, r, tk, by rw [evE] at e; exact e, q⟩,
    PT_mono h.pw.pt fun σ H Q ⟨ρ, t, v, t', A, fps, r, tk, e, q⟩ => ⟨ρ, t, v, t', A, fps, r, tk, by rw [evE] at e; exact e, q⟩⟩
theorem n_or {es : Es} {l : List Expr} (h : OkM X B (evOr F) .Or es l pos) : Ok X B F (.or es) (.BoolOp .Or l pos) :=
  ⟨PE_mono h.pe fun σ H Q ⟨ρ, t, v, t', A, fps, r, tk, e, q⟩ => ⟨ρ, t, v, t', A, fps, r, tk, by rw [evE] at e; exact e, q⟩,
    PT_mono h.pw.pt fun σ H Q ⟨ρ, t, v, t', A, fps, r, tk, e, q⟩ => ⟨ρ, t, v, t', A, fps, r, tk, by rw [evE] at e; exact e, q⟩⟩

/-! ### built-in calls -/
theorem nw1_b1 (b : B1) (a a' : E) : nw1 B (.b1 b a) = nw1 B (.b1 b a') := by cases b <;> rfl
theorem n_b1 {b : B1} {p : Pos} (hc : X.calm = true) (hm : ∀ x ∈ bnames, X.mg x = none) (hsb : simpB b = true) (hg : Gl X (b1nm b)) (hs : starEach [ea] X.env = (false, eval ea X.env) :: starEach [] X.env) (ha : Pe X B F a ea) : Ok X B F (.b1 b a) (.Call (.Name (b1nm b) p) [ea] [] pos) :=
  .val (PE_mono (pe_b1n hc hm b hsb hg ha hs) fun σ H Q ⟨ρ, t, v, t', A, fps, r, tk, e, q⟩ => by
    simp only [evE, bnd_some, lift_some] at e
    obtain ⟨x, t1, e1, z, e2, e3⟩ := e
    cases e3
    exact tEv.go r tk e1 fun x H1 fp p => b1_ok hsb e2 p.m fun z H2 f b2 ps => q _ _ _ (ps.weak (fun i hi => hi) (fun h => by rw [nw1_b1 b .non a]; exact h) fun z => by cases z))
theorem lset_inv {v z : PV} (e : b1op .lset v = some z) : ∃ ns, v = .lst (ns.map .int) ∧ ns.length ≤ 1000 ∧ z = .int (dedI ns).length := by
  unfold b1op at e
  cases v <;> simp only [reduceCtorEq] at e
  obtain ⟨ns, h1, h2⟩ := Option.bind_eq_some_iff.mp e
  split at h2
  · rename_i h3
    cases h2
    exact ⟨ns, by rw [asInts_eq h1], h3, rfl⟩
  · cases h2
theorem rng_map (n : Int) : (List.range n.toNat).map (fun (k : Nat) => PV.int (0 + (k : Int))) = ((List.range n.toNat).map (fun (k : Nat) => 0 + (k : Int))).map .int := by rw [List.map_map]; rfl
theorem rgV_map (n : Int) : rgV 0 n = ((List.range n.toNat).map (fun (k : Nat) => 0 + (k : Int))).map V.int := by
  unfold rgV
  rw [List.map_map, Int.sub_zero]
  rfl
theorem lrng_inv {v z : PV} (e : b1op .lrng v = some z) : ∃ n, v = .int n ∧ -1000000 ≤ n ∧ n ≤ 1000000 ∧ z = .lst (((List.range n.toNat).map (fun (k : Nat) => 0 + (k : Int))).map .int) := by
  unfold b1op at e
  cases v <;> simp only [reduceCtorEq] at e
  split at e
  · rename_i h
    cases e
    exact ⟨_, rfl, h.1, h.2, by rw [rng_map]⟩
  · cases e
theorem trng_inv {v z : PV} (e : b1op .trng v = some z) : ∃ n, v = .int n ∧ -1000000 ≤ n ∧ n ≤ 1000000 ∧ z = .tup (((List.range n.toNat).map (fun (k : Nat) => 0 + (k : Int))).map .int) := by
  unfold b1op at e
  cases v <;> simp only [reduceCtorEq] at e
  split at e
  · rename_i h
    cases e
    exact ⟨_, rfl, h.1, h.2, by rw [rng_map]⟩
  · cases e
theorem svals_inv {v z : PV} (e : b1op .svals v = some z) : ∃ kvs ns, v = .dct kvs ∧ kvs.map (·.2) = ns.map .int ∧ ns.length < 64 ∧ z = .lst ((sortI ns).map .int) := by
  unfold b1op at e
  cases v <;> simp only [reduceCtorEq] at e
  obtain ⟨ns, h1, h2⟩ := Option.bind_eq_some_iff.mp e
  split at h2
  · rename_i h3
    cases h2
    exact ⟨_, ns, rfl, asInts_eq h1, h3, rfl⟩
  · cases h2
theorem denk_ints {K : PySem.W.Frag} {H : Hp} {A : Option Addr} : ∀ {kvs : List (Int × PV)} {ys : List (Key × V)} {ns : List Int}, Denk K B H A kvs ys → kvs.map (·.2) = ns.map .int → ys.map (·.2) = ns.map V.int
  | [], _, ns, d, e => by
    cases d
    cases ns with
    | nil => rfl
    | cons n ns => simp at e
  | (k, x) :: kvs, _, ns, d, e => by
    cases d with
    | cons h t =>
      cases ns with
      | nil => simp at e
      | cons n ns =>
        simp only [List.map_cons, List.cons.injEq] at e ⊢
        obtain ⟨e1, e2⟩ := e
        subst e1
        exact ⟨h.intI, denk_ints t e2⟩
theorem n_lset {p p2 q : Pos} (hc : X.calm = true) (hm : ∀ x ∈ bnames, X.mg x = none) (hg : Gl X "len") (hg2 : Gl X "set") (hs : starEach [ea] X.env = (false, eval ea X.env) :: starEach [] X.env) (ha : Pe X B F a ea) : Ok X B F (.b1 .lset a) (.Call (.Name "len" p) [.Call (.Name "set" p2) [ea] [] q] [] pos) :=
  .val (PE_mono (pe_lset hg (hm _ (by decide)) hg2 (hm _ (by decide)) ha hc hs) fun σ H Q ⟨ρ, t, v, t', A, fps, r, tk, e, q⟩ => by
    simp only [evE, bnd_some, lift_some] at e
    obtain ⟨x, t1, e1, z, e2, e3⟩ := e
    cases e3
    obtain ⟨ns, rfl, h1, rfl⟩ := lset_inv e2
    refine tEv.go r tk e1 fun x H1 fp p => ?_
    obtain ⟨a, ys, f, rfl, rfl, hs, hl, ds⟩ := p.den.lstI
    rw [ds.ints.1] at hs
    exact ⟨a, ns, rfl, SqL.of hs, h1, q _ _ _ (Post.nil p.kp p.tin (.int _))⟩)
theorem rg_ok {n : Int} (h1 : -1000000 ≤ n) (h2 : n ≤ 1000000) : RgOk 0 n := ⟨by omega, by omega, by omega, by omega, by omega⟩
theorem rg_len {n : Int} (h2 : n ≤ 1000000) : (((List.range n.toNat).map (fun (k : Nat) => 0 + (k : Int))).map V.int).length ≤ sizeLine := by
  rw [List.length_map, List.length_map, List.length_range, sizeLine_eq]; omega
theorem n_lrng {p p2 q : Pos} (hc : X.calm = true) (hm : ∀ x ∈ bnames, X.mg x = none) (hg : Gl X "list") (hg2 : Gl X "range") (hs : starEach [ea] X.env = (false, eval ea X.env) :: starEach [] X.env) (ha : Pe X B F a ea) : Ok X B F (.b1 .lrng a) (.Call (.Name "list" p) [.Call (.Name "range" p2) [ea] [] q] [] pos) :=
  .val (PE_mono (pe_listRg hc hg (hm _ (by decide)) (prg_1 hg2 (hm _ (by decide)) ha hs)) fun σ H Q ⟨ρ, t, v, t', A, fps, r, tk, e, q⟩ => by
    simp only [evE, bnd_some, lift_some] at e
    obtain ⟨x, t1, e1, z, e2, e3⟩ := e
    cases e3
    obtain ⟨n, rfl, h1, h2, rfl⟩ := lrng_inv e2
    refine tEv.go r tk e1 fun x H1 fp p => ⟨n, p.den.intI, rg_ok h1 h2, fun l h0 => ?_⟩
    rw [rgV_map]
    exact q _ _ _ (Post.lst (p.m.posts (dens_ints H1 A _) fun c hc => absurd hc (by simp)) h0 (rg_len h2) fun z => by cases z))
theorem n_trng {p p2 q : Pos} (hc : X.calm = true) (hm : ∀ x ∈ bnames, X.mg x = none) (hg : Gl X "tuple") (hg2 : Gl X "range") (hs : starEach [ea] X.env = (false, eval ea X.env) :: starEach [] X.env) (ha : Pe X B F a ea) : Ok X B F (.b1 .trng a) (.Call (.Name "tuple" p) [.Call (.Name "range" p2) [ea] [] q] [] pos) :=
  .val (PE_mono (pe_tupRg hc hg (hm _ (by decide)) (prg_1 hg2 (hm _ (by decide)) ha hs)) fun σ H Q ⟨ρ, t, v, t', A, fps, r, tk, e, q⟩ => by
    simp only [evE, bnd_some, lift_some] at e
    obtain ⟨x, t1, e1, z, e2, e3⟩ := e
    cases e3
    obtain ⟨n, rfl, h1, h2, rfl⟩ := trng_inv e2
    refine tEv.go r tk e1 fun x H1 fp p => ⟨n, p.den.intI, rg_ok h1 h2, fun l h0 => ?_⟩
    rw [rgV_map]
    exact q _ _ _ (Post.tup (p.m.posts (dens_ints H1 A _) fun c hc => absurd hc (by simp)) h0 (rg_len h2)))
theorem n_svals {p apos mpos : Pos} {y : Str} {yp : Pos} (hc : X.calm = true) (hm : ∀ x ∈ bnames, X.mg x = none) (hg : Gl X "sorted") (hl : (apos.endLine == mpos.line) = true) (ha : Pe X B F a (.Name y yp)) : Ok X B F (.b1 .svals a) (.Call (.Name "sorted" p) [.Call (.Attribute (.Name y yp) "values" apos) [] [] mpos] [] pos) :=
  .val (PE_mono (pe_svals hc hg (hm _ (by decide)) ha rfl hl) fun σ H Q ⟨ρ, t, v, t', A, fps, r, tk, e, q⟩ => by
    simp only [evE, bnd_some, lift_some] at e
    obtain ⟨x, t1, e1, z, e2, e3⟩ := e
    cases e3
    obtain ⟨kvs, ns, rfl, h1, h2, rfl⟩ := svals_inv e2
    refine tEv.go r tk e1 fun x H1 fp p => ?_
    obtain ⟨a, ys, rfl, _, hs, dk⟩ := p.den.dctI
    refine ⟨a, ys, ns, rfl, hs, denk_ints dk h1, h2, fun l h0 => q _ _ _ (Post.lst (p.m.posts (dens_ints H1 A _) fun c hc => absurd hc (by simp)) h0 ?_ fun z => by cases z)⟩
    rw [List.length_map, (sortI_perm ns).length_eq, sizeLine_eq]; omega)
theorem n_mx2 {p : Pos} (hc : X.calm = true) (hm : ∀ x ∈ bnames, X.mg x = none) (hg : Gl X "max") (hs : starEach [ea, eb] X.env = (false, eval ea X.env) :: starEach [eb] X.env) (hs2 : starEach [eb] X.env = (false, eval eb X.env) :: starEach [] X.env) (ha : Pe X B F a ea) (hb : Pe X B F b eb) : Ok X B F (.mx2 a b) (.Call (.Name "max" p) [ea, eb] [] pos) :=
  .val (PE_mono (pe_callB (call_max2 hc) hg (hm _ (by decide)) (by decide +kernel) (pa_cons ha (pa_cons hb pa_nil hs2) hs) (by decide) (by decide) hs (by rw [hs2]; rfl)) fun σ H Q ⟨ρ, t, v, t', A, fps, r, tk, e, q⟩ => by
    simp only [evE, bnd_some, asI_some, ret_some] at e
    obtain ⟨x, t1, e1, i, t2, ⟨i', rfl, e2⟩, y, t3, e3, j, t4, ⟨j', rfl, e4⟩, e5⟩ := e
    cases e2
    cases e4
    cases e5
    exact ev2 r tk e1 e3 fun x y H' fp fq p => ⟨i, j, by rw [p.den.intI, p.den2.intI], q _ _ _ p.int⟩)
theorem n_mn2 {p : Pos} (hc : X.calm = true) (hm : ∀ x ∈ bnames, X.mg x = none) (hg : Gl X "min") (hs : starEach [ea, eb] X.env = (false, eval ea X.env) :: starEach [eb] X.env) (hs2 : starEach [eb] X.env = (false, eval eb X.env) :: starEach [] X.env) (ha : Pe X B F a ea) (hb : Pe X B F b eb) : Ok X B F (.mn2 a b) (.Call (.Name "min" p) [ea, eb] [] pos) :=
  .val (PE_mono (pe_callB (call_min2 hc) hg (hm _ (by decide)) (by decide +kernel) (pa_cons ha (pa_cons hb pa_nil hs2) hs) (by decide) (by decide) hs (by rw [hs2]; rfl)) fun σ H Q ⟨ρ, t, v, t', A, fps, r, tk, e, q⟩ => by
    simp only [evE, bnd_some, asI_some, ret_some] at e
    obtain ⟨x, t1, e1, i, t2, ⟨i', rfl, e2⟩, y, t3, e3, j, t4, ⟨j', rfl, e4⟩, e5⟩ := e
    cases e2
    cases e4
    cases e5
    exact ev2 r tk e1 e3 fun x y H' fp fq p => ⟨i, j, by rw [p.den.intI, p.den2.intI], q _ _ _ p.int⟩)

/-! ### isinstance -/
theorem tynm_bn (t : Ty) : tynm t ∈ bnames := by cases t <;> decide
theorem tynm_boot (t : Ty) : bootBuiltins (tynm t) = some (.type (tyS t)) := by cases t <;> decide +kernel
theorem tynm_1 (t : Ty) : tynm t ≠ "__name__" := by cases t <;> decide
theorem tynm_2 (t : Ty) : (tynm t == ("__debug__" : Str)) = false := by cases t <;> decide
theorem pe_ty (hm : ∀ x ∈ bnames, X.mg x = none) (t : Ty) (hg : Gl X (tynm t)) : PE X (.Name (tynm t) pos) (tC (.ty (tyS t))) := pe_bltn hg (hm _ (tynm_bn t)) (tynm_boot t) rfl (tynm_1 t) (tynm_2 t)
def tTys (ts : List Ty) : TA := fun _ H Q => Q (ts.map fun t => .ty (tyS t)) H
theorem pa_tys (hm : ∀ x ∈ bnames, X.mg x = none) : ∀ {ts : List Ty} {l : List Expr}, tysIs X.env.scope ts l = true → PA X l (tTys ts)
  | [], [], _ => pa_nil
  | [], _ :: _, h => absurd h Bool.false_ne_true
  | _ :: _, [], h => absurd h Bool.false_ne_true
  | t :: ts, e :: l, h => by
    cases e with
    | Name x p =>
      simp only [tysIs, Bool.and_eq_true, decide_eq_true_eq] at h
      obtain ⟨⟨rfl, h2⟩, h3⟩ := h
      exact pa_cons (pe_ty hm t (glB_gl h2)) (pa_tys hm h3)
    | _ => simp [tysIs] at h
theorem kit1 {K : PySem.W.Frag} {t u : Value} {b : Bool} (h : PySem.W.kitAny K t [u] = some b) : PySem.W.kitOne K t u = some b := by
  unfold PySem.W.kitAny at h
  cases q : PySem.W.kitOne K t u with
  | none => rw [q] at h; cases h
  | some r =>
    rw [q] at h
    cases r with
    | true => exact h
    | false => exact h
theorem cls_tys (ts : List Ty) : Paired ClsV (ts.map fun t => V.ty (tyS t)) (ts.map fun t => Value.type (tyS t)) := by
  induction ts with
  | nil => exact .nil
  | cons t ts ih => exact .cons (.ty _) ih
theorem n_isi1 {p : Pos} {t0 : Ty} {p2 : Pos} (hm : ∀ x ∈ bnames, X.mg x = none) (hg : Gl X "isinstance") (hg2 : Gl X (tynm t0)) (hs : starEach [ea, .Name (tynm t0) p2] X.env = (false, eval ea X.env) :: starEach [.Name (tynm t0) p2] X.env) (ha : Pe X B F a ea) : Ok X B F (.isi a [t0]) (.Call (.Name "isinstance" p) [ea, .Name (tynm t0) p2] [] pos) :=
  .val (PE_mono (pe_callB call_isi hg (hm _ (by decide)) (by decide +kernel) (pa_cons ha (pa_cons (pe_ty hm t0 hg2) pa_nil) hs) (by decide) (by decide) hs rfl) fun σ H Q ⟨ρ, t, v, t', A, fps, r, tk, e, q⟩ => by
    simp only [evE, bnd_some, lift_some, ret_some] at e
    obtain ⟨x, t1, e1, d, t2, ⟨d', e2, e3⟩, e4⟩ := e
    cases e3
    cases e4
    refine tEv.go r tk e1 fun x H1 fp p => ?_
    obtain ⟨T, h1, h2⟩ := den_ty p.den e2
    exact ⟨x, .ty (tyS t0), .type T, .type (tyS t0), d, rfl, .ty _, h1, kit1 h2, q _ _ _ (Post.nil p.kp p.tin (.bl _))⟩)
theorem n_isiT {p : Pos} {ts : List Ty} {l : List Expr} {k : Nat} {p2 : Pos} (hm : ∀ x ∈ bnames, X.mg x = none) (hg : Gl X "isinstance") (ht : tysIs X.env.scope ts l = true) (hk : ts.length ≤ 1000) (hs : starEach [ea, .Tuple l k p2] X.env = (false, eval ea X.env) :: starEach [.Tuple l k p2] X.env) (ha : Pe X B F a ea) : Ok X B F (.isi a ts) (.Call (.Name "isinstance" p) [ea, .Tuple l k p2] [] pos) :=
  .val (PE_mono (pe_callB call_isiT hg (hm _ (by decide)) (by decide +kernel) (pa_cons ha (pa_cons (pe_tup (pa_tys hm ht)) pa_nil) hs) (by decide) (by decide) hs rfl) fun σ H Q ⟨ρ, t, v, t', A, fps, r, tk, e, q⟩ => by
    simp only [evE, bnd_some, lift_some, ret_some] at e
    obtain ⟨x, t1, e1, d, t2, ⟨d', e2, e3⟩, e4⟩ := e
    cases e3
    cases e4
    refine tEv.go r tk e1 fun x H1 fp p => ⟨by rw [List.length_map]; exact le_big hk, fun l h0 => ?_⟩
    obtain ⟨T, h1, h2⟩ := den_ty (p.den.new (o := .tup (ts.map fun t => V.ty (tyS t))) h0) e2
    exact ⟨x, l, _, .type T, _, d, rfl, upd_same, cls_tys ts, h1, h2, q _ _ _ (Post.nil (p.kp.trans (fr_new h0)) (tin_new p.tin h0) (.bl _))⟩)

/-! ### a def called -/
theorem n_pa0 {l : List Expr} : PA X [] (tEvs X.K B F .nil) := ⟨fun po pins s σ H Q I ⟨ρ, t, v, t', A, fps, r, tk, e, q⟩ => by
  simp only [evEs, ret_some] at e
  cases e
  exact pa_nil.run po pins s σ H Q I (q _ _ _ ⟨Fr.refl, tk, .nil, fun _ h => absurd h (by simp), fun _ h => absurd h (by simp)⟩)⟩
theorem n_pa {es : Es} {l : List Expr} (ha : Pe X B F a ea) (hr : PA X l (tEvs X.K B F es)) (hs : starEach (ea :: l) X.env = (false, eval ea X.env) :: starEach l X.env) : PA X (ea :: l) (tEvs X.K B F (.cons a es)) :=
  PA_mono (pa_cons ha hr hs) fun σ H Q ⟨ρ, t, v, t', A, fps, r, tk, e, q⟩ => by
    simp only [evEs, bnd_some, ret_some] at e
    obtain ⟨x, t1, e1, ys, t2, e2, e3⟩ := e
    cases e3
    refine tEv.go r tk e1 fun x H1 fp p => tEvs.go (r.kp p.kp tk) p.tin e2 fun y H2 fq p2 => q _ _ (fp ++ fq) ⟨p.kp.trans p2.kp, p2.tin, .cons (p.den.kp p2.kp p.tin p.off) p2.den, fun c hc => ?_, fun c hc => (List.mem_append.mp hc).elim (p.off c) (p2.off c)⟩
    rcases List.mem_append.mp hc with hc | hc
    · exact (p.sub c hc).imp id fun ⟨i, hi, h⟩ => ⟨i, List.mem_append_left _ hi, h⟩
    · exact (p2.sub c hc).imp (free_kp p.kp p.tin) fun ⟨i, hi, h⟩ => ⟨i, List.mem_append_right _ hi, h⟩
theorem call_go {es : Es} {f : Nat} {σ : L2.St} {H : Hp} {Q : VK} (h : tEv X.K B F (.call f es) σ H Q) : tCall (spF X.K B F f) [] E0 (tEvs X.K B F es) σ H Q := by
  obtain ⟨ρ, t, v, t', A, fps, r, tk, e, q⟩ := h
  simp only [evE, bnd_some] at e
  obtain ⟨xs, t1, e1, e2⟩ := e
  refine tEvs.go r tk e1 fun x H1 fp p => ?_
  show spF X.K B F f (x ++ []) H1 Q E0
  rw [List.append_nil]
  refine ⟨A, t1, xs, fp, v, t', p.den, p.off, p.tin, e2, fun y H' fp' k1 tk1 d1 s1 o1 n1 => q _ _ _ ⟨p.kp.trans k1, tk1, d1, fun c hc => ?_, o1, fun hb he c hc => free_kp p.kp p.tin (n1 hb he c hc), fun z => by cases z⟩⟩
  exact (s1 c hc).elim (fun z => .inl (free_kp p.kp p.tin z)) fun z => p.sub c z
theorem n_call {es : Es} {f : Nat} {x : Str} {p : Pos} {l : List Expr} (ok : XOk B F X) (hx : x = B.nm f) (hg : Gl X x) (hn : okN x = true) (hl : cEs B X.N X.env.scope es l = true) (hs : ∀ e l', l = e :: l' → starEach l X.env = (false, eval e X.env) :: starEach l' X.env) (hp : (backTo pos (starEach (l.drop 1) X.env)).any (·.1) = false) (ha : PA X l (tEvs X.K B F es)) :
    Ok X B F (.call f es) (.Call (.Name x p) l [] pos) := by
  have pe : PE X (.Call (.Name x p) l [] pos) (tEv X.K B F (.call f es)) := by
    by_cases hf : ∃ xs t r, F f xs t = some r
    · obtain ⟨xs, t, r, hf⟩ := hf
      obtain ⟨k, fd, ps, h1, h2, h3, h4, h5⟩ := ok.call f xs t r hf
      subst hx
      cases l with
      | nil =>
        have he : es = .nil := by
          cases es with
          | nil => rfl
          | cons a b => simp [cEs] at hl
        subst he
        exact PE_mono (pe_call0 (dvs := []) h1 h2 hg h3 h4 h5 .nil pass0 (okN1 hn)) fun σ H Q h => by
          obtain ⟨ρ, t, v, t', A, fps, r, tk, e, q⟩ := call_go h
          simp only [evEs, ret_some] at e
          cases e
          exact q _ _ _ ⟨Fr.refl, tk, .nil, fun _ h => absurd h (by simp), fun _ h => absurd h (by simp)⟩
      | cons e l' => exact PE_mono (pe_call (dvs := []) h1 h2 hg h3 h4 h5 .nil pass0 ha (okN1 hn) (hs e l' rfl) hp) fun σ H Q h => call_go h
    · refine ⟨fun pins s σ H Q I ⟨ρ, t, v, t', A, fps, r, tk, e, q⟩ => ?_⟩
      simp only [evE, bnd_some] at e
      obtain ⟨xs, t1, e1, e2⟩ := e
      exact absurd ⟨_, _, _, e2⟩ hf
  exact .val pe
end
end G
set_option Elab.async false
set_option linter.all false
set_option maxRecDepth 100000
set_option maxHeartbeats 4000000
/-! S3g: what is gone through; targets; comprehensions -/
namespace G
open PySem PySem.Spec PyProof.Rows L2

/-! ### what is gone through -/
def Sf (fp : List Addr) (H1 Hx : Hp) : Prop := ∃ W : Addr → Prop, Fr W H1 Hx ∧ Wl W H1 ∧ ∀ a ∈ fp, ¬ W a
def YP (K : PySem.W.Frag) (B : Tab) (A : Option Addr) (xs : List PV) (fp : List Addr) : Nat → Hp → V → Hp → Prop := fun i Hx x Hy =>
  ∃ p f, xs[i]? = some p ∧ Den K B Hy A p x f ∧ (∀ a ∈ f, a ∈ fp) ∧ Fr (fun _ => False) Hx Hy
structure PostI (K : PySem.W.Frag) (B : Tab) (H H' : Hp) (A : Option Addr) (t' : Tn) (fps : Nat → List Addr) (vs : List Nat) (xs : List PV) (fp : List Addr) (J : L2.It) : Prop where
  kp : Kp A H H'
  tin : TinOk A t' H'
  sub : ∀ a ∈ fp, H a = none ∨ ∃ i ∈ vs, a ∈ fps i
  off : Off A fp
  al : ∀ a ∈ fp, ∃ o, H' a = some o
  len : xs.length ≤ sizeLine
  wk : Walk J xs.length (Sf fp H') (YP K B A xs fp)
section
variable {K : PySem.W.Frag} {B : Tab} {H H' H1 : Hp} {A : Option Addr} {t t' : Tn} {fps : Nat → List Addr} {va vb vs : List Nat} {v w : PV} {x y : V} {fp fq : List Addr}
theorem Dens.get' {v : List PV} {x : List V} {fp : List Addr} (d : Dens K B H A v x fp) : ∀ {i : Nat} {y : V}, x[i]? = some y → ∃ p f, v[i]? = some p ∧ Den K B H A p y f ∧ ∀ a ∈ f, a ∈ fp := by
  induction x generalizing v fp with
  | nil => intro i p h; simp at h
  | cons x xs ih =>
    intro i p h
    cases d with
    | cons hd t =>
      cases i with
      | zero =>
        simp at h
        subst h
        exact ⟨_, _, rfl, hd, fun a ha => List.mem_append_left _ ha⟩
      | succ i =>
        obtain ⟨y, f, e, d, m⟩ := ih t (i := i) (y := p) (by simpa using h)
        exact ⟨y, f, by simpa using e, d, fun a ha => List.mem_append_right _ (m a ha)⟩
theorem Sf.den {p : PV} {x : V} {f : List Addr} {Hx : Hp} (s : Sf fp H1 Hx) (d : Den K B H1 A p x f) (h : ∀ a ∈ f, a ∈ fp) : Den K B Hx A p x f := by
  obtain ⟨W, h1, h2, h3⟩ := s
  exact d.fr h1 h2 (fun _ e => e) fun a ha => h3 a (h a ha)
theorem den_pair {H Hy : Hp} {T : Addr} {p q : PV} {x y : V} {f g : List Addr} (h0 : H T = none) (e : Hy = upd H T (.tup [x, y])) (d1 : Den K B H A p x f) (d2 : Den K B H A q y g) : Den K B Hy A (.tup [p, q]) (.ref T) (f ++ (g ++ [])) := by
  subst e
  exact .tup (SqT.of upd_same) (by show 2 ≤ sizeLine; decide) (.cons (d1.new h0) (.cons (d2.new h0) .nil))
theorem enum_get : ∀ (xs : List PV) (k i : Nat) (p : PV), xs[i]? = some p → (enumFrom k xs)[i]? = some (.tup [.int ((k + i : Nat) : Int), p])
  | [], k, i, p, h => by simp at h
  | x :: xs, k, 0, p, h => by simp at h; subst h; simp [enumFrom]
  | x :: xs, k, i + 1, p, h => by
    simp only [List.getElem?_cons_succ] at h
    have := enum_get xs (k + 1) i p h
    simp only [enumFrom, List.getElem?_cons_succ]
    rw [this, show k + 1 + i = k + (i + 1) by omega]
theorem enum_len : ∀ (xs : List PV) (k : Nat), (enumFrom k xs).length = xs.length
  | [], _ => rfl
  | x :: xs, k => by simp [enumFrom, enum_len xs (k + 1)]
theorem zip_get : ∀ (xs ys : List PV) (i : Nat) (p q : PV), xs[i]? = some p → ys[i]? = some q → (zipPV xs ys)[i]? = some (.tup [p, q])
  | [], _, i, p, q, h, _ => by simp at h
  | x :: xs, [], i, p, q, _, h => by simp at h
  | x :: xs, y :: ys, 0, p, q, h, h2 => by simp at h h2; subst h h2; simp [zipPV]
  | x :: xs, y :: ys, i + 1, p, q, h, h2 => by
    simp only [List.getElem?_cons_succ] at h h2
    simp only [zipPV, List.getElem?_cons_succ]
    exact zip_get xs ys i p q h h2
theorem zip_len : ∀ (xs ys : List PV), (zipPV xs ys).length = min xs.length ys.length
  | [], ys => by simp [zipPV]
  | x :: xs, [] => by simp [zipPV]
  | x :: xs, y :: ys => by simp [zipPV, zip_len xs ys]
theorem rng_get (lo : Int) (n i : Nat) (h : i < n) : (rngPV lo n)[i]? = some (.int (lo + i)) := by
  unfold rngPV
  rw [List.getElem?_map, List.getElem?_range h]
  rfl
theorem rng_len (lo : Int) (n : Nat) : (rngPV lo n).length = n := by unfold rngPV; simp
theorem post_list {xs : List PV} (p : PostM K B H H' A t' fps va (.lst xs) x fp) : ∃ a ys, x = .ref a ∧ SqL K H' a ys ∧ PostI K B H H' A t' fps va xs fp (Itl K a) := by
  obtain ⟨a, ys, f, rfl, rfl, hs, hl, ds⟩ := p.den.lstI
  refine ⟨a, ys, rfl, SqL.of hs, p.kp, p.tin, p.sub, p.off, p.den.al, by rw [ds.len]; exact hl, ?_⟩
  rw [ds.len]
  refine walk_list.mono (fun Hx ⟨W, h1, h2, h3⟩ => SqL.of (h1 a _ hs (h3 a List.mem_cons_self))) fun i Hx x Hy hi s y => ?_
  obtain ⟨rfl, e⟩ := y
  obtain ⟨q, g, e1, d, m⟩ := ds.get' e
  exact ⟨q, g, e1, s.den d fun c hc => List.mem_cons_of_mem _ (m c hc), fun c hc => List.mem_cons_of_mem _ (m c hc), Fr.refl⟩
theorem post_tup {xs : List PV} (p : PostM K B H H' A t' fps va (.tup xs) x fp) : ∃ a ys, x = .ref a ∧ SqT K H' a ys ∧ PostI K B H H' A t' fps va xs fp (Itt K a) := by
  obtain ⟨a, ys, rfl, hs, hl, ds⟩ := p.den.tupI
  refine ⟨a, ys, rfl, hs, p.kp, p.tin, p.sub, p.off, p.den.al, by rw [ds.len]; exact hl, ?_⟩
  rw [ds.len]
  refine walk_tup.mono (fun Hx ⟨W, h1, h2, h3⟩ => SqT.fr h1 h2 hs) fun i Hx x Hy hi s y => ?_
  obtain ⟨rfl, e⟩ := y
  obtain ⟨q, g, e1, d, m⟩ := ds.get' e
  exact ⟨q, g, e1, s.den d m, m, Fr.refl⟩
theorem post_rng {lo : Int} {n : Nat} (hn : n ≤ 2000000) (k : Kp A H H') (tk : TinOk A t' H') : PostI K B H H' A t' fps va (rngPV lo n) [] (Itr lo n) := by
  refine ⟨k, tk, fun _ h => absurd h (by simp), fun _ h => absurd h (by simp), fun _ h => absurd h (by simp), by rw [rng_len, sizeLine_eq]; omega, ?_⟩
  rw [rng_len]
  refine walk_range.mono (fun _ _ => trivial) fun i Hx x Hy hi s y => ?_
  obtain ⟨rfl, rfl⟩ := y
  exact ⟨_, [], rng_get lo n i hi, .int _, fun _ h => absurd h (by simp), Fr.refl⟩
theorem post_enum {xs : List PV} (p : PostM K B H H' A t' fps va (.lst xs) x fp) : ∃ a ys, x = .ref a ∧ SqL K H' a ys ∧ PostI K B H H' A t' fps va (enumFrom 0 xs) fp (Ite K a) := by
  obtain ⟨a, ys, f, rfl, rfl, hs, hl, ds⟩ := p.den.lstI
  refine ⟨a, ys, rfl, SqL.of hs, p.kp, p.tin, p.sub, p.off, p.den.al, by rw [enum_len, ds.len]; exact hl, ?_⟩
  rw [enum_len, ds.len]
  refine walk_enum.mono (fun Hx ⟨W, h1, h2, h3⟩ => SqL.of (h1 a _ hs (h3 a List.mem_cons_self))) fun i Hx x Hy hi s y => ?_
  obtain ⟨T, u, z, rfl, h0, eH, e1, e2⟩ := y
  cases e1
  obtain ⟨q, g, e3, d, m⟩ := ds.get' e2
  have d2 : Den K B Hx A q z g := s.den d fun c hc => List.mem_cons_of_mem _ (m c hc)
  have d0 : Den K B Hx A (.int ((0 + i : Nat) : Int)) (.int (i : Nat)) [] := by rw [Nat.zero_add]; exact .int _
  refine ⟨_, _, enum_get xs 0 i q e3, den_pair h0 eH d0 d2, ?_, by rw [eH]; exact fr_new h0⟩
  · intro c hc
    simp at hc
    exact List.mem_cons_of_mem _ (m c hc)
theorem post_zipL {xs ys : List PV} (p : Post2 K B H H' A t' fps va vb (.lst xs) (.lst ys) x y fp fq) : ∃ a b us ws, x = .ref a ∧ y = .ref b ∧ SqL K H' a us ∧ SqL K H' b ws ∧ PostI K B H H' A t' fps (va ++ vb) (zipPV xs ys) (fp ++ fq) (Itz K a b) := by
  obtain ⟨a, us, f, rfl, rfl, hs, hl, ds⟩ := p.den.lstI
  obtain ⟨b, ws, g, rfl, rfl, hs2, hl2, ds2⟩ := p.den2.lstI
  refine ⟨a, b, us, ws, rfl, rfl, SqL.of hs, SqL.of hs2, p.kp, p.tin, fun c hc => ?_, fun c hc => (List.mem_append.mp hc).elim (p.off c) (p.off2 c), fun c hc => (List.mem_append.mp hc).elim (p.den.al c) (p.den2.al c), by rw [zip_len, ds.len]; omega, ?_⟩
  · rcases List.mem_append.mp hc with hc | hc
    · exact (p.sub c hc).imp id fun ⟨i, hi, h⟩ => ⟨i, List.mem_append_left _ hi, h⟩
    · exact (p.sub2 c hc).imp id fun ⟨i, hi, h⟩ => ⟨i, List.mem_append_right _ hi, h⟩
  refine (walk_zip (xs := us) (ys := ws) (n := (zipPV xs ys).length) (by rw [zip_len, ds.len, ds2.len])).mono (fun Hx ⟨W, h1, h2, h3⟩ => ⟨SqL.of (h1 a _ hs (h3 a (by simp))), SqL.of (h1 b _ hs2 (h3 b (by simp)))⟩) fun i Hx x Hy hi s y => ?_
  obtain ⟨T, u, z, rfl, h0, eH, e1, e2⟩ := y
  obtain ⟨q, g1, e3, d, m⟩ := ds.get' e1
  obtain ⟨q2, g2, e4, d2, m2⟩ := ds2.get' e2
  refine ⟨_, _, zip_get xs ys i q q2 e3 e4, den_pair h0 eH (s.den d fun c hc => List.mem_append_left _ (List.mem_cons_of_mem _ (m c hc))) (s.den d2 fun c hc => List.mem_append_right _ (List.mem_cons_of_mem _ (m2 c hc))), ?_, by rw [eH]; exact fr_new h0⟩
  intro c hc
  rw [List.append_nil] at hc
  rcases List.mem_append.mp hc with hc | hc
  · exact List.mem_append_left _ (List.mem_cons_of_mem _ (m c hc))
  · exact List.mem_append_right _ (List.mem_cons_of_mem _ (m2 c hc))
theorem walk_zipT {a b : Addr} {us ws : List V} {n : Nat} (hn : n = min us.length ws.length) : Walk (RZ.ItzT K a b) n (fun H => SqT K H a us ∧ SqT K H b ws) (YPair (fun i => us[i]?) (fun i => ws[i]?)) := by
  subst hn
  refine ⟨fun i _ hi q => ?_, fun _ q => ⟨us, ws, q.1, q.2, by omega⟩, fun i H v H' _ q y => ?_⟩
  · have h1 : i < us.length := by omega
    have h2 : i < ws.length := by omega
    exact ⟨us, ws, us[i], ws[i], q.1, q.2, by simp [h1], by simp [h2]⟩
  · obtain ⟨T, x, z, h1, h2, h3, h4, h5⟩ := y
    exact ⟨T, x, z, h1, h2, h3, h4 us q.1, h5 ws q.2⟩
theorem post_zipT {xs ys : List PV} (p : Post2 K B H H' A t' fps va vb (.tup xs) (.tup ys) x y fp fq) : ∃ a b us ws, x = .ref a ∧ y = .ref b ∧ SqT K H' a us ∧ SqT K H' b ws ∧ PostI K B H H' A t' fps (va ++ vb) (zipPV xs ys) (fp ++ fq) (RZ.ItzT K a b) := by
  obtain ⟨a, us, rfl, hs, hl, ds⟩ := p.den.tupI
  obtain ⟨b, ws, rfl, hs2, hl2, ds2⟩ := p.den2.tupI
  refine ⟨a, b, us, ws, rfl, rfl, hs, hs2, p.kp, p.tin, fun c hc => ?_, fun c hc => (List.mem_append.mp hc).elim (p.off c) (p.off2 c), fun c hc => (List.mem_append.mp hc).elim (p.den.al c) (p.den2.al c), by rw [zip_len, ds.len]; omega, ?_⟩
  · rcases List.mem_append.mp hc with hc | hc
    · exact (p.sub c hc).imp id fun ⟨i, hi, h⟩ => ⟨i, List.mem_append_left _ hi, h⟩
    · exact (p.sub2 c hc).imp id fun ⟨i, hi, h⟩ => ⟨i, List.mem_append_right _ hi, h⟩
  refine (walk_zipT (us := us) (ws := ws) (n := (zipPV xs ys).length) (by rw [zip_len, ds.len, ds2.len])).mono (fun Hx ⟨W, h1, h2, h3⟩ => ⟨SqT.fr h1 h2 hs, SqT.fr h1 h2 hs2⟩) fun i Hx x Hy hi s y => ?_
  obtain ⟨T, u, z, rfl, h0, eH, e1, e2⟩ := y
  obtain ⟨q, g1, e3, d, m⟩ := ds.get' e1
  obtain ⟨q2, g2, e4, d2, m2⟩ := ds2.get' e2
  refine ⟨_, _, zip_get xs ys i q q2 e3 e4, den_pair h0 eH (s.den d fun c hc => List.mem_append_left _ (m c hc)) (s.den d2 fun c hc => List.mem_append_right _ (m2 c hc)), ?_, by rw [eH]; exact fr_new h0⟩
  intro c hc
  rw [List.append_nil] at hc
  rcases List.mem_append.mp hc with hc | hc
  · exact List.mem_append_left _ (m c hc)
  · exact List.mem_append_right _ (m2 c hc)
end
/-- the slots whose lists may be gone through -/
def It.lv : It → List Nat
  | .e a => a.vars
  | .rng _ => []
  | .rng2 _ _ => []
  | .enum a => a.vars
  | .zip a b => a.vars ++ b.vars
theorem It.lv_sub : ∀ (it : It) (i : Nat), i ∈ it.lv → i ∈ it.vars
  | .e a, i, h => h
  | .rng _, i, h => absurd h (by simp [It.lv])
  | .rng2 _ _, i, h => absurd h (by simp [It.lv])
  | .enum a, i, h => h
  | .zip a b, i, h => h
def tIt (K : PySem.W.Frag) (B : Tab) (F : FS) (it : It) : TI := fun σ H R => ∃ ρ t xs t' A fps, RelS K B ρ σ H A fps ∧ TinOk A t H ∧ evI F it ρ t = some (xs, t') ∧
  ∀ J H' fp, PostI K B H H' A t' fps it.lv xs fp J → R J H'
section
variable {X : Cx} {B : Tab} {F : FS} {a b c : E} {ea eb ec et : Expr} {pos : Pos}
theorem pi_lt {l : Expr} {tl : TE} (hl : PE X l tl) : PI X et l (fun σ H R => tl σ H fun x H1 => ∃ a xs, x = .ref a ∧ ((SqL X.K H1 a xs ∧ R (Itl X.K a) H1) ∨ (SqT X.K H1 a xs ∧ R (Itt X.K a) H1))) := by
  refine ⟨fun pins s σ H R I h => ?_⟩
  refine thn (hl.run pins s σ H _ I h) fun v s1 ⟨x, H1, I1, r1, q1⟩ => ?_
  obtain ⟨a, xs, e, q⟩ := q1
  subst e
  cases r1
  rcases q with ⟨hq, q⟩ | ⟨hq, q⟩
  · obtain ⟨its, rv, p, hz⟩ := I1.list hq
    refine wpAny_pyIter_list p.isList ?_
    refine ⟨s1.heap.objs.size, [s1.heap.objs.size], _, _, H1, rfl, I1.kept (t' := s1.toks) fun b o e => Heap.get?_push_of_some _ e, turn_list a _, ⟨_, Heap.get?_push_size _ rfl, rfl, rfl⟩, fun b hb => ?_, q⟩
    have e : b = s1.heap.objs.size := by simpa using hb
    subst e
    exact I1.fpOk (Nat.le_refl _) (I1.hok.fresh (Nat.le_refl _))
  · obtain ⟨its, rv, p, hz⟩ := I1.tuple hq
    refine wpAny_pyIter_tuple (show s1.heap.IsTuple a its.toArray from p) ?_
    refine ⟨s1.heap.objs.size, [s1.heap.objs.size], _, _, H1, rfl, I1.kept (t' := s1.toks) fun b o e => Heap.get?_push_of_some _ e, turn_tuple a _, ⟨_, Heap.get?_push_size _ rfl, rfl, rfl⟩, fun b hb => ?_, q⟩
    have e : b = s1.heap.objs.size := by simpa using hb
    subst e
    exact I1.fpOk (Nat.le_refl _) (I1.hok.fresh (Nat.le_refl _))
theorem asIt_some {v : PV} {t : Tn} {r : List PV × Tn} : asIt v t = some r ↔ ∃ xs, (v = .tup xs ∨ v = .lst xs) ∧ r = (xs, t) := by
  unfold asIt
  cases v <;> simp [M.ret, M.fail, eq_comm]
theorem asLs_some {v : PV} {t : Tn} {r : List PV × Tn} : asLs v t = some r ↔ ∃ xs, v = .lst xs ∧ r = (xs, t) := by
  unfold asLs
  cases v <;> simp [M.ret, M.fail, eq_comm]
theorem n_itE (ha : Pe X B F a ea) : PI X et ea (tIt X.K B F (.e a)) :=
  PI_mono (pi_lt ha) fun σ H Q ⟨ρ, t, v, t', A, fps, r, tk, e, q⟩ => by
    simp only [evI, bnd_some, asIt_some] at e
    obtain ⟨x, t1, e1, xs, e2, e3⟩ := e
    cases e3
    refine tEv.go r tk e1 fun x H1 fp p => ?_
    rcases e2 with rfl | rfl
    · obtain ⟨a, ys, rfl, hs, w⟩ := post_tup p.m
      exact ⟨a, ys, rfl, .inr ⟨hs, q _ _ _ w⟩⟩
    · obtain ⟨a, ys, rfl, hs, w⟩ := post_list p.m
      exact ⟨a, ys, rfl, .inl ⟨hs, q _ _ _ w⟩⟩
theorem n_itR {p : Pos} (hm : ∀ x ∈ bnames, X.mg x = none) (hg : Gl X "range") (hs : starEach [ea] X.env = [(false, eval ea X.env)]) (ha : Pe X B F a ea) : PI X et (.Call (.Name "range" p) [ea] [] pos) (tIt X.K B F (.rng a)) :=
  PI_mono (pi_range1 hg (hm _ (by decide)) (pa_cons ha pa_nil (by rw [hs]; rfl)) hs) fun σ H Q ⟨ρ, t, v, t', A, fps, r, tk, e, q⟩ => by
    simp only [evI, bnd_some, asI_some, chk_some, ret_some, Bool.and_eq_true, decide_eq_true_eq] at e
    obtain ⟨x, t1, e1, i, t2, ⟨j, rfl, e2⟩, u, t3, ⟨⟨h1, h2⟩, e3⟩, e4⟩ := e
    cases e2
    cases e3
    cases e4
    exact tEv.go r tk e1 fun x H1 fp p => ⟨i, by rw [p.den.intI], by omega, by omega, q _ _ _ (post_rng (by omega) p.kp p.tin)⟩
theorem n_itR2 {p : Pos} (hm : ∀ x ∈ bnames, X.mg x = none) (hg : Gl X "range") (hs : starEach [ea, eb] X.env = [(false, eval ea X.env), (false, eval eb X.env)]) (hs2 : starEach [eb] X.env = [(false, eval eb X.env)]) (ha : Pe X B F a ea) (hb : Pe X B F b eb) : PI X et (.Call (.Name "range" p) [ea, eb] [] pos) (tIt X.K B F (.rng2 a b)) :=
  PI_mono (pi_range2 hg (hm _ (by decide)) (pa_cons ha (pa_cons hb pa_nil (by rw [hs2]; rfl)) (by rw [hs, hs2])) hs hs2) fun σ H Q ⟨ρ, t, v, t', A, fps, r, tk, e, q⟩ => by
    simp only [evI, bnd_some, asI_some, chk_some, ret_some, Bool.and_eq_true, decide_eq_true_eq] at e
    obtain ⟨x, t1, e1, i, t2, ⟨i', rfl, e2⟩, y, t3, e3, j, t4, ⟨j', rfl, e4⟩, u, t5, ⟨⟨⟨⟨h1, h2⟩, h3⟩, h4⟩, e5⟩, e6⟩ := e
    cases e2
    cases e4
    cases e5
    cases e6
    exact ev2 r tk e1 e3 fun x y H' fp fq p => ⟨i, j, by rw [p.den.intI, p.den2.intI], ⟨by omega, by omega, by omega, by omega⟩, q _ _ _ (post_rng (by omega) p.kp p.tin)⟩
theorem n_itN {p : Pos} {elts : List Expr} {kk : Nat} {tpos : Pos} (hm : ∀ x ∈ bnames, X.mg x = none) (hg : Gl X "enumerate") (hs : starEach [ea] X.env = [(false, eval ea X.env)]) (ha : Pe X B F a ea) : PI X (.Tuple elts kk tpos) (.Call (.Name "enumerate" p) [ea] [] pos) (tIt X.K B F (.enum a)) :=
  PI_mono (pi_enum hg (hm _ (by decide)) (pa_cons ha pa_nil (by rw [hs]; rfl)) hs) fun σ H Q ⟨ρ, t, v, t', A, fps, r, tk, e, q⟩ => by
    simp only [evI, bnd_some, asLs_some, ret_some] at e
    obtain ⟨x, t1, e1, xs, t2, ⟨ys, rfl, e2⟩, e3⟩ := e
    cases e2
    cases e3
    refine tEv.go r tk e1 fun x H1 fp p => ?_
    obtain ⟨a, ys, rfl, hs, w⟩ := post_enum p.m
    exact ⟨a, ys, rfl, hs, q _ _ _ w⟩
theorem n_itZ {p : Pos} {elts : List Expr} {kk : Nat} {tpos : Pos} (hm : ∀ x ∈ bnames, X.mg x = none) (hg : Gl X "zip") (hs : starEach [ea, eb] X.env = (false, eval ea X.env) :: starEach [eb] X.env) (hs2 : starEach [eb] X.env = (false, eval eb X.env) :: starEach [] X.env) (ha : Pe X B F a ea) (hb : Pe X B F b eb) : PI X (.Tuple elts kk tpos) (.Call (.Name "zip" p) [ea, eb] [] pos) (tIt X.K B F (.zip a b)) :=
  PI_mono (RZ.pi_zipA hg (hm _ (by decide)) (pa_cons ha (pa_cons hb pa_nil hs2) hs) hs (by rw [hs2]; rfl)) fun σ H Q ⟨ρ, t, v, t', A, fps, r, tk, e, q⟩ => by
    simp only [evI, bnd_some, lift_some, ret_some] at e
    obtain ⟨x, t1, e1, y, t2, e2, xs, t3, ⟨xs', e3, e4⟩, e5⟩ := e
    cases e4
    cases e5
    refine ev2 r tk e1 e2 fun x y H' fp fq p => ?_
    unfold zipop at e3
    split at e3
    · cases e3
      obtain ⟨a, b, us, ws, rfl, rfl, h1, h2, w⟩ := post_zipL p
      exact ⟨a, b, us, ws, rfl, .inl ⟨h1, h2, q _ _ _ w⟩⟩
    · cases e3
      obtain ⟨a, b, us, ws, rfl, rfl, h1, h2, w⟩ := post_zipT p
      exact ⟨a, b, us, ws, rfl, .inr ⟨h1, h2, q _ _ _ w⟩⟩
    · cases e3

/-! ### targets -/
structure PostT (σ σ' : L2.St) (ρ ρ' : Slots) (fps fps' : Nat → List Addr) (sl : List Nat) (f : List Addr) : Prop where
  same : ∀ j, j ∉ sl → σ'[j]? = σ[j]? ∧ getS ρ' j = getS ρ j ∧ fps' j = fps j
  len : σ'.length = σ.length
  new : ∀ j ∈ sl, ∀ a ∈ fps' j, a ∈ f ∨ a ∈ fps j
def gT (K : PySem.W.Frag) (B : Tab) (tg : Tg) : TG := fun x σ H Q => ∃ ρ A fps p f ρ', RelS K B ρ σ H A fps ∧ Den K B H A p x f ∧ Off A f ∧ bindT tg p ρ = some ρ' ∧
  ∀ σ' fps', RelS K B ρ' σ' H A fps' → PostT σ σ' ρ ρ' fps fps' tg.slots f → Q σ' H
theorem PostT.trans {σ σ1 σ' : L2.St} {ρ ρ1 ρ' : Slots} {fps fps1 fps' : Nat → List Addr} {sl sl' : List Nat} {f g h : List Addr} (p : PostT σ σ1 ρ ρ1 fps fps1 sl f) (q : PostT σ1 σ' ρ1 ρ' fps1 fps' sl' g) (hf : ∀ a ∈ f, a ∈ h) (hg : ∀ a ∈ g, a ∈ h) : PostT σ σ' ρ ρ' fps fps' (sl ++ sl') h := by
  refine ⟨fun j hj => ?_, q.len.trans p.len, fun j hj a ha => ?_⟩
  · simp only [List.mem_append, not_or] at hj
    obtain ⟨a1, a2, a3⟩ := p.same j hj.1
    obtain ⟨b1, b2, b3⟩ := q.same j hj.2
    exact ⟨b1.trans a1, b2.trans a2, b3.trans a3⟩
  · have h1 : a ∈ g ∨ a ∈ fps1 j := by
      by_cases z : j ∈ sl'
      · exact q.new j z a ha
      · rw [(q.same j z).2.2] at ha; exact .inr ha
    rcases h1 with h1 | h1
    · exact .inl (hg a h1)
    · by_cases z : j ∈ sl
      · exact (p.new j z a h1).imp (hf a) id
      · rw [(p.same j z).2.2] at h1; exact .inr h1
theorem pg_ok {fnx : Str → Bool} (hc : X.calm = true) (hN : X.N.Nodup) (hf : ∀ x, fnx x = true → X.fn x = true) : ∀ {tg : Tg} {e : Expr}, cT X.N X.env.scope fnx tg e = true → PG X e (gT X.K B tg)
  | .v i, e, h => by
    cases e with
    | Name x p =>
      simp only [cT, Bool.and_eq_true, decide_eq_true_eq] at h
      obtain ⟨h1, h2⟩ := h
      have hl : Loc X.env.scope x ∧ (X.fn x = true ∨ X.env.scope.names.lookup x = some .local) := by
        split at h2
        · rename_i z; exact ⟨.inl z, .inr z⟩
        · rename_i z; exact ⟨.inr z, .inl (hf x h2)⟩
        · cases h2
      refine ⟨fun pins s σ H v u Q I r q => (pg_name hN h1 hl.1 hl.2).run pins s σ H v u Q I r ?_⟩
      obtain ⟨ρ, A, fps, p, f, ρ', rs, d, o, e, q⟩ := q
      simp only [bindT, Option.some.injEq] at e
      subst e
      refine q _ _ (rs.set i d o) ⟨fun j hj => ?_, by simp, fun j hj a ha => ?_⟩
      · have hji : j ≠ i := fun z => hj (by simp [Tg.slots, z])
        exact ⟨List.getElem?_set_ne (Ne.symm hji), by rw [getS_set, if_neg (Ne.symm hji)], setF_ne hji⟩
      · simp [Tg.slots] at hj
        subst hj
        rw [setF_same] at ha
        exact .inl ha
    | _ => simp [cT] at h
  | .t2 a b, e, h => by
    cases e with
    | Tuple l k p =>
      match l, h with
      | [ea, eb], h =>
        simp only [cT, Bool.and_eq_true] at h
        have ha : PG X ea (gT X.K B a) := pg_ok hc hN hf h.1
        have hb : PG X eb (gT X.K B b) := pg_ok hc hN hf h.2
        have sa : ∀ (r : List Expr), (assignEach (ea :: r) X.env).map (·.2) = assign ea X.env :: (assignEach r X.env).map (·.2) ∧ (assignEach (ea :: r) X.env).length = (assignEach r X.env).length + 1 ∧ ((assignEach r X.env).findIdx? (·.1) = none → (assignEach (ea :: r) X.env).findIdx? (·.1) = none) := fun r => by
          cases ea <;> first | exact ⟨rfl, rfl, fun z => by simpa [assignEach, List.findIdx?_cons] using z⟩ | (exfalso; cases a <;> simp [cT] at h)
        have sb : ∀ (r : List Expr), (assignEach (eb :: r) X.env).map (·.2) = assign eb X.env :: (assignEach r X.env).map (·.2) ∧ (assignEach (eb :: r) X.env).length = (assignEach r X.env).length + 1 ∧ ((assignEach r X.env).findIdx? (·.1) = none → (assignEach (eb :: r) X.env).findIdx? (·.1) = none) := fun r => by
          cases eb <;> first | exact ⟨rfl, rfl, fun z => by simpa [assignEach, List.findIdx?_cons] using z⟩ | (exfalso; cases b <;> simp [cT] at h)
        refine ⟨fun pins s σ H v u Q I r q => (pg_tup (n := 2) hc (pgs_cons ha (pgs_cons hb pgs_nil (sb []).1) (sa [eb]).1) (by rw [(sa [eb]).2.1, (sb []).2.1]; rfl) ((sa [eb]).2.2 ((sb []).2.2 rfl))).run pins s σ H v u Q I r ?_⟩
        obtain ⟨ρ, A, fps, p, f, ρ', rs, d, o, e, q⟩ := q
        simp only [bindT] at e
        split at e
        · rename_i x y
          obtain ⟨ρ1, e1, e2⟩ := Option.bind_eq_some_iff.mp e
          obtain ⟨adr, ys, rfl, hs, hl, ds⟩ := d.tupI
          cases ds with
          | cons d1 ds =>
            cases ds with
            | cons d2 ds =>
              cases ds
              rw [List.append_nil] at o q
              refine ⟨adr, _, rfl, hs, rfl, _, _, rfl, ρ, A, fps, x, _, ρ1, rs, d1, fun c hc => o c (List.mem_append_left _ hc), e1, fun σ1 fps1 rs1 p1 => ⟨_, _, rfl, ρ1, A, fps1, y, _, ρ', rs1, d2, fun c hc => o c (List.mem_append_right _ hc), e2, fun σ2 fps2 rs2 p2 => ⟨rfl, ?_⟩⟩⟩
              exact q _ _ rs2 (p1.trans p2 (fun c hc => List.mem_append_left _ hc) fun c hc => List.mem_append_right _ hc)
        · cases e
      | [], h => simp [cT] at h
      | [_], h => simp [cT] at h
      | _ :: _ :: _ :: _, h => simp [cT] at h
    | _ => simp [cT] at h
  | .t3 a b c, e, h => by
    cases e with
    | Tuple l k p =>
      match l, h with
      | [ea, eb, ec], h =>
        simp only [cT, Bool.and_eq_true] at h
        have ha : PG X ea (gT X.K B a) := pg_ok hc hN hf h.1
        have hb : PG X eb (gT X.K B b) := pg_ok hc hN hf h.2.1
        have hcc : PG X ec (gT X.K B c) := pg_ok hc hN hf h.2.2
        have sa : ∀ (r : List Expr), (assignEach (ea :: r) X.env).map (·.2) = assign ea X.env :: (assignEach r X.env).map (·.2) ∧ (assignEach (ea :: r) X.env).length = (assignEach r X.env).length + 1 ∧ ((assignEach r X.env).findIdx? (·.1) = none → (assignEach (ea :: r) X.env).findIdx? (·.1) = none) := fun r => by
          cases ea <;> first | exact ⟨rfl, rfl, fun z => by simpa [assignEach, List.findIdx?_cons] using z⟩ | (exfalso; cases a <;> simp [cT] at h)
        have sb : ∀ (r : List Expr), (assignEach (eb :: r) X.env).map (·.2) = assign eb X.env :: (assignEach r X.env).map (·.2) ∧ (assignEach (eb :: r) X.env).length = (assignEach r X.env).length + 1 ∧ ((assignEach r X.env).findIdx? (·.1) = none → (assignEach (eb :: r) X.env).findIdx? (·.1) = none) := fun r => by
          cases eb <;> first | exact ⟨rfl, rfl, fun z => by simpa [assignEach, List.findIdx?_cons] using z⟩ | (exfalso; cases b <;> simp [cT] at h)
        have sc : ∀ (r : List Expr), (assignEach (ec :: r) X.env).map (·.2) = assign ec X.env :: (assignEach r X.env).map (·.2) ∧ (assignEach (ec :: r) X.env).length = (assignEach r X.env).length + 1 ∧ ((assignEach r X.env).findIdx? (·.1) = none → (assignEach (ec :: r) X.env).findIdx? (·.1) = none) := fun r => by
          cases ec <;> first | exact ⟨rfl, rfl, fun z => by simpa [assignEach, List.findIdx?_cons] using z⟩ | (exfalso; cases c <;> simp [cT] at h)
        refine ⟨fun pins s σ H v u Q I r q => (pg_tup (n := 3) hc (pgs_cons ha (pgs_cons hb (pgs_cons hcc pgs_nil (sc []).1) (sb [ec]).1) (sa [eb, ec]).1) (by rw [(sa [eb, ec]).2.1, (sb [ec]).2.1, (sc []).2.1]; rfl) ((sa [eb, ec]).2.2 ((sb [ec]).2.2 ((sc []).2.2 rfl)))).run pins s σ H v u Q I r ?_⟩
        obtain ⟨ρ, A, fps, p, f, ρ', rs, d, o, e, q⟩ := q
        simp only [bindT] at e
        split at e
        · rename_i x y z
          obtain ⟨ρ1, e1, e2⟩ := Option.bind_eq_some_iff.mp e
          obtain ⟨ρ2, e2, e3⟩ := Option.bind_eq_some_iff.mp e2
          obtain ⟨adr, ys, rfl, hs, hl, ds⟩ := d.tupI
          cases ds with
          | cons d1 ds =>
            cases ds with
            | cons d2 ds =>
              cases ds with
              | cons d3 ds =>
                cases ds
                rw [List.append_nil] at o q
                refine ⟨adr, _, rfl, hs, rfl, _, _, rfl, ρ, A, fps, x, _, ρ1, rs, d1, fun c hc => o c (List.mem_append_left _ hc), e1, fun σ1 fps1 rs1 p1 => ⟨_, _, rfl, ρ1, A, fps1, y, _, ρ2, rs1, d2, fun c hc => o c (List.mem_append_right _ (List.mem_append_left _ hc)), e2, fun σ2 fps2 rs2 p2 =>
                  ⟨_, _, rfl, ρ2, A, fps2, z, _, ρ', rs2, d3, fun c hc => o c (List.mem_append_right _ (List.mem_append_right _ hc)), e3, fun σ3 fps3 rs3 p3 => ⟨rfl, ?_⟩⟩⟩⟩
                exact q _ _ rs3 (p1.trans (p2.trans p3 (fun c hc => List.mem_append_left _ hc) fun c hc => List.mem_append_right _ hc) (fun c hc => List.mem_append_left _ hc) fun c hc => List.mem_append_right _ hc)
        · cases e
      | [], h => simp [cT] at h
      | [_], h => simp [cT] at h
      | [_, _], h => simp [cT] at h
      | _ :: _ :: _ :: _ :: _, h => simp [cT] at h
    | _ => simp [cT] at h
end
end G
set_option Elab.async false
set_option linter.all false
set_option maxRecDepth 100000
set_option maxHeartbeats 4000000
/-! S3h: comprehensions; all expressions -/
namespace G
open PySem PySem.Spec PyProof.Rows L2

theorem wipe_get {σ : L2.St} {j : Nat} : ∀ l : List Nat, (wipe σ l)[j]? = if j ∈ l then (if j < σ.length then some none else none) else σ[j]?
  | [] => by simp [wipe]
  | i :: l => by
    unfold wipe
    have ih := wipe_get (σ := σ) (j := j) l
    by_cases h : i = j
    · subst h
      rw [if_pos List.mem_cons_self]
      by_cases hl : i < σ.length
      · rw [List.getElem?_set_self (by rw [wipe_length]; exact hl), if_pos hl]
      · rw [List.getElem?_eq_none (by rw [List.length_set, wipe_length]; omega), if_neg hl]
    · rw [List.getElem?_set_ne h, ih]
      have : (j ∈ i :: l) ↔ j ∈ l := by simp [Ne.symm h]
      by_cases z : j ∈ l
      · rw [if_pos z, if_pos (this.mpr z)]
      · rw [if_neg z, if_neg fun q => z (this.mp q)]
theorem wipe_congr {σ σ' : L2.St} {l : List Nat} (hl : σ'.length = σ.length) (h : ∀ j, j ∉ l → σ'[j]? = σ[j]?) : wipe σ' l = wipe σ l := by
  apply List.ext_getElem?
  intro j
  rw [wipe_get, wipe_get, hl]
  by_cases z : j ∈ l
  · rw [if_pos z, if_pos z]
  · rw [if_neg z, if_neg z, h j z]
theorem own_map (N : List Str) (sl : List Nat) : (ownOf N sl).map (·.2) = sl := by
  unfold ownOf
  rw [List.map_map]
  exact List.map_id _
theorem Fr.kp {H H' : Hp} {A : Option Addr} (f : Fr (fun _ => False) H H') : Kp A H H' := f.mono fun _ z => z.elim
theorem TinOk.frF {H H' : Hp} {A : Option Addr} {t : Tn} (f : Fr (fun _ => False) H H') (h : TinOk A t H) : TinOk A t H' := by
  cases A with
  | none => cases t with
    | none => trivial
    | some q => exact h.elim
  | some a => cases t with
    | none => exact h.elim
    | some q =>
      obtain ⟨x, y, z⟩ := q
      exact f a _ h fun z => z
theorem Dens.frF {K : PySem.W.Frag} {B : Tab} {H H' : Hp} {A : Option Addr} {v : List PV} {x : List V} {fp : List Addr} (f : Fr (fun _ => False) H H') (d : Dens K B H A v x fp) : Dens K B H' A v x fp := d.fr f wl0 (fun _ e => e) fun _ _ z => z
theorem RelS.frF {K : PySem.W.Frag} {B : Tab} {ρ : Slots} {σ : L2.St} {H H' : Hp} {A : Option Addr} {fps : Nat → List Addr} (r : RelS K B ρ σ H A fps) (f : Fr (fun _ => False) H H') : RelS K B ρ σ H' A fps :=
  ⟨r.len, fun i v e => let ⟨x, h, d⟩ := r.at_ i v e; ⟨x, h, d.fr f wl0 (fun _ e => e) fun _ _ z => z⟩, fun i a ha => let ⟨h, e⟩ := r.al i a ha; ⟨h, e.eq fun o z => f a o z fun z => z⟩⟩
theorem TinOk.updN {H : Hp} {A : Option Addr} {t : Tn} {D : Addr} {o : HO} (h : TinOk A t H) (n : A ≠ some D) : TinOk A t (upd H D o) := by
  cases A with
  | none => cases t with
    | none => trivial
    | some q => exact h.elim
  | some a => cases t with
    | none => exact h.elim
    | some q =>
      obtain ⟨x, y, z⟩ := q
      show upd H D o a = some _
      rw [upd_ne fun z => n (by rw [z])]
      exact h
/-- the list at D grows; D is no part of what stands elsewhere -/
theorem fr_at {H : Hp} {D : Addr} {o : HO} : Fr (fun b => b = D) H (upd H D o) := fun b u e n => by rw [upd_ne n]; exact e
section
variable {X : Cx} {B : Tab} {F : FS}
theorem lc_go {el c : E} {tg : Tg} {it : It} {tt : TT} (htt : ∀ σ H Q, tTest (tEv X.K B F c) σ H Q → tt σ H Q) {σ : L2.St} {H : Hp} {Q : VK} (h : tEv X.K B F (.comp el tg it c) σ H Q) :
    tLc (tIt X.K B F it) (gT X.K B tg) tt (tEv X.K B F el) tg.slots σ H Q := by
  obtain ⟨ρ, t, v, t', A, fps, r, tk, e, q⟩ := h
  rw [evE] at e
  rw [bnd_some] at e
  obtain ⟨xs, t1, e1, e2⟩ := e
  rw [bnd_some] at e2
  obtain ⟨ys, t2, e2, e3⟩ := e2
  rw [ret_some] at e3
  cases e3
  refine ⟨ρ, t, xs, t1, A, fps, r, tk, e1, fun J H1 fp pI D hD => ?_⟩
  have nD : A ≠ some D := fun z => by
    have := pI.tin.off (fp := [D]) (fun b hb => by rw [List.mem_singleton.mp hb]; exact hD) D (by simp)
    exact this z
  generalize hf : (fun x => M.bnd (M.lift (bindT tg x (wipeS ρ tg.slots))) fun ρ' => M.bnd (evE F c ρ') fun t => M.bnd (asBl t) fun b => if b = true then M.bnd (evE F el ρ') fun y => M.ret (some y) else M.ret none) = f at e2
  refine lc_it pI.wk (fun i Hx => ∃ ti done rest accV fpd, compGo f (xs.drop i) ti = some (rest, t') ∧ ys = done ++ rest ∧ done.length ≤ i ∧ Kp A H1 Hx ∧ TinOk A ti Hx ∧ Hx D = some (.lst accV) ∧ Dens X.K B Hx A done accV fpd ∧ D ∉ fpd ∧
    (∀ a ∈ fpd, H1 a = none ∨ a ∈ fp ∨ ∃ j ∈ el.vars, a ∈ fps j) ∧ Off A fpd ∧ (nw1 B el = true → (∀ v ∈ done, elems1 v = true) → fpd.Nodup ∧ ∀ a ∈ fpd, H1 a = none)) ?_ ?_ ?_ ?_
  · exact ⟨t1, [], ys, [], [], e2, rfl, Nat.le_refl _, fr_new hD, tin_new pI.tin hD, upd_same, .nil, by simp, fun a h => absurd h (by simp), fun a h => absurd h (by simp), fun _ _ => ⟨List.nodup_nil, fun a h => absurd h (by simp)⟩⟩
  · rintro i Hx hi ⟨ti, done, rest, accV, fpd, _, _, _, k, _⟩
    exact ⟨_, k, pI.tin.wl, fun a ha => pI.off a ha⟩
  · rintro i x Hx H' hi ⟨ti, done, rest, accV, fpd, g1, g2, g3, g4, g5, g6, g7, g8, g9, g10, g11⟩ ⟨p, f0, y1, y2, y3, y4⟩
    obtain ⟨_, hp⟩ := List.getElem?_eq_some_iff.mp y1
    rw [List.drop_eq_getElem_cons hi, hp] at g1
    rw [compGo, bnd_some] at g1
    obtain ⟨o, t3, g12, g13⟩ := g1
    rw [bnd_some] at g13
    obtain ⟨rest', t4, g13, g14⟩ := g13
    rw [ret_some] at g14
    have g14a := congrArg Prod.fst g14
    have g14b := congrArg Prod.snd g14
    simp only at g14a g14b
    subst g14b
    have g12' := g12
    rw [← hf] at g12
    simp only [bnd_some, lift_some, asBl_some] at g12
    obtain ⟨ρ', t5, ⟨ρ'', g15, g16⟩, tst, t6, g17, b, t7, ⟨b', rfl, g18⟩, g19⟩ := g12
    cases g16
    cases g18
    have k2 : Kp A H1 H' := g4.trans y4.kp
    have tk2 : TinOk A ti H' := g5.frF y4
    have r2 : RelS X.K B (wipeS ρ tg.slots) (wipe σ tg.slots) H' A fps := ((r.wipe tg.slots).kp pI.kp tk).kp k2 pI.tin
    refine ⟨_, A, fps, p, f0, ρ', r2, y2, fun a ha => pI.off a (y3 a ha), g15, fun σ' fps' rs' pt => ⟨?_, ?_⟩⟩
    · refine wipe_congr (by rw [pt.len, wipe_length]) fun j hj => ?_
      rw [(pt.same j hj).1, wipe_get, if_neg hj]
    · refine htt _ _ _ ⟨ρ', ti, .bl b, _, A, fps', rs', tk2, g17, fun z H3 fp3 p3 => ⟨b, p3.den.blI, ?_⟩⟩
      have k3 : Kp A H1 H3 := k2.trans p3.kp
      have d3 : Dens X.K B H3 A done accV fpd := (g7.frF y4).kp p3.kp tk2 g10
      have hD3 : H3 D = some (.lst accV) := p3.kp D _ (y4 D _ g6 fun z => z) nD
      cases b with
      | false =>
        rw [if_neg Bool.false_ne_true] at g19
        rw [ret_some] at g19
        cases g19
        refine iteF ?_
        exact ⟨_, done, rest, accV, fpd, by rw [g14a]; exact g13, g2, Nat.le_succ_of_le g3, k3, p3.tin, hD3, d3, g8, g9, g10, g11⟩
      | true =>
        rw [if_pos rfl] at g19
        simp only [bnd_some, ret_some] at g19
        obtain ⟨y, t8, g20, g21⟩ := g19
        cases g21
        refine iteT ?_
        refine tEv.go (rs'.kp p3.kp tk2) p3.tin g20 fun yv H4 fp4 p4 => ⟨accV, p4.kp D _ hD3 nD, ?_, ?_⟩
        · rw [← g7.len]
          have := pI.len
          omega
        · have d4 : Dens X.K B H4 A done accV fpd := d3.kp p4.kp p3.tin g10
          have hD4 : H4 D = some (.lst accV) := p4.kp D _ hD3 nD
          have wlD : Wl (fun b => b = D) H4 := fun b e => by rw [e]; exact .inl ⟨_, hD4⟩
          have nd4 : D ∉ fp4 := fun hD' => by
            rcases p4.sub D hD' with z | ⟨j, hj, z⟩
            · rw [hD3] at z; cases z
            · have z2 : D ∈ f0 ∨ D ∈ fps j := by
                by_cases hs : j ∈ tg.slots
                · exact pt.new j hs D z
                · rw [(pt.same j hs).2.2] at z; exact .inr z
              rcases z2 with z2 | z2
              · obtain ⟨o, ho⟩ := pI.al D (y3 D z2)
                rw [hD] at ho; cases ho
              · obtain ⟨o, ho⟩ := ((r.kp pI.kp tk).al j D z2).2.ex
                rw [hD] at ho; cases ho
          have oldn : ∀ a, H3 a = none → H1 a = none := fun a ha => free_kp k3 p3.tin ha
          refine ⟨_, done ++ [y], rest', accV ++ [yv], fpd ++ fp4, g13, ?_, by simp; exact g3, fun b u e n => by rw [upd_ne (ne_of_none e hD)]; exact (k3.trans p4.kp) b u e n, p4.tin.updN nD, upd_same, ?_, ?_, fun a ha => ?_, fun a ha => ?_, fun hn hv => ?_⟩
          · rw [g2, g14a]
            simp
          · exact (d4.fr fr_at wlD (fun _ e => e) fun a ha z => g8 (z ▸ ha)).append (Dens.one (p4.den.fr fr_at wlD (fun _ e => e) fun a ha z => nd4 (z ▸ ha)))
          · simp only [List.mem_append, not_or]
            exact ⟨g8, nd4⟩
          · rcases List.mem_append.mp ha with ha | ha
            · exact g9 a ha
            · rcases p4.sub a ha with z | ⟨j, hj, z⟩
              · exact .inl (oldn a z)
              · have z2 : a ∈ f0 ∨ a ∈ fps j := by
                  by_cases hs : j ∈ tg.slots
                  · exact pt.new j hs a z
                  · rw [(pt.same j hs).2.2] at z; exact .inr z
                exact .inr (z2.imp (y3 a) fun z2 => ⟨j, hj, z2⟩)
          · exact (List.mem_append.mp ha).elim (g10 a) (p4.off a)
          · obtain ⟨n1, n2⟩ := g11 hn fun v hv' => hv v (List.mem_append_left _ hv')
            have n3 := p4.n1 hn (hv y (by simp))
            obtain ⟨b, _, eb⟩ := elems1_fp p4.den (hv y (by simp))
            rw [eb] at n3 ⊢
            have nb : H3 b = none := n3 b (by simp)
            refine ⟨?_, fun a ha => ?_⟩
            · refine List.nodup_append.mpr ⟨n1, by simp, fun a ha c hc z => ?_⟩
              have : c = b := by simpa using hc
              subst this
              subst z
              obtain ⟨o, ho⟩ := d3.al a ha
              rw [nb] at ho; cases ho
            · rcases List.mem_append.mp ha with ha | ha
              · exact n2 a ha
              · have : a = b := by simpa using ha
                subst this
                exact oldn a nb
  · rintro Hx ⟨ti, done, rest, accV, fpd, g1, g2, g3, g4, g5, g6, g7, g8, g9, g10, g11⟩
    rw [List.drop_length, compGo, ret_some] at g1
    cases g1
    rw [List.append_nil] at g2
    subst g2
    have hD0 : H D = none := free_kp pI.kp pI.tin hD
    refine q _ _ _ ⟨pI.kp.trans g4, g5, .lst g6 (by rw [← g7.len]; have := pI.len; omega) g7, fun a ha => ?_, fun a ha => ?_, fun _ e a ha => ?_, fun hn e => ?_⟩
    · rcases List.mem_cons.mp ha with rfl | ha
      · exact .inl hD0
      · rcases g9 a ha with z | z | ⟨j, hj, z⟩
        · exact .inl (free_kp pI.kp pI.tin z)
        · exact (pI.sub a z).imp id fun ⟨i, hi, w⟩ => ⟨i, List.mem_append_right _ (List.mem_append_left _ (It.lv_sub _ _ hi)), w⟩
        · exact .inr ⟨j, List.mem_append_left _ hj, z⟩
    · rcases List.mem_cons.mp ha with rfl | ha
      · exact nD
      · exact g10 a ha
    · have ef : fpd = [] := g7.fl (by simpa [elems1] using e)
      subst ef
      rw [List.mem_singleton.mp ha]
      exact hD0
    · obtain ⟨n1, n2⟩ := g11 hn (by simpa [elems2] using e)
      refine ⟨List.nodup_cons.mpr ⟨g8, n1⟩, fun a ha => ?_⟩
      rcases List.mem_cons.mp ha with rfl | ha
      · exact hD0
      · exact free_kp pI.kp pI.tin (n2 a ha)
end
end G
set_option Elab.async false
set_option linter.all false
set_option maxRecDepth 100000
set_option maxHeartbeats 4000000
/-! S3i: all expressions -/
namespace G
open PySem PySem.Spec PyProof.Rows L2
section
variable {B : Tab} {F : FS}
theorem n_comp {X : Cx} {el c : E} {tg : Tg} {it : It} {ee et ei : Expr} {ifs : List Expr} {sc : Scope} {pos : Pos} {tt : TT} (ok : XOk B F X) (hb : blkC X.N X.env.scope sc (ownOf X.N tg.slots) = true) (hi : PI X et ei (tIt X.K B F it)) (hf : ∀ x, foldedSetIterable ei X.env x = pure x)
    (hg : ∀ (s : Shared) (H : Hp) (C : Addr) (cl : List (Str × Addr)) (fp : List Addr), PG (X.blk s H sc (compEnvC sc cl C X.env) fp) et (gT X.K B tg))
    (ht : ∀ (s : Shared) (H : Hp) (C : Addr) (cl : List (Str × Addr)) (fp : List Addr), PTs (X.blk s H sc (compEnvC sc cl C X.env) fp) ifs tt)
    (htt : ∀ σ H Q, tTest (tEv X.K B F c) σ H Q → tt σ H Q)
    (he : ∀ (s : Shared) (H : Hp) (C : Addr) (cl : List (Str × Addr)) (fp : List Addr), PE (X.blk s H sc (compEnvC sc cl C X.env) fp) ee (tEv X.K B F el)) : Ok X B F (.comp el tg it c) (.ListComp ee [⟨et, ei, ifs, 0⟩] sc pos) := by
  refine .val (PE_mono (pe_lc ok.calm ok.nd hi (blkOk_by hb) hg ht he hf) fun σ H Q h => ?_)
  rw [own_map]
  exact lc_go htt h
theorem tt_yes {X : Cx} : ∀ σ H Q, tTest (tEv X.K B F .tt) σ H Q → tYes σ H Q := fun σ H Q ⟨ρ, t, v, t', A, fps, r, tk, e, q⟩ => by
  simp only [evE, ret_some] at e
  cases e
  obtain ⟨k, hk, h⟩ := q (.bl true) H [] (Post.nil Fr.refl tk (.bl true))
  cases hk
  exact h
theorem okm_nil {X : Cx} {op : BoolOp} {g : Es → Slots → M PV} {pos : Pos} (hg : ∀ ρ, g .nil ρ = M.fail) : OkM X B g op .nil [] pos :=
  ⟨⟨fun pins s σ H Q I ⟨ρ, t, v, t', A, fps, r, tk, e, q⟩ => by rw [hg] at e; cases e⟩, ⟨fun wh pins s σ H Q I ⟨ρ, t, v, t', A, fps, r, tk, e, q⟩ => by rw [hg] at e; cases e⟩⟩
theorem star1 {N : List Str} {sc : Scope} {m : E} {e : Expr} {env : Env} (h : cE B N sc m e = true) : starEach [e] env = [(false, eval e env)] := cE_star h [] env
theorem stars_plain {N : List Str} {sc : Scope} {env : Env} {pos : Pos} : ∀ {es : Es} {l : List Expr}, cEs B N sc es l = true → ∀ x ∈ starEach l env, x.1 = false
  | .nil, [], h, x, hx => by simp [starEach] at hx
  | .nil, _ :: _, h, x, hx => by simp [cEs] at h
  | .cons _ _, [], h, x, hx => by simp [cEs] at h
  | .cons m es, e :: l, h, x, hx => by
    simp only [cEs, Bool.and_eq_true] at h
    rw [cE_star h.1] at hx
    rcases List.mem_cons.mp hx with rfl | hx
    · rfl
    · exact stars_plain (pos := pos) h.2 x hx
theorem stars_ok {N : List Str} {sc : Scope} {env : Env} {es : Es} {l : List Expr} (h : cEs B N sc es l = true) : ∀ e l', l = e :: l' → starEach l env = (false, eval e env) :: starEach l' env := by
  intro e l' el
  subst el
  cases es with
  | nil => simp [cEs] at h
  | cons m es =>
    simp only [cEs, Bool.and_eq_true] at h
    exact cE_star h.1 l' env
theorem stars_back {N : List Str} {sc : Scope} {env : Env} {pos : Pos} {es : Es} {l : List Expr} (h : cEs B N sc es l = true) : (backTo pos (starEach (l.drop 1) env)).any (·.1) = false := by
  have h2 : ∃ es', cEs B N sc es' (l.drop 1) = true ∨ l.drop 1 = [] := by
    cases l with
    | nil => exact ⟨.nil, .inr rfl⟩
    | cons e l =>
      cases es with
      | nil => simp [cEs] at h
      | cons m es =>
        simp only [cEs, Bool.and_eq_true] at h
        exact ⟨es, .inl h.2⟩
  obtain ⟨es', h2⟩ := h2
  rw [List.any_eq_false]
  intro x hx
  unfold backTo at hx
  obtain ⟨y, hy, rfl⟩ := List.mem_map.mp hx
  rcases h2 with h2 | h2
  · simp [stars_plain (pos := pos) h2 y hy]
  · rw [h2] at hy
    simp [starEach] at hy
theorem cI_fold {N : List Str} {sc : Scope} {it : It} {tg e : Expr} (h : cI B N sc it tg e = true) (env : Env) (x : Value) : foldedSetIterable e env x = pure x := by
  cases it with
  | e a => exact cE_fold (by simpa only [cI] using h) env x
  | _ =>
    simp only [cI] at h
    split at h
    · rfl
    · cases h
mutual
theorem eE : ∀ (m : E) (X : Cx) (e : Expr), XOk B F X → cE B X.N X.env.scope m e = true → Ok X B F m e
  | .v i, X, e, ok, h => by
    simp only [cE] at h
    split at h
    · simp only [Bool.and_eq_true, decide_eq_true_eq] at h
      exact n_v h.1.1 h.1.2 h.2
    · cases h
  | .int i, X, e, ok, h => by
    simp only [cE] at h
    split at h
    · simp only [decide_eq_true_eq] at h
      subst h
      exact n_con pe_int (fun ρ => by rw [evE]) fun H A => .int _
    · cases h
  | .bl i, X, e, ok, h => by
    simp only [cE] at h
    split at h
    · simp only [beq_iff_eq] at h
      subst h
      exact n_con pe_bl (fun ρ => by rw [evE]) fun H A => .bl _
    · cases h
  | .non, X, e, ok, h => by
    simp only [cE] at h
    split at h
    · exact n_con pe_non (fun ρ => by rw [evE]) fun H A => .non
    · cases h
  | .gint x i, X, e, ok, h => by
    simp only [cE] at h
    split at h
    · simp only [Bool.and_eq_true, decide_eq_true_eq] at h
      obtain ⟨⟨⟨rfl, h2⟩, h3⟩, h4⟩ := h
      obtain ⟨u, hu, ru⟩ := ok.gi _ _ h4
      exact n_con (pe_glob (glB_gl h2) hu ru (okN1 h3)) (fun ρ => by rw [evE]) fun H A => .int _
    · cases h
  | .tt, X, e, ok, h => by simp [cE] at h
  | .bin o a b, X, e, ok, h => by
    simp only [cE] at h
    split at h
    · simp only [Bool.and_eq_true] at h
      exact n_bin h.1.1 (eE a X _ ok h.1.2).pe (eE b X _ ok h.2).pe
    · cases h
  | .neg a, X, e, ok, h => by
    simp only [cE] at h
    split at h
    · exact n_neg (eE a X _ ok h).pe
    · cases h
  | .not a, X, e, ok, h => by
    simp only [cE] at h
    split at h
    · exact n_not (eE a X _ ok h)
    · cases h
  | .and es, X, e, ok, h => by
    simp only [cE] at h
    split at h
    · exact n_and (eAnd es X _ _ ok h)
    · cases h
  | .or es, X, e, ok, h => by
    simp only [cE] at h
    split at h
    · exact n_or (eOr es X _ _ ok h)
    · cases h
  | .cmp c a b, X, e, ok, h => by
    simp only [cE] at h
    split at h
    · simp only [Bool.and_eq_true, Bool.not_eq_true'] at h
      exact n_cmp ok.room h.1.1.1 (eE a X _ ok h.1.1.2).pe (eE b X _ ok h.1.2).pe h.2
    · cases h
  | .ch c d a b x, X, e, ok, h => by
    simp only [cE] at h
    split at h
    · simp only [Bool.and_eq_true, Bool.not_eq_true'] at h
      exact n_ch ok.room h.1.1.1.1.1 h.1.1.1.1.2 (eE a X _ ok h.1.1.1.2).pe (eE b X _ ok h.1.1.2).pe (eE x X _ ok h.1.2).pe h.2
    · cases h
  | .ite c a b, X, e, ok, h => by
    simp only [cE] at h
    split at h
    · simp only [Bool.and_eq_true] at h
      exact n_ite (eE c X _ ok h.1.1) (eE a X _ ok h.1.2) (eE b X _ ok h.2)
    · cases h
  | .tup es, X, e, ok, h => by
    simp only [cE] at h
    split at h
    · simp only [Bool.and_eq_true, decide_eq_true_eq] at h
      exact n_tup h.1 h.2 (eEs es X _ ok h.1)
    · cases h
  | .lst es, X, e, ok, h => by
    simp only [cE] at h
    split at h
    · simp only [Bool.and_eq_true, decide_eq_true_eq] at h
      exact n_lst h.1 h.2 (eEs es X _ ok h.1)
    · cases h
  | .dct0, X, e, ok, h => by
    simp only [cE] at h
    split at h
    · exact n_dct0
    · cases h
  | .dct2 a b c d, X, e, ok, h => by simp [cE] at h
  | .idx a b, X, e, ok, h => by
    simp only [cE] at h
    split at h
    · simp only [Bool.and_eq_true] at h
      exact n_idx ok.room (cE_ix h.2) (eE a X _ ok h.1).pe (eE b X _ ok h.2).pe
    · cases h
  | .slL a b, X, e, ok, h => by
    simp only [cE] at h
    split at h
    · simp only [Bool.and_eq_true] at h
      exact n_slL (eE a X _ ok h.1).pe (eE b X _ ok h.2).pe
    · cases h
  | .slH a b, X, e, ok, h => by
    simp only [cE] at h
    split at h
    · simp only [Bool.and_eq_true] at h
      exact n_slH (eE a X _ ok h.1).pe (eE b X _ ok h.2).pe
    · cases h
  | .slB a b c, X, e, ok, h => by
    simp only [cE] at h
    split at h
    · simp only [Bool.and_eq_true] at h
      exact n_slB (eE a X _ ok h.1.1).pe (eE b X _ ok h.1.2).pe (eE c X _ ok h.2).pe
    · cases h
  | .rev a, X, e, ok, h => by
    simp only [cE] at h
    split at h
    · exact n_rev (eE a X _ ok h).pe
    · cases h
  | .call f es, X, e, ok, h => by
    simp only [cE] at h
    split at h
    · simp only [Bool.and_eq_true, decide_eq_true_eq] at h
      exact n_call ok h.1.1.1 (glB_gl h.1.1.2) h.1.2 h.2 (stars_ok h.2) (stars_back h.2) (eEs es X _ ok h.2)
    · cases h
  | .callK _ _ _ _, X, e, ok, h => by simp [cE] at h
  | .b1 b a, X, e, ok, h => by
    simp only [cE] at h
    split at h
    · simp only [Bool.and_eq_true, decide_eq_true_eq] at h
      obtain ⟨⟨rfl, h2⟩, h3⟩ := h
      have hg := glB_gl h2
      by_cases hs : simpB b = true
      · have h4 : cE B X.N X.env.scope a ‹Expr› = true := by
          cases b <;> first | exact h3 | exact absurd hs Bool.false_ne_true
        exact n_b1 ok.calm ok.bl hs hg (cE_star h4 [] _) (eE a X _ ok h4).pe
      · cases b <;> first | exact absurd rfl hs | skip
        · split at h3
          all_goals first | contradiction | skip
          · simp only [Bool.and_eq_true, decide_eq_true_eq] at h3
            obtain ⟨⟨rfl, h5⟩, h6⟩ := h3
            exact n_lset ok.calm ok.bl hg (glB_gl h5) (cE_star h6 [] _) (eE a X _ ok h6).pe
        · cases h3
        · split at h3
          all_goals first | contradiction | skip
          · simp only [Bool.and_eq_true, decide_eq_true_eq] at h3
            obtain ⟨⟨rfl, h5⟩, h6⟩ := h3
            exact n_lrng ok.calm ok.bl hg (glB_gl h5) (cE_star h6 [] _) (eE a X _ ok h6).pe
        · split at h3
          all_goals first | contradiction | skip
          · simp only [Bool.and_eq_true, decide_eq_true_eq] at h3
            obtain ⟨⟨rfl, h5⟩, h6⟩ := h3
            exact n_trng ok.calm ok.bl hg (glB_gl h5) (cE_star h6 [] _) (eE a X _ ok h6).pe
        · split at h3
          all_goals first | contradiction | skip
          · simp only [Bool.and_eq_true, decide_eq_true_eq] at h3
            obtain ⟨⟨⟨rfl, h5⟩, h6⟩, h7⟩ := h3
            split at h6
            · exact n_svals ok.calm ok.bl hg h5 (eE a X _ ok h7).pe
            · cases h6
        · cases h3
    · cases h
  | .mx2 a b, X, e, ok, h => by
    simp only [cE] at h
    split at h
    · simp only [Bool.and_eq_true, decide_eq_true_eq] at h
      obtain ⟨⟨⟨rfl, h2⟩, h3⟩, h4⟩ := h
      exact n_mx2 ok.calm ok.bl (glB_gl h2) (cE_star h3 _ _) (cE_star h4 _ _) (eE a X _ ok h3).pe (eE b X _ ok h4).pe
    · cases h
  | .mn2 a b, X, e, ok, h => by
    simp only [cE] at h
    split at h
    · simp only [Bool.and_eq_true, decide_eq_true_eq] at h
      obtain ⟨⟨⟨rfl, h2⟩, h3⟩, h4⟩ := h
      exact n_mn2 ok.calm ok.bl (glB_gl h2) (cE_star h3 _ _) (cE_star h4 _ _) (eE a X _ ok h3).pe (eE b X _ ok h4).pe
    · cases h
  | .isi a ts, X, e, ok, h => by
    simp only [cE] at h
    split at h
    · simp only [Bool.and_eq_true, decide_eq_true_eq] at h
      obtain ⟨⟨⟨rfl, h2⟩, h3⟩, h4⟩ := h
      split at h4
      · simp only [Bool.and_eq_true, decide_eq_true_eq] at h4
        exact n_isiT ok.bl (glB_gl h2) h4.1 h4.2 (cE_star h3 _ _) (eE a X _ ok h3).pe
      · match ts, h4 with
        | [], h4 => cases h4
        | [t0], h4 =>
          unfold tysIs at h4
          split at h4
          · rename_i q1 q2
            cases q1
          · rename_i q1 q2
            cases q1
            cases q2
            simp only [Bool.and_eq_true, decide_eq_true_eq] at h4
            obtain ⟨⟨rfl, h5⟩, _⟩ := h4
            exact n_isi1 ok.bl (glB_gl h2) (glB_gl h5) (cE_star h3 _ _) (eE a X _ ok h3).pe
          · cases h4
        | t0 :: t1 :: tr, h4 =>
          exfalso
          unfold tysIs at h4
          split at h4
          · rename_i q1 q2
            cases q1
          · rename_i q1 q2
            cases q1
            cases q2
            simp [tysIs] at h4
          · cases h4
    · cases h
  | .orL a b, X, e, ok, h => by simp [cE] at h
  | .comp el tg it c, X, e, ok, h => by
    unfold cE at h
    split at h
    · rename_i ee et ei ifs sc _
      simp only [Bool.and_eq_true] at h
      obtain ⟨⟨⟨⟨h1, h2⟩, h3⟩, h4⟩, h5⟩ := h
      have hi := eI it X et ei ok h2
      have hf : ∀ x, foldedSetIterable ei X.env x = pure x := fun x => cI_fold h2 _ x
      have hg : ∀ (s : Shared) (H : Hp) (C : Addr) (cl : List (Str × Addr)) (fp : List Addr), PG (X.blk s H sc (compEnvC sc cl C X.env) fp) et (gT X.K B tg) := fun s H C cl fp => pg_ok (X := X.blk s H sc (compEnvC sc cl C X.env) fp) ok.calm ok.nd (fun _ z => z) h3
      have he : ∀ (s : Shared) (H : Hp) (C : Addr) (cl : List (Str × Addr)) (fp : List Addr), PE (X.blk s H sc (compEnvC sc cl C X.env) fp) ee (tEv X.K B F el) := fun s H C cl fp => (eE el (X.blk s H sc (compEnvC sc cl C X.env) fp) ee (ok.blk _ _ _ _ _) h4).pe
      split at h5
      · exact n_comp ok h1 hi hf hg (fun _ _ _ _ _ => pts_nil) tt_yes he
      · cases h5
      · exact n_comp ok h1 hi hf hg (fun s H C cl fp => pts_one (eE c (X.blk s H sc (compEnvC sc cl C X.env) fp) _ (ok.blk _ _ _ _ _) h5).pt) (fun _ _ _ z => z) he
      · cases h5
    · cases h
  | .comp2 _ _ _ _ _ _, X, e, ok, h => by simp [cE] at h
  | .count _ _, X, e, ok, h => by simp [cE] at h
  | .index _ _, X, e, ok, h => by simp [cE] at h
theorem eEs : ∀ (m : Es) (X : Cx) (l : List Expr), XOk B F X → cEs B X.N X.env.scope m l = true → PA X l (tEvs X.K B F m)
  | .nil, X, l, ok, h => by
    cases l with
    | nil => exact n_pa0 (l := [])
    | cons e l => simp [cEs] at h
  | .cons m es, X, l, ok, h => by
    cases l with
    | nil => simp [cEs] at h
    | cons e l =>
      simp only [cEs, Bool.and_eq_true] at h
      exact n_pa (eE m X e ok h.1).pe (eEs es X l ok h.2) (cE_star h.1 _ _)
theorem eAnd : ∀ (m : Es) (X : Cx) (l : List Expr) (pos : Pos), XOk B F X → cEs B X.N X.env.scope m l = true → OkM X B (evAnd F) .And m l pos
  | .nil, X, l, pos, ok, h => by
    cases l with
    | nil => exact okm_nil fun ρ => by rw [evAnd]
    | cons e l => simp [cEs] at h
  | .cons m es, X, l, pos, ok, h => by
    cases l with
    | nil => simp [cEs] at h
    | cons e l =>
      simp only [cEs, Bool.and_eq_true] at h
      have ih := eAnd es X l pos ok h.2
      have hm := eE m X e ok h.1
      cases es with
      | nil =>
        cases l with
        | nil => exact n_and1 hm
        | cons e l => simp [cEs] at h
      | cons m2 es =>
        cases l with
        | nil => simp [cEs] at h
        | cons e2 l => exact n_and2 hm ih
theorem eOr : ∀ (m : Es) (X : Cx) (l : List Expr) (pos : Pos), XOk B F X → cEs B X.N X.env.scope m l = true → OkM X B (evOr F) .Or m l pos
  | .nil, X, l, pos, ok, h => by
    cases l with
    | nil => exact okm_nil fun ρ => by rw [evOr]
    | cons e l => simp [cEs] at h
  | .cons m es, X, l, pos, ok, h => by
    cases l with
    | nil => simp [cEs] at h
    | cons e l =>
      simp only [cEs, Bool.and_eq_true] at h
      have ih := eOr es X l pos ok h.2
      have hm := eE m X e ok h.1
      cases es with
      | nil =>
        cases l with
        | nil => exact n_or1 hm
        | cons e l => simp [cEs] at h
      | cons m2 es =>
        cases l with
        | nil => simp [cEs] at h
        | cons e2 l => exact n_or2 hm ih
theorem eI : ∀ (it : It) (X : Cx) (tg e : Expr), XOk B F X → cI B X.N X.env.scope it tg e = true → PI X tg e (tIt X.K B F it)
  | .e a, X, tg, e, ok, h => n_itE (eE a X e ok (by simpa only [cI] using h)).pe
  | .rng a, X, tg, e, ok, h => by
    simp only [cI] at h
    split at h
    · simp only [Bool.and_eq_true, decide_eq_true_eq] at h
      obtain ⟨⟨rfl, h2⟩, h3⟩ := h
      exact n_itR ok.bl (glB_gl h2) (star1 h3) (eE a X _ ok h3).pe
    · cases h
  | .rng2 a b, X, tg, e, ok, h => by
    simp only [cI] at h
    split at h
    · simp only [Bool.and_eq_true, decide_eq_true_eq] at h
      obtain ⟨⟨⟨rfl, h2⟩, h3⟩, h4⟩ := h
      exact n_itR2 ok.bl (glB_gl h2) (by rw [cE_star h3, star1 h4]) (star1 h4) (eE a X _ ok h3).pe (eE b X _ ok h4).pe
    · cases h
  | .enum a, X, tg, e, ok, h => by
    simp only [cI] at h
    split at h
    · simp only [Bool.and_eq_true, decide_eq_true_eq] at h
      obtain ⟨⟨rfl, h2⟩, h3⟩ := h
      exact n_itN ok.bl (glB_gl h2) (star1 h3) (eE a X _ ok h3).pe
    · cases h
  | .zip a b, X, tg, e, ok, h => by
    simp only [cI] at h
    split at h
    · simp only [Bool.and_eq_true, decide_eq_true_eq] at h
      obtain ⟨⟨⟨rfl, h2⟩, h3⟩, h4⟩ := h
      exact n_itZ ok.bl (glB_gl h2) (cE_star h3 _ _) (cE_star h4 _ _) (eE a X _ ok h3).pe (eE b X _ ok h4).pe
    · cases h
end
theorem eV {m : E} {X : Cx} {e : Expr} (ok : XOk B F X) (h : cV B X.N X.env.scope m e = true) : PE X e (tEv X.K B F m) := by
  unfold cV at h
  split at h
  · split at h
    · simp only [Bool.and_eq_true] at h
      exact n_orL (eE _ X _ ok h.1) (eE _ X _ ok h.2)
    · cases h
  · exact (eE _ X _ ok h).pe
end
end G
set_option Elab.async false
set_option linter.all false
set_option maxRecDepth 100000
set_option maxHeartbeats 4000000
/-! S4a: the state of a body between its statements -/
namespace G
open PySem PySem.Spec PyProof.Rows L2

/-- a body: its slots whose lists it changes, whether what it hands back is its caller's alone; the heap it began with, what its arguments reach -/
structure Bd where
  mu : List Nat
  nw : Bool
  H0 : Hp
  Af : List Addr
  A : Option Addr
section
variable (K : PySem.W.Frag) (B : Tab) (Z : Bd)
structure SI (ρ : Slots) (σ : L2.St) (H : Hp) (fps : Nat → List Addr) (t : Tn) : Prop where
  rel : RelS K B ρ σ H Z.A fps
  tin : TinOk Z.A t H
  kp : Kp Z.A Z.H0 H
  arg : ∀ i, ∀ a ∈ fps i, Z.H0 a = none ∨ a ∈ Z.Af
  own : ∀ i ∈ Z.mu, ∀ a ∈ fps i, Z.H0 a = none ∧ ∀ j, j ≠ i → a ∉ fps j
  nd : ∀ i ∈ Z.mu, (fps i).Nodup
end
/-- what may have changed -/
def Wm (Z : Bd) (ro : List Nat) (fps : Nat → List Addr) : Addr → Prop := fun b => Z.A = some b ∨ ∃ i, i ∈ Z.mu ∧ i ∉ ro ∧ b ∈ fps i
structure Step (Z : Bd) (ro : List Nat) (fps : Nat → List Addr) (H : Hp) (fps' : Nat → List Addr) (H' : Hp) : Prop where
  fr : Fr (Wm Z ro fps) H H'
  al : ∀ a, H' a = none → H a = none
  sro : ∀ i, i ∈ ro → i ∈ Z.mu → fps' i = fps i
  own : ∀ i, i ∈ Z.mu → i ∉ ro → ∀ a ∈ fps' i, H a = none ∨ ∃ j, j ∈ Z.mu ∧ j ∉ ro ∧ a ∈ fps j
section
variable {K : PySem.W.Frag} {B : Tab} {Z : Bd} {ro ro' : List Nat} {ρ ρ1 ρ' : Slots} {σ σ' : L2.St} {fps fps1 fps' : Nat → List Addr} {H H1 H' : Hp} {t t' : Tn} {v : PV} {x : V} {fp : List Addr}
theorem Step.refl : Step Z ro fps H fps H := ⟨Fr.refl, fun _ h => h, fun _ _ _ => rfl, fun i h n a ha => .inr ⟨i, h, n, ha⟩⟩
theorem Step.back (a : Step Z ro fps H fps1 H1) {c : Addr} (h : Wm Z ro fps1 c) : H c = none ∨ Wm Z ro fps c := by
  rcases h with h | ⟨i, h1, h2, h3⟩
  · exact .inr (.inl h)
  · exact (a.own i h1 h2 c h3).imp id fun z => .inr z
theorem Step.trans (a : Step Z ro fps H fps1 H1) (b : Step Z ro fps1 H1 fps' H') : Step Z ro fps H fps' H' := by
  refine ⟨fun c o e n => b.fr c o (a.fr c o e n) fun z => ?_, fun c h => a.al c (b.al c h), fun i h m => (b.sro i h m).trans (a.sro i h m), fun i h n c hc => ?_⟩
  · rcases a.back z with h | h
    · rw [e] at h; cases h
    · exact n h
  · rcases b.own i h n c hc with h1 | ⟨j, h1, h2, h3⟩
    · exact .inl (a.al c h1)
    · exact a.own j h1 h2 c h3
theorem Step.less (a : Step Z ro' fps H fps1 H1) (h : ∀ i ∈ ro, i ∈ ro') : Step Z ro fps H fps1 H1 := by
  refine ⟨a.fr.mono fun b z => z.imp id fun ⟨i, h1, h2, h3⟩ => ⟨i, h1, fun z => h2 (h i z), h3⟩, a.al, fun i hi => a.sro i (h i hi), fun i h1 h2 c hc => ?_⟩
  by_cases z : i ∈ ro'
  · rw [a.sro i z h1] at hc
    exact .inr ⟨i, h1, h2, hc⟩
  · exact (a.own i h1 z c hc).imp id fun ⟨j, h3, h4, h5⟩ => ⟨j, h3, fun z => h4 (h j z), h5⟩
theorem SI.wl (s : SI K B Z ρ σ H fps t) (i : Nat) : Wl (fun b => b ∈ fps i) H := fun b hb => (s.rel.al i b hb).2
theorem SI.onKp (s : SI K B Z ρ σ H fps t) (k : Kp Z.A H H') (tk : TinOk Z.A t' H') : SI K B Z ρ σ H' fps t' ∧ Step Z ro fps H fps H' :=
  ⟨⟨s.rel.kp k s.tin, tk, s.kp.trans k, s.arg, s.own, s.nd⟩, ⟨k.mono fun b z => .inl z, fun a h => free_kp k tk h, fun _ _ _ => rfl, fun i h n a ha => .inr ⟨i, h, n, ha⟩⟩⟩
/-- a value stored at i -/
theorem SI.set (s : SI K B Z ρ σ H fps t) {i : Nat} (d : Den K B H Z.A v x fp) (o : Off Z.A fp) (ha : ∀ a ∈ fp, Z.H0 a = none ∨ a ∈ Z.Af) (hr : i ∈ Z.mu → i ∉ ro)
    (h1 : ∀ j ∈ Z.mu, j ≠ i → ∀ a ∈ fps j, a ∉ fp) (h2 : i ∈ Z.mu → fp.Nodup ∧ ∀ a ∈ fp, Z.H0 a = none ∧ ∀ j, j ≠ i → a ∉ fps j) (h3 : i ∈ Z.mu → ∀ a ∈ fp, H1 a = none ∨ ∃ j, j ∈ Z.mu ∧ j ∉ ro ∧ a ∈ fps1 j) (b : Step Z ro fps1 H1 fps H) :
    SI K B Z (setS ρ i v) (σ.set i (some x)) H (setF fps i fp) t ∧ Step Z ro fps1 H1 (setF fps i fp) H := by
  refine ⟨⟨s.rel.set i d o, s.tin, s.kp, fun j a h => ?_, fun j hj a h => ?_, fun j hj => ?_⟩, ⟨b.fr, b.al, fun j h m => ?_, fun j hj n a h => ?_⟩⟩
  · by_cases e : j = i
    · subst e; rw [setF_same] at h; exact ha a h
    · rw [setF_ne e] at h; exact s.arg j a h
  · by_cases e : j = i
    · subst e
      rw [setF_same] at h
      obtain ⟨q1, q2⟩ := (h2 hj).2 a h
      exact ⟨q1, fun k hk => by rw [setF_ne hk]; exact q2 k hk⟩
    · rw [setF_ne e] at h
      obtain ⟨q1, q2⟩ := s.own j hj a h
      refine ⟨q1, fun k hk => ?_⟩
      by_cases e2 : k = i
      · subst e2; rw [setF_same]; exact h1 j hj e a h
      · rw [setF_ne e2]; exact q2 k hk
  · by_cases e : j = i
    · subst e; rw [setF_same]; exact (h2 hj).1
    · rw [setF_ne e]; exact s.nd j hj
  · have e : j ≠ i := fun z => hr (z ▸ m) (z ▸ h)
    rw [setF_ne e]
    exact b.sro j h m
  · by_cases e : j = i
    · subst e; rw [setF_same] at h; exact h3 hj a h
    · rw [setF_ne e] at h; exact b.own j hj n a h
/-- the lists of slot i changed -/
theorem SI.mut (s : SI K B Z ρ σ H fps t) {i : Nat} (hi : i ∈ Z.mu) (hr : i ∉ ro) (f : Fr (fun b => b ∈ fps i) H H') (al : ∀ a, H' a = none → H a = none) (hx : σ[i]? = some (some x)) (d : Den K B H' Z.A v x fp) (hn : fp.Nodup) (hs : ∀ a ∈ fp, a ∈ fps i) :
    SI K B Z (setS ρ i v) σ H' (setF fps i fp) t ∧ Step Z ro fps H (setF fps i fp) H' := by
  have eσ : σ = σ.set i (some x) := by
    apply List.ext_getElem?
    intro j
    by_cases e : i = j
    · subst e
      rw [List.getElem?_set_self (List.getElem?_eq_some_iff.mp hx).1]
      exact hx
    · rw [List.getElem?_set_ne e]
  have tk : TinOk Z.A t H' := by
    have tn := s.tin
    cases hA : Z.A with
    | none =>
      rw [hA] at tn
      cases t with
      | none => trivial
      | some q => exact tn.elim
    | some a =>
      rw [hA] at tn
      cases t with
      | none => exact tn.elim
      | some q =>
        obtain ⟨y1, y2, y3⟩ := q
        exact f a _ tn fun z => (s.rel.al i a z).1 hA
  have rl : RelS K B ρ σ H' Z.A (setF fps i []) ∨ True := .inr trivial
  have oth : ∀ j, j ≠ i → ∀ a ∈ fps j, a ∉ fps i := fun j hj a h h' => (s.own i hi a h').2 j hj h
  have keep : ∀ j, j ≠ i → ∀ a ∈ fps j, ∀ o, H a = some o → H' a = some o := fun j hj a h o e => f a o e fun z => oth j hj a h z
  have off : Off Z.A fp := fun a h => (s.rel.al i a (hs a h)).1
  refine ⟨⟨?_, tk, fun b o e n => f b o (s.kp b o e n) fun z => ?_, fun j a h => ?_, fun j hj a h => ?_, fun j hj => ?_⟩, ⟨f.mono fun b z => .inr ⟨i, hi, hr, z⟩, al, fun j h m => ?_, fun j hj n a h => ?_⟩⟩
  · rw [eσ]
    refine ⟨by simp [setS, s.rel.len], fun j w e => ?_, fun j a ha => ?_⟩
    · rw [getS_set] at e
      by_cases h : i = j
      · subst h
        rw [if_pos rfl] at e
        split at e
        · cases e
          rename_i hl
          exact ⟨x, List.getElem?_set_self (by rw [← s.rel.len]; exact hl), by rw [setF_same]; exact d⟩
        · cases e
      · rw [if_neg h] at e
        obtain ⟨y, e1, d1⟩ := s.rel.at_ j w e
        exact ⟨y, by rw [List.getElem?_set_ne h]; exact e1, by rw [setF_ne (Ne.symm h)]; exact d1.fr f (s.wl i) (fun _ e => e) (oth j (Ne.symm h))⟩
    · by_cases h : i = j
      · subst h
        rw [setF_same] at ha
        exact ⟨off a ha, d.ld a ha⟩
      · rw [setF_ne (Ne.symm h)] at ha
        obtain ⟨q1, q2⟩ := s.rel.al j a ha
        exact ⟨q1, q2.eq (keep j (Ne.symm h) a ha)⟩
  · rw [(s.own i hi b z).1] at e; cases e
  · by_cases e : j = i
    · subst e; rw [setF_same] at h; exact s.arg j a (hs a h)
    · rw [setF_ne e] at h; exact s.arg j a h
  · by_cases e : j = i
    · subst e
      rw [setF_same] at h
      obtain ⟨q1, q2⟩ := s.own j hj a (hs a h)
      exact ⟨q1, fun k hk => by rw [setF_ne hk]; exact q2 k hk⟩
    · rw [setF_ne e] at h
      obtain ⟨q1, q2⟩ := s.own j hj a h
      refine ⟨q1, fun k hk => ?_⟩
      by_cases e2 : k = i
      · subst e2; rw [setF_same]; exact fun z => q2 k hk (hs a z)
      · rw [setF_ne e2]; exact q2 k hk
  · by_cases e : j = i
    · subst e; rw [setF_same]; exact hn
    · rw [setF_ne e]; exact s.nd j hj
  · have e : j ≠ i := fun z => hr (z ▸ h)
    rw [setF_ne e]
  · by_cases e : j = i
    · subst e; rw [setF_same] at h; exact .inr ⟨j, hj, n, hs a h⟩
    · rw [setF_ne e] at h; exact .inr ⟨j, hj, n, h⟩
/-! ### what a statement reaches -/
def RtOk (K : PySem.W.Frag) (B : Tab) (Z : Bd) (v : PV) (t' : Tn) (x : V) (H' : Hp) : Prop := ∃ fp, Kp Z.A Z.H0 H' ∧ TinOk Z.A t' H' ∧ Den K B H' Z.A v x fp ∧ (∀ a ∈ fp, Z.H0 a = none ∨ a ∈ Z.Af) ∧ Off Z.A fp ∧ (Z.nw = true → elems1 v = true → ∀ a ∈ fp, Z.H0 a = none)
def Out (K : PySem.W.Frag) (B : Tab) (Z : Bd) (ro : List Nat) (fps : Nat → List Addr) (H : Hp) (D : Ends) (t' : Tn) : Fl → Prop
  | .nx ρ' => ∀ σ' H' fps', SI K B Z ρ' σ' H' fps' t' → Step Z ro fps H fps' H' → D.nx σ' H'
  | .bk ρ' => ∀ σ' H' fps', SI K B Z ρ' σ' H' fps' t' → Step Z ro fps H fps' H' → D.bk σ' H'
  | .ct ρ' => ∀ σ' H' fps', SI K B Z ρ' σ' H' fps' t' → Step Z ro fps H fps' H' → D.ct σ' H'
  | .rt v => ∀ x H', RtOk K B Z v t' x H' → D.rt x H'
theorem Out.on {D : Ends} {r : Fl} (b : Step Z ro fps H fps1 H1) (o : Out K B Z ro fps H D t' r) : Out K B Z ro fps1 H1 D t' r := by
  cases r with
  | nx ρ' => exact fun σ' H' fps' s c => o σ' H' fps' s (b.trans c)
  | bk ρ' => exact fun σ' H' fps' s c => o σ' H' fps' s (b.trans c)
  | ct ρ' => exact fun σ' H' fps' s c => o σ' H' fps' s (b.trans c)
  | rt v => exact o
def tSt (K : PySem.W.Frag) (B : Tab) (mu : List Nat) (nw : Bool) (ro : List Nat) (g : Slots → M Fl) : TS := fun D σ H => ∃ Z ρ t r t' fps, Z.mu = mu ∧ Z.nw = nw ∧ SI K B Z ρ σ H fps t ∧ g ρ t = some (r, t') ∧ Out K B Z ro fps H D t' r
theorem PS_mono {X : Cx} {e : Stmt} {t t' : TS} (h : PS X e t) (w : ∀ D σ H, t' D σ H → t D σ H) : PS X e t' := ⟨fun pins s σ H Q I q => h.run pins s σ H Q I (w Q σ H q)⟩
theorem PSs_mono {X : Cx} {e : List Stmt} {t t' : TS} (h : PSs X e t) (w : ∀ D σ H, t' D σ H → t D σ H) : PSs X e t' := ⟨fun pins s σ H Q I q => h.run pins s σ H Q I (w Q σ H q)⟩
/-- a value behind an expression -/
theorem Post.arg {vs : List Nat} {b1 b2 : Bool} (s : SI K B Z ρ σ H fps t) (p : Post K B H H' Z.A t' fps vs b1 b2 v x fp) : ∀ a ∈ fp, Z.H0 a = none ∨ a ∈ Z.Af := fun a ha => by
  rcases p.sub a ha with h | ⟨i, _, h⟩
  · exact .inl (free_kp s.kp s.tin h)
  · exact s.arg i a h
def KindC (mu ro vs : List Nat) (b1 b2 : Bool) (i : Nat) : Sk → Prop
  | .n => (∀ j ∈ vs, j ∉ mu) ∧ i ∉ mu
  | .f => i ∉ mu
  | .m => b1 = true ∧ (i ∈ mu → i ∉ ro)
  | .mm => b2 = true ∧ (i ∈ mu → i ∉ ro)
/-- stored by its kind -/
theorem SI.store {vs : List Nat} {b1 b2 : Bool} {k : Sk} {i : Nat} (s : SI K B Z ρ σ H fps t) (p : Post K B H H' Z.A t' fps vs b1 b2 v x fp) (hk : stOk k v = true)
    (hc : KindC Z.mu ro vs b1 b2 i k) :
    SI K B Z (setS ρ i v) (σ.set i (some x)) H' (setF fps i fp) t' ∧ Step Z ro fps H (setF fps i fp) H' := by
  obtain ⟨s', b⟩ := s.onKp (ro := ro) p.kp p.tin
  have al : ∀ j, ∀ a ∈ fps j, H a ≠ none := fun j a ha z => by
    obtain ⟨o, e⟩ := (s.rel.al j a ha).2.ex
    rw [z] at e; cases e
  have new : (fp.Nodup ∧ ∀ a ∈ fp, H a = none) → (i ∈ Z.mu → i ∉ ro) → SI K B Z (setS ρ i v) (σ.set i (some x)) H' (setF fps i fp) t' ∧ Step Z ro fps H (setF fps i fp) H' := fun ⟨n1, n2⟩ hr =>
    s'.set p.den p.off (Post.arg s p) hr (fun j hj _ a ha z => al j a ha (n2 a z)) (fun hi => ⟨n1, fun a ha => ⟨free_kp s.kp s.tin (n2 a ha), fun j _ z => al j a z (n2 a ha)⟩⟩) (fun hi a ha => .inl (n2 a ha)) b
  cases k with
  | n =>
    obtain ⟨h1, h2⟩ := hc
    refine s'.set p.den p.off (Post.arg s p) (fun z => absurd z h2) (fun j hj _ a ha z => ?_) (fun z => absurd z h2) (fun z => absurd z h2) b
    rcases p.sub a z with q | ⟨l, hl, q⟩
    · exact al j a ha q
    · have : l ≠ j := fun e => h1 l hl (e ▸ hj)
      exact (s.own j hj a ha).2 l this q
  | f =>
    have ef : fp = [] := p.den.flat (n := 20) hk
    subst ef
    exact s'.set p.den p.off (Post.arg s p) (fun z => absurd z hc) (fun j hj _ a ha z => absurd z (by simp)) (fun z => absurd z hc) (fun z => absurd z hc) b
  | m =>
    obtain ⟨h1, h2⟩ := hc
    have n := p.n1 h1 hk
    obtain ⟨a, _, e⟩ := elems1_fp p.den hk
    exact new ⟨by rw [e]; simp, n⟩ h2
  | mm =>
    obtain ⟨h1, h2⟩ := hc
    exact new (p.n2 h1 hk) h2
end
end G
set_option Elab.async false
set_option linter.all false
set_option maxRecDepth 100000
set_option maxHeartbeats 4000000
/-! S4b: stores, returns, branches, loops -/
namespace G
open PySem PySem.Spec PyProof.Rows L2

structure YOk (B : Tab) (F : FS) (X : Cx) : Prop where
  x : XOk B F X
  po : PassesOwn (model X.prog X.w) X.A X.env X.xe
  fn : ∀ x, X.fn x = true
  kd : X.env.scope.kind = .function

section
variable {X : Cx} {B : Tab} {F : FS} {mu ro : List Nat} {nw : Bool} {pos : Pos}
/-! ### names stored -/
theorem cE_comp {N : List Str} {sc : Scope} {m : E} {elt : Expr} {gs : List Comprehension} {s : Scope} {p : Pos} (h : cE B N sc m (.ListComp elt gs s p) = true) : ∃ el tg it c, m = .comp el tg it c := by
  cases m <;> first | exact ⟨_, _, _, _, rfl⟩ | (exfalso; simp [cE] at h)
theorem cV_sw {N : List Str} {sc : Scope} {m : E} {e : Expr} (h : cV B N sc m e = true) (hn : ∀ elt gs s p, e ≠ .ListComp elt gs s p) (t : Option Expr) (l : Nat) (env : Env) : swapsWith e t l env = pure false := by
  have hc : cE B N sc m e = true ∨ ∃ o l p, e = .BoolOp o l p := by
    unfold cV at h
    split at h
    · split at h
      · exact .inr ⟨_, _, _, rfl⟩
      · cases h
    · exact .inl h
  rcases hc with hc | ⟨o, l', p, rfl⟩
  · cases e <;> first | rfl | exact absurd rfl (hn _ _ _ _) | (exfalso; cases m <;> simp [cE] at hc)
  · rfl
theorem sw_bool {elt : Expr} {gs : List Comprehension} {scope : Scope} {pos py : Pos} {y : Str} {l : Nat} {env : Env} :
    swapsWith (.ListComp elt gs scope pos) (some (.Name y py)) l env = pure (env.blockKind == .function && env.kindOf y == some .local && py.line == (Expr.ListComp elt gs scope pos).pos.line && !(scope.names.any fun (n, k) => n == y && (k == .local || k == .cell))) := rfl
theorem ps_comp {el c : E} {tg : Tg} {it : It} {i : Nat} {y : Str} {py : Pos} {e : Expr} (ok : XOk B F X) (hi : X.N[i]? = some y) (hyl : X.env.scope.names.lookup y = some .local) (hsw : swapsWith e (some (.Name y py)) pos.line X.env = pure true)
    (h : cE B X.N X.env.scope (.comp el tg it c) e = true) : PS X (.Assign [.Name y py] e pos) (tAsg (tEv X.K B F (.comp el tg it c)) (gName i)) := by
  unfold cE at h
  split at h
  · rename_i ee et ei ifs sc _
    simp only [Bool.and_eq_true] at h
    obtain ⟨⟨⟨⟨h1, h2⟩, h3⟩, h4⟩, h5⟩ := h
    have hit := eI it X et ei ok h2
    have hf : ∀ x, foldedSetIterable ei X.env x = pure x := fun x => cI_fold h2 _ x
    have hg : ∀ (s : Shared) (H : Hp) (C : Addr) (cl : List (Str × Addr)) (fp : List Addr), PG (X.blk s H sc (compEnvC sc cl C X.env) fp) et (gT X.K B tg) := fun s H C cl fp => pg_ok (X := X.blk s H sc (compEnvC sc cl C X.env) fp) ok.calm ok.nd (fun _ z => z) h3
    have he : ∀ (s : Shared) (H : Hp) (C : Addr) (cl : List (Str × Addr)) (fp : List Addr), PE (X.blk s H sc (compEnvC sc cl C X.env) fp) ee (tEv X.K B F el) := fun s H C cl fp => (eE el (X.blk s H sc (compEnvC sc cl C X.env) fp) ee (ok.blk _ _ _ _ _) h4).pe
    have go : ∀ {tt : TT}, (∀ (s : Shared) (H : Hp) (C : Addr) (cl : List (Str × Addr)) (fp : List Addr), PTs (X.blk s H sc (compEnvC sc cl C X.env) fp) ifs tt) → (∀ σ H Q, tTest (tEv X.K B F c) σ H Q → tt σ H Q) → PS X (.Assign [.Name y py] (.ListComp ee [⟨et, ei, ifs, 0⟩] sc _) pos) (tAsg (tEv X.K B F (.comp el tg it c)) (gName i)) := fun ht htt => by
      refine PS_mono (ps_setLc ok.calm ok.nd hi hyl hsw hit (blkOk_by h1) hg ht he hf) fun D σ H h => ?_
      rw [own_map]
      exact lc_go htt h
    split at h5
    · exact go (fun _ _ _ _ _ => pts_nil) tt_yes
    · cases h5
    · exact go (fun s H C cl fp => pts_one (eE c (X.blk s H sc (compEnvC sc cl C X.env) fp) _ (ok.blk _ _ _ _ _) h5).pt) fun _ _ _ z => z
    · cases h5
  · cases h
/-- name = value -/
theorem ps_nm {m : E} {i : Nat} {y : Str} {py : Pos} {e : Expr} (ok : YOk B F X) (hi : X.N[i]? = some y) (hl : locB X.env.scope y = true) (h : cV B X.N X.env.scope m e = true) : PS X (.Assign [.Name y py] e pos) (tAsg (tEv X.K B F m) (gName i)) := by
  have hx : Loc X.env.scope y := by
    unfold locB at hl
    split at hl
    · exact .inl (by assumption)
    · exact .inr (by assumption)
    · cases hl
  have pe := eV ok.x h
  by_cases hn : ∃ elt gs s p, e = .ListComp elt gs s p
  · obtain ⟨elt, gs, s, p, rfl⟩ := hn
    have hc : cE B X.N X.env.scope m (.ListComp elt gs s p) = true := by
      unfold cV at h
      split at h
      · simp at h
      · exact h
    obtain ⟨el, tg, it, c, rfl⟩ := cE_comp hc
    cases hb : (X.env.blockKind == .function && X.env.kindOf y == some .local && py.line == (Expr.ListComp elt gs s p).pos.line && !(s.names.any fun (n, k) => n == y && (k == .local || k == .cell))) with
    | false => exact ps_set ok.x.nd hi hx pe (by rw [sw_bool, hb]) (.inl (ok.fn y))
    | true =>
      refine ps_comp ok.x hi ?_ (by rw [sw_bool, hb]) hc
      simp only [Bool.and_eq_true, beq_iff_eq] at hb
      exact hb.1.1.2
  · exact ps_set ok.x.nd hi hx pe (cV_sw h (fun elt gs s p z => hn ⟨elt, gs, s, p, z⟩) _ _ _) (.inl (ok.fn y))
def kindOk (B : Tab) (mu ro : List Nat) (k : Sk) (i : Nat) (e : E) : Bool := match k with
  | .n => (e.vars.all fun j => decide (j ∉ mu)) && decide (i ∉ mu)
  | .f => decide (i ∉ mu)
  | .m => nw1 B e && decide (i ∈ mu → i ∉ ro)
  | .mm => nw2 B e && decide (i ∈ mu → i ∉ ro)
theorem kindOk_c {k : Sk} {i : Nat} {e : E} (h : kindOk B mu ro k i e = true) : KindC mu ro e.vars (nw1 B e) (nw2 B e) i k := by
  cases k <;> simpa only [kindOk, KindC, Bool.and_eq_true, List.all_eq_true, decide_eq_true_eq] using h
theorem s_asg {k : Sk} {i : Nat} {e : E} {y : Str} {py : Pos} {ex : Expr} (ok : YOk B F X) (hi : X.N[i]? = some y) (hl : locB X.env.scope y = true) (h : cV B X.N X.env.scope e ex = true) (hk : kindOk B mu ro k i e = true) :
    PS X (.Assign [.Name y py] ex pos) (tSt X.K B mu nw ro (evS F (.asg k i e))) :=
  PS_mono (ps_nm ok hi hl h) fun D σ H ⟨Z, ρ, t, r, t', fps, hmu, hnw, si, ev, o⟩ => by
    simp only [evS, bnd_some, chk_some, ret_some] at ev
    obtain ⟨v, t1, e1, u, t2, ⟨h1, e2⟩, e3⟩ := ev
    cases e2
    cases e3
    subst hmu
    refine tEv.go si.rel si.tin e1 fun x H1 fp p => ?_
    obtain ⟨s', b⟩ := si.store (ro := ro) p h1 (kindOk_c hk)
    exact o _ _ _ s' b
theorem s_ret {e : E} {ex : Expr} (ok : YOk B F X) (h : cV B X.N X.env.scope e ex = true) (hn : (!nw || nw1 B e) = true) : PS X (.Return (some ex) pos) (tSt X.K B mu nw ro (evS F (.ret e))) :=
  PS_mono (ps_ret (eV ok.x h)) fun D σ H ⟨Z, ρ, t, r, t', fps, hmu, hnw, si, ev, o⟩ => by
    simp only [evS, bnd_some, ret_some] at ev
    obtain ⟨v, t1, e1, e3⟩ := ev
    cases e3
    exact tEv.go si.rel si.tin e1 fun x H1 fp p => o x H1 ⟨fp, si.kp.trans p.kp, p.tin, p.den, Post.arg si p, p.off, fun z he a ha => free_kp si.kp si.tin (p.n1 (by rw [← hnw, z] at hn; simpa using hn) he a ha)⟩
theorem s_retN : PS X (.Return none pos) (tSt X.K B mu nw ro (evS F (.ret .non))) :=
  PS_mono ps_retN fun D σ H ⟨Z, ρ, t, r, t', fps, hmu, hnw, si, ev, o⟩ => by
    simp only [evS, evE, bnd_some, ret_some] at ev
    obtain ⟨v, t1, e1, e3⟩ := ev
    cases e1
    cases e3
    exact o _ _ ⟨[], si.kp, si.tin, .non, fun _ h => absurd h (by simp), fun _ h => absurd h (by simp), fun _ h => by simp [elems1] at h⟩
theorem s_retM {i : Nat} {y : Str} {p : Pos} (hi : X.N[i]? = some y) (hv : visB X.env.scope y = true) (ho : okN y = true) (hm : i ∈ mu) : PS X (.Return (some (.Name y p)) pos) (tSt X.K B mu nw ro (evS F (.retM i))) :=
  PS_mono (ps_ret (pe_var hi (visB_vis hv) (okN1 ho) (okN2 ho))) fun D σ H ⟨Z, ρ, t, r, t', fps, hmu, hnw, si, ev, o⟩ => by
    simp only [evS, bnd_some, lift_some, ret_some] at ev
    obtain ⟨v, t1, ⟨v', e1, e2⟩, e3⟩ := ev
    cases e2
    cases e3
    subst hmu
    obtain ⟨x, e4, d⟩ := si.rel.at_ i v e1
    exact ⟨x, e4, o _ _ ⟨_, si.kp, si.tin, d, si.arg i, si.rel.off i v e1, fun _ _ a ha => (si.own i hm a ha).1⟩⟩
theorem s_pass : PS X (.Pass pos) (tSt X.K B mu nw ro (evS F .pass)) :=
  PS_mono ps_pass fun D σ H ⟨Z, ρ, t, r, t', fps, hmu, hnw, si, ev, o⟩ => by
    simp only [evS, ret_some] at ev
    cases ev
    exact o _ _ _ si Step.refl
theorem s_brk : PS X (.Break pos) (tSt X.K B mu nw ro (evS F .brk)) :=
  PS_mono ps_break fun D σ H ⟨Z, ρ, t, r, t', fps, hmu, hnw, si, ev, o⟩ => by
    simp only [evS, ret_some] at ev
    cases ev
    exact o _ _ _ si Step.refl
theorem s_cont : PS X (.Continue pos) (tSt X.K B mu nw ro (evS F .cont)) :=
  PS_mono ps_continue fun D σ H ⟨Z, ρ, t, r, t', fps, hmu, hnw, si, ev, o⟩ => by
    simp only [evS, ret_some] at ev
    cases ev
    exact o _ _ _ si Step.refl
theorem s_raise {st : Stmt} : PS X st (tSt X.K B mu nw ro (evS F .raise)) :=
  PS_mono ps_never fun D σ H ⟨Z, ρ, t, r, t', fps, hmu, hnw, si, ev, o⟩ => by
    simp [evS, M.fail] at ev

/-! ### blocks, branches -/
theorem ss_nil : PSs X [] (tSt X.K B mu nw ro (evSs F .nil)) :=
  PSs_mono pss_nil fun D σ H ⟨Z, ρ, t, r, t', fps, hmu, hnw, si, ev, o⟩ => by
    simp only [evSs, ret_some] at ev
    cases ev
    exact o _ _ _ si Step.refl
theorem ss_cons {s : S} {ss : Ss} {st : Stmt} {sts : List Stmt} (h1 : PS X st (tSt X.K B mu nw ro (evS F s))) (h2 : PSs X sts (tSt X.K B mu nw ro (evSs F ss))) : PSs X (st :: sts) (tSt X.K B mu nw ro (evSs F (.cons s ss))) :=
  PSs_mono (pss_cons h1 h2) fun D σ H ⟨Z, ρ, t, r, t', fps, hmu, hnw, si, ev, o⟩ => by
    simp only [evSs, bnd_some] at ev
    obtain ⟨q, t1, e1, e2⟩ := ev
    refine ⟨Z, ρ, t, q, t1, fps, hmu, hnw, si, e1, ?_⟩
    cases q with
    | nx ρ1 => exact fun σ1 H1 fps1 s1 b1 => ⟨Z, ρ1, t1, r, t', fps1, hmu, hnw, s1, e2, o.on b1⟩
    | rt v => simp only [ret_some] at e2; cases e2; exact o
    | bk ρ1 => simp only [ret_some] at e2; cases e2; exact o
    | ct ρ1 => simp only [ret_some] at e2; cases e2; exact o
theorem s_ife {c : E} {a b : Ss} {ec : Expr} {la lb : List Stmt} (hc : Ok X B F c ec) (ha : PSs X la (tSt X.K B mu nw ro (evSs F a))) (hb : PSs X lb (tSt X.K B mu nw ro (evSs F b))) : PS X (.If ec la lb pos) (tSt X.K B mu nw ro (evS F (.ife c a b))) :=
  PS_mono (ps_if hc.pt ha hb) fun D σ H ⟨Z, ρ, t, r, t', fps, hmu, hnw, si, ev, o⟩ => by
    simp only [evS, bnd_some, asBl_some] at ev
    obtain ⟨x, t1, e1, d, t2, ⟨j, rfl, e2⟩, e3⟩ := ev
    cases e2
    refine tEv.go si.rel si.tin e1 fun x H1 fp p => ⟨d, p.den.blI, ?_⟩
    obtain ⟨s1, b1⟩ := si.onKp (ro := ro) p.kp p.tin
    cases d with
    | true =>
      rw [if_pos rfl] at e3
      exact iteT ⟨Z, ρ, _, r, t', fps, hmu, hnw, s1, e3, o.on b1⟩
    | false =>
      rw [if_neg Bool.false_ne_true] at e3
      exact iteF ⟨Z, ρ, _, r, t', fps, hmu, hnw, s1, e3, o.on b1⟩
theorem s_whl {c : E} {b : Ss} {ec : Expr} {lb : List Stmt} (ok : YOk B F X) (hc : Ok X B F c ec) (hb : PSs X lb (tSt X.K B mu nw ro (evSs F b))) : PS X (.While ec lb [] pos) (tSt X.K B mu nw ro (evS F (.whl c b))) :=
  PS_mono (ps_while ok.po hc.pt hb) fun D σ H ⟨Z, ρ, t, r, t', fps, hmu, hnw, si, ev, o⟩ => by
    simp only [evS] at ev
    refine ⟨fun m σ1 H1 => ∃ ρ1 t1 fps1, SI X.K B Z ρ1 σ1 H1 fps1 t1 ∧ loopW (fun ρ => M.bnd (evE F c ρ) asBl) (fun ρ => evSs F b ρ) m ρ1 t1 = some (r, t') ∧ Step Z ro fps H fps1 H1, ⟨fuelW, ρ, t, fps, si, ev, Step.refl⟩, ?_⟩
    rintro m σ1 H1 ⟨ρ1, t1, fps1, s1, e1, b1⟩
    cases m with
    | zero => simp [loopW, M.fail] at e1
    | succ m =>
      simp only [loopW, bnd_some, asBl_some] at e1
      obtain ⟨d, t2, ⟨x, t3, e2, ⟨j, rfl, e3⟩⟩, e4⟩ := e1
      cases e3
      refine tEv.go s1.rel s1.tin e2 fun x H2 fp p => ⟨d, p.den.blI, ?_⟩
      obtain ⟨s2, b2⟩ := s1.onKp (ro := ro) p.kp p.tin
      cases d with
      | false =>
        rw [if_neg Bool.false_ne_true, ret_some] at e4
        cases e4
        exact iteF (o _ _ _ s2 (b1.trans b2))
      | true =>
        rw [if_pos rfl, bnd_some] at e4
        obtain ⟨q, t4, e5, e6⟩ := e4
        refine iteT ⟨fun σ3 H3 => ∃ m', m' < m + 1 ∧ ∃ ρ1 t1 fps1, SI X.K B Z ρ1 σ3 H3 fps1 t1 ∧ loopW (fun ρ => M.bnd (evE F c ρ) asBl) (fun ρ => evSs F b ρ) m' ρ1 t1 = some (r, t') ∧ Step Z ro fps H fps1 H3, fun _ _ z => z, ?_⟩
        refine ⟨Z, ρ1, _, q, t4, fps1, hmu, hnw, s2, e5, ?_⟩
        cases q with
        | nx ρ3 => exact fun σ3 H3 fps3 s3 b3 => ⟨m, Nat.lt_succ_self m, ρ3, t4, fps3, s3, e6, (b1.trans b2).trans b3⟩
        | ct ρ3 => exact fun σ3 H3 fps3 s3 b3 => ⟨m, Nat.lt_succ_self m, ρ3, t4, fps3, s3, e6, (b1.trans b2).trans b3⟩
        | bk ρ3 =>
          simp only [ret_some] at e6
          cases e6
          exact fun σ3 H3 fps3 s3 b3 => o _ _ _ s3 ((b1.trans b2).trans b3)
        | rt v =>
          simp only [ret_some] at e6
          cases e6
          exact o

/-! ### targets -/
theorem bind_ok {Z : Bd} {ρ ρ' : Slots} {σ : L2.St} {H : Hp} {fps : Nat → List Addr} {t : Tn} {p : PV} {x : V} {f : List Addr} {tg : Tg} {Q : L2.St → Hp → Prop} (s : SI X.K B Z ρ σ H fps t) (d : Den X.K B H Z.A p x f) (o : Off Z.A f) (ha : ∀ a ∈ f, Z.H0 a = none ∨ a ∈ Z.Af)
    (hj : ∀ j ∈ Z.mu, ∀ a ∈ fps j, a ∉ f) (hs : ∀ j ∈ tg.slots, j ∉ Z.mu) (e : bindT tg p ρ = some ρ') (q : ∀ σ' fps', SI X.K B Z ρ' σ' H fps' t → Step Z ro fps H fps' H → Q σ' H) : gT X.K B tg x σ H Q := by
  refine ⟨ρ, Z.A, fps, p, f, ρ', s.rel, d, o, e, fun σ' fps' r pt => ?_⟩
  have em : ∀ j ∈ Z.mu, fps' j = fps j := fun j h => (pt.same j fun z => hs j z h).2.2
  have mem : ∀ j, ∀ a ∈ fps' j, a ∈ f ∨ a ∈ fps j := fun j a h => by
    by_cases z : j ∈ tg.slots
    · exact pt.new j z a h
    · rw [(pt.same j z).2.2] at h; exact .inr h
  refine q σ' fps' ⟨r, s.tin, s.kp, fun j a h => (mem j a h).elim (ha a) (s.arg j a), fun j h a h' => ?_, fun j h => by rw [em j h]; exact s.nd j h⟩ ⟨Fr.refl, fun _ h => h, fun i _ h => em i h, fun i h n a h' => by rw [em i h] at h'; exact .inr ⟨i, h, n, h'⟩⟩
  rw [em j h] at h'
  obtain ⟨q1, q2⟩ := s.own j h a h'
  exact ⟨q1, fun k hk z => (mem k a z).elim (hj j h a h') (q2 k hk)⟩
theorem s_unp {tg : Tg} {e : E} {et ex : Expr} (ok : YOk B F X) (hg : PG X et (gT X.K B tg)) (h : cV B X.N X.env.scope e ex = true) (hn : ∀ elt gs s p, ex ≠ .ListComp elt gs s p) (hw : swappedStores [et] ex X.env = pure none) (h1 : (assignEach [et] X.env).map (·.2) = [assign et X.env])
    (hs : ∀ j ∈ tg.slots, j ∉ mu) (hv : ∀ j ∈ e.vars, j ∉ mu) : PS X (.Assign [et] ex pos) (tSt X.K B mu nw ro (evS F (.unp tg e))) :=
  PS_mono (ps_asg (eV ok.x h) hg (cV_sw h hn _ _ _) hw h1) fun D σ H ⟨Z, ρ, t, r, t', fps, hmu, hnw, si, ev, o⟩ => by
    simp only [evS, bnd_some, lift_some, ret_some] at ev
    obtain ⟨v, t1, e1, ρ', t2, ⟨ρ'', e2, e3⟩, e4⟩ := ev
    cases e3
    cases e4
    subst hmu
    refine tEv.go si.rel si.tin e1 fun x H1 fp p => ?_
    obtain ⟨s1, b1⟩ := si.onKp (ro := ro) p.kp p.tin
    refine bind_ok s1 p.den p.off (Post.arg si p) (fun j hj a ha z => ?_) hs e2 fun σ' fps' s2 b2 => o _ _ _ s2 (b1.trans b2)
    rcases p.sub a z with q | ⟨l, hl, q⟩
    · obtain ⟨o, eo⟩ := (si.rel.al j a ha).2.ex
      rw [q] at eo; cases eo
    · exact (si.own j hj a ha).2 l (fun z => hv l hl (z ▸ hj)) q
end
end G
set_option Elab.async false
set_option linter.all false
set_option maxRecDepth 100000
set_option maxHeartbeats 4000000
/-! S4c: for; several names at once -/
namespace G
open PySem PySem.Spec PyProof.Rows L2
section
variable {X : Cx} {B : Tab} {F : FS} {mu ro ro' : List Nat} {nw : Bool} {pos : Pos}
theorem for_go {Z : Bd} {ρ : Slots} {σ : L2.St} {H : Hp} {fps : Nat → List Addr} {t t1 t' : Tn} {it : It} {tg : Tg} {b : Ss} {xs : List PV} {r : Fl} {D : Ends} (hmu : Z.mu = mu) (hnw : Z.nw = nw) (si : SI X.K B Z ρ σ H fps t) (e1 : evI F it ρ t = some (xs, t1))
    (e2 : loopF (fun x ρ => M.bnd (M.lift (bindT tg x ρ)) fun ρ' => evSs F b ρ') xs ρ t1 = some (r, t')) (o : Out X.K B Z ro fps H D t' r) (hf : xs.all fl = true ∨ ∀ j ∈ it.lv, j ∉ mu) (h1 : ∀ i ∈ ro, i ∈ ro') (h2 : ∀ i ∈ it.lv, i ∈ mu → i ∈ ro') (hs : ∀ j ∈ tg.slots, j ∉ mu) :
    tFor (tIt X.K B F it) (gT X.K B tg) (tSt X.K B mu nw ro' (evSs F b)) D σ H := by
  subst hmu hnw
  refine ⟨ρ, t, xs, t1, Z.A, fps, si.rel, si.tin, e1, fun J H1 fp pI => ?_⟩
  obtain ⟨s1, b1⟩ := si.onKp (ro := ro) pI.kp pI.tin
  have alc : ∀ j, ∀ a ∈ fps j, H a ≠ none := fun j a ha z => by
    obtain ⟨o, e⟩ := (si.rel.al j a ha).2.ex
    rw [z] at e; cases e
  -- the iterated lists are none of those that the body changes
  have dis : ∀ j ∈ Z.mu, (j ∈ it.lv → False) → ∀ a ∈ fps j, a ∉ fp := fun j hj hn a ha z => by
    rcases pI.sub a z with q | ⟨l, hl, q⟩
    · exact alc j a ha q
    · exact (si.own j hj a ha).2 l (fun e => hn (e ▸ hl)) q
  have disW : ∀ a ∈ fp, ¬ Wm Z ro' fps a := fun a ha w => by
    rcases w with w | ⟨j, w1, w2, w3⟩
    · exact pI.off a ha w
    · exact dis j w1 (fun z => w2 (h2 j z w1)) a w3 ha
  have wl : Wl (Wm Z ro' fps) H1 := fun c w => by
    rcases w with w | ⟨j, w1, w2, w3⟩
    · exact pI.tin.wl c w
    · exact (s1.rel.al j c w3).2
  refine for_it pI.wk (fun i σx Hx => ∃ ρx tx fpsx, SI X.K B Z ρx σx Hx fpsx tx ∧ loopF (fun x ρ => M.bnd (M.lift (bindT tg x ρ)) fun ρ' => evSs F b ρ') (xs.drop i) ρx tx = some (r, t') ∧ Step Z ro' fps H1 fpsx Hx) ⟨ρ, t1, fps, s1, e2, Step.refl⟩ ?_ ?_ ?_
  · rintro i σx Hx hi ⟨ρx, tx, fpsx, sx, ex, bx⟩
    exact ⟨_, bx.fr, wl, disW⟩
  · rintro i x σx Hx H' hi ⟨ρx, tx, fpsx, sx, ex, bx⟩ ⟨p, f0, y1, y2, y3, y4⟩
    obtain ⟨_, hp⟩ := List.getElem?_eq_some_iff.mp y1
    rw [List.drop_eq_getElem_cons hi, hp] at ex
    simp only [loopF, bnd_some, lift_some] at ex
    obtain ⟨q, t2, ⟨ρ', t3, ⟨ρ'', e3, e4⟩, e5⟩, e6⟩ := ex
    cases e4
    obtain ⟨s3, b3⟩ := sx.onKp (ro := ro') y4.kp (sx.tin.frF y4)
    refine bind_ok (ro := ro') s3 y2 (fun a ha => pI.off a (y3 a ha)) (fun a ha => ?_) (fun j hj a ha z => ?_) hs e3 fun σ2 fps2 s2 b2 => ⟨Z, ρ', _, q, t2, fps2, rfl, rfl, s2, e5, ?_⟩
    · rcases pI.sub a (y3 a ha) with q | ⟨l, hl, q⟩
      · exact .inl (free_kp si.kp si.tin q)
      · exact si.arg l a q
    · rcases hf with hf | hf
      · have : f0 = [] := y2.flat (n := 20) (List.all_eq_true.mp hf p (List.mem_of_getElem? y1))
        rw [this] at z; cases z
      · have hz := y3 a z
        by_cases w : j ∈ ro'
        · rw [bx.sro j w hj] at ha
          exact dis j hj (fun z => hf j z hj) a ha hz
        · rcases bx.own j hj w a ha with q | ⟨k, k1, k2, k3⟩
          · obtain ⟨o, eo⟩ := pI.al a hz
            rw [q] at eo; cases eo
          · exact dis k k1 (fun z => hf k z k1) a k3 hz
    · have bb := (bx.trans b3).trans b2
      cases q with
      | nx ρ3 => exact fun σ3 H3 fps3 s3 b3 => ⟨ρ3, t2, fps3, s3, e6, bb.trans b3⟩
      | ct ρ3 => exact fun σ3 H3 fps3 s3 b3 => ⟨ρ3, t2, fps3, s3, e6, bb.trans b3⟩
      | bk ρ3 =>
        simp only [ret_some] at e6
        cases e6
        exact fun σ3 H3 fps3 s3 b3 => o _ _ _ s3 (b1.trans ((bb.trans b3).less h1))
      | rt v =>
        simp only [ret_some] at e6
        cases e6
        exact o
  · rintro σx Hx ⟨ρx, tx, fpsx, sx, ex, bx⟩
    rw [List.drop_length] at ex
    simp only [loopF, ret_some] at ex
    cases ex
    exact o _ _ _ sx (b1.trans (bx.less h1))
theorem s_forN {tg : Tg} {it : It} {b : Ss} {et ei : Expr} {lb : List Stmt} (ok : YOk B F X) (hi : cI B X.N X.env.scope it et ei = true) (hg : PG X et (gT X.K B tg)) (hb : PSs X lb (tSt X.K B mu nw ro (evSs F b))) (hs : ∀ j ∈ tg.slots, j ∉ mu) (hv : ∀ j ∈ it.lv, j ∉ mu) :
    PS X (.For et ei lb [] pos) (tSt X.K B mu nw ro (evS F (.forN tg it b))) :=
  PS_mono (ps_for ok.po ok.x.calm (eI it X et ei ok.x hi) hg hb (fun x => cI_fold hi _ x)) fun D σ H ⟨Z, ρ, t, r, t', fps, hmu, hnw, si, ev, o⟩ => by
    simp only [evS, bnd_some] at ev
    obtain ⟨xs, t1, e1, e2⟩ := ev
    exact for_go hmu hnw si e1 e2 o (.inr hv) (fun _ h => h) (fun j h z => absurd z (hv j h)) hs
theorem s_forF {tg : Tg} {it : It} {b : Ss} {et ei : Expr} {lb : List Stmt} (ok : YOk B F X) (hi : cI B X.N X.env.scope it et ei = true) (hg : PG X et (gT X.K B tg)) (hb : PSs X lb (tSt X.K B mu nw (ro ++ it.lv) (evSs F b))) (hs : ∀ j ∈ tg.slots, j ∉ mu) :
    PS X (.For et ei lb [] pos) (tSt X.K B mu nw ro (evS F (.forF tg it b))) :=
  PS_mono (ps_for ok.po ok.x.calm (eI it X et ei ok.x hi) hg hb (fun x => cI_fold hi _ x)) fun D σ H ⟨Z, ρ, t, r, t', fps, hmu, hnw, si, ev, o⟩ => by
    simp only [evS, bnd_some, chk_some] at ev
    obtain ⟨xs, t1, e1, u, t2, ⟨h1, e3⟩, e2⟩ := ev
    cases e3
    exact for_go hmu hnw si e1 e2 o (.inl h1) (fun _ h => List.mem_append_left _ h) (fun j h z => List.mem_append_right _ h) hs

/-! ### several names at once -/
def Ps.exprs : Ps → List E
  | .nil => []
  | .cons _ _ e r => e :: r.exprs
def setAllV (σ : L2.St) : Ps → List V → L2.St
  | .cons _ i _ r, x :: xs => setAllV (σ.set i (some x)) r xs
  | _, _ => σ
def cPs (B : Tab) (N : List Str) (sc : Scope) (mu ro : List Nat) : Ps → List Expr → Bool
  | .nil, [] => true
  | .cons k i e r, x :: l => cE B N sc e x && kindOk B mu ro k i e && cPs B N sc mu ro r l
  | _, _ => false
/-- the state that the stores will make, beside the state that the values are read in -/
def tPs (K : PySem.W.Frag) (B : Tab) (F : FS) (mu ro : List Nat) (ps : Ps) : TA := fun σ H Q => ∃ Z ρ t q t' fps ρs σs fpss H00 fps00, Z.mu = mu ∧ RelS K B ρ σ H Z.A fps ∧ (∀ i, ∀ a ∈ fps i, Z.H0 a = none ∨ a ∈ Z.Af) ∧ (∀ j ∈ mu, ∀ a ∈ fpss j, ∀ l, l ∉ mu → a ∉ fps l) ∧
  SI K B Z ρs σs H fpss t ∧ Step Z ro fps00 H00 fpss H ∧ evPs F ρ ps t = some (q, t') ∧ ∀ vs H' fps', vs.length = ps.exprs.length → SI K B Z (setAll ρs q) (setAllV σs ps vs) H' fps' t' → Step Z ro fps00 H00 fps' H' → Q vs H'
theorem pa_ps (ok : XOk B F X) : ∀ {ps : Ps} {l : List Expr}, cPs B X.N X.env.scope mu ro ps l = true → PA X l (tPs X.K B F mu ro ps)
  | .nil, [], _ => PA_mono pa_nil fun σ H Q ⟨Z, ρ, t, q, t', fps, ρs, σs, fpss, H00, fps00, h1, h2, h3, h4, h5, h6, h7, h8⟩ => by
    simp only [evPs, ret_some] at h7
    cases h7
    exact h8 [] H fpss rfl h5 h6
  | .nil, _ :: _, h => absurd h Bool.false_ne_true
  | .cons _ _ _ _, [], h => absurd h Bool.false_ne_true
  | .cons k i e r, x :: l, h => by
    simp only [cPs, Bool.and_eq_true] at h
    obtain ⟨⟨c1, c2⟩, c3⟩ := h
    refine PA_mono (pa_cons (eE e X x ok c1).pe (pa_ps ok c3) (cE_star c1 _ _)) fun σ H Q ⟨Z, ρ, t, q, t', fps, ρs, σs, fpss, H00, fps00, h1, h2, h3, h4, h5, h6, h7, h8⟩ => ?_
    simp only [evPs, bnd_some, chk_some, ret_some] at h7
    obtain ⟨v, t1, e1, u, t2, ⟨hk, e2⟩, q', t3, e3, e4⟩ := h7
    cases e2
    cases e4
    subst h1
    refine tEv.go h2 h5.tin e1 fun y H1 fp p => ?_
    obtain ⟨s1, b1⟩ := h5.onKp (ro := ro) p.kp p.tin
    have kc := kindOk_c c2
    have alc : ∀ j, ∀ a ∈ fpss j, H a ≠ none := fun j a ha z => by
      obtain ⟨o, e⟩ := (h5.rel.al j a ha).2.ex
      rw [z] at e; cases e
    have alc2 : ∀ j, ∀ a ∈ fps j, H a ≠ none := fun j a ha z => by
      obtain ⟨o, e⟩ := (h2.al j a ha).2.ex
      rw [z] at e; cases e
    have arg : ∀ a ∈ fp, Z.H0 a = none ∨ a ∈ Z.Af := fun a ha => by
      rcases p.sub a ha with h | ⟨l, _, h⟩
      · exact .inl (free_kp h5.kp h5.tin h)
      · exact h3 l a h
    have fin : SI X.K B Z (setS ρs i v) (σs.set i (some y)) H1 (setF fpss i fp) t1 ∧ Step Z ro fpss H (setF fpss i fp) H1 ∧ ∀ j ∈ Z.mu, ∀ a ∈ setF fpss i fp j, ∀ l, l ∉ Z.mu → a ∉ fps l := by
      have new : (fp.Nodup ∧ ∀ a ∈ fp, H a = none) → (i ∈ Z.mu → i ∉ ro) → SI X.K B Z (setS ρs i v) (σs.set i (some y)) H1 (setF fpss i fp) t1 ∧ Step Z ro fpss H (setF fpss i fp) H1 ∧ ∀ j ∈ Z.mu, ∀ a ∈ setF fpss i fp j, ∀ l, l ∉ Z.mu → a ∉ fps l := fun ⟨n1, n2⟩ hr => by
        obtain ⟨z1, z2⟩ := s1.set (ro := ro) p.den p.off arg hr (fun j hj _ a ha z => alc j a ha (n2 a z)) (fun hi => ⟨n1, fun a ha => ⟨free_kp h5.kp h5.tin (n2 a ha), fun j _ z => alc j a z (n2 a ha)⟩⟩) (fun hi a ha => .inl (n2 a ha)) b1
        refine ⟨z1, z2, fun j hj a ha l hl z => ?_⟩
        by_cases e : j = i
        · subst e; rw [setF_same] at ha; exact alc2 l a z (n2 a ha)
        · rw [setF_ne e] at ha; exact h4 j hj a ha l hl z
      have lnk : i ∉ Z.mu → ∀ j ∈ Z.mu, ∀ a ∈ setF fpss i fp j, ∀ l, l ∉ Z.mu → a ∉ fps l := fun hi j hj a ha l hl z => by
        have e : j ≠ i := fun z => hi (z ▸ hj)
        rw [setF_ne e] at ha; exact h4 j hj a ha l hl z
      cases k with
      | n =>
        obtain ⟨k1, k2⟩ := kc
        obtain ⟨z1, z2⟩ := s1.set (ro := ro) p.den p.off arg (fun z => absurd z k2) (fun j hj _ a ha z => by
          rcases p.sub a z with q | ⟨l, hl, q⟩
          · exact alc j a ha q
          · exact h4 j hj a ha l (k1 l hl) q) (fun z => absurd z k2) (fun z => absurd z k2) b1
        exact ⟨z1, z2, lnk k2⟩
      | f =>
        have ef : fp = [] := p.den.flat (n := 20) hk
        subst ef
        obtain ⟨z1, z2⟩ := s1.set (ro := ro) p.den p.off arg (fun z => absurd z kc) (fun j hj _ a ha z => absurd z (by simp)) (fun z => absurd z kc) (fun z => absurd z kc) b1
        exact ⟨z1, z2, lnk kc⟩
      | m =>
        obtain ⟨k1, k2⟩ := kc
        obtain ⟨a, _, e⟩ := elems1_fp p.den hk
        exact new ⟨by rw [e]; simp, p.n1 k1 hk⟩ k2
      | mm =>
        obtain ⟨k1, k2⟩ := kc
        exact new (p.n2 k1 hk) k2
    obtain ⟨z1, z2, z3⟩ := fin
    exact ⟨Z, ρ, t1, q', _, fps, _, _, _, H00, fps00, rfl, h2.kp p.kp h5.tin, h3, z3, z1, h6.trans z2, e3, fun vs H' fps' hl s' b' => h8 (y :: vs) H' fps' (by simp [Ps.exprs, hl]) s' b'⟩
theorem evPs_go {Z : Bd} {ps : Ps} {ρ : Slots} {σ : L2.St} {H : Hp} {fps : Nat → List Addr} {t t' : Tn} {q : List (Nat × PV)} {Q : List V → Hp → Prop} (hmu : Z.mu = mu) (si : SI X.K B Z ρ σ H fps t) (e : evPs F ρ ps t = some (q, t'))
    (h : ∀ vs H' fps', vs.length = ps.exprs.length → SI X.K B Z (setAll ρ q) (setAllV σ ps vs) H' fps' t' → Step Z ro fps H fps' H' → Q vs H') : tPs X.K B F mu ro ps σ H Q :=
  ⟨Z, ρ, t, q, t', fps, ρ, σ, fps, H, fps, hmu, si.rel, si.arg, fun j hj a ha l hl z => (si.own j (hmu ▸ hj) a ha).2 l (fun e => hl (e ▸ hj)) z, si, Step.refl, e, h⟩
end
end G
set_option Elab.async false
set_option linter.all false
set_option maxRecDepth 100000
set_option maxHeartbeats 4000000
/-! S4d: several names at once, the statement -/
namespace G
open PySem PySem.Spec PyProof.Rows L2
def isStar : Expr → Bool
  | .Starred .. => true
  | _ => false
def nmOf (env : Env) (line : Nat) : Expr → Option Str
  | .Name id pos => if env.kindOf id == some .local && pos.line == line then some id else none
  | _ => none
theorem swap_eq {ts vs : List Expr} {kt k2 : Nat} {pt pt2 : Pos} {env : Env} : swappedStores [.Tuple ts kt pt] (.Tuple vs k2 pt2) env = (do
  if !(ts.length == 2 || ts.length == 3) || vs.length != ts.length || env.blockKind != .function then return none
  if vs.any isStar then return none
  let names := ts.filterMap (nmOf env ((ts.head?.map (·.pos.line)).getD 0))
  if names.length != ts.length || names.eraseDups.length != names.length then return none
  if vs.all (foldedForSure 8) then return none
  if vs.all (constantsAlone 8) then unsupported "assign.tuple-of-constant-expressions:order-of-the-stores"
  return some names) := by
  unfold swappedStores
  have e1 : (vs.any fun | .Starred .. => true | _ => false) = vs.any isStar := rfl
  have e2 : (ts.filterMap fun | .Name id pos => if env.kindOf id == some .local && pos.line == (ts.head?.map (·.pos.line)).getD 0 then some id else none | _ => none) = ts.filterMap (nmOf env ((ts.head?.map (·.pos.line)).getD 0)) := rfl
  simp only [e1, e2]
  rfl
theorem swap_some {ts vs : List Expr} {kt k2 : Nat} {pt pt2 : Pos} {env : Env} {names : List Str} (h1 : (!(ts.length == 2 || ts.length == 3) || vs.length != ts.length || env.blockKind != .function) = false) (h2 : vs.any isStar = false) (h3 : ts.filterMap (nmOf env ((ts.head?.map (·.pos.line)).getD 0)) = names)
    (h4 : (names.length != ts.length || names.eraseDups.length != names.length) = false) (h5 : vs.all (foldedForSure 8) = false) (h6 : vs.all (constantsAlone 8) = false) : swappedStores [.Tuple ts kt pt] (.Tuple vs k2 pt2) env = pure (some names) := by
  rw [swap_eq]
  simp only [h1, h2, h3, h4, h5, h6]
  rfl
theorem swap_none {ts vs : List Expr} {kt k2 : Nat} {pt pt2 : Pos} {env : Env} (h : ((ts.filterMap (nmOf env ((ts.head?.map (·.pos.line)).getD 0))).length != ts.length) = true ∨ vs.all (foldedForSure 8) = true) : swappedStores [.Tuple ts kt pt] (.Tuple vs k2 pt2) env = pure none := by
  rw [swap_eq]
  rcases h with h | h
  · simp only [h]
    simp only [Bool.true_or, if_true]
    repeat' split
    all_goals rfl
  · simp only [h]
    repeat' split
    all_goals first | rfl | simp_all
theorem swap_other {et ex : Expr} {env : Env} (h : ∀ l k p, ex ≠ .Tuple l k p) : swappedStores [et] ex env = pure none := by
  cases ex <;> first | (cases et <;> rfl) | exact absurd rfl (h _ _ _)
section
variable {X : Cx} {B : Tab} {F : FS} {mu ro ro' : List Nat} {nw : Bool} {pos : Pos}
theorem par_go {Z : Bd} {ps : Ps} {ρ : Slots} {σ : L2.St} {H : Hp} {fps : Nat → List Addr} {t t' : Tn} {r : Fl} {D : Ends} (hmu : Z.mu = mu) (si : SI X.K B Z ρ σ H fps t) (e : evS F (.par ps) ρ t = some (r, t')) (o : Out X.K B Z ro fps H D t' r) :
    tPs X.K B F mu ro ps σ H fun vs H' => vs.length = ps.exprs.length ∧ ∀ p, H' p = none → D.nx (setAllV σ ps vs) H' ∧ D.nx (setAllV σ ps vs) (upd H' p (.tup vs)) := by
  simp only [evS, bnd_some, ret_some] at e
  obtain ⟨q, t1, e1, e2⟩ := e
  cases e2
  refine evPs_go hmu si e1 fun vs H' fps' hl s' b' => ⟨hl, fun p h0 => ⟨o _ _ _ s' b', ?_⟩⟩
  obtain ⟨s2, b2⟩ := s'.onKp (ro := ro) (fr_new (o := .tup vs) h0) (tin_new s'.tin h0)
  exact o _ _ _ s2 (b'.trans b2)
theorem par_go0 {Z : Bd} {ps : Ps} {ρ : Slots} {σ : L2.St} {H : Hp} {fps : Nat → List Addr} {t t' : Tn} {r : Fl} {D : Ends} (hmu : Z.mu = mu) (si : SI X.K B Z ρ σ H fps t) (e : evS F (.par ps) ρ t = some (r, t')) (o : Out X.K B Z ro fps H D t' r) :
    tPs X.K B F mu ro ps σ H fun vs H' => vs.length = ps.exprs.length ∧ D.nx (setAllV σ ps vs) H' := by
  simp only [evS, bnd_some, ret_some] at e
  obtain ⟨q, t1, e1, e2⟩ := e
  cases e2
  exact evPs_go hmu si e1 fun vs H' fps' hl s' b' => ⟨hl, o _ _ _ s' b'⟩
def locE (N : List Str) (sc : Scope) (i : Nat) (e : Expr) : Bool := match e with
  | .Name x _ => decide (N[i]? = some x) && decide (sc.names.lookup x = some .local)
  | _ => false
theorem s_par2 {k1 k2' : Sk} {i j : Nat} {e1 e2 : E} {x y : Str} {a b : Expr} {px py pt : Pos} {kt k2 : Nat} {pt2 : Pos} (ok : YOk B F X) (hi : X.N[i]? = some x) (hj : X.N[j]? = some y) (hij : i ≠ j) (hx : X.env.scope.names.lookup x = some .local) (hy : X.env.scope.names.lookup y = some .local)
    (hc : cPs B X.N X.env.scope mu ro (.cons k1 i e1 (.cons k2' j e2 .nil)) [a, b] = true) (hw : swappedStores [.Tuple [.Name x px, .Name y py] kt pt] (.Tuple [a, b] k2 pt2) X.env = pure (some [x, y])) :
    PS X (.Assign [.Tuple [.Name x px, .Name y py] kt pt] (.Tuple [a, b] k2 pt2) pos) (tSt X.K B mu nw ro (evS F (.par (.cons k1 i e1 (.cons k2' j e2 .nil))))) :=
  PS_mono (ps_par ok.x.calm ok.x.nd hi hj hij hx hy (pa_ps ok.x hc) hw) fun D σ H ⟨Z, ρ, t, r, t', fps, hmu, hnw, si, ev, o⟩ => by
    obtain ⟨Z', ρ', t0, q, t1, f, ρs, σs, fs, H00, f00, a1, a2, a3, a4, a5, a6, a7, a8⟩ := par_go0 hmu si ev o
    refine ⟨Z', ρ', t0, q, t1, f, ρs, σs, fs, H00, f00, a1, a2, a3, a4, a5, a6, a7, fun vs H' fps' hl s' b' => ?_⟩
    obtain ⟨_, n⟩ := a8 vs H' fps' hl s' b'
    match vs, hl with
    | [v, w], _ => exact ⟨v, w, rfl, n⟩
theorem s_par3 {k1 k2' k3 : Sk} {i j l : Nat} {e1 e2 e3 : E} {x y z : Str} {a b c : Expr} {px py pz pt : Pos} {kt k2 : Nat} {pt2 : Pos} (ok : YOk B F X) (hi : X.N[i]? = some x) (hj : X.N[j]? = some y) (hl : X.N[l]? = some z) (hij : i ≠ j) (hil : i ≠ l) (hjl : j ≠ l) (hx : X.env.scope.names.lookup x = some .local) (hy : X.env.scope.names.lookup y = some .local) (hz : X.env.scope.names.lookup z = some .local)
    (hc : cPs B X.N X.env.scope mu ro (.cons k1 i e1 (.cons k2' j e2 (.cons k3 l e3 .nil))) [a, b, c] = true) (hw : swappedStores [.Tuple [.Name x px, .Name y py, .Name z pz] kt pt] (.Tuple [a, b, c] k2 pt2) X.env = pure (some [x, y, z])) :
    PS X (.Assign [.Tuple [.Name x px, .Name y py, .Name z pz] kt pt] (.Tuple [a, b, c] k2 pt2) pos) (tSt X.K B mu nw ro (evS F (.par (.cons k1 i e1 (.cons k2' j e2 (.cons k3 l e3 .nil)))))) :=
  PS_mono (ps_par3 ok.x.calm ok.x.nd hi hj hl hij hil hjl hx hy hz (pa_ps ok.x hc) hw) fun D σ H ⟨Z, ρ, t, r, t', fps, hmu, hnw, si, ev, o⟩ => by
    obtain ⟨Z', ρ', t0, q, t1, f, ρs, σs, fs, H00, f00, a1, a2, a3, a4, a5, a6, a7, a8⟩ := par_go0 hmu si ev o
    refine ⟨Z', ρ', t0, q, t1, f, ρs, σs, fs, H00, f00, a1, a2, a3, a4, a5, a6, a7, fun vs H' fps' hl s' b' => ?_⟩
    obtain ⟨_, n⟩ := a8 vs H' fps' hl s' b'
    match vs, hl with
    | [v, w, u], _ => exact ⟨v, w, u, rfl, n⟩
def cNm (N : List Str) (sc : Scope) : Ps → List Expr → Bool
  | .nil, [] => true
  | .cons _ i _ r, e :: l => (match e with
    | .Name x _ => decide (N[i]? = some x) && locB sc x
    | _ => false) && cNm N sc r l
  | _, _ => false
def gPs (ps : Ps) : TGs := fun vs σ H Q => vs.length = ps.exprs.length ∧ Q (setAllV σ ps vs) H
theorem pgs_ps (ok : YOk B F X) : ∀ {ps : Ps} {l : List Expr}, cNm X.N X.env.scope ps l = true → PGs X l (gPs ps) ∧ (assignEach l X.env).length = ps.exprs.length ∧ (assignEach l X.env).findIdx? (·.1) = none
  | .nil, [], _ => ⟨⟨fun pins s σ H vs us Q I r ⟨h1, h2⟩ => pgs_nil.run pins s σ H vs us Q I r (by
      cases vs with
      | nil => exact ⟨rfl, h2⟩
      | cons v vs => simp [Ps.exprs] at h1)⟩, rfl, rfl⟩
  | .nil, _ :: _, h => absurd h Bool.false_ne_true
  | .cons _ _ _ _, [], h => absurd h Bool.false_ne_true
  | .cons k i e r, x :: l, h => by
    simp only [cNm, Bool.and_eq_true] at h
    obtain ⟨h1, h2⟩ := h
    obtain ⟨g, gl, gi⟩ := pgs_ps ok h2
    cases x with
    | Name y p =>
      simp only [Bool.and_eq_true, decide_eq_true_eq] at h1
      have hx : Loc X.env.scope y := by
        have hl := h1.2
        unfold locB at hl
        split at hl
        · exact .inl (by assumption)
        · exact .inr (by assumption)
        · cases hl
      refine ⟨⟨fun pins s σ H vs us Q I rr ⟨q1, q2⟩ => (pgs_cons (pg_name ok.x.nd h1.1 hx (.inl (ok.fn y))) g).run pins s σ H vs us Q I rr ?_⟩, by simp [assignEach, Ps.exprs, gl], by simp [assignEach, List.findIdx?_cons, gi]⟩
      cases vs with
      | nil => simp [Ps.exprs] at q1
      | cons v vs => exact ⟨v, vs, rfl, by simpa [Ps.exprs] using q1, q2⟩
    | _ => cases h1
theorem s_parN {ps : Ps} {ts vs : List Expr} {kt k2 : Nat} {pt pt2 : Pos} (ok : YOk B F X) (hn : cNm X.N X.env.scope ps ts = true) (hc : cPs B X.N X.env.scope mu ro ps vs = true) (hlen : ps.exprs.length ≤ 1000) (hw : swappedStores [.Tuple ts kt pt] (.Tuple vs k2 pt2) X.env = pure none) :
    PS X (.Assign [.Tuple ts kt pt] (.Tuple vs k2 pt2) pos) (tSt X.K B mu nw ro (evS F (.par ps))) := by
  obtain ⟨g, gl, gi⟩ := pgs_ps ok hn
  refine PS_mono (ps_asg (pe_tup (pa_ps ok.x hc)) (pg_tup ok.x.calm g gl gi) rfl hw rfl) fun D σ H ⟨Z, ρ, t, r, t', fps, hmu, hnw, si, ev, o⟩ => ?_
  obtain ⟨Z', ρ', t0, q, t1, f, ρs, σs, fs, H00, f00, a1, a2, a3, a4, a5, a6, a7, a8⟩ := par_go hmu si ev o
  refine ⟨Z', ρ', t0, q, t1, f, ρs, σs, fs, H00, f00, a1, a2, a3, a4, a5, a6, a7, fun vs H' fps' hl s' b' => ?_⟩
  obtain ⟨hl', n⟩ := a8 vs H' fps' hl s' b'
  refine ⟨by rw [hl']; exact le_big hlen, fun p h0 => ⟨p, vs, rfl, SqT.of upd_same, hl', hl', (n p h0).2⟩⟩
end
end G
set_option Elab.async false
set_option linter.all false
set_option maxRecDepth 100000
set_option maxHeartbeats 4000000
/-! S4e: lists and dicts that change -/
namespace G
open PySem PySem.Spec PyProof.Rows L2
section
variable {K : PySem.W.Frag} {B : Tab} {H : Hp} {A : Option Addr}
theorem Dens.split : ∀ {xs : List PV} {ys : List V} {f : List Addr} {j : Nat} {p : PV}, Dens K B H A xs ys f → xs[j]? = some p → ∃ y pre fj post, ys[j]? = some y ∧ f = pre ++ (fj ++ post) ∧ Den K B H A p y fj ∧
    (∀ (W : Addr → Prop) (H' : Hp) p' y' fj', Fr W H H' → Wl W H → (∀ a ∈ pre, ¬ W a) → (∀ a ∈ post, ¬ W a) → Den K B H' A p' y' fj' → Dens K B H' A (xs.set j p') (ys.set j y') (pre ++ (fj' ++ post))) ∧
    Dens K B H A (xs.eraseIdx j) (ys.eraseIdx j) (pre ++ post)
  | [], ys, f, j, p, d, e => by simp at e
  | x :: xs, ys, f, j, p, d, e => by
    cases d with
    | cons h t =>
      rename_i y ys f g
      cases j with
      | zero =>
        simp at e
        subst e
        exact ⟨y, [], f, g, rfl, rfl, h, fun W H' p' y' fj' fr wl _ h2 d' => (by have := Dens.cons d' (t.fr (A' := A) fr wl (fun _ e => e) h2); exact this), t⟩
      | succ j =>
        obtain ⟨z, pre, fj, post, e1, e2, d1, e3, e4⟩ := Dens.split t (j := j) (p := p) (by simpa using e)
        subst e2
        refine ⟨z, f ++ pre, fj, post, by simpa using e1, by simp, d1, fun W H' p' y' fj' fr wl h1 h2 d' => ?_, ?_⟩
        · have := Dens.cons (h.fr (A' := A) fr wl (fun _ e => e) fun a ha => h1 a (List.mem_append_left _ ha)) (e3 W H' p' y' fj' fr wl (fun a ha => h1 a (List.mem_append_right _ ha)) h2 d')
          rw [List.append_assoc]
          exact this
        · have := Dens.cons h e4
          rw [List.append_assoc]
          exact this
theorem fr_upd {p : Addr} {o : HO} : Fr (fun b => b = p) H (upd H p o) := fr_at
theorem wl_eq {p : Addr} {ys : List V} (h : H p = some (.lst ys)) : Wl (fun b => b = p) H := fun b e => by rw [e]; exact .inl ⟨_, h⟩
theorem wl_eqD {p : Addr} {ys : List (Key × V)} (h : H p = some (.dK ys)) : Wl (fun b => b = p) H := fun b e => by rw [e]; exact .inr ⟨_, h⟩
theorem upd_al {p : Addr} {o o' : HO} (h : H p = some o) : ∀ a, upd H p o' a = none → H a = none := fun a e => by
  by_cases z : a = p
  · subst z; rw [upd_same] at e; cases e
  · rw [upd_ne z] at e; exact e
end
section
variable {K : PySem.W.Frag} {B : Tab} {Z : Bd} {ro : List Nat} {ρ : Slots} {σ : L2.St} {fps : Nat → List Addr} {H : Hp} {t : Tn}
/-- a slot's own list -/
theorem SI.outer (s : SI K B Z ρ σ H fps t) {i : Nat} {xs : List PV} (hi : i ∈ Z.mu) (hr : i ∉ ro) (e : getS ρ i = some (.lst xs)) : ∃ p ys f, σ[i]? = some (some (.ref p)) ∧ fps i = p :: f ∧ H p = some (.lst ys) ∧ ys.length ≤ sizeLine ∧ Dens K B H Z.A xs ys f ∧ p ∉ f ∧ f.Nodup ∧
    ∀ xs' ys' f', ys'.length ≤ sizeLine → Dens K B (upd H p (.lst ys')) Z.A xs' ys' f' → f'.Sublist f → SI K B Z (setS ρ i (.lst xs')) σ (upd H p (.lst ys')) (setF fps i (p :: f')) t ∧ Step Z ro fps H (setF fps i (p :: f')) (upd H p (.lst ys')) := by
  obtain ⟨x, hx, d⟩ := s.rel.at_ i _ e
  obtain ⟨p, ys, f, rfl, ef, hp, hl, ds⟩ := d.lstI
  have nd := s.nd i hi
  rw [ef] at nd
  obtain ⟨n1, n2⟩ := List.nodup_cons.mp nd
  refine ⟨p, ys, f, hx, ef, hp, hl, ds, n1, n2, fun xs' ys' f' hl' d' sb => ?_⟩
  refine s.mut hi hr (fun b o eb nb => ?_) (upd_al hp) hx (.lst upd_same hl' d') (List.nodup_cons.mpr ⟨fun h => n1 (sb.subset h), sb.nodup n2⟩) fun a ha => ?_
  · rw [ef] at nb
    rw [upd_ne fun z => nb (by rw [z]; exact List.mem_cons_self)]
    exact eb
  · rw [ef]
    rcases List.mem_cons.mp ha with rfl | ha
    · exact List.mem_cons_self
    · exact List.mem_cons_of_mem _ (sb.subset ha)
theorem sub_mid {pre fj fj' post : List Addr} (h : fj'.Sublist fj) : (pre ++ (fj' ++ post)).Sublist (pre ++ (fj ++ post)) := (List.Sublist.refl pre).append (h.append (List.Sublist.refl post))
/-- a list within a slot's list -/
theorem SI.inner (s : SI K B Z ρ σ H fps t) {i j : Nat} {xs zs : List PV} (hi : i ∈ Z.mu) (hr : i ∉ ro) (e : getS ρ i = some (.lst xs)) (ez : xs[j]? = some (.lst zs)) : ∃ p ys q ws g, σ[i]? = some (some (.ref p)) ∧ H p = some (.lst ys) ∧ ys.length = xs.length ∧ ys[j]? = some (.ref q) ∧ H q = some (.lst ws) ∧ ws.length ≤ sizeLine ∧ Dens K B H Z.A zs ws g ∧ q ∉ g ∧
    ∀ zs' ws' g', ws'.length ≤ sizeLine → Dens K B (upd H q (.lst ws')) Z.A zs' ws' g' → g'.Sublist g → ∃ fps', SI K B Z (setS ρ i (.lst (xs.set j (.lst zs')))) σ (upd H q (.lst ws')) fps' t ∧ Step Z ro fps H fps' (upd H q (.lst ws')) := by
  obtain ⟨x, hx, d⟩ := s.rel.at_ i _ e
  obtain ⟨p, ys, f, rfl, ef, hp, hl, ds⟩ := d.lstI
  have nd := s.nd i hi
  rw [ef] at nd
  obtain ⟨n1, n2⟩ := List.nodup_cons.mp nd
  obtain ⟨y, pre, fj, post, e1, e2, d1, e3, _⟩ := ds.split ez
  obtain ⟨q, ws, g, rfl, rfl, hq, hlw, dw⟩ := d1.lstI
  subst e2
  have nq := List.nodup_append.mp n2
  have nq2 := List.nodup_append.mp nq.2.1
  have nqg := List.nodup_cons.mp nq2.1
  have hqf : q ∈ pre ++ (q :: g ++ post) := List.mem_append_right _ (List.mem_append_left _ List.mem_cons_self)
  have hpq : p ≠ q := fun z => n1 (z ▸ hqf)
  refine ⟨p, ys, q, ws, g, hx, hp, ds.len.symm, e1, hq, hlw, dw, nqg.1, fun zs' ws' g' hl' d' sb => ?_⟩
  have dn : Den K B (upd H q (.lst ws')) Z.A (.lst zs') (.ref q) (q :: g') := .lst upd_same hl' d'
  have dd := e3 (fun b => b = q) (upd H q (.lst ws')) (.lst zs') (.ref q) (q :: g') fr_upd (wl_eq hq) (fun a ha z => nq.2.2 a ha q (List.mem_append_left _ List.mem_cons_self) z) (fun a ha z => nq2.2.2 q List.mem_cons_self a ha z.symm) dn
  have ey : ys.set j (.ref q) = ys := by
    apply List.ext_getElem?
    intro k
    by_cases h : j = k
    · subst h
      rw [List.getElem?_set_self (List.getElem?_eq_some_iff.mp e1).1, e1]
    · rw [List.getElem?_set_ne h]
  rw [ey] at dd
  have sb2 : (pre ++ (q :: g' ++ post)).Sublist (pre ++ (q :: g ++ post)) := sub_mid (sb.cons₂ q)
  refine ⟨_, s.mut hi hr (fun b o eb nb => ?_) (upd_al hq) hx (.lst (by rw [upd_ne hpq]; exact hp) hl dd) (List.nodup_cons.mpr ⟨fun h => n1 (sb2.subset h), sb2.nodup n2⟩) fun a ha => ?_⟩
  · rw [ef] at nb
    rw [upd_ne fun z => nb (by rw [z]; exact List.mem_cons_of_mem _ hqf)]
    exact eb
  · rw [ef]
    rcases List.mem_cons.mp ha with rfl | ha
    · exact List.mem_cons_self
    · exact List.mem_cons_of_mem _ (sb2.subset ha)
/-- a slot's dict -/
theorem SI.dict (s : SI K B Z ρ σ H fps t) {i : Nat} {kvs : List (Int × PV)} (hi : i ∈ Z.mu) (hr : i ∉ ro) (e : getS ρ i = some (.dct kvs)) : ∃ p ys, σ[i]? = some (some (.ref p)) ∧ H p = some (.dK ys) ∧ Denk K B H Z.A kvs ys ∧
    ∀ kvs' ys', Denk K B (upd H p (.dK ys')) Z.A kvs' ys' → ∃ fps', SI K B Z (setS ρ i (.dct kvs')) σ (upd H p (.dK ys')) fps' t ∧ Step Z ro fps H fps' (upd H p (.dK ys')) := by
  obtain ⟨x, hx, d⟩ := s.rel.at_ i _ e
  obtain ⟨p, ys, rfl, ef, hp, dk⟩ := d.dctI
  refine ⟨p, ys, hx, hp, dk, fun kvs' ys' d' => ⟨_, s.mut hi hr (fun b o eb nb => ?_) (upd_al hp) hx (.dct upd_same d') (by simp) fun a ha => ?_⟩⟩
  · rw [ef] at nb
    rw [upd_ne fun z => nb (by rw [z]; exact List.mem_cons_self)]
    exact eb
  · rw [ef]
    exact ha
end
section
variable {X : Cx} {B : Tab} {F : FS} {mu ro ro' : List Nat} {nw : Bool} {pos : Pos}
theorem PSet.or {t t' : TSet} (h : PSet X t) (h' : PSet X t') : PSet X (fun o i v H Q => t o i v H Q ∨ t' o i v H Q) := by
  intro pins s σ H o i v ov iv u Q I ro ri rv q
  rcases q with q | q
  · exact h pins s σ H o i v ov iv u Q I ro ri rv q
  · exact h' pins s σ H o i v ov iv u Q I ro ri rv q
theorem fl_nil {K : PySem.W.Frag} {H : Hp} {A : Option Addr} {v : PV} {x : V} {fp : List Addr} (d : Den K B H A v x fp) (h : fl v = true) : fp = [] := d.flat (n := 20) h
theorem tin_set {Z : Bd} {ρ : Slots} {σ : L2.St} {fps : Nat → List Addr} {H : Hp} {t : Tn} {a : Addr} {x y z : Int} (s : SI X.K B Z ρ σ H fps t) (hA : Z.A = some a) : SI X.K B Z ρ σ (upd H a (.lst [.int x, .int y, .int z])) fps (some (x, y, z)) ∧ Step Z ro fps H fps (upd H a (.lst [.int x, .int y, .int z])) := by
  refine s.onKp (fun b o e n => ?_) ?_
  · rw [upd_ne fun z => n (by rw [hA, z])]
    exact e
  · rw [hA]
    show upd H a _ a = some _
    rw [upd_same]
theorem ixN_lt {n j : Nat} {k : Int} (h : atIx n k = some j) : j < n := by
  have h : ixN n k = some j := h
  unfold ixN at h
  repeat' split at h
  all_goals first | (cases h; done) | (simp at h; omega)
theorem sub_cases {a : E} {ea : Expr} (ok : XOk B F X) {i : Nat} {y : Str} {yp tp : Pos} {e : E} {ex : Expr} (hi : X.N[i]? = some y) (hv : visB X.env.scope y = true) (hk : okN y = true) (h1 : cE B X.N X.env.scope a ea = true) (h2 : cV B X.N X.env.scope e ex = true) {t : TSet} (hs : PSet X t) :
    PS X (.Assign [.Subscript (.Name y yp) ea tp] ex pos) (tAsg (tEv X.K B F e) (gSub (tVar i) (tEv X.K B F a) t)) :=
  ps_asg (eV ok h2) (pg_sub (pe_var hi (visB_vis hv) (okN1 hk) (okN2 hk)) (eE a X ea ok h1).pe hs (by intro _; cases ea <;> first | rfl | (exfalso; cases a <;> simp [cE] at h1))) (by cases ex <;> rfl) (by cases ex <;> rfl) rfl
theorem ixN_at {n : Nat} {k : Int} {j : Nat} (h : atIx n k = some j) {xs : List V} (hl : xs.length = n) : ixN xs.length k = some j := by rw [hl]; exact h
theorem s_setI {i : Nat} {a e : E} {y : Str} {yp tp : Pos} {ea ex : Expr} (ok : YOk B F X) (hi : X.N[i]? = some y) (hv : visB X.env.scope y = true) (hk : okN y = true) (h1 : cE B X.N X.env.scope a ea = true) (h2 : cV B X.N X.env.scope e ex = true) (hm : i ∈ mu) (hr : i ∉ ro) :
    PS X (.Assign [.Subscript (.Name y yp) ea tp] ex pos) (tSt X.K B mu nw ro (evS F (.setI i a e))) :=
  PS_mono (sub_cases ok.x hi hv hk h1 h2 (PSet.or set_list (set_dict (by have := ok.x.room.un; omega)))) fun D σ H ⟨Z, ρ, t, r, t', fps, hmu, hnw, si, ev, o⟩ => by
    simp only [evS, bnd_some, asI_some] at ev
    obtain ⟨v, t1, e1, x, t2, e2, k, t3, ⟨k', rfl, e3⟩, e4⟩ := ev
    cases e3
    subst hmu
    refine tEv.go si.rel si.tin e1 fun xv H1 fp p => ?_
    obtain ⟨s1, b1⟩ := si.onKp (ro := ro) p.kp p.tin
    cases hg : getS ρ i with
    | none => rw [hg] at e4; simp [M.fail] at e4
    | some w =>
      rw [hg] at e4
      cases w with
      | lst xs =>
        simp only [bnd_some, chk_some, lift_some, ret_some] at e4
        obtain ⟨u, t4, ⟨hf, e5⟩, j, t5, ⟨j', e6, e7⟩, e8⟩ := e4
        cases e5
        cases e7
        cases e8
        obtain ⟨p0, _, _, hσ, _⟩ := s1.outer hm hr hg
        refine ⟨_, hσ, tEv.go s1.rel s1.tin e2 fun iv H2 fq p2 => ?_⟩
        obtain ⟨s2, b2⟩ := s1.onKp (ro := ro) p2.kp p2.tin
        obtain ⟨q, ys, f, hσ', ef, hp, hl, ds, n1, n2, fin⟩ := s2.outer (ro := ro) hm hr hg
        rw [hσ] at hσ'
        cases hσ'
        have dv : Den X.K B H2 Z.A v xv [] := by
          have := p.den.kp p2.kp p.tin p.off
          rwa [fl_nil p.den hf] at this
        have hj : j < xs.length := ixN_lt e6
        obtain ⟨z, pre, fj, post, g1, g2, g3, g4, _⟩ := ds.split (List.getElem?_eq_getElem hj)
        subst g2
        refine .inl ⟨p0, ys, k, j, rfl, p2.den.intI, hp, ixN_at e6 ds.len.symm, ?_⟩
        have nf : ∀ c ∈ pre ++ (fj ++ post), ¬ c = p0 := fun c hc z => n1 (z ▸ hc)
        obtain ⟨s3, b3⟩ := fin (xs.set j v) (ys.set j xv) _ (by rw [List.length_set]; exact hl) (g4 (fun b => b = p0) _ v xv [] fr_upd (wl_eq hp) (fun c hc => nf c (List.mem_append_left _ hc)) (fun c hc => nf c (List.mem_append_right _ (List.mem_append_right _ hc))) (dv.fr fr_upd (wl_eq hp) (fun _ e => e) fun _ h => absurd h (by simp))) (sub_mid (List.nil_sublist _))
        exact o _ _ _ s3 ((b1.trans b2).trans b3)
      | dct kvs =>
        simp only [bnd_some, chk_some, ret_some, Bool.and_eq_true, decide_eq_true_eq] at e4
        obtain ⟨u, t4, ⟨⟨hf, hlen⟩, e5⟩, e8⟩ := e4
        cases e5
        cases e8
        obtain ⟨p0, _, hσ, _⟩ := s1.dict hm hr hg
        refine ⟨_, hσ, tEv.go s1.rel s1.tin e2 fun iv H2 fq p2 => ?_⟩
        obtain ⟨s2, b2⟩ := s1.onKp (ro := ro) p2.kp p2.tin
        obtain ⟨q, ys, hσ', hp, dk, fin⟩ := s2.dict (ro := ro) hm hr hg
        rw [hσ] at hσ'
        cases hσ'
        have dv : Den X.K B H2 Z.A v xv [] := by
          have := p.den.kp p2.kp p.tin p.off
          rwa [fl_nil p.den hf] at this
        refine .inr ⟨p0, _, rfl, by rw [p2.den.intI]; exact DPut.k (k := Sum.inl k) hp (by rw [← dk.len]; exact Nat.lt_trans hlen (by decide)), ?_⟩
        obtain ⟨fps', s3, b3⟩ := fin (dPut k v kvs) (putK ys (Sum.inl k) xv) ((dPut_ok dv dk).fr fr_upd (wl_eqD hp) fun _ e => e)
        exact o _ _ _ s3 ((b1.trans b2).trans b3)
      | _ => simp [M.fail] at e4
theorem tinSet_ok {t t' : Tn} {k z : Int} (h : tinSet t k z = some t') : ∃ a b c x y w, t = some (a, b, c) ∧ t' = some (x, y, w) ∧ ∃ j : Nat, ixN 3 k = some j ∧ [V.int a, .int b, .int c].set j (.int z) = [V.int x, .int y, .int w] := by
  unfold tinSet at h
  split at h
  · rename_i a b c
    split at h
    · rename_i hk; subst hk; cases h; exact ⟨a, b, c, _, _, _, rfl, rfl, 0, by decide, rfl⟩
    · split at h
      · rename_i hk; subst hk; cases h; exact ⟨a, b, c, _, _, _, rfl, rfl, 1, by decide, rfl⟩
      · split at h
        · rename_i hk; subst hk; cases h; exact ⟨a, b, c, _, _, _, rfl, rfl, 2, by decide, rfl⟩
        · cases h
  · cases h
theorem s_setT {i : Nat} {a e : E} {y : Str} {yp tp : Pos} {ea ex : Expr} (ok : YOk B F X) (hi : X.N[i]? = some y) (hv : visB X.env.scope y = true) (hk : okN y = true) (h1 : cE B X.N X.env.scope a ea = true) (h2 : cV B X.N X.env.scope e ex = true) :
    PS X (.Assign [.Subscript (.Name y yp) ea tp] ex pos) (tSt X.K B mu nw ro (evS F (.setT i a e))) :=
  PS_mono (sub_cases ok.x hi hv hk h1 h2 set_list) fun D σ H ⟨Z, ρ, t, r, t', fps, hmu, hnw, si, ev, o⟩ => by
    simp only [evS, bnd_some, asI_some] at ev
    obtain ⟨v, t1, e1, z, t0, ⟨z', rfl, e0⟩, x, t2, e2, k, t3, ⟨k', rfl, e3⟩, e4⟩ := ev
    cases e0
    cases e3
    subst hmu
    refine tEv.go si.rel si.tin e1 fun xv H1 fp p => ?_
    obtain ⟨s1, b1⟩ := si.onKp (ro := ro) p.kp p.tin
    cases hg : getS ρ i with
    | none => rw [hg] at e4; simp [M.fail] at e4
    | some w =>
      rw [hg] at e4
      cases w with
      | tin =>
        unfold M.tset at e4
        obtain ⟨tn, e5, e6⟩ := Option.map_eq_some_iff.mp e4
        cases e6
        obtain ⟨x0, hσ, d⟩ := s1.rel.at_ i _ hg
        obtain ⟨ad, rfl, hA⟩ : ∃ ad, x0 = .ref ad ∧ Z.A = some ad := by
          generalize fps i = f at d
          cases d with
          | tin h => exact ⟨_, rfl, h⟩
        refine ⟨_, hσ, tEv.go s1.rel s1.tin e2 fun iv H2 fq p2 => ?_⟩
        obtain ⟨s2, b2⟩ := s1.onKp (ro := ro) p2.kp p2.tin
        obtain ⟨c1, c2, c3, d1, d2, d3, rfl, rfl, j, hj, hs⟩ := tinSet_ok e5
        have hT : H2 ad = some (.lst [.int c1, .int c2, .int c3]) := by
          have := s2.tin
          rw [hA] at this
          exact this
        refine ⟨ad, _, k, j, rfl, p2.den.intI, hT, hj, ?_⟩
        rw [p.den.intI, hs]
        obtain ⟨s3, b3⟩ := tin_set (ro := ro) (x := d1) (y := d2) (z := d3) s2 hA
        exact o _ _ _ s3 ((b1.trans b2).trans b3)
      | _ => simp [M.fail] at e4
end
end G
set_option Elab.async false
set_option linter.all false
set_option maxRecDepth 100000
set_option maxHeartbeats 4000000
/-! S4f: methods of lists -/
namespace G
open PySem PySem.Spec PyProof.Rows L2
section
variable {X : Cx} {B : Tab} {F : FS} {mu ro ro' : List Nat} {nw : Bool} {pos : Pos}
theorem pe_m1 {o ex : Expr} {to ta : TE} {name : Str} {id : String} {r : V → List V → Hp → VK → Prop} {ap cp : Pos} (slot : Slot "list" name id) (hty : typeOf (.builtin id) = pure (.type "method_descriptor")) (hm : MtR X id r) (ho : PE X o to) (ha : PE X ex ta) (hb : attributeBase o name X.env (eval o X.env) = eval o X.env)
    (hl : (ap.endLine == cp.line) = true) (hs : starEach [ex] X.env = (false, eval ex X.env) :: starEach [] X.env) : PE X (.Call (.Attribute o name ap) [ex] [] cp) (tBM X.K "list" r to (tCons ta tNil)) :=
  pe_bm PySem.F.plainAttrs_list slot hty hm ho (pa_cons ha pa_nil hs) hb (by rw [hs]; rfl) hl hs rfl
theorem ty_list {K : PySem.W.Frag} {H : Hp} {p : Addr} {ys : List V} (h : H p = some (.lst ys)) : tyV K "list" (.ref p) H := .inl ⟨rfl, ys, SqL.of h⟩
theorem lstAt_some {ρ : Slots} {i : Nat} {xs : List PV} : lstAt ρ i = some xs ↔ getS ρ i = some (.lst xs) := by
  unfold lstAt
  cases getS ρ i with
  | none => simp
  | some w => cases w <;> simp
theorem kp_lst {Z : Bd} {H H' : Hp} {ρ : Slots} {σ : L2.St} {fps : Nat → List Addr} {t : Tn} (s : SI X.K B Z ρ σ H fps t) (k : Kp Z.A H H') {i : Nat} {p : Addr} {f : List Addr} {ys : List V} (e : fps i = p :: f) (h : H p = some (.lst ys)) : H' p = some (.lst ys) :=
  k p _ h (s.rel.al i p (by rw [e]; exact List.mem_cons_self)).1
/-- name.append(e) -/
theorem s_app {i : Nat} {e : E} {y : Str} {yp ap cp : Pos} {ex : Expr} (ok : YOk B F X) (hi : X.N[i]? = some y) (hv : visB X.env.scope y = true) (hk : okN y = true) (h2 : cE B X.N X.env.scope e ex = true) (hl : (ap.endLine == cp.line) = true) (hm : i ∈ mu) (hr : i ∉ ro) :
    PS X (.Expr (.Call (.Attribute (.Name y yp) "append" ap) [ex] [] cp) pos) (tSt X.K B mu nw ro (evS F (.app i e))) :=
  PS_mono (ps_expr (pe_m1 PySem.F.slot_list_append PySem.F.type_list_append mt_append (pe_var hi (visB_vis hv) (okN1 hk) (okN2 hk)) (eE e X ex ok.x h2).pe rfl hl (cE_star h2 _ _)) rfl) fun D σ H ⟨Z, ρ, t, r, t', fps, hmu, hnw, si, ev, o⟩ => by
    simp only [evS, bnd_some, chk_some, lift_some, ret_some, lstAt_some, decide_eq_true_eq] at ev
    obtain ⟨v, t1, e1, u, t2, ⟨hf, e2⟩, xs, t3, ⟨xs', e3, e4⟩, u2, t4, ⟨hb, e5⟩, e6⟩ := ev
    cases e2
    cases e4
    cases e5
    cases e6
    subst hmu
    obtain ⟨p0, ys0, _, hσ, _, hp0, _⟩ := si.outer (ro := ro) hm hr e3
    refine ⟨_, hσ, ty_list hp0, tEv.go si.rel si.tin e1 fun xv H1 fp p => ?_⟩
    obtain ⟨s1, b1⟩ := si.onKp (ro := ro) p.kp p.tin
    obtain ⟨q, ys, f, hσ', ef, hp, hl, ds, n1, n2, fin⟩ := s1.outer (ro := ro) hm hr e3
    rw [hσ] at hσ'
    cases hσ'
    have dv := p.den
    rw [fl_nil p.den hf] at dv
    have nf : ∀ c ∈ f, ¬ c = p0 := fun c hc z => n1 (z ▸ hc)
    have hlen : ys.length < sizeLine := by rw [← ds.len, ← big_eq]; exact hb
    refine ⟨p0, ys, xv, rfl, rfl, hp, hlen, ?_⟩
    have d2 : Dens X.K B (upd H1 p0 (.lst (ys ++ [xv]))) Z.A (xs ++ [v]) (ys ++ [xv]) (f ++ []) := (ds.fr fr_upd (wl_eq hp) (fun _ e => e) nf).append (Dens.one (dv.fr fr_upd (wl_eq hp) (fun _ e => e) fun _ h => absurd h (by simp)))
    obtain ⟨s2, b2⟩ := fin _ _ _ (by rw [List.length_append, List.length_singleton]; exact hlen) d2 (by rw [List.append_nil]; exact List.Sublist.refl f)
    exact o _ _ _ s2 (b1.trans b2)
theorem atI_of {n j : Nat} {k : Int} {α : Type} {ys : List α} {y : α} (h : atIx n k = some j) (hl : ys.length = n) (hy : ys[j]? = some y) : atI ys k = some y := by
  unfold atI
  rw [show ixN ys.length k = some j by rw [hl]; exact h]
  exact hy
/-- name[a] as a list that stands in the slot's list -/
theorem pe_in {i : Nat} {a : E} {y : Str} {yp tp : Pos} {ea : Expr} (ok : XOk B F X) (hi : X.N[i]? = some y) (hv : visB X.env.scope y = true) (hk : okN y = true) (h1 : cE B X.N X.env.scope a ea = true) : PE X (.Subscript (.Name y yp) ea tp) (tOp (rIxL X.K) (tVar i) (tEv X.K B F a)) :=
  pe_ix ix_list (pe_var hi (visB_vis hv) (okN1 hk) (okN2 hk)) (eE a X ea ok h1).pe (cE_ix h1)
/-- name[a].append(e) -/
theorem s_appI {i : Nat} {a e : E} {y : Str} {yp tp ap cp : Pos} {ea ex : Expr} (ok : YOk B F X) (hi : X.N[i]? = some y) (hv : visB X.env.scope y = true) (hk : okN y = true) (h1 : cE B X.N X.env.scope a ea = true) (h2 : cE B X.N X.env.scope e ex = true) (hl : (ap.endLine == cp.line) = true) (hm : i ∈ mu) (hr : i ∉ ro) :
    PS X (.Expr (.Call (.Attribute (.Subscript (.Name y yp) ea tp) "append" ap) [ex] [] cp) pos) (tSt X.K B mu nw ro (evS F (.appI i a e))) :=
  PS_mono (ps_expr (pe_m1 PySem.F.slot_list_append PySem.F.type_list_append mt_append (pe_in ok.x hi hv hk h1) (eE e X ex ok.x h2).pe rfl hl (cE_star h2 _ _)) rfl) fun D σ H ⟨Z, ρ, t, r, t', fps, hmu, hnw, si, ev, o⟩ => by
    simp only [evS, bnd_some, chk_some, asI_some, lift_some, ret_some, lstAt_some, decide_eq_true_eq] at ev
    obtain ⟨xa, t1, e1, k, t2, ⟨k', rfl, e2⟩, v, t3, e3, u, t4, ⟨hf, e4⟩, xs, t5, ⟨xs', e5, e6⟩, j, t6, ⟨j', e7, e8⟩, e9⟩ := ev
    cases e2
    cases e4
    cases e6
    cases e8
    subst hmu
    cases hz : xs[j]? with
    | none => rw [hz] at e9; simp [M.fail] at e9
    | some w =>
      rw [hz] at e9
      cases w with
      | lst zs =>
        simp only [bnd_some, chk_some, ret_some, decide_eq_true_eq] at e9
        obtain ⟨u2, t7, ⟨hb, e10⟩, e11⟩ := e9
        cases e10
        cases e11
        obtain ⟨p0, ys0, q0, ws0, g0, hσ, _⟩ := si.inner (ro := ro) hm hr e5 hz
        refine ⟨_, hσ, tEv.go si.rel si.tin e1 fun iv H1 fp p => ?_⟩
        obtain ⟨s1, b1⟩ := si.onKp (ro := ro) p.kp p.tin
        obtain ⟨p1, ys1, q1, ws1, g1, hσ1, hp1, hl1, hy1, hq1, _⟩ := s1.inner (ro := ro) hm hr e5 hz
        rw [hσ] at hσ1
        cases hσ1
        refine ⟨p0, ys1, k, .ref q1, rfl, p.den.intI, SqL.of hp1, atI_of e7 hl1 hy1, ty_list hq1, tEv.go s1.rel s1.tin e3 fun xv H2 fq p2 => ?_⟩
        obtain ⟨s2, b2⟩ := s1.onKp (ro := ro) p2.kp p2.tin
        obtain ⟨p3, ys3, q3, ws, g, hσ3, hp3, hl3, hy3, hq, hlw, dw, nq, fin⟩ := s2.inner (ro := ro) hm hr e5 hz
        rw [hσ] at hσ3
        cases hσ3
        have eys : ys3 = ys1 := by
          obtain ⟨pp, yy, ff, z1, z2, z3, _⟩ := s1.outer (ro := ro) hm hr e5
          rw [hσ] at z1
          cases z1
          have := kp_lst s1 p2.kp z2 hp1
          rw [hp3] at this
          cases this
          rfl
        subst eys
        rw [hy1] at hy3
        cases hy3
        have dv := p2.den
        rw [fl_nil p2.den hf] at dv
        have nf : ∀ c ∈ g, ¬ c = q1 := fun c hc z => nq (z ▸ hc)
        have hlen : ws.length < sizeLine := by rw [← dw.len, ← big_eq]; exact hb
        refine ⟨q1, ws, xv, rfl, rfl, hq, hlen, ?_⟩
        have d2 : Dens X.K B (upd H2 q1 (.lst (ws ++ [xv]))) Z.A (zs ++ [v]) (ws ++ [xv]) (g ++ []) := (dw.fr fr_upd (wl_eq hq) (fun _ e => e) nf).append (Dens.one (dv.fr fr_upd (wl_eq hq) (fun _ e => e) fun _ h => absurd h (by simp)))
        obtain ⟨fps', s3, b3⟩ := fin _ _ _ (by rw [List.length_append, List.length_singleton]; exact hlen) d2 (by rw [List.append_nil]; exact List.Sublist.refl g)
        exact o _ _ _ s3 ((b1.trans b2).trans b3)
      | _ => simp [M.fail] at e9
/-- a flat value stored beside -/
theorem SI.flatSet {Z : Bd} {ρ : Slots} {σ : L2.St} {fps fps1 : Nat → List Addr} {H H1 : Hp} {t : Tn} {v : PV} {x : V} {j : Nat} (s : SI X.K B Z ρ σ H fps t) (d : Den X.K B H Z.A v x []) (hj : j ∉ Z.mu) (b : Step Z ro fps1 H1 fps H) : SI X.K B Z (setS ρ j v) (σ.set j (some x)) H (setF fps j []) t ∧ Step Z ro fps1 H1 (setF fps j []) H :=
  s.set d (fun _ h => absurd h (by simp)) (fun _ h => absurd h (by simp)) (fun h => absurd h hj) (fun _ _ _ _ _ h => absurd h (by simp)) (fun h => absurd h hj) (fun h => absurd h hj) b
theorem nm_set {e : Expr} {te : TE} {j : Nat} {y : Str} {py : Pos} (ok : YOk B F X) (hi : X.N[j]? = some y) (hl : locB X.env.scope y = true) (he : PE X e te) (hs : swapsWith e (some (.Name y py)) pos.line X.env = pure false) : PS X (.Assign [.Name y py] e pos) (tAsg te (gName j)) := by
  have hx : Loc X.env.scope y := by
    unfold locB at hl
    split at hl
    · exact .inl (by assumption)
    · exact .inr (by assumption)
    · cases hl
  exact ps_set ok.x.nd hi hx he hs (.inl (ok.fn y))
/-- y = name.pop() -/
theorem s_pop {i j : Nat} {y z : Str} {yp zp ap cp : Pos} (ok : YOk B F X) (hi : X.N[i]? = some y) (hv : visB X.env.scope y = true) (hk : okN y = true) (hj : X.N[j]? = some z) (hl : locB X.env.scope z = true) (hln : (ap.endLine == cp.line) = true) (hm : i ∈ mu) (hr : i ∉ ro) (hn : j ∉ mu) :
    PS X (.Assign [.Name z zp] (.Call (.Attribute (.Name y yp) "pop" ap) [] [] cp) pos) (tSt X.K B mu nw ro (evS F (.pop j i))) :=
  PS_mono (nm_set ok hj hl (pe_bm0 PySem.F.plainAttrs_list PySem.F.slot_list_pop PySem.F.type_list_pop mt_pop (pe_var hi (visB_vis hv) (okN1 hk) (okN2 hk)) rfl hln) rfl) fun D σ H ⟨Z, ρ, t, r, t', fps, hmu, hnw, si, ev, o⟩ => by
    simp only [evS, bnd_some, chk_some, lift_some, ret_some, lstAt_some] at ev
    obtain ⟨xs, t1, ⟨xs', e1, e2⟩, v, t2, ⟨v', e3, e4⟩, u, t3, ⟨hf, e5⟩, e6⟩ := ev
    cases e2
    cases e4
    cases e5
    cases e6
    subst hmu
    obtain ⟨p0, ys, f, hσ, ef, hp, hl, ds, n1, n2, fin⟩ := si.outer (ro := ro) hm hr e1
    obtain ⟨w, pre, fj, post, g1, g2, g3, _, g4⟩ := ds.split e3
    subst g2
    have nf : ∀ c ∈ pre ++ (fj ++ post), ¬ c = p0 := fun c hc z => n1 (z ▸ hc)
    have ej : fj = [] := fl_nil g3 hf
    refine ⟨_, hσ, ty_list hp, p0, ys, w, rfl, rfl, hp, by rw [← ds.len]; exact g1, ?_⟩
    have d2 : Dens X.K B (upd H p0 (.lst ys.dropLast)) Z.A xs.dropLast ys.dropLast (pre ++ post) := by
      have := g4.fr (A' := Z.A) (H' := upd H p0 (.lst ys.dropLast)) fr_upd (wl_eq hp) (fun _ e => e) fun c hc => nf c ((sub_mid (pre := pre) (post := post) (List.nil_sublist fj)).subset hc)
      have e1 : xs.eraseIdx (xs.length - 1) = xs.dropLast := List.eraseIdx_length_sub_one
      have e2 : ys.eraseIdx (xs.length - 1) = ys.dropLast := by rw [ds.len]; exact List.eraseIdx_length_sub_one
      rw [e1, e2] at this
      exact this
    obtain ⟨s1, b1⟩ := fin _ _ _ (by rw [List.length_dropLast]; omega) d2 (sub_mid (List.nil_sublist fj))
    have dv : Den X.K B (upd H p0 (.lst ys.dropLast)) Z.A v w [] := by
      rw [ej] at g3
      exact g3.fr fr_upd (wl_eq hp) (fun _ e => e) fun _ h => absurd h (by simp)
    obtain ⟨s2, b2⟩ := s1.flatSet dv hn b1
    exact o _ _ _ s2 b2
end
end G
set_option Elab.async false
set_option linter.all false
set_option maxRecDepth 100000
set_option maxHeartbeats 4000000
/-! S4g: methods of lists, on -/
namespace G
open PySem PySem.Spec PyProof.Rows L2
section
variable {X : Cx} {B : Tab} {F : FS} {mu ro ro' : List Nat} {nw : Bool} {pos : Pos}
theorem seq_nat {n : Nat} {k : Int} (h0 : 0 ≤ k) (h : k.toNat < n) : seqIndex? k n = some k.toNat := (ixN_seq (show ixN n k = some k.toNat by unfold ixN; rw [if_pos h0, if_pos (by omega)])).1
/-- an item taken out of a slot's list -/
theorem SI.take {Z : Bd} {ρ : Slots} {σ : L2.St} {fps : Nat → List Addr} {H : Hp} {t : Tn} {i k : Nat} {xs : List PV} {v : PV} (si : SI X.K B Z ρ σ H fps t) (hm : i ∈ Z.mu) (hr : i ∉ ro) (e : getS ρ i = some (.lst xs)) (ev : xs[k]? = some v) (hf : fl v = true) :
    ∃ p ys w, σ[i]? = some (some (.ref p)) ∧ H p = some (.lst ys) ∧ ys.length = xs.length ∧ ys[k]? = some w ∧ ∃ fps', SI X.K B Z (setS ρ i (.lst (xs.eraseIdx k))) σ (upd H p (.lst (ys.eraseIdx k))) fps' t ∧ Step Z ro fps H fps' (upd H p (.lst (ys.eraseIdx k))) ∧ Den X.K B (upd H p (.lst (ys.eraseIdx k))) Z.A v w [] := by
  obtain ⟨p0, ys, f, hσ, ef, hp, hl, ds, n1, n2, fin⟩ := si.outer (ro := ro) hm hr e
  obtain ⟨w, pre, fj, post, g1, g2, g3, _, g4⟩ := ds.split ev
  subst g2
  have nf : ∀ c ∈ pre ++ (fj ++ post), ¬ c = p0 := fun c hc z => n1 (z ▸ hc)
  have ej : fj = [] := fl_nil g3 hf
  have d2 : Dens X.K B (upd H p0 (.lst (ys.eraseIdx k))) Z.A (xs.eraseIdx k) (ys.eraseIdx k) (pre ++ post) :=
    g4.fr fr_upd (wl_eq hp) (fun _ e => e) fun c hc => nf c ((sub_mid (pre := pre) (post := post) (List.nil_sublist fj)).subset hc)
  obtain ⟨s1, b1⟩ := fin _ _ _ (Nat.le_trans (List.length_eraseIdx_le ys k) hl) d2 (sub_mid (List.nil_sublist fj))
  rw [ej] at g3
  exact ⟨p0, ys, w, hσ, hp, ds.len.symm, g1, _, s1, b1, g3.fr fr_upd (wl_eq hp) (fun _ e => e) fun _ h => absurd h (by simp)⟩
/-- y = name.pop(0) -/
theorem s_pop0 {i j : Nat} {y z : Str} {yp zp ap cp p0 : Pos} {c0 : Nat} (ok : YOk B F X) (hi : X.N[i]? = some y) (hv : visB X.env.scope y = true) (hk : okN y = true) (hj : X.N[j]? = some z) (hl : locB X.env.scope z = true) (hln : (ap.endLine == cp.line) = true) (hm : i ∈ mu) (hr : i ∉ ro) (hn : j ∉ mu) :
    PS X (.Assign [.Name z zp] (.Call (.Attribute (.Name y yp) "pop" ap) [.Constant (.int 0) c0 p0] [] cp) pos) (tSt X.K B mu nw ro (evS F (.pop0 j i))) :=
  PS_mono (nm_set ok hj hl (pe_m1 PySem.F.slot_list_pop PySem.F.type_list_pop mt_popAt (pe_var hi (visB_vis hv) (okN1 hk) (okN2 hk)) pe_int rfl hln rfl) rfl) fun D σ H ⟨Z, ρ, t, r, t', fps, hmu, hnw, si, ev, o⟩ => by
    simp only [evS, bnd_some, chk_some, lift_some, ret_some, lstAt_some] at ev
    obtain ⟨xs, t1, ⟨xs', e1, e2⟩, v, t2, ⟨v', e3, e4⟩, u, t3, ⟨hf, e5⟩, e6⟩ := ev
    cases e2
    cases e4
    cases e5
    cases e6
    subst hmu
    obtain ⟨p, ys, w, hσ, hp, hl, hy, fps', s1, b1, dv⟩ := si.take (ro := ro) hm hr e1 e3 hf
    have hlt := (List.getElem?_eq_some_iff.mp hy).1
    refine ⟨_, hσ, ty_list hp, p, ys, 0, 0, w, rfl, rfl, hp, by decide, by decide, seq_nat (by decide) hlt, hy, ?_⟩
    obtain ⟨s2, b2⟩ := s1.flatSet dv hn b1
    exact o _ _ _ s2 b2
theorem getS_ne {ρ : Slots} {i j : Nat} {v : PV} (h : i ≠ j) : getS (setS ρ i v) j = getS ρ j := by rw [getS_set, if_neg h]
/-- name.append(other.pop(e)) -/
theorem s_appPop {i j : Nat} {e : E} {y z : Str} {yp zp ap cp ap2 cp2 : Pos} {ex : Expr} (ok : YOk B F X) (hi : X.N[i]? = some y) (hv : visB X.env.scope y = true) (hk : okN y = true) (hj : X.N[j]? = some z) (hv2 : visB X.env.scope z = true) (hk2 : okN z = true) (h2 : cE B X.N X.env.scope e ex = true) (hl : (ap.endLine == cp.line) = true) (hl2 : (ap2.endLine == cp2.line) = true)
    (hm : i ∈ mu) (hr : i ∉ ro) (hm2 : j ∈ mu) (hr2 : j ∉ ro) (hij : j ≠ i) :
    PS X (.Expr (.Call (.Attribute (.Name y yp) "append" ap) [.Call (.Attribute (.Name z zp) "pop" ap2) [ex] [] cp2] [] cp) pos) (tSt X.K B mu nw ro (evS F (.appPop i j e))) :=
  PS_mono (ps_expr (pe_m1 PySem.F.slot_list_append PySem.F.type_list_append mt_append (pe_var hi (visB_vis hv) (okN1 hk) (okN2 hk)) (pe_m1 PySem.F.slot_list_pop PySem.F.type_list_pop mt_popAt (pe_var hj (visB_vis hv2) (okN1 hk2) (okN2 hk2)) (eE e X ex ok.x h2).pe rfl hl2 (cE_star h2 _ _)) rfl hl rfl) rfl) fun D σ H ⟨Z, ρ, t, r, t', fps, hmu, hnw, si, ev, o⟩ => by
    simp only [evS, bnd_some, chk_some, asI_some, lift_some, ret_some, lstAt_some, Bool.and_eq_true, decide_eq_true_eq] at ev
    obtain ⟨xk, t1, e1, k, t2, ⟨k', rfl, e2⟩, xs, t3, ⟨xs', e3, e4⟩, ys, t4, ⟨ys', e5, e6⟩, u, t5, ⟨⟨k0, k1⟩, e7⟩, v, t6, ⟨v', e8, e9⟩, u2, t7, ⟨⟨hf, hb⟩, e10⟩, e11⟩ := ev
    cases e2
    cases e4
    cases e6
    cases e7
    cases e9
    cases e10
    cases e11
    subst hmu
    obtain ⟨pi, _, _, hσi, _, hpi, _⟩ := si.outer (ro := ro) hm hr e3
    obtain ⟨pj, _, _, hσj, _, hpj, _⟩ := si.outer (ro := ro) hm2 hr2 e5
    refine ⟨_, hσi, ty_list hpi, _, hσj, ty_list hpj, tEv.go si.rel si.tin e1 fun kv H1 fp p => ?_⟩
    obtain ⟨s1, b1⟩ := si.onKp (ro := ro) p.kp p.tin
    obtain ⟨p1, zs, w, hσ1, hp1, hl1, hy, fps', s2, b2, dv⟩ := s1.take (ro := ro) hm2 hr2 e5 e8 hf
    rw [hσj] at hσ1
    cases hσ1
    have hlt := (List.getElem?_eq_some_iff.mp hy).1
    refine ⟨pj, zs, k, k.toNat, w, rfl, by rw [p.den.intI], hp1, by omega, by omega, seq_nat k0 hlt, hy, ?_⟩
    have e3' : getS (setS ρ j (.lst (ys.eraseIdx k.toNat))) i = some (.lst xs) := by rw [getS_ne hij]; exact e3
    obtain ⟨p2, ws, f, hσ2, ef, hp, hl, ds, n1, n2, fin⟩ := s2.outer (ro := ro) hm hr e3'
    rw [hσi] at hσ2
    cases hσ2
    have nf : ∀ c ∈ f, ¬ c = pi := fun c hc z => n1 (z ▸ hc)
    have hlen : ws.length < sizeLine := by rw [← ds.len, ← big_eq]; exact hb
    refine ⟨pi, ws, w, rfl, rfl, hp, hlen, ?_⟩
    have d2 : Dens X.K B (upd (upd H1 pj (.lst (zs.eraseIdx k.toNat))) pi (.lst (ws ++ [w]))) Z.A (xs ++ [v]) (ws ++ [w]) (f ++ []) := (ds.fr fr_upd (wl_eq hp) (fun _ e => e) nf).append (Dens.one (dv.fr fr_upd (wl_eq hp) (fun _ e => e) fun _ h => absurd h (by simp)))
    obtain ⟨s3, b3⟩ := fin _ _ _ (by rw [List.length_append, List.length_singleton]; exact hlen) d2 (by rw [List.append_nil]; exact List.Sublist.refl f)
    exact o _ _ _ s3 ((b1.trans b2).trans b3)
/-- y = name[a].pop(0)[k] -/
theorem s_popX {i j k : Nat} {a : E} {y z : Str} {yp zp tp ap cp p0 pk sp : Pos} {c0 ck : Nat} {ea : Expr} (ok : YOk B F X) (hi : X.N[i]? = some y) (hv : visB X.env.scope y = true) (hk : okN y = true) (hj : X.N[j]? = some z) (hl : locB X.env.scope z = true) (h1 : cE B X.N X.env.scope a ea = true) (hln : (ap.endLine == cp.line) = true) (hm : i ∈ mu) (hr : i ∉ ro) (hn : j ∉ mu) :
    PS X (.Assign [.Name z zp] (.Subscript (.Call (.Attribute (.Subscript (.Name y yp) ea tp) "pop" ap) [.Constant (.int 0) c0 p0] [] cp) (.Constant (.int (k : Int)) ck pk) sp) pos) (tSt X.K B mu nw ro (evS F (.popX j i a k))) :=
  PS_mono (nm_set ok hj hl (pe_ix ix_tup (pe_m1 PySem.F.slot_list_pop PySem.F.type_list_pop mt_popAt (pe_in ok.x hi hv hk h1) pe_int rfl hln rfl) pe_int (fun _ _ => rfl)) rfl) fun D σ H ⟨Z, ρ, t, r, t', fps, hmu, hnw, si, ev, o⟩ => by
    simp only [evS, bnd_some, asI_some, lift_some, lstAt_some] at ev
    obtain ⟨xa, t1, e1, m, t2, ⟨m', rfl, e2⟩, xs, t3, ⟨xs', e3, e4⟩, l, t4, ⟨l', e5, e6⟩, e7⟩ := ev
    cases e2
    cases e4
    cases e6
    subst hmu
    cases hz : xs[l]? with
    | none => rw [hz] at e7; simp [M.fail] at e7
    | some w =>
      rw [hz] at e7
      match w, hz, e7 with
      | .lst (.tup us :: rr), hz, e7 =>
        simp only [bnd_some, chk_some, lift_some, ret_some] at e7
        obtain ⟨v, t5, ⟨v', e8, e9⟩, u, t6, ⟨hf, e10⟩, e11⟩ := e7
        cases e9
        cases e10
        cases e11
        obtain ⟨p0, _, _, _, _, hσ, _⟩ := si.inner (ro := ro) hm hr e3 hz
        refine ⟨_, hσ, tEv.go si.rel si.tin e1 fun iv H1 fp p => ?_⟩
        obtain ⟨s1, b1⟩ := si.onKp (ro := ro) p.kp p.tin
        obtain ⟨p1, ys, q, ws, g, hσ1, hp, hly, hy, hq, hlw, dw, nq, fin⟩ := s1.inner (ro := ro) hm hr e3 hz
        rw [hσ] at hσ1
        cases hσ1
        cases dw with
        | cons d0 dr =>
          rename_i w0 wr f0 fr0
          obtain ⟨bb, vs, rfl, hsq, hls, dvs⟩ := d0.tupI
          refine ⟨p0, ys, m, .ref q, rfl, p.den.intI, SqL.of hp, atI_of e5 hly hy, ty_list hq, q, .ref bb :: wr, 0, 0, .ref bb, rfl, rfl, hq, by decide, by decide, seq_nat (by decide) (by simp), rfl, ?_⟩
          obtain ⟨vv, ff, hvv, dvv, mvv⟩ := dvs.get e8
          have ev0 : ff = [] := fl_nil dvv hf
          subst ev0
          have nf : ∀ c ∈ fr0, ¬ c = q := fun c hc z => nq (z ▸ List.mem_append_right _ hc)
          have wq : Wl (fun b => b = q) H1 := wl_eq hq
          refine ⟨bb, vs, (k : Int), vv, rfl, rfl, SqT.fr fr_upd wq hsq, ?_, ?_⟩
          · unfold atI
            have hk' : k < vs.length := (List.getElem?_eq_some_iff.mp hvv).1
            have : ixN vs.length (k : Int) = some k := by
              unfold ixN
              rw [if_pos (by omega), if_pos (by omega)]
              simp
            rw [this]
            exact hvv
          · obtain ⟨fps', s2, b2⟩ := fin rr wr fr0 (by have := hlw; simp at this; omega) (dr.fr fr_upd wq (fun _ e => e) nf) (List.sublist_append_right f0 fr0)
            obtain ⟨s3, b3⟩ := s2.flatSet (dvv.fr fr_upd wq (fun _ e => e) fun _ h => absurd h (by simp)) hn (b1.trans b2)
            exact o _ _ _ s3 b3
      | .non, hz, e7 => simp [M.fail] at e7
      | .bl _, hz, e7 => simp [M.fail] at e7
      | .int _, hz, e7 => simp [M.fail] at e7
      | .tup _, hz, e7 => simp [M.fail] at e7
      | .dct _, hz, e7 => simp [M.fail] at e7
      | .tin, hz, e7 => simp [M.fail] at e7
      | .fn _, hz, e7 => simp [M.fail] at e7
      | .scr _, hz, e7 => simp [M.fail] at e7
      | .lst [], hz, e7 => simp [M.fail] at e7
      | .lst (.non :: _), hz, e7 => simp [M.fail] at e7
      | .lst (.bl _ :: _), hz, e7 => simp [M.fail] at e7
      | .lst (.int _ :: _), hz, e7 => simp [M.fail] at e7
      | .lst (.lst _ :: _), hz, e7 => simp [M.fail] at e7
      | .lst (.dct _ :: _), hz, e7 => simp [M.fail] at e7
      | .lst (.tin :: _), hz, e7 => simp [M.fail] at e7
      | .lst (.fn _ :: _), hz, e7 => simp [M.fail] at e7
      | .lst (.scr _ :: _), hz, e7 => simp [M.fail] at e7
/-- name[a][b] = e -/
theorem s_setII {i : Nat} {a b e : E} {y : Str} {yp tp tp2 : Pos} {ea eb ex : Expr} (ok : YOk B F X) (hi : X.N[i]? = some y) (hv : visB X.env.scope y = true) (hk : okN y = true) (h1 : cE B X.N X.env.scope a ea = true) (h3 : cE B X.N X.env.scope b eb = true) (h2 : cV B X.N X.env.scope e ex = true) (hm : i ∈ mu) (hr : i ∉ ro) :
    PS X (.Assign [.Subscript (.Subscript (.Name y yp) ea tp) eb tp2] ex pos) (tSt X.K B mu nw ro (evS F (.setII i a b e))) :=
  PS_mono (ps_asg (eV ok.x h2) (pg_sub (pe_in ok.x hi hv hk h1) (eE b X eb ok.x h3).pe set_list (by intro _; cases eb <;> first | rfl | (exfalso; cases b <;> simp [cE] at h3))) (by cases ex <;> rfl) (by cases ex <;> rfl) rfl) fun D σ H ⟨Z, ρ, t, r, t', fps, hmu, hnw, si, ev, o⟩ => by
    simp only [evS, bnd_some, asI_some, chk_some, lift_some, lstAt_some] at ev
    obtain ⟨v, t1, e1, xa, t2, e2, k, t3, ⟨k', rfl, e3⟩, xb, t4, e4, m, t5, ⟨m', rfl, e5⟩, u, t6, ⟨hf, e6⟩, xs, t7, ⟨xs', e7, e8⟩, j, t8, ⟨j', e9, e10⟩, e11⟩ := ev
    cases e3
    cases e5
    cases e6
    cases e8
    cases e10
    subst hmu
    cases hz : xs[j]? with
    | none => rw [hz] at e11; simp [M.fail] at e11
    | some w =>
      rw [hz] at e11
      cases w with
      | lst zs =>
        simp only [bnd_some, lift_some, ret_some] at e11
        obtain ⟨l, t9, ⟨l', e12, e13⟩, e14⟩ := e11
        cases e13
        cases e14
        refine tEv.go si.rel si.tin e1 fun xv H1 fp p => ?_
        obtain ⟨s1, b1⟩ := si.onKp (ro := ro) p.kp p.tin
        obtain ⟨p0, _, _, _, _, hσ, _⟩ := s1.inner (ro := ro) hm hr e7 hz
        refine ⟨_, hσ, tEv.go s1.rel s1.tin e2 fun iv H2 fq p2 => ?_⟩
        obtain ⟨s2, b2⟩ := s1.onKp (ro := ro) p2.kp p2.tin
        obtain ⟨p1, ys1, q1, ws1, g1, hσ1, hp1, hl1, hy1, hq1, _⟩ := s2.inner (ro := ro) hm hr e7 hz
        rw [hσ] at hσ1
        cases hσ1
        refine ⟨p0, ys1, k, .ref q1, rfl, p2.den.intI, SqL.of hp1, atI_of e9 hl1 hy1, tEv.go s2.rel s2.tin e4 fun jv H3 fr p3 => ?_⟩
        obtain ⟨s3, b3⟩ := s2.onKp (ro := ro) p3.kp p3.tin
        obtain ⟨p3', ys3, q3, ws, g, hσ3, hp3, hl3, hy3, hq, hlw, dw, nq, fin⟩ := s3.inner (ro := ro) hm hr e7 hz
        rw [hσ] at hσ3
        cases hσ3
        have eys : ys3 = ys1 := by
          obtain ⟨pp, yy, ff, z1, z2, z3, _⟩ := s2.outer (ro := ro) hm hr e7
          rw [hσ] at z1
          cases z1
          have := kp_lst s2 p3.kp z2 hp1
          rw [hp3] at this
          cases this
          rfl
        subst eys
        rw [hy1] at hy3
        cases hy3
        have dv : Den X.K B H3 Z.A v xv [] := by
          have := (p.den.kp p2.kp p.tin p.off).kp p3.kp p2.tin p.off
          rwa [fl_nil p.den hf] at this
        have hj : l < zs.length := ixN_lt e12
        obtain ⟨z, pre, fj, post, y1, y2, y3, y4, _⟩ := dw.split (List.getElem?_eq_getElem hj)
        subst y2
        have nf : ∀ c ∈ pre ++ (fj ++ post), ¬ c = q1 := fun c hc z => nq (z ▸ hc)
        refine ⟨q1, ws, m, l, rfl, p3.den.intI, hq, ixN_at e12 dw.len.symm, ?_⟩
        obtain ⟨fps', s4, b4⟩ := fin (zs.set l v) (ws.set l xv) _ (by rw [List.length_set]; exact hlw) (y4 (fun b => b = q1) _ v xv [] fr_upd (wl_eq hq) (fun c hc => nf c (List.mem_append_left _ hc)) (fun c hc => nf c (List.mem_append_right _ (List.mem_append_right _ hc))) (dv.fr fr_upd (wl_eq hq) (fun _ e => e) fun _ h => absurd h (by simp))) (sub_mid (List.nil_sublist _))
        exact o _ _ _ s4 (((b1.trans b2).trans b3).trans b4)
      | _ => simp [M.fail] at e11
end
end G
set_option Elab.async false
set_option linter.all false
set_option maxRecDepth 100000
set_option maxHeartbeats 4000000
/-! S4h: all statements -/
namespace G
open PySem PySem.Spec PyProof.Rows L2
section
variable {X : Cx} {B : Tab} {F : FS} {mu ro ro' : List Nat} {nw : Bool} {pos : Pos}
theorem fls_nil {K : PySem.W.Frag} {H : Hp} {A : Option Addr} {v : List PV} {x : List V} {fp : List Addr} (d : Dens K B H A v x fp) (h : v.all fl = true) : fp = [] := d.fl h
/-- name.extend(e) -/
theorem s_ext {i : Nat} {e : E} {y : Str} {yp ap cp : Pos} {ex : Expr} (ok : YOk B F X) (hi : X.N[i]? = some y) (hv : visB X.env.scope y = true) (hk : okN y = true) (h2 : cE B X.N X.env.scope e ex = true) (hl : (ap.endLine == cp.line) = true) (hm : i ∈ mu) (hr : i ∉ ro) :
    PS X (.Expr (.Call (.Attribute (.Name y yp) "extend" ap) [ex] [] cp) pos) (tSt X.K B mu nw ro (evS F (.ext i e))) :=
  PS_mono (ps_expr (pe_m1 PySem.F.slot_list_extend PySem.F.type_list_extend mt_extend (pe_var hi (visB_vis hv) (okN1 hk) (okN2 hk)) (eE e X ex ok.x h2).pe rfl hl (cE_star h2 _ _)) rfl) fun D σ H ⟨Z, ρ, t, r, t', fps, hmu, hnw, si, ev, o⟩ => by
    simp only [evS, bnd_some, chk_some, lift_some, lstAt_some] at ev
    obtain ⟨v, t1, e1, u, t2, ⟨hf, e2⟩, xs, t3, ⟨xs', e3, e4⟩, e5⟩ := ev
    cases e2
    cases e4
    subst hmu
    cases v with
    | lst zs =>
      simp only [bnd_some, chk_some, ret_some, decide_eq_true_eq] at e5
      obtain ⟨u2, t4, ⟨hb, e6⟩, e7⟩ := e5
      cases e6
      cases e7
      obtain ⟨p0, ys0, _, hσ, _, hp0, _⟩ := si.outer (ro := ro) hm hr e3
      refine ⟨_, hσ, ty_list hp0, tEv.go si.rel si.tin e1 fun xv H1 fp p => ?_⟩
      obtain ⟨s1, b1⟩ := si.onKp (ro := ro) p.kp p.tin
      obtain ⟨q, ys, f, hσ', ef, hp, hl, ds, n1, n2, fin⟩ := s1.outer (ro := ro) hm hr e3
      rw [hσ] at hσ'
      cases hσ'
      obtain ⟨b, ws, g, rfl, _, hb2, hl2, dz⟩ := p.den.lstI
      have eg : g = [] := fls_nil dz (by simpa [elems1] using hf)
      subst eg
      have nf : ∀ c ∈ f, ¬ c = p0 := fun c hc z => n1 (z ▸ hc)
      have hlen : ys.length + ws.length ≤ sizeLine := by rw [← ds.len, ← dz.len, ← big_eq]; exact hb
      refine ⟨p0, b, ys, ws, rfl, rfl, hp, hb2, hlen, ?_⟩
      have d2 : Dens X.K B (upd H1 p0 (.lst (ys ++ ws))) Z.A (xs ++ zs) (ys ++ ws) (f ++ []) := (ds.fr fr_upd (wl_eq hp) (fun _ e => e) nf).append (dz.fr fr_upd (wl_eq hp) (fun _ e => e) fun _ h => absurd h (by simp))
      obtain ⟨s2, b2⟩ := fin _ _ _ (by rw [List.length_append]; exact hlen) d2 (by rw [List.append_nil]; exact List.Sublist.refl f)
      exact o _ _ _ s2 (b1.trans b2)
    | _ => simp [M.fail] at e5
theorem erase_idx {k : Int} : ∀ {ns : List Int}, k ∈ ns → ∃ j, ns[j]? = some k ∧ (∀ m : Nat, m < j → ns[m]? ≠ some k) ∧ ns.eraseIdx j = ns.erase k
  | [], h => absurd h (by simp)
  | n :: ns, h => by
    by_cases e : n = k
    · subst e
      exact ⟨0, rfl, fun m hm => absurd hm (by omega), by simp⟩
    · have h' : k ∈ ns := (List.mem_cons.mp h).resolve_left (Ne.symm e)
      obtain ⟨j, h1, h2, h3⟩ := erase_idx h'
      refine ⟨j + 1, by simpa using h1, fun m hm => ?_, ?_⟩
      · cases m with
        | zero => simpa using e
        | succ m => simpa using h2 m (by omega)
      · rw [List.eraseIdx_cons_succ, h3, List.erase_cons_tail (by simpa using e)]
/-- name.remove(e), a list of ints -/
theorem s_rem {i : Nat} {e : E} {y : Str} {yp ap cp : Pos} {ex : Expr} (ok : YOk B F X) (hi : X.N[i]? = some y) (hv : visB X.env.scope y = true) (hk : okN y = true) (h2 : cE B X.N X.env.scope e ex = true) (hl : (ap.endLine == cp.line) = true) (hm : i ∈ mu) (hr : i ∉ ro) :
    PS X (.Expr (.Call (.Attribute (.Name y yp) "remove" ap) [ex] [] cp) pos) (tSt X.K B mu nw ro (evS F (.rem i e))) :=
  PS_mono (ps_expr (pe_m1 PySem.F.slot_list_remove PySem.F.type_list_remove mt_remove (pe_var hi (visB_vis hv) (okN1 hk) (okN2 hk)) (eE e X ex ok.x h2).pe rfl hl (cE_star h2 _ _)) rfl) fun D σ H ⟨Z, ρ, t, r, t', fps, hmu, hnw, si, ev, o⟩ => by
    simp only [evS, bnd_some, asI_some, lift_some, lstAt_some] at ev
    obtain ⟨v, t1, e1, k, t2, ⟨k', rfl, e2⟩, xs, t3, ⟨xs', e3, e4⟩, ns, t4, ⟨ns', e5, e6⟩, e7⟩ := ev
    cases e2
    cases e4
    cases e6
    subst hmu
    split at e7
    · rename_i hmem
      rw [ret_some] at e7
      cases e7
      have e8 := asInts_eq e5
      subst e8
      obtain ⟨p0, ys0, _, hσ, _, hp0, _⟩ := si.outer (ro := ro) hm hr e3
      refine ⟨_, hσ, ty_list hp0, tEv.go si.rel si.tin e1 fun xv H1 fp p => ?_⟩
      obtain ⟨s1, b1⟩ := si.onKp (ro := ro) p.kp p.tin
      obtain ⟨q, ys, f, hσ', ef, hp, hl, ds, n1, n2, fin⟩ := s1.outer (ro := ro) hm hr e3
      rw [hσ] at hσ'
      cases hσ'
      obtain ⟨ey, ef2⟩ := ds.ints
      subst ey
      obtain ⟨j, j1, j2, j3⟩ := erase_idx hmem
      refine ⟨p0, ns, k, j, rfl, by rw [p.den.intI], hp, j1, j2, ?_⟩
      rw [j3]
      obtain ⟨s2, b2⟩ := fin ((ns.erase k).map .int) ((ns.erase k).map V.int) [] (by
        rw [List.length_map] at hl ⊢
        exact Nat.le_trans (List.length_erase_le) hl) (dens_ints _ _ _) (List.nil_sublist _)
      exact o _ _ _ s2 (b1.trans b2)
    · simp [M.fail] at e7

/-! ### which statements are which terms -/
def vis1 (N : List Str) (sc : Scope) (i : Nat) (x : Str) : Bool := decide (N[i]? = some x) && visB sc x && okN x
def noTup : Expr → Bool
  | .Tuple _ _ _ => false
  | .ListComp _ _ _ _ => false
  | _ => true
def swapOk (env : Scope) (ts vs : List Expr) : Bool := decide (env.kind = .function) && !(vs.any isStar) && !(vs.all (foldedForSure 8)) && !(vs.all (constantsAlone 8))
def lineOk (ts : List Expr) : Bool := ts.all fun e => match e with
  | .Name _ p => p.line == ((ts.head?.map (·.pos.line)).getD 0)
  | _ => false
mutual
def cS (B : Tab) (N : List Str) (sc : Scope) (mu : List Nat) (nw : Bool) (ro : List Nat) : S → Stmt → Bool
  | .asg k i e, s => match s with
    | .Assign [.Name x _] ex _ => decide (N[i]? = some x) && locB sc x && cV B N sc e ex && kindOk B mu ro k i e
    | _ => false
  | .move _ _, _ => false
  | .par ps, s => match s with
    | .Assign [.Tuple ts _ _] (.Tuple vs _ _) _ => cNm N sc ps ts && cPs B N sc mu ro ps vs && decide (ps.exprs.length ≤ 1000) && (match ts with
      | [.Name x px, .Name y py] => (decide (sc.names.lookup x = some .local) && decide (sc.names.lookup y = some .local) && swapOk sc ts vs && lineOk ts && decide ([x, y].eraseDups.length = 2) && decide (x ≠ y) && decide (vs.length = 2)) || vs.all (foldedForSure 8) || !(decide (sc.names.lookup x = some .local) && decide (sc.names.lookup y = some .local))
      | [.Name x px, .Name y py, .Name z pz] => (decide (sc.names.lookup x = some .local) && decide (sc.names.lookup y = some .local) && decide (sc.names.lookup z = some .local) && swapOk sc ts vs && lineOk ts && decide ([x, y, z].eraseDups.length = 3) && decide (x ≠ y ∧ x ≠ z ∧ y ≠ z) && decide (vs.length = 3)) || vs.all (foldedForSure 8) || !(decide (sc.names.lookup x = some .local) && decide (sc.names.lookup y = some .local) && decide (sc.names.lookup z = some .local))
      | _ => false)
    | _ => false
  | .unp tg e, s => match s with
    | .Assign [.Tuple ts k p] ex _ => cT N sc (fun _ => true) tg (.Tuple ts k p) && cV B N sc e ex && noTup ex && (tg.slots.all fun j => decide (j ∉ mu)) && (e.vars.all fun j => decide (j ∉ mu))
    | _ => false
  | .setI i a e, s => match s with
    | .Assign [.Subscript (.Name x _) ea _] ex _ => vis1 N sc i x && cE B N sc a ea && cV B N sc e ex && decide (i ∈ mu) && decide (i ∉ ro)
    | _ => false
  | .setT i a e, s => match s with
    | .Assign [.Subscript (.Name x _) ea _] ex _ => vis1 N sc i x && cE B N sc a ea && cV B N sc e ex
    | _ => false
  | .setII i a b e, s => match s with
    | .Assign [.Subscript (.Subscript (.Name x _) ea _) eb _] ex _ => vis1 N sc i x && cE B N sc a ea && cE B N sc b eb && cV B N sc e ex && decide (i ∈ mu) && decide (i ∉ ro)
    | _ => false
  | .app i e, s => match s with
    | .Expr (.Call (.Attribute (.Name x _) nm ap) [ex] [] cp) _ => decide (nm = "append") && vis1 N sc i x && cE B N sc e ex && (ap.endLine == cp.line) && decide (i ∈ mu) && decide (i ∉ ro)
    | _ => false
  | .appI i a e, s => match s with
    | .Expr (.Call (.Attribute (.Subscript (.Name x _) ea _) nm ap) [ex] [] cp) _ => decide (nm = "append") && vis1 N sc i x && cE B N sc a ea && cE B N sc e ex && (ap.endLine == cp.line) && decide (i ∈ mu) && decide (i ∉ ro)
    | _ => false
  | .ext i e, s => match s with
    | .Expr (.Call (.Attribute (.Name x _) nm ap) [ex] [] cp) _ => decide (nm = "extend") && vis1 N sc i x && cE B N sc e ex && (ap.endLine == cp.line) && decide (i ∈ mu) && decide (i ∉ ro)
    | _ => false
  | .rem i e, s => match s with
    | .Expr (.Call (.Attribute (.Name x _) nm ap) [ex] [] cp) _ => decide (nm = "remove") && vis1 N sc i x && cE B N sc e ex && (ap.endLine == cp.line) && decide (i ∈ mu) && decide (i ∉ ro)
    | _ => false
  | .pop j i, s => match s with
    | .Assign [.Name z _] (.Call (.Attribute (.Name x _) nm ap) [] [] cp) _ => decide (nm = "pop") && vis1 N sc i x && decide (N[j]? = some z) && locB sc z && (ap.endLine == cp.line) && decide (i ∈ mu) && decide (i ∉ ro) && decide (j ∉ mu)
    | _ => false
  | .pop0 j i, s => match s with
    | .Assign [.Name z _] (.Call (.Attribute (.Name x _) nm ap) [.Constant (.int 0) _ _] [] cp) _ => decide (nm = "pop") && vis1 N sc i x && decide (N[j]? = some z) && locB sc z && (ap.endLine == cp.line) && decide (i ∈ mu) && decide (i ∉ ro) && decide (j ∉ mu)
    | _ => false
  | .popX j i a k, s => match s with
    | .Assign [.Name z _] (.Subscript (.Call (.Attribute (.Subscript (.Name x _) ea _) nm ap) [.Constant (.int 0) _ _] [] cp) (.Constant (.int k') _ _) _) _ => decide (nm = "pop") && decide (k' = (k : Int)) && vis1 N sc i x && cE B N sc a ea && decide (N[j]? = some z) && locB sc z && (ap.endLine == cp.line) && decide (i ∈ mu) && decide (i ∉ ro) && decide (j ∉ mu)
    | _ => false
  | .appPop i j e, s => match s with
    | .Expr (.Call (.Attribute (.Name x _) nm ap) [.Call (.Attribute (.Name z _) nm2 ap2) [ex] [] cp2] [] cp) _ => decide (nm = "append") && decide (nm2 = "pop") && vis1 N sc i x && vis1 N sc j z && cE B N sc e ex && (ap.endLine == cp.line) && (ap2.endLine == cp2.line) && decide (i ∈ mu) && decide (i ∉ ro) && decide (j ∈ mu) && decide (j ∉ ro) && decide (j ≠ i)
    | _ => false
  | .ret e, s => match s with
    | .Return (some ex) _ => cV B N sc e ex && (!nw || nw1 B e)
    | _ => false
  | .retM i, s => match s with
    | .Return (some (.Name x _)) _ => vis1 N sc i x && decide (i ∈ mu)
    | _ => false
  | .ife c a b, s => match s with
    | .If ec la lb _ => cE B N sc c ec && cSs B N sc mu nw ro a la && cSs B N sc mu nw ro b lb
    | _ => false
  | .forN tg it b, s => match s with
    | .For et ei lb [] _ => cI B N sc it et ei && cT N sc (fun _ => true) tg et && cSs B N sc mu nw ro b lb && (tg.slots.all fun j => decide (j ∉ mu)) && (it.lv.all fun j => decide (j ∉ mu))
    | _ => false
  | .forF tg it b, s => match s with
    | .For et ei lb [] _ => cI B N sc it et ei && cT N sc (fun _ => true) tg et && cSs B N sc mu nw (ro ++ it.lv) b lb && (tg.slots.all fun j => decide (j ∉ mu))
    | _ => false
  | .whl c b, s => match s with
    | .While ec lb [] _ => cE B N sc c ec && cSs B N sc mu nw ro b lb
    | _ => false
  | .brk, s => match s with
    | .Break _ => true
    | _ => false
  | .cont, s => match s with
    | .Continue _ => true
    | _ => false
  | .raise, _ => true
  | .pass, s => match s with
    | .Pass _ => true
    | _ => false
def cSs (B : Tab) (N : List Str) (sc : Scope) (mu : List Nat) (nw : Bool) (ro : List Nat) : Ss → List Stmt → Bool
  | .nil, l => match l with
    | [] => true
    | _ => false
  | .cons s r, l => match l with
    | x :: xs => cS B N sc mu nw ro s x && cSs B N sc mu nw ro r xs
    | _ => false
end
end
end G
set_option Elab.async false
set_option linter.all false
set_option maxRecDepth 100000
set_option maxHeartbeats 4000000
/-! S4i: all statements are sound -/
namespace G
open PySem PySem.Spec PyProof.Rows L2
section
variable {B : Tab} {F : FS} {mu : List Nat} {nw : Bool}
theorem vis1_ok {N : List Str} {sc : Scope} {i : Nat} {x : Str} (h : vis1 N sc i x = true) : N[i]? = some x ∧ visB sc x = true ∧ okN x = true := by
  simp only [vis1, Bool.and_eq_true, decide_eq_true_eq] at h
  exact ⟨h.1.1, h.1.2, h.2⟩
theorem fm_all {α β : Type} {f : α → Option β} : ∀ {l : List α}, (l.filterMap f).length = l.length → ∀ e ∈ l, (f e).isSome = true
  | [], _, e, he => absurd he (by simp)
  | a :: l, h, e, he => by
    rw [List.filterMap_cons] at h
    cases q : f a with
    | none =>
      rw [q] at h
      have := List.length_filterMap_le f l
      simp at h
      omega
    | some b =>
      rw [q] at h
      simp at h
      rcases List.mem_cons.mp he with rfl | he
      · rw [q]; rfl
      · exact h e he
theorem nmOf_local {env : Env} {l : Nat} {x : Str} {p : Pos} (h : (nmOf env l (.Name x p)).isSome = true) : env.scope.names.lookup x = some .local := by
  have e : nmOf env l (.Name x p) = if env.kindOf x == some .local && p.line == l then some x else none := rfl
  rw [e] at h
  split at h
  · rename_i q
    simp only [Bool.and_eq_true, beq_iff_eq] at q
    exact q.1
  · cases h
theorem nmOf_some {env : Env} {l : Nat} {x : Str} {p : Pos} (h : env.scope.names.lookup x = some .local) (hl : (p.line == l) = true) : nmOf env l (.Name x p) = some x := by
  have e : nmOf env l (.Name x p) = if env.kindOf x == some .local && p.line == l then some x else none := rfl
  rw [e, if_pos]
  rw [hl, Bool.and_true]
  have : env.kindOf x = some .local := h
  rw [this]
  rfl
theorem swap_pre {env : Env} {ts vs : List Expr} (h : swapOk env.scope ts vs = true) : (env.blockKind != .function) = false ∧ vs.any isStar = false ∧ vs.all (foldedForSure 8) = false ∧ vs.all (constantsAlone 8) = false := by
  simp only [swapOk, Bool.and_eq_true, decide_eq_true_eq, Bool.not_eq_true'] at h
  obtain ⟨⟨⟨h1, h2⟩, h3⟩, h4⟩ := h
  refine ⟨?_, h2, h3, h4⟩
  have : env.blockKind = .function := by unfold Env.blockKind; rw [h1]; rfl
  rw [this]
  rfl
theorem s_par {X : Cx} {ro : List Nat} {ps : Ps} {ts vs : List Expr} {kt k2 : Nat} {pt pt2 pos : Pos} (ok : YOk B F X) (h : cS B X.N X.env.scope mu nw ro (.par ps) (.Assign [.Tuple ts kt pt] (.Tuple vs k2 pt2) pos) = true) :
    PS X (.Assign [.Tuple ts kt pt] (.Tuple vs k2 pt2) pos) (tSt X.K B mu nw ro (evS F (.par ps))) := by
  unfold cS at h
  simp only [Bool.and_eq_true, decide_eq_true_eq] at h
  obtain ⟨⟨⟨h1, h2⟩, h3⟩, h4⟩ := h
  split at h4
  · rename_i x px y py
    simp only [Bool.or_eq_true, Bool.and_eq_true, decide_eq_true_eq, Bool.not_eq_true'] at h4
    rcases h4 with (⟨⟨⟨⟨⟨⟨hx, hy⟩, hs⟩, hl⟩, hd⟩, hxy⟩, hv⟩ | hf) | hn
    · obtain ⟨q1, q2, q3, q4⟩ := swap_pre (env := X.env) hs
      match vs, hv with
      | [a, b], _ =>
        match ps, h1, h2 with
        | .cons k1 i e1 (.cons k2' j e2 .nil), h1, h2 =>
          simp only [cNm, Bool.and_eq_true, decide_eq_true_eq] at h1
          obtain ⟨⟨n1, _⟩, ⟨n2, _⟩, _⟩ := h1
          have hij : i ≠ j := fun z => by subst z; rw [n1] at n2; exact hxy (Option.some.inj n2)
          simp only [lineOk, List.all_cons, List.all_nil, Bool.and_true, Bool.and_eq_true] at hl
          refine s_par2 ok n1 n2 hij hx hy h2 (swap_some (names := [x, y]) ?_ q2 ?_ ?_ q3 q4)
          · rw [q1]; rfl
          · rw [List.filterMap_cons, nmOf_some hx hl.1, List.filterMap_cons, nmOf_some hy hl.2, List.filterMap_nil]
          · rw [hd]; rfl
        | .nil, h1, h2 => simp [cNm] at h1
        | .cons _ _ _ .nil, h1, h2 => simp [cNm] at h1
        | .cons _ _ _ (.cons _ _ _ (.cons _ _ _ _)), h1, h2 => simp [cNm] at h1
    · exact s_parN ok h1 h2 h3 (swap_none (.inr hf))
    · refine s_parN ok h1 h2 h3 (swap_none (.inl ?_))
      rw [bne_iff_ne]
      intro z
      have w := fm_all z
      have w1 := nmOf_local (w _ (by simp : Expr.Name x px ∈ [Expr.Name x px, .Name y py]))
      have w2 := nmOf_local (w _ (by simp : Expr.Name y py ∈ [Expr.Name x px, .Name y py]))
      rw [w1, w2] at hn
      simp at hn
  · rename_i x px y py z pz
    simp only [Bool.or_eq_true, Bool.and_eq_true, decide_eq_true_eq, Bool.not_eq_true'] at h4
    rcases h4 with (⟨⟨⟨⟨⟨⟨⟨hx, hy⟩, hz⟩, hs⟩, hl⟩, hd⟩, hxy, hxz, hyz⟩, hv⟩ | hf) | hn
    · obtain ⟨q1, q2, q3, q4⟩ := swap_pre (env := X.env) hs
      match vs, hv with
      | [a, b, c], _ =>
        match ps, h1, h2 with
        | .cons k1 i e1 (.cons k2' j e2 (.cons k3 l e3 .nil)), h1, h2 =>
          simp only [cNm, Bool.and_eq_true, decide_eq_true_eq] at h1
          obtain ⟨⟨n1, _⟩, ⟨n2, _⟩, ⟨n3, _⟩, _⟩ := h1
          have hij : i ≠ j := fun w => by subst w; rw [n1] at n2; exact hxy (Option.some.inj n2)
          have hil : i ≠ l := fun w => by subst w; rw [n1] at n3; exact hxz (Option.some.inj n3)
          have hjl : j ≠ l := fun w => by subst w; rw [n2] at n3; exact hyz (Option.some.inj n3)
          simp only [lineOk, List.all_cons, List.all_nil, Bool.and_true, Bool.and_eq_true] at hl
          refine s_par3 ok n1 n2 n3 hij hil hjl hx hy hz h2 (swap_some (names := [x, y, z]) ?_ q2 ?_ ?_ q3 q4)
          · rw [q1]; rfl
          · rw [List.filterMap_cons, nmOf_some hx hl.1, List.filterMap_cons, nmOf_some hy hl.2.1, List.filterMap_cons, nmOf_some hz hl.2.2, List.filterMap_nil]
          · rw [hd]; rfl
        | .nil, h1, h2 => simp [cNm] at h1
        | .cons _ _ _ .nil, h1, h2 => simp [cNm] at h1
        | .cons _ _ _ (.cons _ _ _ .nil), h1, h2 => simp [cNm] at h1
        | .cons _ _ _ (.cons _ _ _ (.cons _ _ _ (.cons _ _ _ _))), h1, h2 => simp [cNm] at h1
    · exact s_parN ok h1 h2 h3 (swap_none (.inr hf))
    · refine s_parN ok h1 h2 h3 (swap_none (.inl ?_))
      rw [bne_iff_ne]
      intro w0
      have w := fm_all w0
      have w1 := nmOf_local (w _ (by simp : Expr.Name x px ∈ [Expr.Name x px, .Name y py, .Name z pz]))
      have w2 := nmOf_local (w _ (by simp : Expr.Name y py ∈ [Expr.Name x px, .Name y py, .Name z pz]))
      have w3 := nmOf_local (w _ (by simp : Expr.Name z pz ∈ [Expr.Name x px, .Name y py, .Name z pz]))
      rw [w1, w2, w3] at hn
      simp at hn
  · cases h4
mutual
theorem sS : ∀ (m : S) (ro : List Nat) (X : Cx) (st : Stmt), YOk B F X → cS B X.N X.env.scope mu nw ro m st = true → PS X st (tSt X.K B mu nw ro (evS F m))
  | .asg k i e, ro, X, st, ok, h => by
    simp only [cS] at h
    split at h
    · simp only [Bool.and_eq_true, decide_eq_true_eq] at h
      exact s_asg ok h.1.1.1 h.1.1.2 h.1.2 h.2
    · cases h
  | .move _ _, ro, X, st, ok, h => by simp [cS] at h
  | .par ps, ro, X, st, ok, h => by
    have h0 := h
    unfold cS at h
    split at h
    · exact s_par ok h0
    · cases h
  | .unp tg e, ro, X, st, ok, h => by
    simp only [cS] at h
    split at h
    · rename_i ts k p ex pos
      simp only [Bool.and_eq_true, List.all_eq_true, decide_eq_true_eq] at h
      obtain ⟨⟨⟨⟨h1, h2⟩, h3⟩, h4⟩, h5⟩ := h
      exact s_unp ok (pg_ok ok.x.calm ok.x.nd (fun x _ => ok.fn x) h1) h2 (fun elt gs s p z => by subst z; cases h3) (swap_other fun l k p z => by subst z; cases h3) rfl h4 h5
    · cases h
  | .setI i a e, ro, X, st, ok, h => by
    simp only [cS] at h
    split at h
    · simp only [Bool.and_eq_true, decide_eq_true_eq] at h
      obtain ⟨v1, v2, v3⟩ := vis1_ok h.1.1.1.1
      exact s_setI ok v1 v2 v3 h.1.1.1.2 h.1.1.2 h.1.2 h.2
    · cases h
  | .setT i a e, ro, X, st, ok, h => by
    simp only [cS] at h
    split at h
    · simp only [Bool.and_eq_true, decide_eq_true_eq] at h
      obtain ⟨v1, v2, v3⟩ := vis1_ok h.1.1
      exact s_setT ok v1 v2 v3 h.1.2 h.2
    · cases h
  | .setII i a b e, ro, X, st, ok, h => by
    simp only [cS] at h
    split at h
    · simp only [Bool.and_eq_true, decide_eq_true_eq] at h
      obtain ⟨v1, v2, v3⟩ := vis1_ok h.1.1.1.1.1
      exact s_setII ok v1 v2 v3 h.1.1.1.1.2 h.1.1.1.2 h.1.1.2 h.1.2 h.2
    · cases h
  | .app i e, ro, X, st, ok, h => by
    simp only [cS] at h
    split at h
    · simp only [Bool.and_eq_true, decide_eq_true_eq] at h
      obtain ⟨⟨⟨⟨⟨rfl, h1⟩, h2⟩, h3⟩, h4⟩, h5⟩ := h
      obtain ⟨v1, v2, v3⟩ := vis1_ok h1
      exact s_app ok v1 v2 v3 h2 h3 h4 h5
    · cases h
  | .appI i a e, ro, X, st, ok, h => by
    simp only [cS] at h
    split at h
    · simp only [Bool.and_eq_true, decide_eq_true_eq] at h
      obtain ⟨⟨⟨⟨⟨⟨rfl, h1⟩, h2⟩, h3⟩, h4⟩, h5⟩, h6⟩ := h
      obtain ⟨v1, v2, v3⟩ := vis1_ok h1
      exact s_appI ok v1 v2 v3 h2 h3 h4 h5 h6
    · cases h
  | .ext i e, ro, X, st, ok, h => by
    simp only [cS] at h
    split at h
    · simp only [Bool.and_eq_true, decide_eq_true_eq] at h
      obtain ⟨⟨⟨⟨⟨rfl, h1⟩, h2⟩, h3⟩, h4⟩, h5⟩ := h
      obtain ⟨v1, v2, v3⟩ := vis1_ok h1
      exact s_ext ok v1 v2 v3 h2 h3 h4 h5
    · cases h
  | .rem i e, ro, X, st, ok, h => by
    simp only [cS] at h
    split at h
    · simp only [Bool.and_eq_true, decide_eq_true_eq] at h
      obtain ⟨⟨⟨⟨⟨rfl, h1⟩, h2⟩, h3⟩, h4⟩, h5⟩ := h
      obtain ⟨v1, v2, v3⟩ := vis1_ok h1
      exact s_rem ok v1 v2 v3 h2 h3 h4 h5
    · cases h
  | .pop j i, ro, X, st, ok, h => by
    simp only [cS] at h
    split at h
    · simp only [Bool.and_eq_true, decide_eq_true_eq] at h
      obtain ⟨⟨⟨⟨⟨⟨⟨rfl, h1⟩, h2⟩, h3⟩, h4⟩, h5⟩, h6⟩, h7⟩ := h
      obtain ⟨v1, v2, v3⟩ := vis1_ok h1
      exact s_pop ok v1 v2 v3 h2 h3 h4 h5 h6 h7
    · cases h
  | .pop0 j i, ro, X, st, ok, h => by
    simp only [cS] at h
    split at h
    · simp only [Bool.and_eq_true, decide_eq_true_eq] at h
      obtain ⟨⟨⟨⟨⟨⟨⟨rfl, h1⟩, h2⟩, h3⟩, h4⟩, h5⟩, h6⟩, h7⟩ := h
      obtain ⟨v1, v2, v3⟩ := vis1_ok h1
      exact s_pop0 ok v1 v2 v3 h2 h3 h4 h5 h6 h7
    · cases h
  | .popX j i a k, ro, X, st, ok, h => by
    simp only [cS] at h
    split at h
    · simp only [Bool.and_eq_true, decide_eq_true_eq] at h
      obtain ⟨⟨⟨⟨⟨⟨⟨⟨⟨rfl, rfl⟩, h1⟩, h2⟩, h3⟩, h4⟩, h5⟩, h6⟩, h7⟩, h8⟩ := h
      obtain ⟨v1, v2, v3⟩ := vis1_ok h1
      exact s_popX ok v1 v2 v3 h3 h4 h2 h5 h6 h7 h8
    · cases h
  | .appPop i j e, ro, X, st, ok, h => by
    simp only [cS] at h
    split at h
    · simp only [Bool.and_eq_true, decide_eq_true_eq] at h
      obtain ⟨⟨⟨⟨⟨⟨⟨⟨⟨⟨⟨rfl, rfl⟩, h1⟩, h2⟩, h3⟩, h4⟩, h5⟩, h6⟩, h7⟩, h8⟩, h9⟩, h10⟩ := h
      obtain ⟨v1, v2, v3⟩ := vis1_ok h1
      obtain ⟨w1, w2, w3⟩ := vis1_ok h2
      exact s_appPop ok v1 v2 v3 w1 w2 w3 h3 h4 h5 h6 h7 h8 h9 h10
    · cases h
  | .ret e, ro, X, st, ok, h => by
    simp only [cS] at h
    split at h
    · simp only [Bool.and_eq_true] at h
      exact s_ret ok h.1 h.2
    · cases h
  | .retM i, ro, X, st, ok, h => by
    simp only [cS] at h
    split at h
    · simp only [Bool.and_eq_true, decide_eq_true_eq] at h
      obtain ⟨v1, v2, v3⟩ := vis1_ok h.1
      exact s_retM v1 v2 v3 h.2
    · cases h
  | .ife c a b, ro, X, st, ok, h => by
    simp only [cS] at h
    split at h
    · simp only [Bool.and_eq_true] at h
      exact s_ife (eE c X _ ok.x h.1.1) (sSs a ro X _ ok h.1.2) (sSs b ro X _ ok h.2)
    · cases h
  | .forN tg it b, ro, X, st, ok, h => by
    simp only [cS] at h
    split at h
    · simp only [Bool.and_eq_true, List.all_eq_true, decide_eq_true_eq] at h
      obtain ⟨⟨⟨⟨h1, h2⟩, h3⟩, h4⟩, h5⟩ := h
      exact s_forN ok h1 (pg_ok ok.x.calm ok.x.nd (fun x _ => ok.fn x) h2) (sSs b ro X _ ok h3) h4 h5
    · cases h
  | .forF tg it b, ro, X, st, ok, h => by
    simp only [cS] at h
    split at h
    · simp only [Bool.and_eq_true, List.all_eq_true, decide_eq_true_eq] at h
      obtain ⟨⟨⟨h1, h2⟩, h3⟩, h4⟩ := h
      exact s_forF ok h1 (pg_ok ok.x.calm ok.x.nd (fun x _ => ok.fn x) h2) (sSs b _ X _ ok h3) h4
    · cases h
  | .whl c b, ro, X, st, ok, h => by
    simp only [cS] at h
    split at h
    · simp only [Bool.and_eq_true] at h
      exact s_whl ok (eE c X _ ok.x h.1) (sSs b ro X _ ok h.2)
    · cases h
  | .brk, ro, X, st, ok, h => by
    simp only [cS] at h
    split at h
    · exact s_brk
    · cases h
  | .cont, ro, X, st, ok, h => by
    simp only [cS] at h
    split at h
    · exact s_cont
    · cases h
  | .raise, ro, X, st, ok, h => s_raise
  | .pass, ro, X, st, ok, h => by
    simp only [cS] at h
    split at h
    · exact s_pass
    · cases h
theorem sSs : ∀ (m : Ss) (ro : List Nat) (X : Cx) (l : List Stmt), YOk B F X → cSs B X.N X.env.scope mu nw ro m l = true → PSs X l (tSt X.K B mu nw ro (evSs F m))
  | .nil, ro, X, l, ok, h => by
    simp only [cSs] at h
    cases l with
    | nil => exact ss_nil
    | cons x l => cases h
  | .cons s r, ro, X, l, ok, h => by
    simp only [cSs] at h
    cases l with
    | nil => cases h
    | cons x l =>
      simp only [Bool.and_eq_true] at h
      exact ss_cons (sS s ro X x ok h.1) (sSs r ro X l ok h.2)
end
end
end G
set_option Elab.async false
set_option linter.all false
set_option maxRecDepth 100000
set_option maxHeartbeats 4000000
/-! S5: defs; the law -/
namespace G
open PySem PySem.Spec PyProof.Rows L2
def scB (N P : List Str) (sc : Scope) : Bool := decide (sc.kind = .function) && !sc.isCoroutine && !sc.isGenerator && decide N.Nodup && decide (N.take P.length = P) && (P.all fun x => decide (sc.names.lookup x = some .local) || decide (sc.names.lookup x = some .cell)) && (sc.names.all fun y => decide (y.2 ≠ .free))
theorem scB_ok {N P : List Str} {sc : Scope} (h : scB N P sc = true) : FnScope N P sc := by
  simp only [scB, Bool.and_eq_true, decide_eq_true_eq, Bool.not_eq_true', List.all_eq_true, Bool.or_eq_true] at h
  obtain ⟨⟨⟨⟨⟨⟨h1, h2⟩, h3⟩, h4⟩, h5⟩, h6⟩, h7⟩ := h
  exact ⟨h1, h2, h3, h4, h5, h6, h7⟩
def chkD (B : Tab) (d : He.DefD) (fn : Fn) (N : List Str) : Bool := scB N (N.take fn.ps) d.scope && decide (N.length = fn.ns) && decide (fn.ps ≤ fn.ns) && (fn.mu.all fun i => decide (fn.ps ≤ i)) && cSs B N d.scope fn.mu fn.new [] fn.body d.body
structure Rg (B : Tab) (K : PySem.W.Frag) (mg : Str → Option Value) : Prop where
  fn : ∀ f fn, B.T f = some fn → ∃ (d : He.DefD) (N : List Str) (fd : FuncData), FunD K d.name d.qual d.params d.body d.scope [] [] (B.ad f) fd ∧ chkD B d fn N = true ∧ Binds K fd (N.take fn.ps) [] ∧ mg (B.nm f) = some (.ref (B.ad f))
  bl : ∀ x ∈ bnames, mg x = none
  gi : ∀ x i, (x, i) ∈ B.cs → ∃ u, mg x = some u ∧ RelV (.int i) u
section
variable {K : PySem.W.Frag} {B : Tab} {H : Hp} {A : Option Addr}
theorem Dens.each : ∀ {xs : List PV} {vs : List V} {fp : List Addr}, Dens K B H A xs vs fp → ∃ g : Nat → List Addr, (∀ i, ∀ a ∈ g i, a ∈ fp) ∧ (∀ i p, xs[i]? = some p → ∃ x, vs[i]? = some x ∧ Den K B H A p x (g i)) ∧ ∀ i, xs.length ≤ i → g i = []
  | [], _, _, d => ⟨fun _ => [], fun _ _ h => absurd h (by simp), fun i p h => by simp at h, fun _ _ => rfl⟩
  | x :: xs, _, _, d => by
    cases d with
    | cons h t =>
      rename_i y ys f f2
      obtain ⟨g, g1, g2, g3⟩ := t.each
      refine ⟨fun i => match i with
        | 0 => f
        | i + 1 => g i, fun i a ha => ?_, fun i p e => ?_, fun i hi => ?_⟩
      · cases i with
        | zero => exact List.mem_append_left _ ha
        | succ i => exact List.mem_append_right _ (g1 i a ha)
      · cases i with
        | zero =>
          simp at e
          subst e
          exact ⟨_, rfl, h⟩
        | succ i =>
          obtain ⟨y, e1, d1⟩ := g2 i p (by simpa using e)
          exact ⟨y, by simpa using e1, d1⟩
      · cases i with
        | zero => simp at hi
        | succ i => exact g3 i (by simpa using hi)
theorem getS_app {xs : List PV} {m i : Nat} {v : PV} (h : getS (xs.map some ++ List.replicate m none) i = some v) : xs[i]? = some v := by
  unfold getS at h
  split at h
  · rename_i w e
    cases h
    by_cases hi : i < xs.length
    · rw [List.getElem?_append_left (by simpa using hi), List.getElem?_map] at e
      cases q : xs[i]? with
      | none => rw [q] at e; cases e
      | some y => rw [q] at e; simp at e; rw [e]
    · rw [List.getElem?_append_right (by simpa using hi)] at e
      have := List.getElem?_eq_some_iff.mp e
      obtain ⟨h1, h2⟩ := this
      simp at h2
  · cases h
theorem start_get {N : List Str} {vs : List V} {i : Nat} {x : V} (h : vs[i]? = some x) : (L2.start N vs)[i]? = some (some x) := by
  unfold L2.start
  have hi := (List.getElem?_eq_some_iff.mp h).1
  rw [List.getElem?_append_left (by simpa using hi), List.getElem?_map, h]
  rfl
end
section
variable {P : Program} {w : World} {K : PySem.W.Frag} {mg : Str → Option Value} {base : Heap} {B : Tab}
/-- a body's context -/
theorem yok {n : Nat} {N : List Str} {qual : Str} {scope : Scope} {f : Addr} {cd : Value} {A : Around} {outer : List Env} {s : Shared} {H : Hp} {E : XK} (R : Rg B K mg) (nd : N.Nodup) (hk : scope.kind = .function) (hr : Room n (A.deeper (envOfC qual scope s.heap.objs.size f cd)))
    (ih : ∀ f fn d N fd, B.T f = some fn → FunD K d.name d.qual d.params d.body d.scope [] [] (B.ad f) fd → chkD B d fn N = true → FnOk P w K mg base CX0 n (B.ad f) fd (N.take fn.ps) (spF K B (sem B.T n) f)) :
    YOk B (sem B.T n) (cxOf CX0 P w K mg base N qual scope f cd A outer s H E).nox := by
  refine ⟨⟨rfl, nd, hr.mono (Nat.zero_le _), R.bl, R.gi, fun g xs t r e => ?_⟩, PassesOwn.never, fun _ => rfl, hk⟩
  have hT : ∃ fn, B.T g = some fn := by
    cases n with
    | zero => simp [sem, M.fail] at e
    | succ n =>
      unfold sem at e
      cases q : B.T g with
      | none => rw [q] at e; simp [M.fail] at e
      | some fn => exact ⟨fn, rfl⟩
  obtain ⟨fn, hT⟩ := hT
  obtain ⟨d, N', fd, h1, h2, h3, h4⟩ := R.fn g fn hT
  exact ⟨n, fd, N'.take fn.ps, ih g fn d N' fd hT h1 h2, hr, h4, h1.kp, h3⟩
theorem fn_ok (R : Rg B K mg) : ∀ (n : Nat) f fn d N fd, B.T f = some fn → FunD K d.name d.qual d.params d.body d.scope [] [] (B.ad f) fd → chkD B d fn N = true → FnOk P w K mg base CX0 n (B.ad f) fd (N.take fn.ps) (spF K B (sem B.T n) f)
  | 0, f, fn, d, N, fd, hT, hF, hc => by
    refine ⟨fun vs H Q E ⟨A, t, xs, fp, v, t', h1, h2, h3, h4, _⟩ => ?_, fun A outer s H args us vs Q E _ _ _ _ ⟨A', t, xs, fp, v, t', h1, h2, h3, h4, _⟩ => ?_⟩
    · simp [sem, M.fail] at h4
    · simp [sem, M.fail] at h4
  | n + 1, f, fn, d, N, fd, hT, hF, hc => by
    have hc' := hc
    simp only [chkD, Bool.and_eq_true, decide_eq_true_eq, List.all_eq_true] at hc'
    obtain ⟨⟨⟨⟨c1, c2⟩, c3⟩, c4⟩, c5⟩ := hc'
    have S := scB_ok c1
    have un : ∀ {xs : List PV} {t : Tn} {r : PV × Tn}, sem B.T (n + 1) f xs t = some r → xs.length = fn.ps ∧ ∃ q t1, evSs (sem B.T n) fn.body (xs.map some ++ List.replicate (fn.ns - fn.ps) none) t = some (q, t1) ∧ r.2 = t1 ∧ ((q = .rt r.1) ∨ (r.1 = .non ∧ ∃ ρ', q = .nx ρ')) := fun {xs t r} e => by
      unfold sem at e
      rw [hT] at e
      simp only at e
      split at e
      · rename_i hl
        rw [bnd_some] at e
        obtain ⟨q, t1, e1, e2⟩ := e
        refine ⟨hl, q, t1, e1, ?_⟩
        cases q with
        | rt v => simp only [ret_some] at e2; subst e2; exact ⟨rfl, .inl rfl⟩
        | nx ρ' => simp only [ret_some] at e2; subst e2; exact ⟨rfl, .inr ⟨rfl, _, rfl⟩⟩
        | bk ρ' => simp [M.fail] at e2
        | ct ρ' => simp [M.fail] at e2
      · simp [M.fail] at e
    refine hF.ok S (fun vs H Q E ⟨A, t, xs, fp, v, t', h1, h2, h3, h4, _⟩ => ?_) (fun cdv A outer s H vs Q E hr h => ?_)
    · obtain ⟨hl, _⟩ := un h4
      rw [← h1.len, hl, List.length_take]
      omega
    · have yk := yok (P := P) (w := w) (base := base) (f := B.ad f) (cd := cdv) (outer := outer) (s := s) (H := H) (E := E) R S.nd S.kind hr (fn_ok R n)
      refine ⟨_, PSs.nox (sSs fn.body [] _ d.body yk (mu := fn.mu) (nw := fn.new) c5), ?_⟩
      obtain ⟨A', t, xs, fp, v, t', h1, h2, h3, h4, h5⟩ := h
      obtain ⟨hl, q, t1, e1, e2, e3⟩ := un h4
      obtain ⟨g, g1, g2, g3⟩ := h1.each
      simp only at e2
      subst e2
      refine ⟨⟨fn.mu, fn.new, H, fp, A'⟩, _, t, q, t', g, rfl, rfl, ?_, e1, ?_⟩
      · have mu0 : ∀ i ∈ fn.mu, g i = [] := fun i hi => g3 i (by rw [hl]; exact c4 i hi)
        refine ⟨⟨?_, fun i p e => ?_, fun i a ha => ⟨h2 a (g1 i a ha), ?_⟩⟩, h3, Fr.refl, fun i a ha => .inr (g1 i a ha), fun i hi a ha => ?_, fun i hi => ?_⟩
        · show _ = (L2.start N vs).length
          unfold L2.start
          simp only [List.length_append, List.length_map, List.length_replicate]
          rw [← h1.len, hl, c2]
        · obtain ⟨x, e4, d4⟩ := g2 i p (getS_app e)
          exact ⟨x, start_get e4, d4⟩
        · by_cases hi : i < xs.length
          · obtain ⟨x, _, d4⟩ := g2 i _ (List.getElem?_eq_getElem hi)
            exact d4.ld a ha
          · rw [g3 i (by omega)] at ha
            simp at ha
        · rw [mu0 i hi] at ha; simp at ha
        · rw [mu0 i hi]; exact List.nodup_nil
      · rcases e3 with rfl | ⟨rfl, ρ', rfl⟩
        · intro x H' ⟨fp', k1, k2, k3, k4, k5, k6⟩
          exact h5 x H' fp' k1 k2 k3 k4 k5 fun z => k6 (by rw [hT] at z; exact z)
        · intro σ' H' fps' s' b'
          exact h5 .non H' [] s'.kp s'.tin .non (fun _ h => absurd h (by simp)) (fun _ h => absurd h (by simp)) fun _ _ _ h => absurd h (by simp)
end
end G
set_option Elab.async false
set_option linter.all false
set_option maxRecDepth 100000
set_option maxHeartbeats 4000000
/-! S6: the law's def -/
namespace G
open PySem PySem.Spec PyProof.Rows L2
def cL (B : Tab) (d : He.DefD) (fn : Fn) (N : List Str) (e0 : E) : Bool := scB N (N.take 1) d.scope && decide (N.length = fn.ns) && decide (2 ≤ fn.ns) && (match d.body with
  | .Assign [.Name y _] ex _ :: rest => decide (N[1]? = some y) && locB d.scope y && cV B N d.scope e0 ex && cSs B N d.scope fn.mu false [] fn.body rest
  | _ => false)
def LawSem (T : Nat → Option Fn) (n : Nat) (e0 : E) (fn : Fn) (ns : List Int) : Prop := ∃ a b c t', evE (sem T n) e0 ([PV.scr ns].map some ++ List.replicate (fn.ns - 1) none) none = some (.lst [.int a, .int b, .int c], none) ∧
  evSs (sem T n) fn.body ((List.replicate fn.ns none).set 1 (some .tin)) (some (a, b, c)) = some (.rt (.bl true), t')
def spLaw (K : PySem.W.Frag) : Sp := fun vs H Q _ => ∃ (a : Addr) (ns : List Int), vs = [.ref a] ∧ Only H ∧ SqL K H a (ns.map V.int) ∧ ns.length ≤ 63 ∧ ∀ H', Q (.bl true) H'
section
variable {P : Program} {w : World} {K : PySem.W.Frag} {mg : Str → Option Value} {base : Heap} {B : Tab}
theorem law_ok {n : Nat} {d : He.DefD} {fn : Fn} {N : List Str} {e0 : E} {f : Addr} {fd : FuncData} (R : Rg B K mg) (hF : FunD K d.name d.qual d.params d.body d.scope [] [] f fd) (hc : cL B d fn N e0 = true) (hs : ∀ ns : List Int, ns.length ≤ 63 → LawSem B.T n e0 fn ns) :
    FnOk P w K mg base CX0 (n + 1) f fd (N.take 1) (spLaw K) := by
  simp only [cL, Bool.and_eq_true, decide_eq_true_eq] at hc
  obtain ⟨⟨⟨c1, c2⟩, c3⟩, c4⟩ := hc
  have S := scB_ok c1
  refine hF.ok S (fun vs H Q E ⟨a, ns, e, _⟩ => ?_) (fun cdv A outer s H vs Q E hr h => ?_)
  · subst e
    rw [List.length_take]
    show 1 = _
    omega
  · have yk := yok (P := P) (w := w) (base := base) (f := f) (cd := cdv) (outer := outer) (s := s) (H := H) (E := E) R S.nd S.kind hr (fn_ok R n)
    split at c4
    · rename_i y py ex pos rest hb
      simp only [Bool.and_eq_true, decide_eq_true_eq] at c4
      obtain ⟨⟨⟨c5, c6⟩, c7⟩, c8⟩ := c4
      rw [hb]
      refine ⟨_, PSs.nox (pss_cons (ps_nm yk c5 c6 c7) (sSs fn.body [] _ rest yk (mu := fn.mu) (nw := false) c8)), ?_⟩
      obtain ⟨a, ns, rfl, hO, hS, hl, hQ⟩ := h
      obtain ⟨x1, x2, x3, t', e1, e2⟩ := hs ns hl
      have hSF : SqF K H a (ns.map V.int) := by
        rcases hS with (hS | hS) | hS
        · rcases hO a with z | ⟨o, xs, z⟩ <;> (rw [hS] at z; cases z)
        · exact .inl hS
        · exact .inr hS
      have nine : ∀ {α : Type} (l : List α), l ∈ [([] : List α)] → l = [] := fun l h => List.mem_singleton.mp h
      refine ⟨[PV.scr ns].map some ++ List.replicate (fn.ns - 1) none, none, _, none, none, fun _ => [], ⟨?_, fun i v e => ?_, fun i a ha => absurd ha (by simp)⟩, trivial, e1, fun x H1 fp p => ?_⟩
      · show _ = (L2.start N [V.ref a]).length
        unfold L2.start
        simp only [List.length_append, List.length_map, List.length_replicate, List.length_cons, List.length_nil]
        rw [c2]
      · have e3 := getS_app e
        cases i with
        | zero =>
          simp at e3
          subst e3
          exact ⟨.ref a, start_get rfl, .scr hSF (Nat.le_trans hl (by decide))⟩
        | succ i => simp at e3
      · obtain ⟨q, ys, f2, rfl, rfl, hq, _, ds⟩ := p.den.lstI
        have ei : ([.int x1, .int x2, .int x3] : List PV) = [x1, x2, x3].map .int := rfl
        rw [ei] at ds
        obtain ⟨e3, _⟩ := ds.ints
        subst e3
        refine ⟨⟨fn.mu, false, H1, [], some q⟩, _, some (x1, x2, x3), .rt (.bl true), t', fun _ => [], rfl, rfl, ⟨⟨?_, fun i v e => ?_, fun i a ha => absurd ha (by simp)⟩, hq, Fr.refl, fun i a ha => absurd ha (by simp), fun i _ a ha => absurd ha (by simp), fun i _ => List.nodup_nil⟩, e2, ?_⟩
        · simp only [List.length_set, List.length_replicate]
          show fn.ns = (L2.start N [V.ref a]).length
          unfold L2.start
          simp only [List.length_append, List.length_map, List.length_replicate, List.length_cons, List.length_nil]
          omega
        · have hi : i = 1 ∧ v = .tin := by
            unfold getS at e
            by_cases h1 : 1 = i
            · subst h1
              rw [List.getElem?_set_self (by rw [List.length_replicate]; omega)] at e
              exact ⟨rfl, by simpa using e.symm⟩
            · rw [List.getElem?_set_ne h1] at e
              split at e
              · rename_i w ew
                have := List.getElem?_eq_some_iff.mp ew
                obtain ⟨_, h2⟩ := this
                simp at h2
              · cases e
          obtain ⟨rfl, rfl⟩ := hi
          refine ⟨.ref q, ?_, .tin rfl⟩
          rw [List.getElem?_set_self]
          unfold L2.start
          simp only [List.length_append, List.length_map, List.length_replicate, List.length_cons, List.length_nil]
          omega
        · intro x H2 ⟨fp, _, _, d2, _⟩
          rw [d2.blI]
          exact hQ H2
    · cases c4
end
end G
namespace G
open PySem
def f_is_number : Fn := ⟨1, 1, [], false, (.cons (.ret (.and (.cons (.isi (.v 0) [.int]) (.cons (.not (.isi (.v 0) [.bool])) .nil)))) .nil)⟩
def N_f_is_number : List Str := ["thing"]
def f_is_within : Fn := ⟨3, 3, [], false, (.cons (.ret (.and (.cons (.call 166 (.cons (.v 0) .nil)) (.cons (.ch .le .le (.v 1) (.v 0) (.v 2)) .nil)))) .nil)⟩
def N_f_is_within : List Str := ["thing", "least", "most"]
def f_sure_within : Fn := ⟨3, 3, [], false, (.cons (.ife (.not (.call 190 (.cons (.v 0) (.cons (.v 1) (.cons (.v 2) .nil))))) (.cons .raise .nil) .nil) (.cons (.ret (.v 0)) .nil))⟩
def N_f_sure_within : List Str := ["thing", "least", "most"]
def f_is_long : Fn := ⟨2, 2, [], false, (.cons (.ret (.and (.cons (.isi (.v 0) [.tup]) (.cons (.cmp .eq (.b1 .len (.v 0)) (.v 1)) .nil)))) .nil)⟩
def N_f_is_long : List Str := ["thing", "length"]
def f_are_numbers : Fn := ⟨1, 2, [], false, (.cons (.ret (.and (.cons (.isi (.v 0) [.tup]) (.cons (.b1 .all (.comp (.call 166 (.cons (.v 1) .nil)) (.v 1) (.e (.v 0)) .tt)) .nil)))) .nil)⟩
def N_f_are_numbers : List Str := ["thing", "own"]
def f_is_set : Fn := ⟨1, 3, [], false, (.cons (.ret (.and (.cons (.call 83 (.cons (.v 0) .nil)) (.cons (.b1 .all (.comp (.cmp .lt (.v 1) (.v 2)) (.t2 (.v 1) (.v 2)) (.zip (.v 0) (.slL (.v 0) (.int 1))) .tt)) .nil)))) .nil)⟩
def N_f_is_set : List Str := ["thing", "near", "far"]
def f_tupled : Fn := ⟨1, 2, [], false, (.cons (.ret (.ite (.isi (.v 0) [.lst, .tup]) (.b1 .tuple (.comp (.call 278 (.cons (.v 1) .nil)) (.v 1) (.e (.v 0)) .tt)) (.v 0))) .nil)⟩
def N_f_tupled : List Str := ["value", "own"]
def f_is_tie : Fn := ⟨3, 3, [], false, (.cons (.ret (.and (.cons (.call 164 (.cons (.v 0) (.cons (.int 2) .nil))) (.cons (.call 190 (.cons (.idx (.v 0) (.int 0)) (.cons (.int 0) (.cons (.bin .sub (.v 1) (.int 1)) .nil)))) (.cons (.call 190 (.cons (.idx (.v 0) (.int 1)) (.cons (.int 0) (.cons (.bin .sub (.v 2) (.int 1)) .nil)))) .nil))))) .nil)⟩
def N_f_is_tie : List Str := ["thing", "lefts", "rights"]
def f_is_web_in : Fn := ⟨1, 4, [], false, (.cons (.ife (.or (.cons (.not (.call 164 (.cons (.v 0) (.cons (.int 3) .nil)))) (.cons (.not (.call 83 (.cons (.slH (.v 0) (.int 2)) .nil))) (.cons (.cmp .lt (.b1 .min (.slH (.v 0) (.int 2))) (.int 1)) (.cons (.not (.isi (.idx (.v 0) (.int 2)) [.tup])) .nil))))) (.cons (.ret (.bl false)) .nil) .nil) (.cons (.ife (.not (.b1 .all (.comp (.call 187 (.cons (.v 1) (.cons (.idx (.v 0) (.int 0)) (.cons (.idx (.v 0) (.int 1)) .nil)))) (.v 1) (.e (.idx (.v 0) (.int 2))) .tt))) (.cons (.ret (.bl false)) .nil) .nil) (.cons (.ret (.b1 .all (.comp (.cmp .le (.v 2) (.v 3)) (.t2 (.v 2) (.v 3)) (.zip (.idx (.v 0) (.int 2)) (.slL (.idx (.v 0) (.int 2)) (.int 1))) .tt))) .nil)))⟩
def N_f_is_web_in : List Str := ["thing", "own", "near", "far"]
def f_sure_web : Fn := ⟨1, 2, [], false, (.cons (.asg .n 1 (.call 278 (.cons (.v 0) .nil))) (.cons (.ife (.or (.cons (.not (.call 189 (.cons (.v 1) .nil))) (.cons (.cmp .gt (.b1 .max (.slH (.v 1) (.int 2))) (.gint "MOST_ENDS" 8)) (.cons (.cmp .gt (.b1 .len (.idx (.v 1) (.int 2))) (.gint "MOST_TIES" 24)) .nil)))) (.cons .raise .nil) .nil) (.cons (.ret (.v 1)) .nil)))⟩
def N_f_sure_web : List Str := ["value", "own"]
def f_is_lot_in : Fn := ⟨2, 3, [], false, (.cons (.ret (.and (.cons (.call 177 (.cons (.v 1) .nil)) (.cons (.b1 .all (.comp (.ch .le .lt (.int 0) (.v 2) (.b1 .len (.idx (.v 0) (.int 2)))) (.v 2) (.e (.v 1)) .tt)) .nil)))) .nil)⟩
def N_f_is_lot_in : List Str := ["web", "thing", "own"]
def f_sure_lot : Fn := ⟨2, 3, [], false, (.cons (.asg .n 2 (.call 278 (.cons (.v 1) .nil))) (.cons (.ife (.not (.call 165 (.cons (.v 0) (.cons (.v 2) .nil)))) (.cons .raise .nil) .nil) (.cons (.ret (.v 2)) .nil)))⟩
def N_f_sure_lot : List Str := ["web", "value", "own"]
def f_all_lot : Fn := ⟨1, 1, [], false, (.cons (.ret (.b1 .trng (.b1 .len (.idx (.v 0) (.int 2))))) .nil)⟩
def N_f_all_lot : List Str := ["web"]
def f_at_side : Fn := ⟨3, 6, [3], false, (.cons (.asg .mm 3 (.comp (.lst .nil) (.v 5) (.rng (.idx (.v 0) (.v 1))) .tt)) (.cons (.forN (.v 4) (.e (.v 2)) (.cons (.appI 3 (.idx (.idx (.idx (.v 0) (.int 2)) (.v 4)) (.v 1)) (.v 4)) .nil)) (.cons (.retM 3) .nil)))⟩
def N_f_at_side : List Str := ["web", "side", "lot", "found", "own", "end"]
def f_is_pairing_in : Fn := ⟨2, 4, [], false, (.cons (.forN (.v 2) (.e (.tup (.cons (.int 0) (.cons (.int 1) .nil)))) (.cons (.ife (.b1 .any (.comp (.cmp .gt (.b1 .len (.v 3)) (.int 1)) (.v 3) (.e (.call 88 (.cons (.v 0) (.cons (.v 2) (.cons (.v 1) .nil))))) .tt)) (.cons (.ret (.bl false)) .nil) .nil) .nil)) (.cons (.ret (.bl true)) .nil))⟩
def N_f_is_pairing_in : List Str := ["web", "lot", "side", "own"]
def f_is_pairing : Fn := ⟨2, 3, [], false, (.cons (.asg .n 2 (.call 265 (.cons (.v 0) .nil))) (.cons (.ret (.and (.cons (.call 165 (.cons (.v 2) (.cons (.v 1) .nil))) (.cons (.call 170 (.cons (.v 2) (.cons (.v 1) .nil))) .nil)))) .nil))⟩
def N_f_is_pairing : List Str := ["web", "thing", "own"]
def f_is_row_in : Fn := ⟨2, 3, [], false, (.cons (.ret (.and (.cons (.call 164 (.cons (.v 1) (.cons (.b1 .len (.idx (.v 0) (.int 2))) .nil))) (.cons (.b1 .all (.comp (.call 190 (.cons (.v 2) (.cons (.int 0) (.cons (.gint "MOST_COLOUR" 99) .nil)))) (.v 2) (.e (.v 1)) .tt)) .nil)))) .nil)⟩
def N_f_is_row_in : List Str := ["web", "thing", "own"]
def f_is_proper : Fn := ⟨2, 5, [], false, (.cons (.forN (.v 2) (.e (.tup (.cons (.int 0) (.cons (.int 1) .nil)))) (.cons (.forN (.v 3) (.e (.call 88 (.cons (.v 0) (.cons (.v 2) (.cons (.call 79 (.cons (.v 0) .nil)) .nil))))) (.cons (.ife (.cmp .lt (.b1 .lset (.comp (.idx (.v 1) (.v 4)) (.v 4) (.e (.v 3)) .tt)) (.b1 .len (.v 3))) (.cons (.ret (.bl false)) .nil) .nil) .nil)) .nil)) (.cons (.ret (.bl true)) .nil))⟩
def N_f_is_proper : List Str := ["web", "row", "side", "lot", "own"]
def f_is_colouring_in : Fn := ⟨2, 2, [], false, (.cons (.ret (.and (.cons (.call 175 (.cons (.v 0) (.cons (.v 1) .nil))) (.cons (.call 173 (.cons (.v 0) (.cons (.v 1) .nil))) .nil)))) .nil)⟩
def N_f_is_colouring_in : List Str := ["web", "thing"]
def f_sure_colouring : Fn := ⟨2, 3, [], false, (.cons (.asg .n 2 (.call 278 (.cons (.v 1) .nil))) (.cons (.ife (.not (.call 149 (.cons (.v 0) (.cons (.v 2) .nil)))) (.cons .raise .nil) .nil) (.cons (.ret (.v 2)) .nil)))⟩
def N_f_sure_colouring : List Str := ["web", "value", "own"]
def f_is_colouring : Fn := ⟨2, 2, [], false, (.cons (.ret (.call 149 (.cons (.call 265 (.cons (.v 0) .nil)) (.cons (.v 1) .nil)))) .nil)⟩
def N_f_is_colouring : List Str := ["web", "thing"]
def f_is_ahead : Fn := ⟨4, 4, [], false, (.cons (.ife (.and (.cons (.cmp .eq (.idx (.idx (.idx (.v 0) (.int 2)) (.v 2)) (.int 0)) (.idx (.idx (.idx (.v 0) (.int 2)) (.v 3)) (.int 0))) (.cons (.cmp .gt (.idx (.v 1) (.v 2)) (.idx (.v 1) (.v 3))) .nil))) (.cons (.ret (.bl true)) .nil) .nil) (.cons (.ret (.and (.cons (.cmp .eq (.idx (.idx (.idx (.v 0) (.int 2)) (.v 2)) (.int 1)) (.idx (.idx (.idx (.v 0) (.int 2)) (.v 3)) (.int 1))) (.cons (.cmp .lt (.idx (.v 1) (.v 2)) (.idx (.v 1) (.v 3))) .nil)))) .nil))⟩
def N_f_is_ahead : List Str := ["web", "row", "one", "other"]
def f_ahead_in : Fn := ⟨4, 5, [], false, (.cons (.ret (.b1 .len (.comp (.v 4) (.v 4) (.e (.v 2)) (.call 138 (.cons (.v 0) (.cons (.v 1) (.cons (.v 4) (.cons (.v 3) .nil)))))))) .nil)⟩
def N_f_ahead_in : List Str := ["web", "row", "lot", "tie", "own"]
def f_is_kernel_in : Fn := ⟨4, 6, [], false, (.cons (.ife (.or (.cons (.not (.b1 .all (.comp (.cmp .isin (.v 5) (.v 2)) (.v 5) (.e (.v 3)) .tt))) (.cons (.not (.call 170 (.cons (.v 0) (.cons (.v 3) .nil)))) .nil))) (.cons (.ret (.bl false)) .nil) .nil) (.cons (.ret (.b1 .all (.comp (.or (.cons (.cmp .isin (.v 4) (.v 3)) (.cons (.b1 .any (.comp (.call 138 (.cons (.v 0) (.cons (.v 1) (.cons (.v 5) (.cons (.v 4) .nil))))) (.v 5) (.e (.v 3)) .tt)) .nil))) (.v 4) (.e (.v 2)) .tt))) .nil))⟩
def N_f_is_kernel_in : List Str := ["web", "row", "lot", "thing", "tie", "own"]
def f_asked_in : Fn := ⟨4, 12, [4, 5, 6], false, (.cons (.asg .mm 4 (.comp (.b1 .sorted (.comp (.tup (.cons (.neg (.idx (.v 1) (.v 11))) (.cons (.v 11) .nil))) (.v 11) (.e (.v 10)) .tt)) (.v 10) (.e (.call 88 (.cons (.v 0) (.cons (.int 0) (.cons (.v 2) .nil))))) .tt)) (.cons (.par (.cons .m 5 .dct0 (.cons .m 6 (.rev (.b1 .list (.v 3))) .nil))) (.cons (.whl (.cmp .ne (.v 6) (.lst .nil)) (.cons (.pop 7 6) (.cons (.ife (.cmp .eq (.idx (.v 4) (.v 7)) (.lst .nil)) (.cons .cont .nil) .nil) (.cons (.popX 8 4 (.v 7) 1) (.cons (.asg .n 9 (.idx (.idx (.idx (.v 0) (.int 2)) (.v 8)) (.int 1))) (.cons (.ife (.cmp .notin (.v 9) (.v 5)) (.cons (.setI 5 (.v 9) (.v 8)) .nil) (.cons (.ife (.cmp .lt (.idx (.v 1) (.v 8)) (.idx (.v 1) (.idx (.v 5) (.v 9)))) (.cons (.app 6 (.idx (.idx (.idx (.v 0) (.int 2)) (.idx (.v 5) (.v 9))) (.int 0))) (.cons (.setI 5 (.v 9) (.v 8)) .nil)) (.cons (.app 6 (.v 7)) .nil)) .nil)) .nil)))))) (.cons (.ret (.b1 .tuple (.b1 .svals (.v 5)))) .nil))))⟩
def N_f_asked_in : List Str := ["web", "row", "lot", "order", "asks", "kept", "line", "left", "tie", "right", "its", "own"]
def f_kernel_in : Fn := ⟨3, 3, [], false, (.cons (.ret (.call 86 (.cons (.v 0) (.cons (.v 1) (.cons (.v 2) (.cons (.b1 .lrng (.idx (.v 0) (.int 0))) .nil)))))) .nil)⟩
def N_f_kernel_in : List Str := ["web", "row", "lot"]
def f_other_in : Fn := ⟨3, 7, [], false, (.cons (.asg .n 3 (.tup (.cons (.idx (.v 0) (.int 1)) (.cons (.idx (.v 0) (.int 0)) (.cons (.b1 .tuple (.comp (.tup (.cons (.v 6) (.cons (.v 5) .nil))) (.t2 (.v 5) (.v 6)) (.e (.idx (.v 0) (.int 2))) .tt)) .nil))))) (.cons (.ret (.call 86 (.cons (.v 3) (.cons (.b1 .tuple (.comp (.neg (.v 4)) (.v 4) (.e (.v 1)) .tt)) (.cons (.v 2) (.cons (.b1 .lrng (.idx (.v 0) (.int 1))) .nil)))))) .nil))⟩
def N_f_other_in : List Str := ["web", "row", "lot", "sides", "own", "left", "right"]
def f_sure_wishes : Fn := ⟨3, 5, [], false, (.cons (.asg .n 3 (.call 265 (.cons (.v 0) .nil))) (.cons (.asg .n 4 (.call 255 (.cons (.v 3) (.cons (.v 1) .nil)))) (.cons (.ret (.tup (.cons (.v 3) (.cons (.v 4) (.cons (.call 259 (.cons (.v 3) (.cons (.v 2) .nil))) .nil))))) .nil)))⟩
def N_f_sure_wishes : List Str := ["web", "colouring", "lot", "own", "row"]
def f_ahead : Fn := ⟨4, 7, [], false, (.cons (.unp (.t3 (.v 4) (.v 5) (.v 6)) (.call 266 (.cons (.v 0) (.cons (.v 1) (.cons (.v 2) .nil))))) (.cons (.ret (.call 75 (.cons (.v 4) (.cons (.v 5) (.cons (.v 6) (.cons (.call 267 (.cons (.v 3) (.cons (.int 0) (.cons (.bin .sub (.b1 .len (.idx (.v 4) (.int 2))) (.int 1)) .nil)))) .nil)))))) .nil))⟩
def N_f_ahead : List Str := ["web", "colouring", "lot", "tie", "own", "row", "its"]
def f_kernel : Fn := ⟨3, 6, [], false, (.cons (.unp (.t3 (.v 3) (.v 4) (.v 5)) (.call 266 (.cons (.v 0) (.cons (.v 1) (.cons (.v 2) .nil))))) (.cons (.ret (.call 192 (.cons (.v 3) (.cons (.v 4) (.cons (.v 5) .nil))))) .nil))⟩
def N_f_kernel : List Str := ["web", "colouring", "lot", "own", "row", "its"]
def f_other_kernel : Fn := ⟨3, 6, [], false, (.cons (.unp (.t3 (.v 3) (.v 4) (.v 5)) (.call 266 (.cons (.v 0) (.cons (.v 1) (.cons (.v 2) .nil))))) (.cons (.ret (.call 215 (.cons (.v 3) (.cons (.v 4) (.cons (.v 5) .nil))))) .nil))⟩
def N_f_other_kernel : List Str := ["web", "colouring", "lot", "own", "row", "its"]
def f_is_kernel : Fn := ⟨4, 7, [], false, (.cons (.unp (.t3 (.v 4) (.v 5) (.v 6)) (.call 266 (.cons (.v 0) (.cons (.v 1) (.cons (.v 2) .nil))))) (.cons (.ret (.and (.cons (.call 165 (.cons (.v 4) (.cons (.v 3) .nil))) (.cons (.call 158 (.cons (.v 4) (.cons (.v 5) (.cons (.v 6) (.cons (.v 3) .nil))))) .nil)))) .nil))⟩
def N_f_is_kernel : List Str := ["web", "colouring", "lot", "thing", "own", "row", "its"]
def f_is_list : Fn := ⟨1, 2, [], false, (.cons (.ret (.and (.cons (.call 177 (.cons (.v 0) .nil)) (.cons (.b1 .all (.comp (.ch .le .le (.int 0) (.v 1) (.gint "MOST_COLOUR" 99)) (.v 1) (.e (.v 0)) .tt)) .nil)))) .nil)⟩
def N_f_is_list : List Str := ["thing", "own"]
def f_is_lists_in : Fn := ⟨2, 3, [], false, (.cons (.ret (.and (.cons (.call 164 (.cons (.v 1) (.cons (.b1 .len (.idx (.v 0) (.int 2))) .nil))) (.cons (.b1 .all (.comp (.call 161 (.cons (.v 2) .nil)) (.v 2) (.e (.v 1)) .tt)) .nil)))) .nil)⟩
def N_f_is_lists_in : List Str := ["web", "thing", "own"]
def f_sure_lists : Fn := ⟨2, 3, [], false, (.cons (.asg .n 2 (.call 278 (.cons (.v 1) .nil))) (.cons (.ife (.not (.call 163 (.cons (.v 0) (.cons (.v 2) .nil)))) (.cons .raise .nil) .nil) (.cons (.ret (.v 2)) .nil)))⟩
def N_f_sure_lists : List Str := ["web", "value", "own"]
def f_is_from_in : Fn := ⟨3, 5, [], false, (.cons (.ret (.and (.cons (.call 149 (.cons (.v 0) (.cons (.v 2) .nil))) (.cons (.b1 .all (.comp (.cmp .isin (.v 3) (.v 4)) (.t2 (.v 3) (.v 4)) (.zip (.v 2) (.v 1)) .tt)) .nil)))) .nil)⟩
def N_f_is_from_in : List Str := ["web", "lists", "thing", "own", "its"]
def f_is_from_lists : Fn := ⟨3, 4, [], false, (.cons (.asg .n 3 (.call 265 (.cons (.v 0) .nil))) (.cons (.ret (.call 155 (.cons (.v 3) (.cons (.call 258 (.cons (.v 3) (.cons (.v 1) .nil))) (.cons (.v 2) .nil))))) .nil))⟩
def N_f_is_from_lists : List Str := ["web", "lists", "thing", "own"]
def f_asked_lengths : Fn := ⟨2, 5, [], false, (.cons (.asg .n 2 (.call 265 (.cons (.v 0) .nil))) (.cons (.asg .n 3 (.call 255 (.cons (.v 2) (.cons (.v 1) .nil)))) (.cons (.ret (.b1 .tuple (.comp (.bin .add (.call 75 (.cons (.v 2) (.cons (.v 3) (.cons (.call 79 (.cons (.v 2) .nil)) (.cons (.v 4) .nil))))) (.int 1)) (.v 4) (.e (.call 79 (.cons (.v 2) .nil))) .tt))) .nil)))⟩
def N_f_asked_lengths : List Str := ["web", "colouring", "own", "row", "tie"]
def f_law_box : Fn := ⟨2, 3, [], true, (.cons (.asg .n 2 (.ite (.cmp .lt (.v 1) (.b1 .len (.v 0))) (.idx (.v 0) (.v 1)) (.int 0))) (.cons (.ret (.lst (.cons (.bin .mul (.b1 .abs (.v 2)) (.b1 .int (.cmp .ge (.b1 .abs (.v 2)) (.bin .pow (.int 10) (.int 18))))) (.cons (.bin .add (.bin .add (.bin .mod (.b1 .int (.v 2)) (.int 2305843009213693951)) (.bin .mul (.int 39373) (.v 1))) (.int 25159025)) (.cons (.int 0) .nil))))) .nil))⟩
def N_f_law_box : List Str := ["script", "k", "bit_so"]
def f_law_take : Fn := ⟨2, 6, [], false, (.cons (.ife (.cmp .gt (.idx (.v 0) (.int 0)) (.int 0)) (.cons (.asg .n 5 (.bin .mod (.b1 .int (.idx (.v 0) (.int 0))) (.v 1))) (.cons (.setT 0 (.int 0) (.bin .fdiv (.idx (.v 0) (.int 0)) (.v 1))) (.cons (.ret (.v 5)) .nil))) .nil) (.cons (.setT 0 (.int 2) (.bin .add (.idx (.v 0) (.int 2)) (.int 1))) (.cons (.asg .n 2 (.bin .mod (.b1 .int (.bin .mul (.bin .add (.idx (.v 0) (.int 1)) (.bin .mul (.int 48271) (.idx (.v 0) (.int 2)))) (.bin .add (.int 39373) (.idx (.v 0) (.int 2))))) (.int 2147483647))) (.cons (.asg .n 3 (.bin .add (.bin .mod (.b1 .int (.v 2)) (.int 40009)) (.int 7))) (.cons (.asg .n 4 (.bin .mod (.b1 .int (.bin .mul (.bin .add (.bin .add (.v 2) (.idx (.v 0) (.int 2))) (.bin .fdiv (.idx (.v 0) (.int 1)) (.int 1000003))) (.v 3))) (.int 2147483629))) (.cons (.ret (.bin .mod (.b1 .int (.bin .fdiv (.bin .mod (.b1 .int (.bin .add (.bin .mul (.v 4) (.int 48271)) (.v 2))) (.int 2147483587)) (.int 64))) (.v 1))) .nil))))))⟩
def N_f_law_take : List Str := ["tin", "below_so", "once_so", "wide_so", "twice_so", "drawn_so"]
def f_law_cells : Fn := ⟨2, 6, [2], false, (.cons (.asg .m 2 (.orL (.b1 .list (.slH (.v 0) (.v 1))) (.lst (.cons (.int 0) .nil)))) (.cons (.forN (.t2 (.v 3) (.v 4)) (.enum (.slB (.v 0) (.v 1) (.int 63))) (.cons (.asg .n 5 (.bin .mod (.b1 .int (.v 3)) (.v 1))) (.cons (.setI 2 (.v 5) (.bin .add (.idx (.v 2) (.v 5)) (.bin .mul (.v 4) (.bin .add (.v 3) (.int 2))))) .nil))) (.cons (.retM 2) .nil)))⟩
def N_f_law_cells : List Str := ["script", "most_so", "cells_so", "k", "bit_so", "at_so"]
def f_law_of : Fn := ⟨2, 2, [], false, (.cons (.ret (.idx (.v 1) (.call 71 (.cons (.v 0) (.cons (.b1 .len (.v 1)) .nil))))) .nil)⟩
def N_f_law_of : List Str := ["tin", "goods_so"]
def f_law_pick : Fn := ⟨3, 6, [4, 5], false, (.cons (.par (.cons .m 4 (.b1 .list (.v 1)) (.cons .m 5 (.lst .nil) .nil))) (.cons (.forN (.v 3) (.rng (.mn2 (.b1 .int (.v 2)) (.b1 .len (.v 4)))) (.cons (.appPop 5 4 (.call 71 (.cons (.v 0) (.cons (.b1 .len (.v 4)) .nil)))) .nil)) (.cons (.retM 5) .nil)))⟩
def N_f_law_pick : List Str := ["tin", "goods_so", "count_so", "lap", "pool_so", "found"]
def f_law_same : Fn := ⟨2, 4, [], false, (.cons (.ife (.isi (.v 1) [.lst, .tup]) (.cons (.ife (.or (.cons (.cmp .ne (.isi (.v 0) [.lst]) (.isi (.v 1) [.lst])) (.cons (.cmp .ne (.isi (.v 0) [.tup]) (.isi (.v 1) [.tup])) .nil))) (.cons (.ret (.bl false)) .nil) .nil) (.cons (.ret (.and (.cons (.cmp .eq (.b1 .len (.v 0)) (.b1 .len (.v 1))) (.cons (.b1 .all (.comp (.call 64 (.cons (.v 2) (.cons (.v 3) .nil))) (.t2 (.v 2) (.v 3)) (.zip (.v 0) (.v 1)) .tt)) .nil)))) .nil)) .nil) (.cons (.ife (.cmp .isN (.v 1) .non) (.cons (.ret (.cmp .isN (.v 0) .non)) .nil) .nil) (.cons (.ife (.isi (.v 1) [.bool, .str]) (.cons (.ret (.and (.cons (.cmp .eq (.isi (.v 0) [.bool]) (.isi (.v 1) [.bool])) (.cons (.cmp .eq (.isi (.v 0) [.str]) (.isi (.v 1) [.str])) (.cons (.cmp .eq (.v 0) (.v 1)) .nil))))) .nil) .nil) (.cons (.ret (.and (.cons (.isi (.v 0) [.int]) (.cons (.not (.isi (.v 0) [.bool])) (.cons (.cmp .eq (.v 0) (.v 1)) .nil))))) .nil))))⟩
def N_f_law_same : List Str := ["got", "due", "mine", "its"]
def f_law_web : Fn := ⟨2, 10, [], false, (.cons (.par (.cons .n 4 (.bin .add (.int 1) (.call 71 (.cons (.v 0) (.cons (.int 5) .nil)))) (.cons .n 5 (.bin .add (.int 1) (.call 71 (.cons (.v 0) (.cons (.int 5) .nil)))) (.cons .n 6 (.call 71 (.cons (.v 0) (.cons (.int 5) .nil))) .nil)))) (.cons (.asg .n 2 (.lst .nil)) (.cons (.forN (.v 3) (.rng (.v 4)) (.cons (.asg .n 2 (.bin .add (.v 2) (.comp (.tup (.cons (.v 3) (.cons (.v 9) .nil))) (.v 9) (.rng (.v 5)) .tt))) .nil)) (.cons (.ife (.cmp .eq (.v 6) (.int 0)) (.cons (.asg .n 7 (.comp (.call 54 (.cons (.v 0) (.cons (.v 2) .nil))) (.v 8) (.rng (.call 71 (.cons (.v 0) (.cons (.bin .add (.v 1) (.int 1)) .nil)))) .tt)) .nil) (.cons (.ife (.cmp .eq (.v 6) (.int 1)) (.cons (.asg .n 7 (.slH (.v 2) (.v 1))) .nil) (.cons (.asg .n 7 (.call 58 (.cons (.v 0) (.cons (.v 2) (.cons (.call 71 (.cons (.v 0) (.cons (.bin .add (.v 1) (.int 1)) .nil))) .nil))))) .nil)) .nil)) (.cons (.ret (.tup (.cons (.v 4) (.cons (.v 5) (.cons (.b1 .tuple (.b1 .sorted (.v 7))) .nil))))) .nil)))))⟩
def N_f_law_web : List Str := ["tin", "most_so", "every_so", "a", "lefts_so", "rights_so", "kind_so", "pairs_so", "k", "b"]
def f_law_meet : Fn := ⟨3, 3, [], false, (.cons (.ret (.or (.cons (.cmp .eq (.idx (.idx (.idx (.v 0) (.int 2)) (.v 1)) (.int 0)) (.idx (.idx (.idx (.v 0) (.int 2)) (.v 2)) (.int 0))) (.cons (.cmp .eq (.idx (.idx (.idx (.v 0) (.int 2)) (.v 1)) (.int 1)) (.idx (.idx (.idx (.v 0) (.int 2)) (.v 2)) (.int 1))) .nil)))) .nil)⟩
def N_f_law_meet : List Str := ["web_so", "j", "k"]
def f_law_row : Fn := ⟨3, 9, [3], false, (.cons (.asg .m 3 (.lst .nil)) (.cons (.forN (.v 4) (.rng (.b1 .len (.idx (.v 1) (.int 2)))) (.cons (.asg .m 5 (.comp (.idx (.v 3) (.v 7)) (.v 7) (.rng (.v 4)) (.call 49 (.cons (.v 1) (.cons (.v 7) (.cons (.v 4) .nil)))))) (.cons (.asg .n 6 (.comp (.v 8) (.v 8) (.rng (.int 100)) (.cmp .notin (.v 8) (.v 5)))) (.cons (.app 3 (.idx (.v 6) (.call 71 (.cons (.v 0) (.cons (.v 2) .nil))))) .nil)))) (.cons (.ret (.b1 .tuple (.v 3))) .nil)))⟩
def N_f_law_row : List Str := ["tin", "web_so", "wide_so", "found", "k", "used_so", "free_so", "j", "own"]
def f_law_is_ahead : Fn := ⟨4, 4, [], false, (.cons (.ret (.or (.cons (.and (.cons (.cmp .eq (.idx (.idx (.idx (.v 0) (.int 2)) (.v 2)) (.int 0)) (.idx (.idx (.idx (.v 0) (.int 2)) (.v 3)) (.int 0))) (.cons (.cmp .gt (.idx (.v 1) (.v 2)) (.idx (.v 1) (.v 3))) .nil))) (.cons (.and (.cons (.cmp .eq (.idx (.idx (.idx (.v 0) (.int 2)) (.v 2)) (.int 1)) (.idx (.idx (.idx (.v 0) (.int 2)) (.v 3)) (.int 1))) (.cons (.cmp .lt (.idx (.v 1) (.v 2)) (.idx (.v 1) (.v 3))) .nil))) .nil)))) .nil)⟩
def N_f_law_is_ahead : List Str := ["web_so", "row_so", "j", "k"]
def f_law_ahead : Fn := ⟨4, 5, [], false, (.cons (.ret (.b1 .len (.comp (.int 1) (.v 4) (.e (.v 2)) (.call 24 (.cons (.v 0) (.cons (.v 1) (.cons (.v 4) (.cons (.v 3) .nil)))))))) .nil)⟩
def N_f_law_ahead : List Str := ["web_so", "row_so", "lot_so", "k", "j"]
def f_law_long_lists : Fn := ⟨5, 8, [5], false, (.cons (.asg .m 5 (.lst .nil)) (.cons (.forN (.v 6) (.rng (.b1 .len (.idx (.v 1) (.int 2)))) (.cons (.asg .n 7 (.bin .add (.bin .add (.call 0 (.cons (.v 1) (.cons (.v 2) (.cons (.b1 .trng (.b1 .len (.idx (.v 1) (.int 2)))) (.cons (.v 6) .nil))))) (.int 1)) (.call 71 (.cons (.v 0) (.cons (.bin .add (.v 4) (.int 1)) .nil))))) (.cons (.app 5 (.b1 .tuple (.b1 .sorted (.call 58 (.cons (.v 0) (.cons (.b1 .lrng (.v 3)) (.cons (.v 7) .nil))))))) .nil))) (.cons (.ret (.b1 .tuple (.v 5))) .nil)))⟩
def N_f_law_long_lists : List Str := ["tin", "web_so", "row_so", "pool_so", "more_so", "found", "k", "long_so"]
def N_law : List Str := ["script", "tin", "lap", "own", "n", "row_so", "lengths_so", "lists_so", "order_so", "c", "turn", "left_so", "found", "lot_so", "some_so", "k", "shows_so"]
def f_law : Fn := ⟨1, 17, [12, 16], false, (.cons (.forN (.v 2) (.rng (.int 4)) (.cons (.asg .n 3 (.call 73 (.cons (.v 1) (.cons (.int 14) .nil)))) (.cons (.asg .n 4 (.b1 .len (.idx (.v 3) (.int 2)))) (.cons (.asg .n 5 (.call 62 (.cons (.v 1) (.cons (.v 3) (.cons (.int 2) .nil))))) (.cons (.asg .n 6 (.call 87 (.cons (.v 3) (.cons (.v 5) .nil)))) (.cons (.asg .n 7 (.call 46 (.cons (.v 1) (.cons (.v 3) (.cons (.v 5) (.cons (.bin .add (.v 4) (.int 3)) (.cons (.int 1) .nil))))))) (.cons (.asg .n 8 (.call 58 (.cons (.v 1) (.cons (.b1 .lrng (.bin .add (.v 4) (.int 3))) (.cons (.bin .add (.v 4) (.int 3)) .nil))))) (.cons (.par (.cons .n 11 (.b1 .lrng (.v 4)) (.cons .m 12 (.bin .mul (.lst (.cons (.int 0) .nil)) (.v 4)) .nil))) (.cons (.forN (.v 9) (.e (.v 8)) (.cons (.asg .n 13 (.b1 .tuple (.comp (.v 15) (.v 15) (.e (.v 11)) (.cmp .isin (.v 9) (.idx (.v 7) (.v 15)))))) (.cons (.asg .n 14 (.ite (.cmp .eq (.call 71 (.cons (.v 1) (.cons (.int 2) .nil))) (.int 0)) (.call 191 (.cons (.v 3) (.cons (.v 5) (.cons (.v 13) .nil)))) (.call 216 (.cons (.v 3) (.cons (.v 5) (.cons (.v 13) .nil)))))) (.cons (.ife (.not (.call 64 (.cons (.call 157 (.cons (.v 3) (.cons (.v 5) (.cons (.v 13) (.cons (.v 14) .nil))))) (.cons (.bl true) .nil)))) (.cons (.ret (.bl false)) .nil) .nil) (.cons (.asg .n 11 (.comp (.v 15) (.v 15) (.e (.v 11)) (.cmp .notin (.v 15) (.v 14)))) (.cons (.forN (.v 15) (.e (.v 14)) (.cons (.setI 12 (.v 15) (.v 9)) .nil)) .nil)))))) (.cons (.ife (.or (.cons (.cmp .ne (.v 11) (.lst .nil)) (.cons (.not (.call 64 (.cons (.lst (.cons (.call 156 (.cons (.v 3) (.cons (.v 7) (.cons (.b1 .tuple (.v 12)) .nil)))) (.cons (.call 148 (.cons (.v 3) (.cons (.b1 .tuple (.v 12)) .nil))) .nil))) (.cons (.lst (.cons (.bl true) (.cons (.bl true) .nil))) .nil)))) .nil))) (.cons (.ret (.bl false)) .nil) .nil) (.cons (.par (.cons .n 11 (.b1 .lrng (.v 4)) (.cons .m 16 (.bin .mul (.lst (.cons (.int 0) .nil)) (.v 4)) (.cons .m 12 (.bin .mul (.lst (.cons (.int 0) .nil)) (.v 4)) .nil)))) (.cons (.forN (.v 10) (.rng (.bin .add (.bin .mul (.int 3) (.v 4)) (.int 3))) (.cons (.asg .n 13 (.b1 .tuple (.comp (.v 15) (.v 15) (.e (.v 11)) (.or (.cons (.cmp .gt (.call 71 (.cons (.v 1) (.cons (.int 3) .nil))) (.int 0)) (.cons (.cmp .ge (.v 10) (.bin .mul (.int 2) (.v 4))) .nil)))))) (.cons (.asg .n 14 (.call 191 (.cons (.v 3) (.cons (.v 5) (.cons (.v 13) .nil))))) (.cons (.forN (.v 15) (.e (.v 13)) (.cons (.setI 16 (.v 15) (.bin .add (.idx (.v 16) (.v 15)) (.int 1))) .nil)) (.cons (.forN (.v 15) (.e (.v 14)) (.cons (.setI 12 (.v 15) (.v 10)) .nil)) (.cons (.asg .n 11 (.comp (.v 15) (.v 15) (.e (.v 11)) (.cmp .notin (.v 15) (.v 14)))) (.cons (.ife (.cmp .ne (.comp (.v 15) (.v 15) (.e (.v 11)) (.cmp .ge (.idx (.v 16) (.v 15)) (.idx (.v 6) (.v 15)))) (.lst .nil)) (.cons (.ret (.bl false)) .nil) .nil) (.cons (.ife (.cmp .ne (.comp (.v 15) (.v 15) (.e (.slH (.v 11) (.int 6))) (.cmp .lt (.bin .sub (.bin .sub (.idx (.v 6) (.v 15)) (.int 1)) (.call 74 (.cons (.v 3) (.cons (.v 5) (.cons (.b1 .tuple (.v 11)) (.cons (.v 15) .nil)))))) (.idx (.v 16) (.v 15)))) (.lst .nil)) (.cons (.ret (.bl false)) .nil) .nil) (.cons (.ife (.not (.call 64 (.cons (.call 169 (.cons (.v 3) (.cons (.v 14) .nil))) (.cons (.bl true) .nil)))) (.cons (.ret (.bl false)) .nil) .nil) .nil))))))))) (.cons (.ife (.or (.cons (.cmp .ne (.v 11) (.lst .nil)) (.cons (.and (.cons (.cmp .gt (.v 4) (.int 0)) (.cons (.cmp .lt (.b1 .max (.v 12)) (.int 100)) (.cons (.not (.call 64 (.cons (.call 148 (.cons (.v 3) (.cons (.b1 .tuple (.v 12)) .nil))) (.cons (.bl true) .nil)))) .nil)))) .nil))) (.cons (.ret (.bl false)) .nil) .nil) (.cons (.ife (.cmp .ne (.comp (.v 15) (.v 15) (.rng (.v 4)) (.cmp .gt (.idx (.v 16) (.v 15)) (.idx (.v 6) (.v 15)))) (.lst .nil)) (.cons (.ret (.bl false)) .nil) .nil) .nil)))))))))))))) (.cons (.ret (.bl true)) .nil))⟩
def T : Nat → Option Fn := fun n => match n with
  | 166 => some f_is_number
  | 190 => some f_is_within
  | 267 => some f_sure_within
  | 164 => some f_is_long
  | 83 => some f_are_numbers
  | 177 => some f_is_set
  | 278 => some f_tupled
  | 187 => some f_is_tie
  | 189 => some f_is_web_in
  | 265 => some f_sure_web
  | 165 => some f_is_lot_in
  | 259 => some f_sure_lot
  | 79 => some f_all_lot
  | 88 => some f_at_side
  | 170 => some f_is_pairing_in
  | 169 => some f_is_pairing
  | 175 => some f_is_row_in
  | 173 => some f_is_proper
  | 149 => some f_is_colouring_in
  | 255 => some f_sure_colouring
  | 148 => some f_is_colouring
  | 138 => some f_is_ahead
  | 75 => some f_ahead_in
  | 158 => some f_is_kernel_in
  | 86 => some f_asked_in
  | 192 => some f_kernel_in
  | 215 => some f_other_in
  | 266 => some f_sure_wishes
  | 74 => some f_ahead
  | 191 => some f_kernel
  | 216 => some f_other_kernel
  | 157 => some f_is_kernel
  | 161 => some f_is_list
  | 163 => some f_is_lists_in
  | 258 => some f_sure_lists
  | 155 => some f_is_from_in
  | 156 => some f_is_from_lists
  | 87 => some f_asked_lengths
  | 9 => some f_law_box
  | 71 => some f_law_take
  | 12 => some f_law_cells
  | 54 => some f_law_of
  | 58 => some f_law_pick
  | 64 => some f_law_same
  | 73 => some f_law_web
  | 49 => some f_law_meet
  | 62 => some f_law_row
  | 24 => some f_law_is_ahead
  | 0 => some f_law_ahead
  | 46 => some f_law_long_lists
  | _ => none
def nm : Nat → Str := fun n => match n with
  | 166 => "is_number"
  | 190 => "is_within"
  | 267 => "sure_within"
  | 164 => "is_long"
  | 83 => "are_numbers"
  | 177 => "is_set"
  | 278 => "tupled"
  | 187 => "is_tie"
  | 189 => "is_web_in"
  | 265 => "sure_web"
  | 165 => "is_lot_in"
  | 259 => "sure_lot"
  | 79 => "all_lot"
  | 88 => "at_side"
  | 170 => "is_pairing_in"
  | 169 => "is_pairing"
  | 175 => "is_row_in"
  | 173 => "is_proper"
  | 149 => "is_colouring_in"
  | 255 => "sure_colouring"
  | 148 => "is_colouring"
  | 138 => "is_ahead"
  | 75 => "ahead_in"
  | 158 => "is_kernel_in"
  | 86 => "asked_in"
  | 192 => "kernel_in"
  | 215 => "other_in"
  | 266 => "sure_wishes"
  | 74 => "ahead"
  | 191 => "kernel"
  | 216 => "other_kernel"
  | 157 => "is_kernel"
  | 161 => "is_list"
  | 163 => "is_lists_in"
  | 258 => "sure_lists"
  | 155 => "is_from_in"
  | 156 => "is_from_lists"
  | 87 => "asked_lengths"
  | 9 => "_law_box"
  | 71 => "_law_take"
  | 12 => "_law_cells"
  | 54 => "_law_of"
  | 58 => "_law_pick"
  | 64 => "_law_same"
  | 73 => "_law_web"
  | 49 => "_law_meet"
  | 62 => "_law_row"
  | 24 => "_law_is_ahead"
  | 0 => "_law_ahead"
  | 46 => "_law_long_lists"
  | _ => ""
def cs : List (Str × Int) := [("MOST_ENDS", 8), ("MOST_TIES", 24), ("MOST_COLOUR", 99)]
def e0 : E := .call 9 (.cons (.call 12 (.cons (.v 0) (.cons (.int 1) .nil))) (.cons (.int 0) .nil))
end G
set_option Elab.async false
set_option linter.all false
set_option maxRecDepth 100000
set_option maxHeartbeats 4000000
/-! P0: reckoning with sem -/
namespace G
open PySem
def fin : Fl → M PV
  | .rt v => M.ret v
  | .nx _ => M.ret .non
  | _ => M.fail
theorem sem_call {T : Nat → Option Fn} {f : Nat} {fn : Fn} {xs : List PV} (h : T f = some fn) (hl : xs.length = fn.ps) (n : Nat) : sem T (n + 1) f xs = M.bnd (evSs (sem T n) fn.body (xs.map some ++ List.replicate (fn.ns - fn.ps) none)) fin := by
  funext t
  unfold sem
  rw [h]
  simp only
  rw [if_pos hl]
  congr 1
theorem bnd_ret {α β : Type} (a : α) (f : α → M β) : M.bnd (M.ret a) f = f a := by
  funext t
  rfl
theorem lift_ret {α : Type} (a : α) : M.lift (some a) = M.ret a := by
  funext t
  rfl
theorem chk_ret : M.chk true = M.ret () := by
  funext t
  rfl
theorem asBl_bl (b : Bool) : asBl (.bl b) = M.ret b := by
  funext t
  rfl
theorem asI_int (i : Int) : asI (.int i) = M.ret i := by
  funext t
  rfl
theorem bnd_bnd {α β γ : Type} (m : M α) (f : α → M β) (g : β → M γ) : M.bnd (M.bnd m f) g = M.bnd m fun a => M.bnd (f a) g := by
  funext t
  unfold M.bnd
  cases m t <;> rfl
theorem getS_0 (a : Option PV) (l : Slots) : getS (a :: l) 0 = a := by
  cases a <;> rfl
theorem getS_s (a : Option PV) (l : Slots) (i : Nat) : getS (a :: l) (i + 1) = getS l i := by
  unfold getS
  simp
theorem setS_0 (a : Option PV) (l : Slots) (v : PV) : setS (a :: l) 0 v = some v :: l := by
  cases a <;> rfl
theorem setS_s (a : Option PV) (l : Slots) (i : Nat) (v : PV) : setS (a :: l) (i + 1) v = a :: setS l i v := by
  cases a <;> rfl
/-- a comprehension of a plain function -/
theorem compGo_ret {f : PV → M (Option PV)} {g : PV → Option PV} : ∀ {xs : List PV}, (∀ x ∈ xs, f x = M.ret (g x)) → compGo f xs = M.ret (xs.filterMap g)
  | [], _ => rfl
  | x :: xs, h => by
    rw [compGo, h x List.mem_cons_self, bnd_ret, compGo_ret fun y hy => h y (List.mem_cons_of_mem _ hy), bnd_ret, List.filterMap_cons]
    cases g x <;> rfl
theorem compGo_map {f : PV → M (Option PV)} {g : PV → PV} {xs : List PV} (h : ∀ x ∈ xs, f x = M.ret (some (g x))) : compGo f xs = M.ret (xs.map g) := by
  rw [compGo_ret (g := fun x => some (g x)) h]
  simp
theorem asBls_map : ∀ bs : List Bool, asBls (bs.map .bl) = some bs
  | [] => rfl
  | b :: bs => by simp [asBls, asBls_map bs]
theorem asInts_map : ∀ bs : List Int, asInts (bs.map .int) = some bs
  | [] => rfl
  | b :: bs => by simp [asInts, asInts_map bs]
theorem range_nv (k : Nat) : ((List.range k).map fun (i : Nat) => PV.int (0 + (i : Int))) = (List.range k).map fun (i : Nat) => PV.int (i : Int) := by simp
theorem atI_nat {α : Type} (xs : List α) (k : Nat) : L2.atI xs (k : Int) = xs[k]? := by
  unfold L2.atI L2.ixN
  rw [if_pos (by omega)]
  by_cases h : (k : Int) < xs.length
  · rw [if_pos h]
    simp
  · rw [if_neg h]
    rw [List.getElem?_eq_none (by omega)]
    rfl
theorem atIx_nat {n k : Nat} (h : k < n) : L2.ixN n (k : Int) = some k := by
  unfold L2.ixN
  rw [if_pos (by omega), if_pos (by omega)]
  simp
end G
set_option Elab.async false
set_option linter.all false
set_option maxRecDepth 100000
set_option maxHeartbeats 4000000
/-! P1: what the program's small defs are worth on good values -/
namespace G
open PySem
theorem asLs_lst (xs : List PV) : asLs (.lst xs) = M.ret xs := by
  funext t
  rfl
theorem asIt_lst (xs : List PV) : asIt (.lst xs) = M.ret xs := by
  funext t
  rfl
theorem asIt_tup (xs : List PV) : asIt (.tup xs) = M.ret xs := by
  funext t
  rfl
abbrev nv (k : Nat) : PV := .int (k : Int)
def tieV (p : Nat × Nat) : PV := .tup [nv p.1, nv p.2]
def webV (l r : Nat) (ts : List (Nat × Nat)) : PV := .tup [nv l, nv r, .tup (ts.map tieV)]
def rowV (row : List Int) : PV := .tup (row.map .int)
def lotV (lot : List Nat) : PV := .tup (lot.map nv)
def lotL (lot : List Nat) : PV := .lst (lot.map nv)
theorem idx_tup {xs : List PV} {k : Nat} {v : PV} (h : xs[k]? = some v) : idxop (.tup xs) (nv k) = M.ret v := by
  funext t
  simp only [idxop, asIo, at', atI_nat, h]
  rfl
theorem idx_lst {xs : List PV} {k : Nat} {v : PV} (h : xs[k]? = some v) : idxop (.lst xs) (nv k) = M.ret v := by
  funext t
  simp only [idxop, asIo, at', atI_nat, h]
  rfl
theorem idx_t0 (a : PV) (l : List PV) : idxop (.tup (a :: l)) (.int 0) = M.ret a := idx_tup (k := 0) rfl
theorem idx_t1 (a b : PV) (l : List PV) : idxop (.tup (a :: b :: l)) (.int 1) = M.ret b := idx_tup (k := 1) rfl
theorem idx_t2 (a b c : PV) (l : List PV) : idxop (.tup (a :: b :: c :: l)) (.int 2) = M.ret c := idx_tup (k := 2) rfl
theorem is_number_int (n : Nat) (i : Int) : sem T (n + 1) 166 [.int i] = M.ret (.bl true) := by
  rw [sem_call (fn := f_is_number) rfl rfl]
  simp only [f_is_number, evSs, evS, evE, evEs, evAnd, evOr, evI, evPs, setAll, getS_0, getS_s, setS_0, setS_s, lift_ret, bnd_ret, bnd_bnd, chk_ret, asBl_bl, asI_int, fin, idx_t0, idx_t1, idx_t2, asLs_lst, asIt_lst, asIt_tup, List.map_cons, List.map_nil, List.replicate, List.cons_append, List.nil_append, tyIs]
  rfl
theorem is_within_ok (n : Nat) (i a b : Int) (h1 : a ≤ i) (h2 : i ≤ b) : sem T (n + 2) 190 [.int i, .int a, .int b] = M.ret (.bl true) := by
  rw [sem_call (fn := f_is_within) rfl rfl]
  simp [f_is_within, evSs, evS, evE, evEs, evAnd, evOr, evI, evPs, setAll, getS_0, getS_s, setS_0, setS_s, lift_ret, bnd_ret, bnd_bnd, chk_ret, asBl_bl, asI_int, fin, idx_t0, idx_t1, idx_t2, asLs_lst, asIt_lst, asIt_tup, List.map_cons, List.map_nil, List.replicate, List.cons_append, List.nil_append, is_number_int, cmpop, leop, h1, h2]
theorem sure_within_ok (n : Nat) (i a b : Int) (h1 : a ≤ i) (h2 : i ≤ b) : sem T (n + 3) 267 [.int i, .int a, .int b] = M.ret (.int i) := by
  rw [sem_call (fn := f_sure_within) rfl rfl]
  simp [f_sure_within, evSs, evS, evE, evEs, evAnd, evOr, evI, evPs, setAll, getS_0, getS_s, setS_0, setS_s, lift_ret, bnd_ret, bnd_bnd, chk_ret, asBl_bl, asI_int, fin, idx_t0, idx_t1, idx_t2, asLs_lst, asIt_lst, asIt_tup, List.map_cons, List.map_nil, List.replicate, List.cons_append, List.nil_append, is_within_ok n i a b h1 h2]
theorem is_long_ok (n : Nat) (xs : List PV) (k : Int) (h : (xs.length : Int) = k) : sem T (n + 1) 164 [.tup xs, .int k] = M.ret (.bl true) := by
  rw [sem_call (fn := f_is_long) rfl rfl]
  simp [f_is_long, evSs, evS, evE, evEs, evAnd, evOr, evI, evPs, setAll, getS_0, getS_s, setS_0, setS_s, lift_ret, bnd_ret, bnd_bnd, chk_ret, asBl_bl, asI_int, fin, idx_t0, idx_t1, idx_t2, asLs_lst, asIt_lst, asIt_tup, List.map_cons, List.map_nil, List.replicate, List.cons_append, List.nil_append, tyIs, b1op, cmpop, eqop, h]
theorem all_ok (k : Nat) : b1op .all (.lst (List.replicate k (.bl true))) = some (.bl true) := by
  have e : List.replicate k (PV.bl true) = (List.replicate k true).map .bl := by simp
  rw [e]
  have e2 : (List.replicate k true).all id = true := List.all_eq_true.mpr fun x hx => List.eq_of_mem_replicate hx
  simp only [b1op, asBls_map, Option.map_some, e2]
theorem any_ok (bs : List Bool) : b1op .any (.lst (bs.map .bl)) = some (.bl (bs.any id)) := by
  simp only [b1op, asBls_map, Option.map_some]
theorem alls_ok (bs : List Bool) : b1op .all (.lst (bs.map .bl)) = some (.bl (bs.all id)) := by
  simp only [b1op, asBls_map, Option.map_some]
/-- [e for v in xs], all of them true -/
theorem compGo_true {f : PV → M (Option PV)} {xs : List PV} (h : ∀ x ∈ xs, f x = M.ret (some (.bl true))) : compGo f xs = M.ret (List.replicate xs.length (.bl true)) := by
  rw [compGo_map (g := fun _ => .bl true) h, List.map_const']
theorem are_numbers_ok (n : Nat) (is : List Int) : sem T (n + 2) 83 [.tup (is.map .int)] = M.ret (.bl true) := by
  rw [sem_call (fn := f_are_numbers) rfl rfl]
  simp only [f_are_numbers, evSs, evS, evE, evEs, evAnd, evOr, evI, evPs, setAll, getS_0, getS_s, setS_0, setS_s, lift_ret, bnd_ret, bnd_bnd, chk_ret, asBl_bl, asI_int, fin, idx_t0, idx_t1, idx_t2, asLs_lst, asIt_lst, asIt_tup, List.map_cons, List.map_nil, List.replicate, List.cons_append, List.nil_append, Tg.slots, wipeS, bindT, List.set_cons_zero, List.set_cons_succ, tyIs, List.any_cons, List.any_nil]
  rw [compGo_true (fun x hx => ?_)]
  · simp [evSs, evS, evE, evEs, evAnd, evOr, evI, evPs, setAll, getS_0, getS_s, setS_0, setS_s, lift_ret, bnd_ret, bnd_bnd, chk_ret, asBl_bl, asI_int, fin, idx_t0, idx_t1, idx_t2, asLs_lst, asIt_lst, asIt_tup, List.map_cons, List.map_nil, List.replicate, List.cons_append, List.nil_append, all_ok]
  · obtain ⟨i, _, rfl⟩ := List.mem_map.mp hx
    simp [evSs, evS, evE, evEs, evAnd, evOr, evI, evPs, setAll, getS_0, getS_s, setS_0, setS_s, lift_ret, bnd_ret, bnd_bnd, chk_ret, asBl_bl, asI_int, fin, idx_t0, idx_t1, idx_t2, asLs_lst, asIt_lst, asIt_tup, List.map_cons, List.map_nil, List.replicate, List.cons_append, List.nil_append, is_number_int]
/-- neighbours -/
theorem zip_tail {R : PV → PV → Prop} : ∀ {xs : List PV}, xs.Pairwise R → ∀ p ∈ zipPV xs xs.tail, ∃ x y, p = .tup [x, y] ∧ R x y
  | [], _, p, h => by simp [zipPV] at h
  | [_], _, p, h => by simp [zipPV] at h
  | x :: y :: xs, hp, p, h => by
    rw [List.tail_cons, zipPV] at h
    rcases List.mem_cons.mp h with rfl | h
    · exact ⟨x, y, rfl, (List.pairwise_cons.mp hp).1 y List.mem_cons_self⟩
    · exact zip_tail (List.pairwise_cons.mp hp).2 p h
theorem cut_1 (xs : List PV) : cut xs (some 1) none = xs.tail := by
  unfold cut
  cases xs with
  | nil => rfl
  | cons x xs =>
    have e1 : HT.sIx (x :: xs).length 0 (some 1) = 1 := by simp [HT.sIx]
    have e2 : HT.sIx (x :: xs).length (x :: xs).length none = (x :: xs).length := rfl
    rw [e1, e2]
    simp
theorem cut_2 (a b : PV) (xs : List PV) : cut (a :: b :: xs) none (some 2) = [a, b] := by
  unfold cut
  have e1 : HT.sIx (a :: b :: xs).length 0 none = 0 := rfl
  have e2 : HT.sIx (a :: b :: xs).length (a :: b :: xs).length (some 2) = 2 := by simp [HT.sIx]
  rw [e1, e2]
  simp
theorem is_set_ok (n : Nat) (is : List Int) (h : is.Pairwise (· < ·)) : sem T (n + 3) 177 [.tup (is.map .int)] = M.ret (.bl true) := by
  rw [sem_call (fn := f_is_set) rfl rfl]
  simp only [f_is_set, evSs, evS, evE, evEs, evAnd, evOr, evI, evPs, setAll, getS_0, getS_s, setS_0, setS_s, lift_ret, bnd_ret, bnd_bnd, chk_ret, asBl_bl, asI_int, fin, idx_t0, idx_t1, idx_t2, asLs_lst, asIt_lst, asIt_tup, List.map_cons, List.map_nil, List.replicate, List.cons_append, List.nil_append, Tg.slots, wipeS, bindT, List.set_cons_zero, List.set_cons_succ, are_numbers_ok, slop, cut_1, zipop, if_true]
  rw [compGo_true (fun x hx => ?_)]
  · simp [evSs, evS, evE, evEs, evAnd, evOr, evI, evPs, setAll, getS_0, getS_s, setS_0, setS_s, lift_ret, bnd_ret, bnd_bnd, chk_ret, asBl_bl, asI_int, fin, idx_t0, idx_t1, idx_t2, asLs_lst, asIt_lst, asIt_tup, List.map_cons, List.map_nil, List.replicate, List.cons_append, List.nil_append, all_ok]
  · obtain ⟨a, b, rfl, i, j, rfl, rfl, hlt⟩ := zip_tail (R := fun x y => ∃ i j : Int, x = .int i ∧ y = .int j ∧ i < j) (List.pairwise_map.mpr (h.imp fun {a b} z => ⟨a, b, rfl, rfl, z⟩)) x hx
    simp [evSs, evS, evE, evEs, evAnd, evOr, evI, evPs, setAll, getS_0, getS_s, setS_0, setS_s, lift_ret, bnd_ret, bnd_bnd, chk_ret, asBl_bl, asI_int, fin, idx_t0, idx_t1, idx_t2, asLs_lst, asIt_lst, asIt_tup, List.map_cons, List.map_nil, List.replicate, List.cons_append, List.nil_append, Tg.slots, wipeS, bindT, List.set_cons_zero, List.set_cons_succ, cmpop, ltop, hlt]
theorem is_tie_ok (n l r : Nat) (p : Nat × Nat) (h1 : p.1 < l) (h2 : p.2 < r) : sem T (n + 3) 187 [tieV p, nv l, nv r] = M.ret (.bl true) := by
  rw [sem_call (fn := f_is_tie) rfl rfl]
  have e1 := is_within_ok n (p.1 : Int) 0 ((l : Int) - 1) (by omega) (by omega)
  have e2 := is_within_ok n (p.2 : Int) 0 ((r : Int) - 1) (by omega) (by omega)
  simp [f_is_tie, tieV, evSs, evS, evE, evEs, evAnd, evOr, evI, evPs, setAll, getS_0, getS_s, setS_0, setS_s, lift_ret, bnd_ret, bnd_bnd, chk_ret, asBl_bl, asI_int, fin, idx_t0, idx_t1, idx_t2, asLs_lst, asIt_lst, asIt_tup, List.map_cons, List.map_nil, List.replicate, List.cons_append, List.nil_append, is_long_ok, binop, e1, e2]
def tupdB : Nat → PV → Bool
  | _, .non => true
  | _, .bl _ => true
  | _, .int _ => true
  | n + 1, .tup xs => xs.all (tupdB n)
  | _, _ => false
theorem tupled_ok : ∀ (d n : Nat) (v : PV), tupdB d v = true → sem T (n + d + 1) 278 [v] = M.ret v
  | d, n, .non, _ => by
    rw [sem_call (fn := f_tupled) rfl rfl]
    simp [f_tupled, evSs, evS, evE, evEs, evAnd, evOr, evI, evPs, setAll, getS_0, getS_s, setS_0, setS_s, lift_ret, bnd_ret, bnd_bnd, chk_ret, asBl_bl, asI_int, fin, idx_t0, idx_t1, idx_t2, asLs_lst, asIt_lst, asIt_tup, List.map_cons, List.map_nil, List.replicate, List.cons_append, List.nil_append, tyIs]
  | d, n, .bl b, _ => by
    rw [sem_call (fn := f_tupled) rfl rfl]
    simp [f_tupled, evSs, evS, evE, evEs, evAnd, evOr, evI, evPs, setAll, getS_0, getS_s, setS_0, setS_s, lift_ret, bnd_ret, bnd_bnd, chk_ret, asBl_bl, asI_int, fin, idx_t0, idx_t1, idx_t2, asLs_lst, asIt_lst, asIt_tup, List.map_cons, List.map_nil, List.replicate, List.cons_append, List.nil_append, tyIs]
  | d, n, .int i, _ => by
    rw [sem_call (fn := f_tupled) rfl rfl]
    simp [f_tupled, evSs, evS, evE, evEs, evAnd, evOr, evI, evPs, setAll, getS_0, getS_s, setS_0, setS_s, lift_ret, bnd_ret, bnd_bnd, chk_ret, asBl_bl, asI_int, fin, idx_t0, idx_t1, idx_t2, asLs_lst, asIt_lst, asIt_tup, List.map_cons, List.map_nil, List.replicate, List.cons_append, List.nil_append, tyIs]
  | 0, n, .tup xs, h => by simp [tupdB] at h
  | d + 1, n, .tup xs, h => by
    rw [sem_call (fn := f_tupled) rfl rfl]
    simp only [f_tupled, evSs, evS, evE, evEs, evAnd, evOr, evI, evPs, setAll, getS_0, getS_s, setS_0, setS_s, lift_ret, bnd_ret, bnd_bnd, chk_ret, asBl_bl, asI_int, fin, idx_t0, idx_t1, idx_t2, asLs_lst, asIt_lst, asIt_tup, List.map_cons, List.map_nil, List.replicate, List.cons_append, List.nil_append, Tg.slots, wipeS, bindT, List.set_cons_zero, List.set_cons_succ, tyIs, List.any_cons, List.any_nil, Bool.or_true, Bool.true_or, if_true]
    have h' : ∀ x ∈ xs, tupdB d x = true := by simpa [tupdB] using h
    have e : ((PV.tup xs) : PV) = .tup xs := rfl
    simp only [show (Ty.lst == Ty.tup) = false from rfl, show (Ty.tup == Ty.tup) = true from rfl, Bool.or_true, Bool.or_false, if_true, lift_ret, bnd_ret, asBl_bl, asIt_tup]
    rw [compGo_map (g := id) (fun x hx => ?_)]
    · simp [evSs, evS, evE, evEs, evAnd, evOr, evI, evPs, setAll, getS_0, getS_s, setS_0, setS_s, lift_ret, bnd_ret, bnd_bnd, chk_ret, asBl_bl, asI_int, fin, idx_t0, idx_t1, idx_t2, asLs_lst, asIt_lst, asIt_tup, List.map_cons, List.map_nil, List.replicate, List.cons_append, List.nil_append, b1op]
    · have := tupled_ok d n x (h' x hx)
      simp only [evSs, evS, evE, evEs, evAnd, evOr, evI, evPs, setAll, getS_0, getS_s, setS_0, setS_s, lift_ret, bnd_ret, bnd_bnd, chk_ret, asBl_bl, asI_int, fin, idx_t0, idx_t1, idx_t2, asLs_lst, asIt_lst, asIt_tup, List.map_cons, List.map_nil, List.replicate, List.cons_append, List.nil_append, if_true, show n + (d + 1) = n + d + 1 from rfl, this]
      rfl
  | 0, n, .lst xs, h => by simp [tupdB] at h
  | d + 1, n, .lst xs, h => by simp [tupdB] at h
  | 0, n, .dct xs, h => by simp [tupdB] at h
  | d + 1, n, .dct xs, h => by simp [tupdB] at h
  | 0, n, .tin, h => by simp [tupdB] at h
  | d + 1, n, .tin, h => by simp [tupdB] at h
  | 0, n, .fn xs, h => by simp [tupdB] at h
  | d + 1, n, .fn xs, h => by simp [tupdB] at h
  | 0, n, .scr xs, h => by simp [tupdB] at h
  | d + 1, n, .scr xs, h => by simp [tupdB] at h
def tieLe (p q : Nat × Nat) : Prop := p.1 < q.1 ∨ p.1 = q.1 ∧ p.2 ≤ q.2
structure Web (l r : Nat) (ts : List (Nat × Nat)) : Prop where
  l1 : 1 ≤ l
  l8 : l ≤ 8
  r1 : 1 ≤ r
  r8 : r ≤ 8
  few : ts.length ≤ 24
  lt : ∀ p ∈ ts, p.1 < l ∧ p.2 < r
  srt : ts.Pairwise tieLe
theorem lexLe_ok {p q : Nat × Nat} (h : tieLe p q) : leop (tieV p) (tieV q) = some true := by
  simp only [leop, tieV, asInts, Option.map_some, Option.bind_some]
  rcases h with h | ⟨h1, h2⟩
  · have : ¬ ((p.1 : Int) = q.1) := by omega
    simp only [L2.lexLeI, if_neg this]
    simp
    omega
  · rw [h1]
    by_cases e : p.2 = q.2
    · rw [e]
      simp [L2.lexLeI]
    · have : ¬ ((p.2 : Int) = q.2) := by omega
      simp only [L2.lexLeI, if_neg this, if_true]
      simp
      omega
theorem is_web_in_ok (n : Nat) {l r : Nat} {ts : List (Nat × Nat)} (w : Web l r ts) : sem T (n + 4) 189 [webV l r ts] = M.ret (.bl true) := by
  rw [sem_call (fn := f_is_web_in) rfl rfl]
  have e1 := is_long_ok (n + 2) [nv l, nv r, .tup (ts.map tieV)] 3 rfl
  have e2 := are_numbers_ok (n + 1) [(l : Int), (r : Int)]
  have h1 := w.l1
  have h2 := w.r1
  have e3 : b1op .min (.tup [nv l, nv r]) = some (.int (minI l [(r : Int)])) := rfl
  have e4 : ¬ minI l [(r : Int)] < 1 := by
    unfold minI minI
    split <;> omega
  simp only [f_is_web_in, webV, evSs, evS, evE, evEs, evAnd, evOr, evI, evPs, setAll, getS_0, getS_s, setS_0, setS_s, lift_ret, bnd_ret, bnd_bnd, chk_ret, asBl_bl, asI_int, fin, idx_t0, idx_t1, idx_t2, asLs_lst, asIt_lst, asIt_tup, List.map_cons, List.map_nil, List.replicate, List.cons_append, List.nil_append, Tg.slots, wipeS, bindT, List.set_cons_zero, List.set_cons_succ, e1, slop, cut_2, Bool.not_true, Bool.not_false, if_false, Bool.false_eq_true] 
  simp only [List.map_cons, List.map_nil] at e2
  simp only [e2, evSs, evS, evE, evEs, evAnd, evOr, evI, evPs, setAll, getS_0, getS_s, setS_0, setS_s, lift_ret, bnd_ret, bnd_bnd, chk_ret, asBl_bl, asI_int, fin, idx_t0, idx_t1, idx_t2, asLs_lst, asIt_lst, asIt_tup, List.map_cons, List.map_nil, List.replicate, List.cons_append, List.nil_append, Bool.not_true, if_false, Bool.false_eq_true, e3, cmpop, ltop, e4, decide_false, tyIs, List.any_cons, List.any_nil, show (Ty.tup == Ty.tup) = true from rfl, Bool.or_false]
  rw [compGo_true (fun x hx => ?_)]
  · simp only [evSs, evS, evE, evEs, evAnd, evOr, evI, evPs, setAll, getS_0, getS_s, setS_0, setS_s, lift_ret, bnd_ret, bnd_bnd, chk_ret, asBl_bl, asI_int, fin, idx_t0, idx_t1, idx_t2, asLs_lst, asIt_lst, asIt_tup, List.map_cons, List.map_nil, List.replicate, List.cons_append, List.nil_append, all_ok, Bool.not_true, if_false, Bool.false_eq_true, slop, cut_1, zipop]
    rw [compGo_true (fun x hx => ?_)]
    · simp [evSs, evS, evE, evEs, evAnd, evOr, evI, evPs, setAll, getS_0, getS_s, setS_0, setS_s, lift_ret, bnd_ret, bnd_bnd, chk_ret, asBl_bl, asI_int, fin, idx_t0, idx_t1, idx_t2, asLs_lst, asIt_lst, asIt_tup, List.map_cons, List.map_nil, List.replicate, List.cons_append, List.nil_append, all_ok]
    · obtain ⟨a, b, rfl, p, q, rfl, rfl, hle⟩ := zip_tail (R := fun x y => ∃ p q : Nat × Nat, x = tieV p ∧ y = tieV q ∧ tieLe p q) (List.pairwise_map.mpr (w.srt.imp fun {a b} z => ⟨a, b, rfl, rfl, z⟩)) x hx
      simp only [evSs, evS, evE, evEs, evAnd, evOr, evI, evPs, setAll, getS_0, getS_s, setS_0, setS_s, lift_ret, bnd_ret, bnd_bnd, chk_ret, asBl_bl, asI_int, fin, idx_t0, idx_t1, idx_t2, asLs_lst, asIt_lst, asIt_tup, List.map_cons, List.map_nil, List.replicate, List.cons_append, List.nil_append, Tg.slots, wipeS, bindT, List.set_cons_zero, List.set_cons_succ, cmpop, lexLe_ok hle, if_true, Option.bind_some]
  · obtain ⟨p, hp, rfl⟩ := List.mem_map.mp hx
    obtain ⟨a1, a2⟩ := w.lt p hp
    have := is_tie_ok n l r p a1 a2
    simp only [evSs, evS, evE, evEs, evAnd, evOr, evI, evPs, setAll, getS_0, getS_s, setS_0, setS_s, lift_ret, bnd_ret, bnd_bnd, chk_ret, asBl_bl, asI_int, fin, idx_t0, idx_t1, idx_t2, asLs_lst, asIt_lst, asIt_tup, List.map_cons, List.map_nil, List.replicate, List.cons_append, List.nil_append, Tg.slots, wipeS, bindT, List.set_cons_zero, List.set_cons_succ, this, if_true]
end G
set_option Elab.async false
set_option linter.all false
set_option maxRecDepth 100000
set_option maxHeartbeats 4000000
/-! P2: webs, lots, ends, pairings, colourings -/
namespace G
open PySem
theorem loopF_inv {f : PV → Slots → M Fl} {I : Slots → Prop} : ∀ {xs : List PV} {ρ : Slots}, I ρ → (∀ x ∈ xs, ∀ ρ, I ρ → ∃ ρ', f x ρ = M.ret (.nx ρ') ∧ I ρ') → ∃ ρ', loopF f xs ρ = M.ret (.nx ρ') ∧ I ρ'
  | [], ρ, h, _ => ⟨ρ, rfl, h⟩
  | x :: xs, ρ, h, hs => by
    obtain ⟨ρ1, e, h1⟩ := hs x List.mem_cons_self ρ h
    obtain ⟨ρ2, e2, h2⟩ := loopF_inv h1 fun y hy => hs y (List.mem_cons_of_mem _ hy)
    exact ⟨ρ2, by rw [loopF, e, bnd_ret]; exact e2, h2⟩
theorem loopF_fold {α : Type} {f : PV → Slots → M Fl} {v : α → PV} {I : List α → Slots → Prop} : ∀ {xs pre : List α} {ρ : Slots}, I pre ρ → (∀ p x q, pre ++ xs = p ++ x :: q → ∀ ρ, I p ρ → ∃ ρ', f (v x) ρ = M.ret (.nx ρ') ∧ I (p ++ [x]) ρ') → ∃ ρ', loopF f (xs.map v) ρ = M.ret (.nx ρ') ∧ I (pre ++ xs) ρ'
  | [], pre, ρ, h, _ => ⟨ρ, rfl, by rw [List.append_nil]; exact h⟩
  | x :: xs, pre, ρ, h, hs => by
    obtain ⟨ρ1, e, h1⟩ := hs pre x xs rfl ρ h
    obtain ⟨ρ2, e2, h2⟩ := loopF_fold (xs := xs) (pre := pre ++ [x]) h1 fun p y q hy => hs p y q (by rw [← hy]; simp)
    exact ⟨ρ2, by rw [List.map_cons, loopF, e, bnd_ret]; exact e2, by simpa using h2⟩
theorem for_use {α β : Type} {f : PV → Slots → M Fl} {v : α → PV} (I : List α → Slots → Prop) {xs : List α} {ρ : Slots} {k : Fl → M β} {r : M β} (h0 : I [] ρ) (hs : ∀ p x q, xs = p ++ x :: q → ∀ ρ, I p ρ → ∃ ρ', f (v x) ρ = M.ret (.nx ρ') ∧ I (p ++ [x]) ρ') (hk : ∀ ρ', I xs ρ' → k (.nx ρ') = r) :
    M.bnd (loopF f (xs.map v) ρ) k = r := by
  obtain ⟨ρ', e, h⟩ := loopF_fold (v := v) (I := I) (xs := xs) (pre := []) h0 hs
  rw [e, bnd_ret]
  exact hk ρ' h
theorem tupdB_web (l r : Nat) (ts : List (Nat × Nat)) (d : Nat) : tupdB (d + 3) (webV l r ts) = true := by
  simp [webV, tupdB, List.all_map, tieV]
theorem tupdB_ints (is : List Int) (d : Nat) : tupdB (d + 1) (.tup (is.map .int)) = true := by simp [tupdB, List.all_map]
theorem lotV_eq (lot : List Nat) : lotV lot = .tup ((lot.map fun (k : Nat) => (k : Int)).map .int) := by unfold lotV; rw [List.map_map]; rfl
theorem sure_web_ok (n : Nat) {l r : Nat} {ts : List (Nat × Nat)} (w : Web l r ts) : sem T (n + 5) 265 [webV l r ts] = M.ret (webV l r ts) := by
  rw [sem_call (fn := f_sure_web) rfl rfl]
  have e1 := tupled_ok 3 n (webV l r ts) (tupdB_web l r ts 0)
  have e2 := is_web_in_ok n w
  have h1 := w.l8
  have h2 := w.r8
  have h3 := w.few
  have e3 : b1op .max (.tup [nv l, nv r]) = some (.int (maxI l [(r : Int)])) := rfl
  have e4 : ¬ 8 < maxI l [(r : Int)] := by
    unfold maxI maxI
    split <;> omega
  have e5 : b1op .len (.tup (ts.map tieV)) = some (.int (ts.length : Nat)) := by simp [b1op]
  have e6 : ¬ (24 : Int) < (ts.length : Nat) := by omega
  simp only [f_sure_web, evSs, evS, evE, evEs, evAnd, evOr, evI, evPs, setAll, getS_0, getS_s, setS_0, setS_s, lift_ret, bnd_ret, bnd_bnd, chk_ret, asBl_bl, asI_int, fin, idx_t0, idx_t1, idx_t2, asLs_lst, asIt_lst, asIt_tup, List.map_cons, List.map_nil, List.replicate, List.cons_append, List.nil_append, Tg.slots, wipeS, bindT, List.set_cons_zero, List.set_cons_succ, e1, e2, stOk, Bool.not_true, if_false, Bool.false_eq_true]
  simp only [webV, evSs, evS, evE, evEs, evAnd, evOr, evI, evPs, setAll, getS_0, getS_s, setS_0, setS_s, lift_ret, bnd_ret, bnd_bnd, chk_ret, asBl_bl, asI_int, fin, idx_t0, idx_t1, idx_t2, asLs_lst, asIt_lst, asIt_tup, List.map_cons, List.map_nil, List.replicate, List.cons_append, List.nil_append, slop, cut_2, e3, cmpop, gtop, e4, decide_false, e5, e6, if_false, Bool.false_eq_true]
structure Lot (m : Nat) (lot : List Nat) : Prop where
  inc : lot.Pairwise (· < ·)
  lt : ∀ k ∈ lot, k < m
theorem len_tup (xs : List PV) : b1op .len (.tup xs) = some (.int (xs.length : Nat)) := rfl
theorem len_lst (xs : List PV) : b1op .len (.lst xs) = some (.int (xs.length : Nat)) := rfl
theorem is_lot_in_ok (n : Nat) {l r : Nat} {ts : List (Nat × Nat)} {lot : List Nat} (h : Lot ts.length lot) : sem T (n + 4) 165 [webV l r ts, lotV lot] = M.ret (.bl true) := by
  rw [sem_call (fn := f_is_lot_in) rfl rfl]
  have e1 := is_set_ok n (lot.map fun (k : Nat) => (k : Int)) (List.pairwise_map.mpr (h.inc.imp fun {a b} z => by omega))
  rw [← lotV_eq] at e1
  simp only [f_is_lot_in, evSs, evS, evE, evEs, evAnd, evOr, evI, evPs, setAll, getS_0, getS_s, setS_0, setS_s, lift_ret, bnd_ret, bnd_bnd, chk_ret, asBl_bl, asI_int, fin, idx_t0, idx_t1, idx_t2, asLs_lst, asIt_lst, asIt_tup, List.map_cons, List.map_nil, List.replicate, List.cons_append, List.nil_append, e1, if_true]
  simp only [lotV, evSs, evS, evE, evEs, evAnd, evOr, evI, evPs, setAll, getS_0, getS_s, setS_0, setS_s, lift_ret, bnd_ret, bnd_bnd, chk_ret, asBl_bl, asI_int, fin, idx_t0, idx_t1, idx_t2, asLs_lst, asIt_lst, asIt_tup, List.map_cons, List.map_nil, List.replicate, List.cons_append, List.nil_append]
  rw [compGo_true (fun x hx => ?_)]
  · simp [evSs, evS, evE, evEs, evAnd, evOr, evI, evPs, setAll, getS_0, getS_s, setS_0, setS_s, lift_ret, bnd_ret, bnd_bnd, chk_ret, asBl_bl, asI_int, fin, idx_t0, idx_t1, idx_t2, asLs_lst, asIt_lst, asIt_tup, List.map_cons, List.map_nil, List.replicate, List.cons_append, List.nil_append, all_ok]
  · obtain ⟨k, hk, rfl⟩ := List.mem_map.mp hx
    have := h.lt k hk
    simp only [webV, evSs, evS, evE, evEs, evAnd, evOr, evI, evPs, setAll, getS_0, getS_s, setS_0, setS_s, lift_ret, bnd_ret, bnd_bnd, chk_ret, asBl_bl, asI_int, fin, idx_t0, idx_t1, idx_t2, asLs_lst, asIt_lst, asIt_tup, List.map_cons, List.map_nil, List.replicate, List.cons_append, List.nil_append, Tg.slots, wipeS, bindT, List.set_cons_zero, List.set_cons_succ, len_tup, List.length_map, cmpop, leop, ltop, decide_eq_true (show (0 : Int) ≤ (k : Int) by omega), decide_eq_true (show ((k : Int) < (ts.length : Nat)) by omega), if_true]
theorem sure_lot_ok (n : Nat) {l r : Nat} {ts : List (Nat × Nat)} {lot : List Nat} (h : Lot ts.length lot) : sem T (n + 5) 259 [webV l r ts, lotV lot] = M.ret (lotV lot) := by
  rw [sem_call (fn := f_sure_lot) rfl rfl]
  have e1 := tupled_ok 1 (n + 2) (lotV lot) (by rw [lotV_eq]; exact tupdB_ints _ 0)
  rw [show n + 2 + 1 + 1 = n + 4 by omega] at e1
  have e2 := is_lot_in_ok n (l := l) (r := r) h
  simp only [f_sure_lot, evSs, evS, evE, evEs, evAnd, evOr, evI, evPs, setAll, getS_0, getS_s, setS_0, setS_s, lift_ret, bnd_ret, bnd_bnd, chk_ret, asBl_bl, asI_int, fin, idx_t0, idx_t1, idx_t2, asLs_lst, asIt_lst, asIt_tup, List.map_cons, List.map_nil, List.replicate, List.cons_append, List.nil_append, Tg.slots, wipeS, bindT, List.set_cons_zero, List.set_cons_succ, e1, e2, stOk, Bool.not_true, if_false, Bool.false_eq_true]
theorem trng_ok (k : Nat) (h : k ≤ 1000000) : b1op .trng (nv k) = some (lotV (List.range k)) := by
  unfold b1op
  simp only
  rw [if_pos (by omega)]
  simp [lotV]
theorem lrng_ok (k : Nat) (h : k ≤ 1000000) : b1op .lrng (nv k) = some (lotL (List.range k)) := by
  unfold b1op
  simp only
  rw [if_pos (by omega)]
  simp [lotL]
theorem all_lot_ok (n : Nat) {l r : Nat} {ts : List (Nat × Nat)} (h : ts.length ≤ 1000000) : sem T (n + 1) 79 [webV l r ts] = M.ret (lotV (List.range ts.length)) := by
  rw [sem_call (fn := f_all_lot) rfl rfl]
  simp only [f_all_lot, webV, evSs, evS, evE, evEs, evAnd, evOr, evI, evPs, setAll, getS_0, getS_s, setS_0, setS_s, lift_ret, bnd_ret, bnd_bnd, chk_ret, asBl_bl, asI_int, fin, idx_t0, idx_t1, idx_t2, asLs_lst, asIt_lst, asIt_tup, List.map_cons, List.map_nil, List.replicate, List.cons_append, List.nil_append, len_tup, List.length_map]
  have := trng_ok ts.length h
  simp only [this, evSs, evS, evE, evEs, evAnd, evOr, evI, evPs, setAll, getS_0, getS_s, setS_0, setS_s, lift_ret, bnd_ret, bnd_bnd, chk_ret, asBl_bl, asI_int, fin, idx_t0, idx_t1, idx_t2, asLs_lst, asIt_lst, asIt_tup, List.map_cons, List.map_nil, List.replicate, List.cons_append, List.nil_append]
/-! ### ends -/
def en (s : Nat) (p : Nat × Nat) : Nat := if s = 0 then p.1 else p.2
def tie (ts : List (Nat × Nat)) (k : Nat) : Nat × Nat := ts.getD k (0, 0)
def atE (ts : List (Nat × Nat)) (s e : Nat) (lot : List Nat) : List Nat := lot.filter fun k => decide (en s (tie ts k) = e)
def grp (ts : List (Nat × Nat)) (s c : Nat) (lot : List Nat) : List PV := (List.range c).map fun e => lotL (atE ts s e lot)
theorem tie_get {ts : List (Nat × Nat)} {k : Nat} (h : k < ts.length) : (ts.map tieV)[k]? = some (tieV (tie ts k)) := by
  rw [List.getElem?_map, List.getElem?_eq_getElem h]
  simp [tie, List.getD_eq_getElem?_getD, List.getElem?_eq_getElem h]
theorem idx_tie (p : Nat × Nat) {s : Nat} (hs : s = 0 ∨ s = 1) : idxop (tieV p) (nv s) = M.ret (nv (en s p)) := by
  rcases hs with rfl | rfl
  · exact idx_tup rfl
  · exact idx_tup rfl
def cnt (l r s : Nat) : Nat := if s = 0 then l else r
theorem idx_web {l r : Nat} {ts : List (Nat × Nat)} {s : Nat} (hs : s = 0 ∨ s = 1) : idxop (webV l r ts) (nv s) = M.ret (nv (cnt l r s)) := by
  rcases hs with rfl | rfl
  · exact idx_tup rfl
  · exact idx_tup rfl
theorem idx_web2 {l r : Nat} {ts : List (Nat × Nat)} : idxop (webV l r ts) (.int 2) = M.ret (.tup (ts.map tieV)) := idx_tup (k := 2) rfl
theorem grp_nil (ts : List (Nat × Nat)) (s c : Nat) : grp ts s c [] = List.replicate c (.lst []) := by
  unfold grp atE lotL
  simp [List.map_const']
theorem grp_len (ts : List (Nat × Nat)) (s c : Nat) (lot : List Nat) : (grp ts s c lot).length = c := by simp [grp]
theorem grp_get {ts : List (Nat × Nat)} {s c e : Nat} {lot : List Nat} (h : e < c) : (grp ts s c lot)[e]? = some (lotL (atE ts s e lot)) := by
  unfold grp
  rw [List.getElem?_map, List.getElem?_range h]
  rfl
theorem grp_add {ts : List (Nat × Nat)} {s c k : Nat} {lot : List Nat} (h : en s (tie ts k) < c) : (grp ts s c lot).set (en s (tie ts k)) (.lst ((atE ts s (en s (tie ts k)) lot).map nv ++ [nv k])) = grp ts s c (lot ++ [k]) := by
  apply List.ext_getElem?
  intro i
  by_cases hi : i < c
  · rw [grp_get hi]
    by_cases e : en s (tie ts k) = i
    · subst e
      rw [List.getElem?_set_self (by rw [grp_len]; exact h)]
      simp [atE, lotL, List.filter_append]
    · rw [List.getElem?_set_ne e, grp_get hi]
      simp [atE, lotL, List.filter_append, e]
  · rw [List.getElem?_eq_none (by rw [List.length_set, grp_len]; omega), List.getElem?_eq_none (by rw [grp_len]; omega)]
theorem elems2_nils (c : Nat) : elems2 (.lst (List.replicate c (.lst []))) = true := by
  unfold elems2
  rw [List.all_eq_true]
  intro x hx
  rw [List.eq_of_mem_replicate hx]
  rfl
theorem at_side_ok (n : Nat) {l r s : Nat} {ts : List (Nat × Nat)} {lot : List Nat} (hs : s = 0 ∨ s = 1) (hc : cnt l r s ≤ 1000000) (hw : ∀ p ∈ ts, p.1 < l ∧ p.2 < r) (h : ∀ k ∈ lot, k < ts.length) (hl : lot.length ≤ 1000000) :
    sem T (n + 1) 88 [webV l r ts, nv s, lotV lot] = M.ret (.lst (grp ts s (cnt l r s) lot)) := by
  rw [sem_call (fn := f_at_side) rfl rfl]
  simp only [f_at_side, evSs, evS, evE, evEs, evAnd, evOr, evI, evPs, setAll, getS_0, getS_s, setS_0, setS_s, lift_ret, bnd_ret, bnd_bnd, chk_ret, asBl_bl, asI_int, fin, idx_t0, idx_t1, idx_t2, asLs_lst, asIt_lst, asIt_tup, List.map_cons, List.map_nil, List.replicate, List.cons_append, List.nil_append, idx_web hs]
  rw [show (decide (-1000000 ≤ ((cnt l r s : Nat) : Int)) && decide (((cnt l r s : Nat) : Int) ≤ 1000000)) = true by simp; omega]
  simp only [evSs, evS, evE, evEs, evAnd, evOr, evI, evPs, setAll, getS_0, getS_s, setS_0, setS_s, lift_ret, bnd_ret, bnd_bnd, chk_ret, asBl_bl, asI_int, fin, idx_t0, idx_t1, idx_t2, asLs_lst, asIt_lst, asIt_tup, List.map_cons, List.map_nil, List.replicate, List.cons_append, List.nil_append]
  rw [compGo_map (g := fun _ => .lst []) (fun x hx => by simp only [evSs, evS, evE, evEs, evAnd, evOr, evI, evPs, setAll, getS_0, getS_s, setS_0, setS_s, lift_ret, bnd_ret, bnd_bnd, chk_ret, asBl_bl, asI_int, fin, idx_t0, idx_t1, idx_t2, asLs_lst, asIt_lst, asIt_tup, List.map_cons, List.map_nil, List.replicate, List.cons_append, List.nil_append, Tg.slots, wipeS, bindT, List.set_cons_zero, List.set_cons_succ, if_true])]
  have e0 : (rngPV 0 ((cnt l r s : Nat) : Int).toNat).map (fun _ => PV.lst []) = List.replicate (cnt l r s) (.lst []) := by
    rw [List.map_const', rng_len]
    simp
  rw [e0]
  simp only [evSs, evS, evE, evEs, evAnd, evOr, evI, evPs, setAll, getS_0, getS_s, setS_0, setS_s, lift_ret, bnd_ret, bnd_bnd, chk_ret, asBl_bl, asI_int, fin, idx_t0, idx_t1, idx_t2, asLs_lst, asIt_lst, asIt_tup, List.map_cons, List.map_nil, List.replicate, List.cons_append, List.nil_append, stOk, elems2_nils, List.replicate_succ, List.replicate_zero]
  rw [← grp_nil ts s]
  simp only [lotV, evSs, evS, evE, evEs, evAnd, evOr, evI, evPs, setAll, getS_0, getS_s, setS_0, setS_s, lift_ret, bnd_ret, bnd_bnd, chk_ret, asBl_bl, asI_int, fin, idx_t0, idx_t1, idx_t2, asLs_lst, asIt_lst, asIt_tup, List.map_cons, List.map_nil, List.replicate, List.cons_append, List.nil_append]
  refine for_use (fun pre ρ => ∃ o4 o5, ρ = [some (webV l r ts), some (nv s), some (.tup (lot.map nv)), some (.lst (grp ts s (cnt l r s) pre)), o4, o5]) ⟨_, _, rfl⟩ ?_ ?_
  · rintro p x q hpq ρ ⟨o4, o5, rfl⟩
    have hx : x ∈ lot := by rw [hpq]; simp
    have hxl := h x hx
    have hb : en s (tie ts x) < cnt l r s := by
      have hm : tie ts x ∈ ts := by
        unfold tie
        rw [List.getD_eq_getElem?_getD, List.getElem?_eq_getElem hxl]
        exact List.getElem_mem hxl
      obtain ⟨a, b⟩ := hw _ hm
      rcases hs with rfl | rfl
      · exact a
      · exact b
    have hlen : (atE ts s (en s (tie ts x)) p).length < big := by
      have : (atE ts s (en s (tie ts x)) p).length ≤ p.length := List.length_filter_le _ _
      have hp : p.length ≤ lot.length := by rw [hpq]; simp
      have : big = 16777216 := rfl
      omega
    refine ⟨_, ?_, some (nv x), o5, rfl⟩
    simp only [evSs, evS, evE, evEs, evAnd, evOr, evI, evPs, setAll, getS_0, getS_s, setS_0, setS_s, lift_ret, bnd_ret, bnd_bnd, chk_ret, asBl_bl, asI_int, fin, idx_t0, idx_t1, idx_t2, asLs_lst, asIt_lst, asIt_tup, List.map_cons, List.map_nil, List.replicate, List.cons_append, List.nil_append, Tg.slots, wipeS, bindT, List.set_cons_zero, List.set_cons_succ, idx_web2, idx_tup (tie_get hxl), idx_tie _ hs, fl, flat, lstAt, grp_len, atIx, atIx_nat hb, grp_get hb, lotL, List.length_map, hlen, decide_true, grp_add hb]
  · rintro ρ ⟨o4, o5, rfl⟩
    simp only [evSs, evS, evE, evEs, evAnd, evOr, evI, evPs, setAll, getS_0, getS_s, setS_0, setS_s, lift_ret, bnd_ret, bnd_bnd, chk_ret, asBl_bl, asI_int, fin, idx_t0, idx_t1, idx_t2, asLs_lst, asIt_lst, asIt_tup, List.map_cons, List.map_nil, List.replicate, List.cons_append, List.nil_append]

/-! ### pairings -/
def Pairing (ts : List (Nat × Nat)) (lot : List Nat) : Prop := ∀ s, s = 0 ∨ s = 1 → ∀ e, (atE ts s e lot).length ≤ 1
/-- a run that leaves the draws alone -/
def Run {α : Type} (m : M α) (Q : α → Prop) : Prop := ∃ a, m = M.ret a ∧ Q a
theorem Run.ret {α : Type} {a : α} {Q : α → Prop} (h : Q a) : Run (M.ret a) Q := ⟨a, rfl, h⟩
theorem Run.bnd {α β : Type} {m : M α} {f : α → M β} {Q : β → Prop} (h : Run m fun a => Run (f a) Q) : Run (M.bnd m f) Q := by
  obtain ⟨a, rfl, b, e, q⟩ := h
  exact ⟨b, by rw [bnd_ret]; exact e, q⟩
theorem Run.eq {α : Type} {m : M α} {r : α} (h : Run m fun a => a = r) : m = M.ret r := by
  obtain ⟨a, e, rfl⟩ := h
  exact e
theorem Run.loop {f : PV → Slots → M Fl} {Q : Fl → Prop} (I : Slots → Prop) : ∀ {xs : List PV} {ρ : Slots}, I ρ → (∀ x ∈ xs, ∀ ρ, I ρ → Run (f x ρ) fun r => ∃ ρ', r = .nx ρ' ∧ I ρ') → (∀ ρ', I ρ' → Q (.nx ρ')) → Run (loopF f xs ρ) Q
  | [], ρ, h, _, hk => ⟨_, rfl, hk ρ h⟩
  | x :: xs, ρ, h, hs, hk => by
    obtain ⟨_, e, ρ1, rfl, h1⟩ := hs x List.mem_cons_self ρ h
    rw [loopF, e, bnd_ret]
    exact Run.loop I h1 (fun y hy => hs y (List.mem_cons_of_mem _ hy)) hk
theorem nx_ret {ρ : Slots} {I : Slots → Prop} (h : I ρ) : Run (M.ret (Fl.nx ρ)) fun r => ∃ ρ', r = .nx ρ' ∧ I ρ' := ⟨_, rfl, ρ, rfl, h⟩
theorem compGo_false {f : PV → M (Option PV)} {xs : List PV} (h : ∀ x ∈ xs, f x = M.ret (some (.bl false))) : compGo f xs = M.ret (List.replicate xs.length (.bl false)) := by
  rw [compGo_map (g := fun _ => .bl false) h, List.map_const']
theorem any_no (k : Nat) : b1op .any (.lst (List.replicate k (.bl false))) = some (.bl false) := by
  have e : List.replicate k (PV.bl false) = (List.replicate k false).map .bl := by simp
  have e2 : (List.replicate k false).any id = false := by
    rw [List.any_eq_false]
    intro x hx
    rw [List.eq_of_mem_replicate hx]
    simp
  rw [e, any_ok, e2]
structure Ok3 (l r : Nat) (ts : List (Nat × Nat)) (lot : List Nat) : Prop where
  l8 : l ≤ 8
  r8 : r ≤ 8
  few : ts.length ≤ 24
  lt : ∀ p ∈ ts, p.1 < l ∧ p.2 < r
  lk : ∀ k ∈ lot, k < ts.length
  len : lot.length ≤ 24
theorem Ok3.side {l r : Nat} {ts : List (Nat × Nat)} {lot : List Nat} (o : Ok3 l r ts lot) (n : Nat) {s : Nat} (hs : s = 0 ∨ s = 1) : sem T (n + 1) 88 [webV l r ts, nv s, lotV lot] = M.ret (.lst (grp ts s (cnt l r s) lot)) :=
  at_side_ok n hs (by have := o.l8; have := o.r8; unfold cnt; split <;> omega) o.lt o.lk (by have := o.len; omega)
theorem mem_grp {ts : List (Nat × Nat)} {s c : Nat} {lot : List Nat} {x : PV} (h : x ∈ grp ts s c lot) : ∃ e, e < c ∧ x = lotL (atE ts s e lot) := by
  unfold grp at h
  obtain ⟨e, he, rfl⟩ := List.mem_map.mp h
  exact ⟨e, List.mem_range.mp he, rfl⟩
theorem is_pairing_in_ok (n : Nat) {l r : Nat} {ts : List (Nat × Nat)} {lot : List Nat} (o : Ok3 l r ts lot) (h : Pairing ts lot) : sem T (n + 2) 170 [webV l r ts, lotV lot] = M.ret (.bl true) := by
  rw [sem_call (fn := f_is_pairing_in) rfl rfl]
  simp only [f_is_pairing_in, evSs, evS, evE, evEs, evAnd, evOr, evI, evPs, setAll, getS_0, getS_s, setS_0, setS_s, lift_ret, bnd_ret, bnd_bnd, chk_ret, asBl_bl, asI_int, fin, idx_t0, idx_t1, idx_t2, asLs_lst, asIt_lst, asIt_tup, List.map_cons, List.map_nil, List.replicate, List.cons_append, List.nil_append]
  refine Run.eq (Run.bnd (Run.loop (fun ρ => ∃ o2 o3, ρ = [some (webV l r ts), some (lotV lot), o2, o3]) ⟨_, _, rfl⟩ ?_ ?_))
  · rintro x hx ρ ⟨o2, o3, rfl⟩
    obtain ⟨s, hs, rfl⟩ : ∃ s : Nat, (s = 0 ∨ s = 1) ∧ x = nv s := by
      simp only [List.mem_cons, List.not_mem_nil, or_false] at hx
      rcases hx with rfl | rfl
      · exact ⟨0, .inl rfl, rfl⟩
      · exact ⟨1, .inr rfl, rfl⟩
    simp only [evSs, evS, evE, evEs, evAnd, evOr, evI, evPs, setAll, getS_0, getS_s, setS_0, setS_s, lift_ret, bnd_ret, bnd_bnd, chk_ret, asBl_bl, asI_int, fin, idx_t0, idx_t1, idx_t2, asLs_lst, asIt_lst, asIt_tup, List.map_cons, List.map_nil, List.replicate, List.cons_append, List.nil_append, Tg.slots, wipeS, bindT, List.set_cons_zero, List.set_cons_succ, o.side n hs]
    rw [compGo_false (fun x hx => ?_)]
    · simp only [evSs, evS, evE, evEs, evAnd, evOr, evI, evPs, setAll, getS_0, getS_s, setS_0, setS_s, lift_ret, bnd_ret, bnd_bnd, chk_ret, asBl_bl, asI_int, fin, idx_t0, idx_t1, idx_t2, asLs_lst, asIt_lst, asIt_tup, List.map_cons, List.map_nil, List.replicate, List.cons_append, List.nil_append, any_no, if_false, Bool.false_eq_true]
      exact nx_ret ⟨_, _, rfl⟩
    · obtain ⟨e, _, rfl⟩ := mem_grp hx
      have := h s hs e
      simp only [evSs, evS, evE, evEs, evAnd, evOr, evI, evPs, setAll, getS_0, getS_s, setS_0, setS_s, lift_ret, bnd_ret, bnd_bnd, chk_ret, asBl_bl, asI_int, fin, idx_t0, idx_t1, idx_t2, asLs_lst, asIt_lst, asIt_tup, List.map_cons, List.map_nil, List.replicate, List.cons_append, List.nil_append, Tg.slots, wipeS, bindT, List.set_cons_zero, List.set_cons_succ, lotL, len_lst, List.length_map, cmpop, gtop, decide_eq_false (show ¬ ((1 : Int) < ((atE ts s e lot).length : Nat)) by omega), if_true]
  · rintro ρ ⟨o2, o3, rfl⟩
    simp only [evSs, evS, evE, evEs, evAnd, evOr, evI, evPs, setAll, getS_0, getS_s, setS_0, setS_s, lift_ret, bnd_ret, bnd_bnd, chk_ret, asBl_bl, asI_int, fin, idx_t0, idx_t1, idx_t2, asLs_lst, asIt_lst, asIt_tup, List.map_cons, List.map_nil, List.replicate, List.cons_append, List.nil_append]
    exact Run.ret rfl
theorem Lot.len {m : Nat} {lot : List Nat} (h : Lot m lot) : lot.length ≤ m := by
  have : ∀ (lot : List Nat) (a m : Nat), lot.Pairwise (· < ·) → (∀ k ∈ lot, a ≤ k ∧ k < m) → lot.length + a ≤ max m a := by
    intro lot
    induction lot with
    | nil => intro a m _ _; simp; omega
    | cons x xs ih =>
      intro a m hp hl
      obtain ⟨h1, h2⟩ := List.pairwise_cons.mp hp
      have h3 := hl x List.mem_cons_self
      have := ih (x + 1) m h2 fun k hk => ⟨h1 k hk, (hl k (List.mem_cons_of_mem _ hk)).2⟩
      simp only [List.length_cons]
      omega
  have := this lot 0 m h.inc fun k hk => ⟨Nat.zero_le _, h.lt k hk⟩
  omega
theorem Web.ok3 {l r : Nat} {ts : List (Nat × Nat)} {lot : List Nat} (w : Web l r ts) (h : Lot ts.length lot) : Ok3 l r ts lot := ⟨w.l8, w.r8, w.few, w.lt, h.lt, Nat.le_trans h.len w.few⟩
theorem is_pairing_ok (n : Nat) {l r : Nat} {ts : List (Nat × Nat)} {lot : List Nat} (w : Web l r ts) (h : Lot ts.length lot) (hp : Pairing ts lot) : sem T (n + 6) 169 [webV l r ts, lotV lot] = M.ret (.bl true) := by
  rw [sem_call (fn := f_is_pairing) rfl rfl]
  have e1 := sure_web_ok n w
  have e2 := is_lot_in_ok (n + 1) (l := l) (r := r) h
  have e3 := is_pairing_in_ok (n + 3) (w.ok3 h) hp
  rw [show n + 1 + 4 = n + 5 by omega] at e2
  rw [show n + 3 + 2 = n + 5 by omega] at e3
  simp only [f_is_pairing, evSs, evS, evE, evEs, evAnd, evOr, evI, evPs, setAll, getS_0, getS_s, setS_0, setS_s, lift_ret, bnd_ret, bnd_bnd, chk_ret, asBl_bl, asI_int, fin, idx_t0, idx_t1, idx_t2, asLs_lst, asIt_lst, asIt_tup, List.map_cons, List.map_nil, List.replicate, List.cons_append, List.nil_append, Tg.slots, wipeS, bindT, List.set_cons_zero, List.set_cons_succ, e1, e2, e3, stOk, if_true]
/-! ### colourings -/
def Proper (ts : List (Nat × Nat)) (row : List Int) : Prop := ∀ s, s = 0 ∨ s = 1 → ∀ e, ((atE ts s e (List.range ts.length)).map fun k => row.getD k 0).Nodup
structure Row (ts : List (Nat × Nat)) (row : List Int) : Prop where
  len : row.length = ts.length
  ge : ∀ c ∈ row, 0 ≤ c ∧ c ≤ 99
  pr : Proper ts row
theorem lot_range (m : Nat) : Lot m (List.range m) := ⟨List.pairwise_lt_range, fun k hk => List.mem_range.mp hk⟩
theorem row_get {row : List Int} {k : Nat} (h : k < row.length) : (row.map PV.int)[k]? = some (.int (row.getD k 0)) := by
  rw [List.getElem?_map, List.getElem?_eq_getElem h]
  simp [List.getD_eq_getElem?_getD, List.getElem?_eq_getElem h]
theorem is_row_in_ok (n : Nat) {l r : Nat} {ts : List (Nat × Nat)} {row : List Int} (hl : row.length = ts.length) (hg : ∀ c ∈ row, 0 ≤ c ∧ c ≤ 99) : sem T (n + 3) 175 [webV l r ts, rowV row] = M.ret (.bl true) := by
  rw [sem_call (fn := f_is_row_in) rfl rfl]
  have e1 := is_long_ok (n + 1) (row.map .int) (ts.length : Nat) (by rw [List.length_map, hl])
  rw [show n + 1 + 1 = n + 2 by omega] at e1
  simp only [f_is_row_in, rowV, evSs, evS, evE, evEs, evAnd, evOr, evI, evPs, setAll, getS_0, getS_s, setS_0, setS_s, lift_ret, bnd_ret, bnd_bnd, chk_ret, asBl_bl, asI_int, fin, idx_t0, idx_t1, idx_t2, asLs_lst, asIt_lst, asIt_tup, List.map_cons, List.map_nil, List.replicate, List.cons_append, List.nil_append, idx_web2, len_tup, List.length_map, e1, if_true]
  rw [compGo_true (fun x hx => ?_)]
  · simp only [evSs, evS, evE, evEs, evAnd, evOr, evI, evPs, setAll, getS_0, getS_s, setS_0, setS_s, lift_ret, bnd_ret, bnd_bnd, chk_ret, asBl_bl, asI_int, fin, idx_t0, idx_t1, idx_t2, asLs_lst, asIt_lst, asIt_tup, List.map_cons, List.map_nil, List.replicate, List.cons_append, List.nil_append, all_ok]
  · obtain ⟨c, hc, rfl⟩ := List.mem_map.mp hx
    have e2 := is_within_ok n c 0 99 (hg c hc).1 (hg c hc).2
    simp only [evSs, evS, evE, evEs, evAnd, evOr, evI, evPs, setAll, getS_0, getS_s, setS_0, setS_s, lift_ret, bnd_ret, bnd_bnd, chk_ret, asBl_bl, asI_int, fin, idx_t0, idx_t1, idx_t2, asLs_lst, asIt_lst, asIt_tup, List.map_cons, List.map_nil, List.replicate, List.cons_append, List.nil_append, Tg.slots, wipeS, bindT, List.set_cons_zero, List.set_cons_succ, e2, if_true]
theorem ded_mem (acc : List Int) (x : Int) : ∀ y, y ∈ dedS acc x ↔ y ∈ acc ∨ y = x := by
  intro y
  unfold dedS
  split
  · rename_i h
    simp only [List.any_eq_true, beq_iff_eq] at h
    obtain ⟨z, hz, rfl⟩ := h
    exact ⟨.inl, fun q => q.elim id fun e => e ▸ hz⟩
  · simp
theorem ded_nodup : ∀ (xs acc : List Int), xs.Nodup → (∀ x ∈ xs, x ∉ acc) → xs.foldl dedS acc = acc ++ xs
  | [], acc, _, _ => by simp
  | x :: xs, acc, h, hd => by
    obtain ⟨h1, h2⟩ := List.nodup_cons.mp h
    have e : dedS acc x = acc ++ [x] := by
      unfold dedS
      rw [if_neg]
      simp only [List.any_eq_true, beq_iff_eq, not_exists, not_and]
      intro z hz e
      exact hd x List.mem_cons_self (e ▸ hz)
    rw [List.foldl_cons, e, ded_nodup xs _ h2 fun y hy => ?_]
    · simp
    · simp only [List.mem_append, List.mem_singleton, not_or]
      exact ⟨hd y (List.mem_cons_of_mem _ hy), fun z => h1 (z ▸ hy)⟩
theorem lset_ok {ns : List Int} (h : ns.Nodup) (hl : ns.length ≤ 1000) : b1op .lset (.lst (ns.map .int)) = some (.int (ns.length : Nat)) := by
  simp only [b1op, asInts_map, Option.bind_some, if_pos hl]
  have : dedI ns = ns := by
    unfold dedI
    rw [ded_nodup ns [] h (by simp)]
    simp
  rw [this]
theorem atE_le (ts : List (Nat × Nat)) (s e : Nat) (lot : List Nat) : (atE ts s e lot).length ≤ lot.length := List.length_filter_le _ _
theorem mem_atE {ts : List (Nat × Nat)} {s e : Nat} {lot : List Nat} {k : Nat} : k ∈ atE ts s e lot ↔ k ∈ lot ∧ en s (tie ts k) = e := by
  unfold atE
  rw [List.mem_filter, decide_eq_true_eq]
theorem is_proper_ok (n : Nat) {l r : Nat} {ts : List (Nat × Nat)} {row : List Int} (w : Web l r ts) (hl : row.length = ts.length) (hp : Proper ts row) : sem T (n + 2) 173 [webV l r ts, rowV row] = M.ret (.bl true) := by
  rw [sem_call (fn := f_is_proper) rfl rfl]
  have o := w.ok3 (lot_range ts.length)
  have e1 := all_lot_ok n (l := l) (r := r) (ts := ts) (by have := w.few; omega)
  simp only [f_is_proper, evSs, evS, evE, evEs, evAnd, evOr, evI, evPs, setAll, getS_0, getS_s, setS_0, setS_s, lift_ret, bnd_ret, bnd_bnd, chk_ret, asBl_bl, asI_int, fin, idx_t0, idx_t1, idx_t2, asLs_lst, asIt_lst, asIt_tup, List.map_cons, List.map_nil, List.replicate, List.cons_append, List.nil_append]
  refine Run.eq (Run.bnd (Run.loop (fun ρ => ∃ o2 o3 o4, ρ = [some (webV l r ts), some (rowV row), o2, o3, o4]) ⟨_, _, _, rfl⟩ ?_ ?_))
  · rintro x hx ρ ⟨o2, o3, o4, rfl⟩
    obtain ⟨s, hs, rfl⟩ : ∃ s : Nat, (s = 0 ∨ s = 1) ∧ x = nv s := by
      simp only [List.mem_cons, List.not_mem_nil, or_false] at hx
      rcases hx with rfl | rfl
      · exact ⟨0, .inl rfl, rfl⟩
      · exact ⟨1, .inr rfl, rfl⟩
    simp only [evSs, evS, evE, evEs, evAnd, evOr, evI, evPs, setAll, getS_0, getS_s, setS_0, setS_s, lift_ret, bnd_ret, bnd_bnd, chk_ret, asBl_bl, asI_int, fin, idx_t0, idx_t1, idx_t2, asLs_lst, asIt_lst, asIt_tup, List.map_cons, List.map_nil, List.replicate, List.cons_append, List.nil_append, Tg.slots, wipeS, bindT, List.set_cons_zero, List.set_cons_succ, e1, o.side n hs]
    refine Run.bnd (Run.loop (fun ρ => ∃ o3 o4, ρ = [some (webV l r ts), some (rowV row), some (nv s), o3, o4]) ⟨_, _, rfl⟩ ?_ ?_)
    · rintro x hx ρ ⟨o3, o4, rfl⟩
      obtain ⟨e, _, rfl⟩ := mem_grp hx
      have hnd := hp s hs e
      have hlen := atE_le ts s e (List.range ts.length)
      rw [List.length_range] at hlen
      have hfew := w.few
      have e3 := lset_ok hnd (by rw [List.length_map]; omega)
      rw [List.map_map, List.length_map] at e3
      simp only [evSs, evS, evE, evEs, evAnd, evOr, evI, evPs, setAll, getS_0, getS_s, setS_0, setS_s, lift_ret, bnd_ret, bnd_bnd, chk_ret, asBl_bl, asI_int, fin, idx_t0, idx_t1, idx_t2, asLs_lst, asIt_lst, asIt_tup, List.map_cons, List.map_nil, List.replicate, List.cons_append, List.nil_append, Tg.slots, wipeS, bindT, List.set_cons_zero, List.set_cons_succ, lotL]
      rw [compGo_map (g := fun x => match x with
        | .int i => .int (row.getD i.toNat 0)
        | _ => .non) (fun x hx => ?_)]
      · rw [List.map_map]
        have e4 : ((fun x => match x with
          | PV.int i => PV.int (row.getD i.toNat 0)
          | _ => PV.non) ∘ nv) = (PV.int ∘ fun k => row.getD k 0) := by
          funext k
          simp [Function.comp]
        rw [e4]
        simp only [evSs, evS, evE, evEs, evAnd, evOr, evI, evPs, setAll, getS_0, getS_s, setS_0, setS_s, lift_ret, bnd_ret, bnd_bnd, chk_ret, asBl_bl, asI_int, fin, idx_t0, idx_t1, idx_t2, asLs_lst, asIt_lst, asIt_tup, List.map_cons, List.map_nil, List.replicate, List.cons_append, List.nil_append, e3, len_lst, List.length_map, cmpop, ltop, decide_eq_false (show ¬ (((atE ts s e (List.range ts.length)).length : Nat) : Int) < ((atE ts s e (List.range ts.length)).length : Nat) by omega), if_false, Bool.false_eq_true]
        exact nx_ret ⟨_, _, rfl⟩
      · obtain ⟨k, hk, rfl⟩ := List.mem_map.mp hx
        have hk2 := List.mem_range.mp (mem_atE.mp hk).1
        simp only [evSs, evS, evE, evEs, evAnd, evOr, evI, evPs, setAll, getS_0, getS_s, setS_0, setS_s, lift_ret, bnd_ret, bnd_bnd, chk_ret, asBl_bl, asI_int, fin, idx_t0, idx_t1, idx_t2, asLs_lst, asIt_lst, asIt_tup, List.map_cons, List.map_nil, List.replicate, List.cons_append, List.nil_append, Tg.slots, wipeS, bindT, List.set_cons_zero, List.set_cons_succ, rowV, idx_tup (row_get (show k < row.length by omega)), if_true]
        simp
    · rintro ρ ⟨o3, o4, rfl⟩
      simp only [evSs, evS, evE, evEs, evAnd, evOr, evI, evPs, setAll, getS_0, getS_s, setS_0, setS_s, lift_ret, bnd_ret, bnd_bnd, chk_ret, asBl_bl, asI_int, fin, idx_t0, idx_t1, idx_t2, asLs_lst, asIt_lst, asIt_tup, List.map_cons, List.map_nil, List.replicate, List.cons_append, List.nil_append]
      exact nx_ret ⟨_, _, _, rfl⟩
  · rintro ρ ⟨o2, o3, o4, rfl⟩
    simp only [evSs, evS, evE, evEs, evAnd, evOr, evI, evPs, setAll, getS_0, getS_s, setS_0, setS_s, lift_ret, bnd_ret, bnd_bnd, chk_ret, asBl_bl, asI_int, fin, idx_t0, idx_t1, idx_t2, asLs_lst, asIt_lst, asIt_tup, List.map_cons, List.map_nil, List.replicate, List.cons_append, List.nil_append]
    exact Run.ret rfl
end G
set_option Elab.async false
set_option linter.all false
set_option maxRecDepth 100000
set_option maxHeartbeats 4000000
/-! P3: colourings, what is ahead, kernels told, lists -/
namespace G
open PySem
theorem tupdB_row (row : List Int) : tupdB 1 (rowV row) = true := tupdB_ints row 0
theorem is_colouring_in_ok (n : Nat) {l r : Nat} {ts : List (Nat × Nat)} {row : List Int} (w : Web l r ts) (h : Row ts row) : sem T (n + 4) 149 [webV l r ts, rowV row] = M.ret (.bl true) := by
  rw [sem_call (fn := f_is_colouring_in) rfl rfl]
  have e1 := is_row_in_ok n (l := l) (r := r) h.len h.ge
  have e2 := is_proper_ok (n + 1) w h.len h.pr
  rw [show n + 1 + 2 = n + 3 by omega] at e2
  simp only [f_is_colouring_in, evSs, evS, evE, evEs, evAnd, evOr, evI, evPs, setAll, getS_0, getS_s, setS_0, setS_s, lift_ret, bnd_ret, bnd_bnd, chk_ret, asBl_bl, asI_int, fin, idx_t0, idx_t1, idx_t2, asLs_lst, asIt_lst, asIt_tup, List.map_cons, List.map_nil, List.replicate, List.cons_append, List.nil_append, e1, e2, if_true]
theorem sure_colouring_ok (n : Nat) {l r : Nat} {ts : List (Nat × Nat)} {row : List Int} (w : Web l r ts) (h : Row ts row) : sem T (n + 5) 255 [webV l r ts, rowV row] = M.ret (rowV row) := by
  rw [sem_call (fn := f_sure_colouring) rfl rfl]
  have e1 := tupled_ok 1 (n + 2) (rowV row) (tupdB_row row)
  rw [show n + 2 + 1 + 1 = n + 4 by omega] at e1
  have e2 := is_colouring_in_ok n w h
  simp only [f_sure_colouring, evSs, evS, evE, evEs, evAnd, evOr, evI, evPs, setAll, getS_0, getS_s, setS_0, setS_s, lift_ret, bnd_ret, bnd_bnd, chk_ret, asBl_bl, asI_int, fin, idx_t0, idx_t1, idx_t2, asLs_lst, asIt_lst, asIt_tup, List.map_cons, List.map_nil, List.replicate, List.cons_append, List.nil_append, Tg.slots, wipeS, bindT, List.set_cons_zero, List.set_cons_succ, e1, e2, stOk, Bool.not_true, if_false, Bool.false_eq_true]
theorem is_colouring_ok (n : Nat) {l r : Nat} {ts : List (Nat × Nat)} {row : List Int} (w : Web l r ts) (h : Row ts row) : sem T (n + 6) 148 [webV l r ts, rowV row] = M.ret (.bl true) := by
  rw [sem_call (fn := f_is_colouring) rfl rfl]
  have e1 := sure_web_ok n w
  have e2 := is_colouring_in_ok (n + 1) w h
  rw [show n + 1 + 4 = n + 5 by omega] at e2
  simp only [f_is_colouring, evSs, evS, evE, evEs, evAnd, evOr, evI, evPs, setAll, getS_0, getS_s, setS_0, setS_s, lift_ret, bnd_ret, bnd_bnd, chk_ret, asBl_bl, asI_int, fin, idx_t0, idx_t1, idx_t2, asLs_lst, asIt_lst, asIt_tup, List.map_cons, List.map_nil, List.replicate, List.cons_append, List.nil_append, e1, e2]
/-! ### ahead -/
def ahd (ts : List (Nat × Nat)) (row : List Int) (j k : Nat) : Bool := (decide ((tie ts j).1 = (tie ts k).1) && decide (row.getD k 0 < row.getD j 0)) || (decide ((tie ts j).2 = (tie ts k).2) && decide (row.getD j 0 < row.getD k 0))
theorem eq_int (i j : Int) : cmpop .eq (.int i) (.int j) = some (decide (i = j)) := rfl
theorem gt_int (i j : Int) : cmpop .gt (.int i) (.int j) = some (decide (j < i)) := rfl
theorem lt_int (i j : Int) : cmpop .lt (.int i) (.int j) = some (decide (i < j)) := rfl
theorem le_int (i j : Int) : cmpop .le (.int i) (.int j) = some (decide (i ≤ j)) := rfl
theorem ge_int (i j : Int) : cmpop .ge (.int i) (.int j) = some (decide (j ≤ i)) := rfl
theorem idx_tie0 (p : Nat × Nat) : idxop (tieV p) (.int 0) = M.ret (nv p.1) := idx_tup (k := 0) rfl
theorem idx_tie1 (p : Nat × Nat) : idxop (tieV p) (.int 1) = M.ret (nv p.2) := idx_tup (k := 1) rfl
theorem idx_ties {ts : List (Nat × Nat)} {k : Nat} (h : k < ts.length) : idxop (.tup (ts.map tieV)) (nv k) = M.ret (tieV (tie ts k)) := idx_tup (tie_get h)
theorem idx_row {row : List Int} {k : Nat} (h : k < row.length) : idxop (rowV row) (nv k) = M.ret (.int (row.getD k 0)) := idx_tup (row_get h)
theorem dec_nat (a b : Nat) : decide ((a : Int) = (b : Int)) = decide (a = b) := by
  by_cases h : a = b
  · subst h; simp
  · rw [decide_eq_false h, decide_eq_false (by omega)]
theorem is_ahead_eq (n : Nat) {l r : Nat} {ts : List (Nat × Nat)} {row : List Int} {j k : Nat} (hl : row.length = ts.length) (hj : j < ts.length) (hk : k < ts.length) : sem T (n + 1) 138 [webV l r ts, rowV row, nv j, nv k] = M.ret (.bl (ahd ts row j k)) := by
  rw [sem_call (fn := f_is_ahead) rfl rfl]
  simp only [f_is_ahead, evSs, evS, evE, evEs, evAnd, evOr, evI, evPs, setAll, getS_0, getS_s, setS_0, setS_s, lift_ret, bnd_ret, bnd_bnd, chk_ret, asBl_bl, asI_int, fin, idx_t0, idx_t1, idx_t2, asLs_lst, asIt_lst, asIt_tup, List.map_cons, List.map_nil, List.replicate, List.cons_append, List.nil_append, idx_web2, idx_ties hj, idx_ties hk, idx_row (show j < row.length by omega), idx_row (show k < row.length by omega), idx_tie0, idx_tie1, eq_int, gt_int, lt_int, dec_nat]
  unfold ahd
  by_cases h1 : (tie ts j).1 = (tie ts k).1 <;> by_cases h2 : row.getD k 0 < row.getD j 0 <;> by_cases h3 : (tie ts j).2 = (tie ts k).2 <;> by_cases h4 : row.getD j 0 < row.getD k 0 <;>
    simp only [h1, h2, h3, h4, decide_true, decide_false, if_true, if_false, Bool.false_eq_true, evSs, evS, evE, evEs, evAnd, evOr, evI, evPs, setAll, getS_0, getS_s, setS_0, setS_s, lift_ret, bnd_ret, bnd_bnd, chk_ret, asBl_bl, asI_int, fin, idx_t0, idx_t1, idx_t2, asLs_lst, asIt_lst, asIt_tup, List.map_cons, List.map_nil, List.replicate, List.cons_append, List.nil_append, Bool.true_and, Bool.false_and, Bool.or_true, Bool.true_or, Bool.or_false, idx_web2, idx_ties hj, idx_ties hk, idx_row (show j < row.length by omega), idx_row (show k < row.length by omega), idx_tie0, idx_tie1, eq_int, gt_int, lt_int, dec_nat]
def cnA (ts : List (Nat × Nat)) (row : List Int) (lot : List Nat) (k : Nat) : Nat := (lot.filter fun j => ahd ts row j k).length
theorem compGo_filter {α : Type} {f : PV → M (Option PV)} {v : α → PV} {p : α → Bool} : ∀ {xs : List α}, (∀ x ∈ xs, f (v x) = M.ret (if p x then some (v x) else none)) → compGo f (xs.map v) = M.ret ((xs.filter p).map v)
  | [], _ => rfl
  | x :: xs, h => by
    rw [List.map_cons, compGo, h x List.mem_cons_self, bnd_ret, compGo_filter fun y hy => h y (List.mem_cons_of_mem _ hy), bnd_ret, List.filter_cons]
    cases p x <;> rfl
theorem ahead_in_eq (n : Nat) {l r : Nat} {ts : List (Nat × Nat)} {row : List Int} {lot : List Nat} {k : Nat} (hl : row.length = ts.length) (hlot : ∀ j ∈ lot, j < ts.length) (hk : k < ts.length) : sem T (n + 2) 75 [webV l r ts, rowV row, lotV lot, nv k] = M.ret (nv (cnA ts row lot k)) := by
  rw [sem_call (fn := f_ahead_in) rfl rfl]
  simp only [f_ahead_in, evSs, evS, evE, evEs, evAnd, evOr, evI, evPs, setAll, getS_0, getS_s, setS_0, setS_s, lift_ret, bnd_ret, bnd_bnd, chk_ret, asBl_bl, asI_int, fin, idx_t0, idx_t1, idx_t2, asLs_lst, asIt_lst, asIt_tup, List.map_cons, List.map_nil, List.replicate, List.cons_append, List.nil_append]
  rw [show asIt (lotV lot) = M.ret (lot.map nv) from asIt_tup _, bnd_ret]
  rw [compGo_filter (p := fun j => ahd ts row j k) (fun x hx => ?_)]
  · simp only [evSs, evS, evE, evEs, evAnd, evOr, evI, evPs, setAll, getS_0, getS_s, setS_0, setS_s, lift_ret, bnd_ret, bnd_bnd, chk_ret, asBl_bl, asI_int, fin, idx_t0, idx_t1, idx_t2, asLs_lst, asIt_lst, asIt_tup, List.map_cons, List.map_nil, List.replicate, List.cons_append, List.nil_append, len_lst, List.length_map, cnA]
  · simp only [evSs, evS, evE, evEs, evAnd, evOr, evI, evPs, setAll, getS_0, getS_s, setS_0, setS_s, lift_ret, bnd_ret, bnd_bnd, chk_ret, asBl_bl, asI_int, fin, idx_t0, idx_t1, idx_t2, asLs_lst, asIt_lst, asIt_tup, List.map_cons, List.map_nil, List.replicate, List.cons_append, List.nil_append, Tg.slots, wipeS, bindT, List.set_cons_zero, List.set_cons_succ, is_ahead_eq n hl (hlot x hx) hk]
    cases ahd ts row x k <;> rfl
theorem eqv_int (i j : Int) : eqv (.int i) (.int j) = decide (i = j) := by
  unfold eqv PV.toD
  simp [PyData.eqv]
  rw [Bool.eq_iff_iff]
  simp
theorem in_tup (k : Nat) (lot : List Nat) : cmpop .isin (nv k) (lotV lot) = some (decide (k ∈ lot)) := by
  have e : inop (nv k) (lotV lot) = some (decide (k ∈ lot)) := by
    unfold inop lotV
    simp only
    rw [if_pos]
    · congr 1
      rw [Bool.eq_iff_iff]
      simp only [List.any_eq_true, List.mem_map, decide_eq_true_eq]
      constructor
      · rintro ⟨x, ⟨j, hj, rfl⟩, h⟩
        rw [eqv_int, decide_eq_true_eq] at h
        have : j = k := by omega
        exact this ▸ hj
      · intro h
        exact ⟨nv k, ⟨k, h, rfl⟩, by rw [eqv_int]; simp⟩
    · simp [shal, List.all_map]
  exact e
structure Kern (ts : List (Nat × Nat)) (row : List Int) (lot K : List Nat) : Prop where
  inc : K.Pairwise (· < ·)
  sub : ∀ k ∈ K, k ∈ lot
  pair : Pairing ts K
  dom : ∀ k ∈ lot, k ∈ K ∨ ∃ j ∈ K, ahd ts row j k = true
theorem is_kernel_in_ok (n : Nat) {l r : Nat} {ts : List (Nat × Nat)} {row : List Int} {lot K : List Nat} (w : Web l r ts) (hl : row.length = ts.length) (hlot : Lot ts.length lot) (h : Kern ts row lot K) : sem T (n + 3) 158 [webV l r ts, rowV row, lotV lot, lotV K] = M.ret (.bl true) := by
  rw [sem_call (fn := f_is_kernel_in) rfl rfl]
  have hK : Lot ts.length K := ⟨h.inc, fun k hk => hlot.lt k (h.sub k hk)⟩
  have e1 := is_pairing_in_ok n (w.ok3 hK) h.pair
  have eK : asIt (lotV K) = M.ret (K.map nv) := asIt_tup _
  have eL : asIt (lotV lot) = M.ret (lot.map nv) := asIt_tup _
  simp only [f_is_kernel_in, evSs, evS, evE, evEs, evAnd, evOr, evI, evPs, setAll, getS_0, getS_s, setS_0, setS_s, lift_ret, bnd_ret, bnd_bnd, chk_ret, asBl_bl, asI_int, fin, idx_t0, idx_t1, idx_t2, asLs_lst, asIt_lst, asIt_tup, List.map_cons, List.map_nil, List.replicate, List.cons_append, List.nil_append, eK]
  rw [compGo_true (fun x hx => ?_)]
  · simp only [evSs, evS, evE, evEs, evAnd, evOr, evI, evPs, setAll, getS_0, getS_s, setS_0, setS_s, lift_ret, bnd_ret, bnd_bnd, chk_ret, asBl_bl, asI_int, fin, idx_t0, idx_t1, idx_t2, asLs_lst, asIt_lst, asIt_tup, List.map_cons, List.map_nil, List.replicate, List.cons_append, List.nil_append, all_ok, Bool.not_true, if_false, Bool.false_eq_true, e1, eL]
    rw [compGo_true (fun x hx => ?_)]
    · simp only [evSs, evS, evE, evEs, evAnd, evOr, evI, evPs, setAll, getS_0, getS_s, setS_0, setS_s, lift_ret, bnd_ret, bnd_bnd, chk_ret, asBl_bl, asI_int, fin, idx_t0, idx_t1, idx_t2, asLs_lst, asIt_lst, asIt_tup, List.map_cons, List.map_nil, List.replicate, List.cons_append, List.nil_append, all_ok]
    · obtain ⟨k, hk, rfl⟩ := List.mem_map.mp hx
      simp only [evSs, evS, evE, evEs, evAnd, evOr, evI, evPs, setAll, getS_0, getS_s, setS_0, setS_s, lift_ret, bnd_ret, bnd_bnd, chk_ret, asBl_bl, asI_int, fin, idx_t0, idx_t1, idx_t2, asLs_lst, asIt_lst, asIt_tup, List.map_cons, List.map_nil, List.replicate, List.cons_append, List.nil_append, Tg.slots, wipeS, bindT, List.set_cons_zero, List.set_cons_succ, in_tup]
      by_cases hkK : k ∈ K
      · simp only [hkK, decide_true, if_true, evSs, evS, evE, evEs, evAnd, evOr, evI, evPs, setAll, getS_0, getS_s, setS_0, setS_s, lift_ret, bnd_ret, bnd_bnd, chk_ret, asBl_bl, asI_int, fin, idx_t0, idx_t1, idx_t2, asLs_lst, asIt_lst, asIt_tup, List.map_cons, List.map_nil, List.replicate, List.cons_append, List.nil_append]
      · simp only [hkK, decide_false, if_false, Bool.false_eq_true, evSs, evS, evE, evEs, evAnd, evOr, evI, evPs, setAll, getS_0, getS_s, setS_0, setS_s, lift_ret, bnd_ret, bnd_bnd, chk_ret, asBl_bl, asI_int, fin, idx_t0, idx_t1, idx_t2, asLs_lst, asIt_lst, asIt_tup, List.map_cons, List.map_nil, List.replicate, List.cons_append, List.nil_append, eK]
        rw [compGo_map (g := fun x => match x with
          | .int i => .bl (ahd ts row i.toNat k)
          | _ => .non) (fun x hx => ?_)]
        · rw [List.map_map]
          have e4 : ((fun x => match x with
            | PV.int i => PV.bl (ahd ts row i.toNat k)
            | _ => PV.non) ∘ nv) = (PV.bl ∘ fun j => ahd ts row j k) := by
            funext j
            simp [Function.comp]
          rw [e4, ← List.map_map]
          obtain ⟨j, hj, ha⟩ := (h.dom k hk).resolve_left hkK
          have e5 : (K.map fun j => ahd ts row j k).any id = true := List.any_eq_true.mpr ⟨true, List.mem_map.mpr ⟨j, hj, ha⟩, rfl⟩
          simp only [evSs, evS, evE, evEs, evAnd, evOr, evI, evPs, setAll, getS_0, getS_s, setS_0, setS_s, lift_ret, bnd_ret, bnd_bnd, chk_ret, asBl_bl, asI_int, fin, idx_t0, idx_t1, idx_t2, asLs_lst, asIt_lst, asIt_tup, List.map_cons, List.map_nil, List.replicate, List.cons_append, List.nil_append, any_ok, e5, if_true]
        · obtain ⟨j, hj, rfl⟩ := List.mem_map.mp hx
          simp only [evSs, evS, evE, evEs, evAnd, evOr, evI, evPs, setAll, getS_0, getS_s, setS_0, setS_s, lift_ret, bnd_ret, bnd_bnd, chk_ret, asBl_bl, asI_int, fin, idx_t0, idx_t1, idx_t2, asLs_lst, asIt_lst, asIt_tup, List.map_cons, List.map_nil, List.replicate, List.cons_append, List.nil_append, Tg.slots, wipeS, bindT, List.set_cons_zero, List.set_cons_succ, is_ahead_eq (n + 1) hl (hK.lt j hj) (hlot.lt k hk), if_true]
          simp
  · obtain ⟨k, hk, rfl⟩ := List.mem_map.mp hx
    simp only [evSs, evS, evE, evEs, evAnd, evOr, evI, evPs, setAll, getS_0, getS_s, setS_0, setS_s, lift_ret, bnd_ret, bnd_bnd, chk_ret, asBl_bl, asI_int, fin, idx_t0, idx_t1, idx_t2, asLs_lst, asIt_lst, asIt_tup, List.map_cons, List.map_nil, List.replicate, List.cons_append, List.nil_append, Tg.slots, wipeS, bindT, List.set_cons_zero, List.set_cons_succ, in_tup, h.sub k hk, decide_true, if_true]
theorem sure_wishes_ok (n : Nat) {l r : Nat} {ts : List (Nat × Nat)} {row : List Int} {lot : List Nat} (w : Web l r ts) (h : Row ts row) (hlot : Lot ts.length lot) : sem T (n + 6) 266 [webV l r ts, rowV row, lotV lot] = M.ret (.tup [webV l r ts, rowV row, lotV lot]) := by
  rw [sem_call (fn := f_sure_wishes) rfl rfl]
  simp only [f_sure_wishes, evSs, evS, evE, evEs, evAnd, evOr, evI, evPs, setAll, getS_0, getS_s, setS_0, setS_s, lift_ret, bnd_ret, bnd_bnd, chk_ret, asBl_bl, asI_int, fin, idx_t0, idx_t1, idx_t2, asLs_lst, asIt_lst, asIt_tup, List.map_cons, List.map_nil, List.replicate, List.cons_append, List.nil_append, Tg.slots, wipeS, bindT, List.set_cons_zero, List.set_cons_succ, sure_web_ok n w, sure_colouring_ok n w h, sure_lot_ok n hlot, stOk]
theorem ahead_eq (n : Nat) {l r : Nat} {ts : List (Nat × Nat)} {row : List Int} {lot : List Nat} {k : Nat} (w : Web l r ts) (h : Row ts row) (hlot : Lot ts.length lot) (hk : k < ts.length) : sem T (n + 7) 74 [webV l r ts, rowV row, lotV lot, nv k] = M.ret (nv (cnA ts row lot k)) := by
  rw [sem_call (fn := f_ahead) rfl rfl]
  have e1 := sure_within_ok (n + 3) (k : Int) 0 ((ts.length : Nat) - 1) (by omega) (by omega)
  have e2 := ahead_in_eq (n + 4) (l := l) (r := r) h.len hlot.lt hk
  rw [show n + 3 + 3 = n + 6 by omega] at e1
  rw [show n + 4 + 2 = n + 6 by omega] at e2
  simp only [f_ahead, evSs, evS, evE, evEs, evAnd, evOr, evI, evPs, setAll, getS_0, getS_s, setS_0, setS_s, lift_ret, bnd_ret, bnd_bnd, chk_ret, asBl_bl, asI_int, fin, idx_t0, idx_t1, idx_t2, asLs_lst, asIt_lst, asIt_tup, List.map_cons, List.map_nil, List.replicate, List.cons_append, List.nil_append, Tg.slots, wipeS, bindT, List.set_cons_zero, List.set_cons_succ, sure_wishes_ok n w h hlot, Option.bind_some, idx_web2, len_tup, List.length_map, binop, e1, e2]
theorem is_kernel_ok (n : Nat) {l r : Nat} {ts : List (Nat × Nat)} {row : List Int} {lot K : List Nat} (w : Web l r ts) (h : Row ts row) (hlot : Lot ts.length lot) (hk : Kern ts row lot K) : sem T (n + 7) 157 [webV l r ts, rowV row, lotV lot, lotV K] = M.ret (.bl true) := by
  rw [sem_call (fn := f_is_kernel) rfl rfl]
  have hK : Lot ts.length K := ⟨hk.inc, fun k h => hlot.lt k (hk.sub k h)⟩
  have e1 := is_lot_in_ok (n + 2) (l := l) (r := r) hK
  have e2 := is_kernel_in_ok (n + 3) w h.len hlot hk
  rw [show n + 2 + 4 = n + 6 by omega] at e1
  rw [show n + 3 + 3 = n + 6 by omega] at e2
  simp only [f_is_kernel, evSs, evS, evE, evEs, evAnd, evOr, evI, evPs, setAll, getS_0, getS_s, setS_0, setS_s, lift_ret, bnd_ret, bnd_bnd, chk_ret, asBl_bl, asI_int, fin, idx_t0, idx_t1, idx_t2, asLs_lst, asIt_lst, asIt_tup, List.map_cons, List.map_nil, List.replicate, List.cons_append, List.nil_append, Tg.slots, wipeS, bindT, List.set_cons_zero, List.set_cons_succ, sure_wishes_ok n w h hlot, Option.bind_some, e1, e2, if_true]
theorem asked_lengths_eq (n : Nat) {l r : Nat} {ts : List (Nat × Nat)} {row : List Int} (w : Web l r ts) (h : Row ts row) : sem T (n + 6) 87 [webV l r ts, rowV row] = M.ret (.tup ((List.range ts.length).map fun k => nv (cnA ts row (List.range ts.length) k + 1))) := by
  rw [sem_call (fn := f_asked_lengths) rfl rfl]
  have e1 := all_lot_ok (n + 4) (l := l) (r := r) (ts := ts) (by have := w.few; omega)
  rw [show n + 4 + 1 = n + 5 by omega] at e1
  have eA : asIt (lotV (List.range ts.length)) = M.ret ((List.range ts.length).map nv) := asIt_tup _
  simp only [f_asked_lengths, evSs, evS, evE, evEs, evAnd, evOr, evI, evPs, setAll, getS_0, getS_s, setS_0, setS_s, lift_ret, bnd_ret, bnd_bnd, chk_ret, asBl_bl, asI_int, fin, idx_t0, idx_t1, idx_t2, asLs_lst, asIt_lst, asIt_tup, List.map_cons, List.map_nil, List.replicate, List.cons_append, List.nil_append, Tg.slots, wipeS, bindT, List.set_cons_zero, List.set_cons_succ, sure_web_ok n w, sure_colouring_ok n w h, stOk, e1, eA]
  rw [compGo_map (g := fun x => match x with
    | .int i => nv (cnA ts row (List.range ts.length) i.toNat + 1)
    | _ => .non) (fun x hx => ?_)]
  · rw [List.map_map]
    simp only [evSs, evS, evE, evEs, evAnd, evOr, evI, evPs, setAll, getS_0, getS_s, setS_0, setS_s, lift_ret, bnd_ret, bnd_bnd, chk_ret, asBl_bl, asI_int, fin, idx_t0, idx_t1, idx_t2, asLs_lst, asIt_lst, asIt_tup, List.map_cons, List.map_nil, List.replicate, List.cons_append, List.nil_append, b1op]
    congr 2
  · obtain ⟨k, hk, rfl⟩ := List.mem_map.mp hx
    have e2 := ahead_in_eq (n + 3) (l := l) (r := r) h.len (lot_range ts.length).lt (List.mem_range.mp hk)
    rw [show n + 3 + 2 = n + 5 by omega] at e2
    simp only [evSs, evS, evE, evEs, evAnd, evOr, evI, evPs, setAll, getS_0, getS_s, setS_0, setS_s, lift_ret, bnd_ret, bnd_bnd, chk_ret, asBl_bl, asI_int, fin, idx_t0, idx_t1, idx_t2, asLs_lst, asIt_lst, asIt_tup, List.map_cons, List.map_nil, List.replicate, List.cons_append, List.nil_append, Tg.slots, wipeS, bindT, List.set_cons_zero, List.set_cons_succ, e1, e2, binop, if_true]
    simp
    rfl
/-! ### lists -/
structure Lst (L : List Nat) : Prop where
  inc : L.Pairwise (· < ·)
  le : ∀ c ∈ L, c ≤ 99
theorem is_list_ok (n : Nat) {L : List Nat} (h : Lst L) : sem T (n + 4) 161 [lotV L] = M.ret (.bl true) := by
  rw [sem_call (fn := f_is_list) rfl rfl]
  have e1 := is_set_ok n (L.map fun (k : Nat) => (k : Int)) (List.pairwise_map.mpr (h.inc.imp fun {a b} z => by omega))
  rw [← lotV_eq] at e1
  have eL : asIt (lotV L) = M.ret (L.map nv) := asIt_tup _
  simp only [f_is_list, evSs, evS, evE, evEs, evAnd, evOr, evI, evPs, setAll, getS_0, getS_s, setS_0, setS_s, lift_ret, bnd_ret, bnd_bnd, chk_ret, asBl_bl, asI_int, fin, idx_t0, idx_t1, idx_t2, asLs_lst, asIt_lst, asIt_tup, List.map_cons, List.map_nil, List.replicate, List.cons_append, List.nil_append, e1, if_true, eL]
  rw [compGo_true (fun x hx => ?_)]
  · simp only [evSs, evS, evE, evEs, evAnd, evOr, evI, evPs, setAll, getS_0, getS_s, setS_0, setS_s, lift_ret, bnd_ret, bnd_bnd, chk_ret, asBl_bl, asI_int, fin, idx_t0, idx_t1, idx_t2, asLs_lst, asIt_lst, asIt_tup, List.map_cons, List.map_nil, List.replicate, List.cons_append, List.nil_append, all_ok]
  · obtain ⟨k, hk, rfl⟩ := List.mem_map.mp hx
    have := h.le k hk
    simp only [evSs, evS, evE, evEs, evAnd, evOr, evI, evPs, setAll, getS_0, getS_s, setS_0, setS_s, lift_ret, bnd_ret, bnd_bnd, chk_ret, asBl_bl, asI_int, fin, idx_t0, idx_t1, idx_t2, asLs_lst, asIt_lst, asIt_tup, List.map_cons, List.map_nil, List.replicate, List.cons_append, List.nil_append, Tg.slots, wipeS, bindT, List.set_cons_zero, List.set_cons_succ, le_int, decide_eq_true (show (0 : Int) ≤ (k : Int) by omega), decide_eq_true (show ((k : Int) ≤ 99) by omega), if_true]
def lsV (Ls : List (List Nat)) : PV := .tup (Ls.map lotV)
structure Lsts (ts : List (Nat × Nat)) (Ls : List (List Nat)) : Prop where
  len : Ls.length = ts.length
  each : ∀ L ∈ Ls, Lst L
theorem is_lists_in_ok (n : Nat) {l r : Nat} {ts : List (Nat × Nat)} {Ls : List (List Nat)} (h : Lsts ts Ls) : sem T (n + 5) 163 [webV l r ts, lsV Ls] = M.ret (.bl true) := by
  rw [sem_call (fn := f_is_lists_in) rfl rfl]
  have e1 := is_long_ok (n + 3) (Ls.map lotV) (ts.length : Nat) (by rw [List.length_map, h.len])
  rw [show n + 3 + 1 = n + 4 by omega] at e1
  simp only [f_is_lists_in, lsV, evSs, evS, evE, evEs, evAnd, evOr, evI, evPs, setAll, getS_0, getS_s, setS_0, setS_s, lift_ret, bnd_ret, bnd_bnd, chk_ret, asBl_bl, asI_int, fin, idx_t0, idx_t1, idx_t2, asLs_lst, asIt_lst, asIt_tup, List.map_cons, List.map_nil, List.replicate, List.cons_append, List.nil_append, idx_web2, len_tup, List.length_map, e1, if_true]
  rw [compGo_true (fun x hx => ?_)]
  · simp only [evSs, evS, evE, evEs, evAnd, evOr, evI, evPs, setAll, getS_0, getS_s, setS_0, setS_s, lift_ret, bnd_ret, bnd_bnd, chk_ret, asBl_bl, asI_int, fin, idx_t0, idx_t1, idx_t2, asLs_lst, asIt_lst, asIt_tup, List.map_cons, List.map_nil, List.replicate, List.cons_append, List.nil_append, all_ok]
  · obtain ⟨L, hL, rfl⟩ := List.mem_map.mp hx
    simp only [evSs, evS, evE, evEs, evAnd, evOr, evI, evPs, setAll, getS_0, getS_s, setS_0, setS_s, lift_ret, bnd_ret, bnd_bnd, chk_ret, asBl_bl, asI_int, fin, idx_t0, idx_t1, idx_t2, asLs_lst, asIt_lst, asIt_tup, List.map_cons, List.map_nil, List.replicate, List.cons_append, List.nil_append, Tg.slots, wipeS, bindT, List.set_cons_zero, List.set_cons_succ, is_list_ok n (h.each L hL), if_true]
theorem tupdB_ls (Ls : List (List Nat)) : tupdB 2 (lsV Ls) = true := by
  simp [lsV, tupdB, lotV, List.all_map]
theorem sure_lists_ok (n : Nat) {l r : Nat} {ts : List (Nat × Nat)} {Ls : List (List Nat)} (h : Lsts ts Ls) : sem T (n + 6) 258 [webV l r ts, lsV Ls] = M.ret (lsV Ls) := by
  rw [sem_call (fn := f_sure_lists) rfl rfl]
  have e1 := tupled_ok 2 (n + 2) (lsV Ls) (tupdB_ls Ls)
  rw [show n + 2 + 2 + 1 = n + 5 by omega] at e1
  simp only [f_sure_lists, evSs, evS, evE, evEs, evAnd, evOr, evI, evPs, setAll, getS_0, getS_s, setS_0, setS_s, lift_ret, bnd_ret, bnd_bnd, chk_ret, asBl_bl, asI_int, fin, idx_t0, idx_t1, idx_t2, asLs_lst, asIt_lst, asIt_tup, List.map_cons, List.map_nil, List.replicate, List.cons_append, List.nil_append, Tg.slots, wipeS, bindT, List.set_cons_zero, List.set_cons_succ, e1, is_lists_in_ok n h, stOk, Bool.not_true, if_false, Bool.false_eq_true]
theorem zip_all {R : PV → PV → Prop} : ∀ {xs ys : List PV}, (∀ (i : Nat) x y, xs[i]? = some x → ys[i]? = some y → R x y) → ∀ p ∈ zipPV xs ys, ∃ x y, p = .tup [x, y] ∧ R x y
  | [], _, _, p, h => by simp [zipPV] at h
  | _ :: _, [], _, p, h => by simp [zipPV] at h
  | x :: xs, y :: ys, hr, p, h => by
    rw [zipPV] at h
    rcases List.mem_cons.mp h with rfl | h
    · exact ⟨x, y, rfl, hr 0 x y rfl rfl⟩
    · exact zip_all (fun i a b ha hb => hr (i + 1) a b (by simpa using ha) (by simpa using hb)) p h
theorem is_from_in_ok (n : Nat) {l r : Nat} {ts : List (Nat × Nat)} {Ls : List (List Nat)} {row : List Nat} (w : Web l r ts) (h : Row ts (row.map fun (k : Nat) => (k : Int))) (hL : ∀ (i : Nat) c L, row[i]? = some c → Ls[i]? = some L → c ∈ L) : sem T (n + 5) 155 [webV l r ts, lsV Ls, lotV row] = M.ret (.bl true) := by
  rw [sem_call (fn := f_is_from_in) rfl rfl]
  have e1 := is_colouring_in_ok n w h
  rw [show rowV (row.map fun (k : Nat) => (k : Int)) = lotV row from (lotV_eq row).symm] at e1
  simp only [f_is_from_in, evSs, evS, evE, evEs, evAnd, evOr, evI, evPs, setAll, getS_0, getS_s, setS_0, setS_s, lift_ret, bnd_ret, bnd_bnd, chk_ret, asBl_bl, asI_int, fin, idx_t0, idx_t1, idx_t2, asLs_lst, asIt_lst, asIt_tup, List.map_cons, List.map_nil, List.replicate, List.cons_append, List.nil_append, e1, if_true]
  simp only [lsV, lotV, zipop, evSs, evS, evE, evEs, evAnd, evOr, evI, evPs, setAll, getS_0, getS_s, setS_0, setS_s, lift_ret, bnd_ret, bnd_bnd, chk_ret, asBl_bl, asI_int, fin, idx_t0, idx_t1, idx_t2, asLs_lst, asIt_lst, asIt_tup, List.map_cons, List.map_nil, List.replicate, List.cons_append, List.nil_append]
  rw [compGo_true (fun x hx => ?_)]
  · simp only [evSs, evS, evE, evEs, evAnd, evOr, evI, evPs, setAll, getS_0, getS_s, setS_0, setS_s, lift_ret, bnd_ret, bnd_bnd, chk_ret, asBl_bl, asI_int, fin, idx_t0, idx_t1, idx_t2, asLs_lst, asIt_lst, asIt_tup, List.map_cons, List.map_nil, List.replicate, List.cons_append, List.nil_append, all_ok]
  · obtain ⟨a, b, rfl, c, L, rfl, rfl, hc⟩ := zip_all (R := fun x y => ∃ c L, x = nv c ∧ y = lotV L ∧ c ∈ L) (fun i x y hx hy => by
      rw [List.getElem?_map] at hx hy
      obtain ⟨c, hc, rfl⟩ := Option.map_eq_some_iff.mp hx
      obtain ⟨L, hL', rfl⟩ := Option.map_eq_some_iff.mp hy
      exact ⟨c, L, rfl, rfl, hL i c L hc hL'⟩) x hx
    simp only [evSs, evS, evE, evEs, evAnd, evOr, evI, evPs, setAll, getS_0, getS_s, setS_0, setS_s, lift_ret, bnd_ret, bnd_bnd, chk_ret, asBl_bl, asI_int, fin, idx_t0, idx_t1, idx_t2, asLs_lst, asIt_lst, asIt_tup, List.map_cons, List.map_nil, List.replicate, List.cons_append, List.nil_append, Tg.slots, wipeS, bindT, List.set_cons_zero, List.set_cons_succ, Option.bind_some, in_tup, hc, decide_true, if_true]
theorem is_from_lists_ok (n : Nat) {l r : Nat} {ts : List (Nat × Nat)} {Ls : List (List Nat)} {row : List Nat} (w : Web l r ts) (hLs : Lsts ts Ls) (h : Row ts (row.map fun (k : Nat) => (k : Int))) (hL : ∀ (i : Nat) c L, row[i]? = some c → Ls[i]? = some L → c ∈ L) : sem T (n + 7) 156 [webV l r ts, lsV Ls, lotV row] = M.ret (.bl true) := by
  rw [sem_call (fn := f_is_from_lists) rfl rfl]
  have e1 := sure_web_ok (n + 1) w
  have e2 := is_from_in_ok (n + 1) w h hL
  rw [show n + 1 + 5 = n + 6 by omega] at e1 e2
  simp only [f_is_from_lists, evSs, evS, evE, evEs, evAnd, evOr, evI, evPs, setAll, getS_0, getS_s, setS_0, setS_s, lift_ret, bnd_ret, bnd_bnd, chk_ret, asBl_bl, asI_int, fin, idx_t0, idx_t1, idx_t2, asLs_lst, asIt_lst, asIt_tup, List.map_cons, List.map_nil, List.replicate, List.cons_append, List.nil_append, Tg.slots, wipeS, bindT, List.set_cons_zero, List.set_cons_succ, e1, e2, sure_lists_ok n hLs, stOk]
end G
set_option Elab.async false
set_option linter.all false
set_option maxRecDepth 100000
set_option maxHeartbeats 4000000
/-! P4a: asking (Gale, Shapley), plain -/
namespace G
def kget (kept : List (Nat × Nat)) (r : Nat) : Option Nat := (kept.find? fun p => decide (p.1 = r)).map (·.2)
def kput (r t : Nat) (kept : List (Nat × Nat)) : List (Nat × Nat) := if (kept.any fun p => decide (p.1 = r)) = true then kept.map (fun p => if p.1 = r then (p.1, t) else p) else kept ++ [(r, t)]
theorem kget_nil (r : Nat) : kget [] r = none := rfl
theorem kget_cons (p : Nat × Nat) (kept : List (Nat × Nat)) (r : Nat) : kget (p :: kept) r = if p.1 = r then some p.2 else kget kept r := by
  unfold kget
  rw [List.find?_cons]
  by_cases h : p.1 = r
  · simp [h]
  · simp [h]
theorem kget_app (kept : List (Nat × Nat)) (p : Nat × Nat) (r : Nat) : kget (kept ++ [p]) r = match kget kept r with
    | some t => some t
    | none => if p.1 = r then some p.2 else none := by
  induction kept with
  | nil => rw [List.nil_append, kget_cons, kget_nil]
  | cons q kept ih =>
    rw [List.cons_append, kget_cons, kget_cons, ih]
    by_cases h : q.1 = r
    · simp [h]
    · simp [h]
theorem kget_map (kept : List (Nat × Nat)) (r t r' : Nat) : kget (kept.map fun p => if p.1 = r then (p.1, t) else p) r' = if r' = r then (kget kept r).map fun _ => t else kget kept r' := by
  induction kept with
  | nil => simp [kget_nil]
  | cons q kept ih =>
    rw [List.map_cons, kget_cons, ih, kget_cons, kget_cons]
    by_cases h : q.1 = r
    · by_cases h2 : r' = r
      · subst h2; simp [h]
      · simp [h, h2, Ne.symm h2]
    · by_cases h2 : r' = r
      · subst h2; simp [h]
      · simp [h, h2]
theorem kany (kept : List (Nat × Nat)) (r : Nat) : (kept.any fun p => decide (p.1 = r)) = (kget kept r).isSome := by
  induction kept with
  | nil => rfl
  | cons q kept ih =>
    rw [List.any_cons, kget_cons, ih]
    by_cases h : q.1 = r
    · simp [h]
    · simp [h]
theorem kget_kput (kept : List (Nat × Nat)) (r t r' : Nat) : kget (kput r t kept) r' = if r' = r then some t else kget kept r' := by
  unfold kput
  rw [kany]
  cases h : kget kept r with
  | none =>
    simp only [Option.isSome_none, Bool.false_eq_true, if_false]
    rw [kget_app]
    by_cases e : r' = r
    · subst e; simp [h]
    · rw [if_neg e]
      cases kget kept r' with
      | none => simp [Ne.symm e]
      | some z => rfl
  | some z =>
    simp only [Option.isSome_some, if_true]
    rw [kget_map, h]
    rfl
theorem kput_keys (kept : List (Nat × Nat)) (r t : Nat) (h : (kept.map (·.1)).Nodup) : ((kput r t kept).map (·.1)).Nodup := by
  unfold kput
  split
  · rw [List.map_map]
    have : ((·.1) ∘ fun (p : Nat × Nat) => if p.1 = r then (p.1, t) else p) = (·.1) := by
      funext p
      simp only [Function.comp]
      split <;> rfl
    rw [this]
    exact h
  · rename_i hn
    rw [List.map_append]
    refine List.nodup_append.mpr ⟨h, by simp, fun a ha b hb => ?_⟩
    simp only [List.map_cons, List.map_nil, List.mem_singleton] at hb
    subst hb
    rintro rfl
    obtain ⟨p, hp, e⟩ := List.mem_map.mp ha
    exact hn (List.any_eq_true.mpr ⟨p, hp, by simp [e]⟩)
theorem kget_mem {kept : List (Nat × Nat)} {r t : Nat} (h : kget kept r = some t) : (r, t) ∈ kept := by
  induction kept with
  | nil => cases h
  | cons q kept ih =>
    rw [kget_cons] at h
    by_cases e : q.1 = r
    · rw [if_pos e] at h
      cases h
      rw [← e]
      exact List.mem_cons_self
    · rw [if_neg e] at h
      exact List.mem_cons_of_mem _ (ih h)
theorem mem_kget {kept : List (Nat × Nat)} {r t : Nat} (hn : (kept.map (·.1)).Nodup) (h : (r, t) ∈ kept) : kget kept r = some t := by
  induction kept with
  | nil => cases h
  | cons q kept ih =>
    rw [kget_cons]
    rw [List.map_cons, List.nodup_cons] at hn
    rcases List.mem_cons.mp h with e | h
    · rw [← e]; simp
    · rw [if_neg, ih hn.2 h]
      intro e
      exact hn.1 (List.mem_map.mpr ⟨_, h, e.symm⟩)
section
variable (ts : List (Nat × Nat)) (row : List Int) (l : Nat) (full : Nat → List Nat)
abbrev lf (k : Nat) : Nat := (tie ts k).1
abbrev rt (k : Nat) : Nat := (tie ts k).2
structure Gs (asks : List (List Nat)) (kept : List (Nat × Nat)) (line : List Nat) : Prop where
  len : asks.length = l
  suf : ∀ e, e < l → ∃ c, full e = c ++ asks.getD e [] ∧ ∀ k ∈ c, ∃ j, kget kept (rt ts k) = some j ∧ (j = k ∨ row.getD j 0 < row.getD k 0)
  kn : (kept.map (·.1)).Nodup
  kp : ∀ r t, kget kept r = some t → rt ts t = r ∧ lf ts t < l ∧ t ∈ full (lf ts t) ∧ t ∉ asks.getD (lf ts t) []
  inj : ∀ r r' t t', kget kept r = some t → kget kept r' = some t' → lf ts t = lf ts t' → r = r'
  ln : line.Nodup
  lk : ∀ e ∈ line, e < l ∧ ∀ r t, kget kept r = some t → lf ts t ≠ e
  cov : ∀ e, e < l → e ∈ line ∨ (∃ r t, kget kept r = some t ∧ lf ts t = e) ∨ asks.getD e [] = []
structure Full (lot : List Nat) : Prop where
  mem : ∀ e, e < l → ∀ k, k ∈ full e ↔ k ∈ lot ∧ lf ts k = e
  dec : ∀ e, e < l → (full e).Pairwise fun j k => row.getD k 0 < row.getD j 0
  lt : ∀ k ∈ lot, lf ts k < l
  nr : ∀ j ∈ lot, ∀ k ∈ lot, j ≠ k → rt ts j = rt ts k → row.getD j 0 ≠ row.getD k 0
end
section
variable {ts : List (Nat × Nat)} {row : List Int} {l : Nat} {full : Nat → List Nat} {lot : List Nat} {asks : List (List Nat)} {kept : List (Nat × Nat)} {line : List Nat}
def left2 (asks : List (List Nat)) : Nat := (asks.map List.length).sum
theorem getD_set {asks : List (List Nat)} {e i : Nat} {v : List Nat} (h : e < asks.length) : (asks.set e v).getD i [] = if i = e then v else asks.getD i [] := by
  rw [List.getD_eq_getElem?_getD, List.getD_eq_getElem?_getD]
  by_cases q : i = e
  · subst q
    rw [List.getElem?_set_self h, if_pos rfl]
    rfl
  · rw [List.getElem?_set_ne (Ne.symm q), if_neg q]
theorem sum_set : ∀ {asks : List (List Nat)} {e k : Nat} {v : List Nat}, e < asks.length → asks.getD e [] = k :: v → left2 (asks.set e v) + 1 = left2 asks
  | [], e, k, v, h, _ => absurd h (by simp)
  | a :: asks, 0, k, v, _, h => by
    simp at h
    subst h
    simp [left2]
    omega
  | a :: asks, e + 1, k, v, h, h2 => by
    have := sum_set (asks := asks) (e := e) (k := k) (v := v) (by simpa using h) (by simpa using h2)
    simp [left2] at this ⊢
    omega
/-- nothing left to ask -/
theorem Gs.empty (g : Gs ts row l full asks kept (line ++ [e])) (h : asks.getD e [] = []) : Gs ts row l full asks kept line := by
  refine ⟨g.len, g.suf, g.kn, g.kp, g.inj, (List.nodup_append.mp g.ln).1, fun x hx => g.lk x (List.mem_append_left _ hx), fun x hx => ?_⟩
  rcases g.cov x hx with q | q | q
  · rcases List.mem_append.mp q with q | q
    · exact .inl q
    · rw [List.mem_singleton.mp q]
      exact .inr (.inr h)
  · exact .inr (.inl q)
  · exact .inr (.inr q)
theorem Full.nodup (f : Full ts row l full lot) {e : Nat} (he : e < l) : (full e).Nodup := by
  have := f.dec e he
  exact this.imp fun {a b} h e => by subst e; omega
/-- k is asked for: who keeps the right end afterwards -/
theorem Gs.ask (f : Full ts row l full lot) (g : Gs ts row l full asks kept (line ++ [e])) {k : Nat} {rest : List Nat} (h : asks.getD e [] = k :: rest) :
    k ∈ lot ∧ lf ts k = e ∧ e < l ∧ (match kget kept (rt ts k) with
      | none => Gs ts row l full (asks.set e rest) (kput (rt ts k) k kept) line
      | some j => j ∈ lot ∧ (if row.getD k 0 < row.getD j 0 then Gs ts row l full (asks.set e rest) (kput (rt ts k) k kept) (line ++ [lf ts j]) else Gs ts row l full (asks.set e rest) kept (line ++ [e]))) := by
  have he : e < l := (g.lk e (by simp)).1
  have hel : e < asks.length := by rw [g.len]; exact he
  obtain ⟨c, hc, hd⟩ := g.suf e he
  rw [h] at hc
  have hk : k ∈ full e := by rw [hc]; simp
  obtain ⟨hkl, hke⟩ := (f.mem e he k).mp hk
  have nd := f.nodup he
  have hkr : k ∉ rest := by
    rw [hc] at nd
    exact (List.nodup_cons.mp (List.nodup_append.mp nd).2.1).1
  have noe : ∀ r t, kget kept r = some t → lf ts t ≠ e := (g.lk e (by simp)).2
  have lnd := List.nodup_append.mp g.ln
  have enl : e ∉ line := fun z => lnd.2.2 e z e (by simp) rfl
  have notk : ∀ r t, kget kept r = some t → t ≠ k := fun r t ht z => noe r t ht (by rw [z]; exact hke)
  -- the consumed ones, with k among them
  have suf' : ∀ kept' : List (Nat × Nat), (∀ x, (∃ j, kget kept (rt ts x) = some j ∧ (j = x ∨ row.getD j 0 < row.getD x 0)) → ∃ j, kget kept' (rt ts x) = some j ∧ (j = x ∨ row.getD j 0 < row.getD x 0)) → (∃ j, kget kept' (rt ts k) = some j ∧ (j = k ∨ row.getD j 0 < row.getD k 0)) →
      ∀ i, i < l → ∃ c, full i = c ++ (asks.set e rest).getD i [] ∧ ∀ k ∈ c, ∃ j, kget kept' (rt ts k) = some j ∧ (j = k ∨ row.getD j 0 < row.getD k 0) := fun kept' h1 h2 i hi => by
    rw [getD_set hel]
    by_cases q : i = e
    · subst q
      rw [if_pos rfl]
      refine ⟨c ++ [k], by rw [hc]; simp, fun x hx => ?_⟩
      rcases List.mem_append.mp hx with hx | hx
      · exact h1 x (hd x hx)
      · rw [List.mem_singleton.mp hx]; exact h2
    · rw [if_neg q]
      obtain ⟨c', a1, a2⟩ := g.suf i hi
      exact ⟨c', a1, fun x hx => h1 x (a2 x hx)⟩
  have nask : ∀ t i, t ∉ asks.getD i [] → t ∉ (asks.set e rest).getD i [] := fun t i ht z => by
    rw [getD_set hel] at z
    by_cases q : i = e
    · subst q
      rw [if_pos rfl] at z
      rw [h] at ht
      exact ht (List.mem_cons_of_mem _ z)
    · rw [if_neg q] at z; exact ht z
  have kasks : k ∉ (asks.set e rest).getD (lf ts k) [] := by
    rw [hke, getD_set hel, if_pos rfl]
    exact hkr
  have cov0 : ∀ i, i ≠ e → asks.getD i [] = [] → (asks.set e rest).getD i [] = [] := fun i q z => by rw [getD_set hel, if_neg q]; exact z
  refine ⟨hkl, hke, he, ?_⟩
  cases hr : kget kept (rt ts k) with
  | none =>
    show Gs ts row l full (asks.set e rest) (kput (rt ts k) k kept) line
    refine ⟨by rw [List.length_set]; exact g.len, suf' _ (fun x ⟨j, h1, h2⟩ => ?_) ⟨k, by rw [kget_kput, if_pos rfl], .inl rfl⟩, kput_keys _ _ _ g.kn, fun r t ht => ?_, fun r r' t t' h1 h2 h3 => ?_, lnd.1, fun x hx => ⟨(g.lk x (List.mem_append_left _ hx)).1, fun r t ht => ?_⟩, fun i hi => ?_⟩
    · refine ⟨j, ?_, h2⟩
      rw [kget_kput, if_neg]
      · exact h1
      · intro z; rw [z, hr] at h1; cases h1
    · rw [kget_kput] at ht
      split at ht
      · rename_i q; cases ht; exact ⟨q.symm, by rw [hke]; exact he, by rw [hke]; exact hk, kasks⟩
      · obtain ⟨a1, a2, a3, a4⟩ := g.kp r t ht
        exact ⟨a1, a2, a3, nask _ _ a4⟩
    · rw [kget_kput] at h1 h2
      split at h1
      · rename_i q1
        split at h2
        · rename_i q2; rw [q1, q2]
        · cases h1; exact absurd (by rw [← h3, hke]) (noe r' t' h2)
      · split at h2
        · cases h2; exact absurd (by rw [h3, hke]) (noe r t h1)
        · exact g.inj r r' t t' h1 h2 h3
    · rw [kget_kput] at ht
      split at ht
      · cases ht; rw [hke]; exact fun z => enl (z ▸ hx)
      · exact (g.lk x (List.mem_append_left _ hx)).2 r t ht
    · by_cases q : i = e
      · subst q
        exact .inr (.inl ⟨rt ts k, k, by rw [kget_kput, if_pos rfl], hke⟩)
      · rcases g.cov i hi with z | ⟨r, t, z1, z2⟩ | z
        · rcases List.mem_append.mp z with z | z
          · exact .inl z
          · exact absurd (List.mem_singleton.mp z) q
        · refine .inr (.inl ⟨r, t, ?_, z2⟩)
          rw [kget_kput, if_neg]
          · exact z1
          · intro w; rw [w, hr] at z1; cases z1
        · exact .inr (.inr (cov0 i q z))
  | some j =>
    obtain ⟨j1, j2, j3, j4⟩ := g.kp _ _ hr
    have hjl := ((f.mem _ j2 j).mp j3).1
    have hjk : j ≠ k := notk _ _ hr
    refine ⟨hjl, ?_⟩
    by_cases hlt : row.getD k 0 < row.getD j 0
    · rw [if_pos hlt]
      have jne : lf ts j ≠ e := noe _ _ hr
      have jnl : lf ts j ∉ line := fun z => (g.lk _ (List.mem_append_left _ z)).2 _ _ hr rfl
      refine ⟨by rw [List.length_set]; exact g.len, suf' _ (fun x ⟨i, h1, h2⟩ => ?_) ⟨k, by rw [kget_kput, if_pos rfl], .inl rfl⟩, kput_keys _ _ _ g.kn, fun r t ht => ?_, fun r r' t t' h1 h2 h3 => ?_, ?_, fun x hx => ?_, fun i hi => ?_⟩
      · rw [kget_kput]
        by_cases q : rt ts x = rt ts k
        · rw [if_pos q]
          rw [q, hr] at h1
          cases h1
          refine ⟨k, rfl, .inr ?_⟩
          rcases h2 with rfl | h2
          · exact hlt
          · omega
        · rw [if_neg q]; exact ⟨i, h1, h2⟩
      · rw [kget_kput] at ht
        split at ht
        · rename_i q; cases ht; exact ⟨q.symm, by rw [hke]; exact he, by rw [hke]; exact hk, kasks⟩
        · obtain ⟨a1, a2, a3, a4⟩ := g.kp r t ht
          exact ⟨a1, a2, a3, nask _ _ a4⟩
      · rw [kget_kput] at h1 h2
        split at h1
        · rename_i q1
          split at h2
          · rename_i q2; rw [q1, q2]
          · cases h1; exact absurd (by rw [← h3, hke]) (noe r' t' h2)
        · split at h2
          · cases h2; exact absurd (by rw [h3, hke]) (noe r t h1)
          · exact g.inj r r' t t' h1 h2 h3
      · exact List.nodup_append.mpr ⟨lnd.1, by simp, fun a ha b hb z => by
          have : b = lf ts j := by simpa using hb
          subst this; subst z
          exact jnl ha⟩
      · rcases List.mem_append.mp hx with hx | hx
        · refine ⟨(g.lk x (List.mem_append_left _ hx)).1, fun r t ht => ?_⟩
          rw [kget_kput] at ht
          split at ht
          · cases ht; rw [hke]; exact fun z => enl (z ▸ hx)
          · exact (g.lk x (List.mem_append_left _ hx)).2 r t ht
        · rw [List.mem_singleton.mp hx]
          refine ⟨j2, fun r t ht => ?_⟩
          rw [kget_kput] at ht
          split at ht
          · cases ht; rw [hke]; exact fun z => jne z.symm
          · rename_i q
            exact fun z => q (g.inj r (rt ts k) t j ht hr z)
      · by_cases q : i = e
        · subst q
          exact .inr (.inl ⟨rt ts k, k, by rw [kget_kput, if_pos rfl], hke⟩)
        · by_cases q2 : i = lf ts j
          · exact .inl (by rw [q2]; simp)
          · rcases g.cov i hi with z | ⟨r, t, z1, z2⟩ | z
            · rcases List.mem_append.mp z with z | z
              · exact .inl (List.mem_append_left _ z)
              · exact absurd (List.mem_singleton.mp z) q
            · refine .inr (.inl ⟨r, t, ?_, z2⟩)
              rw [kget_kput, if_neg]
              · exact z1
              · intro w
                rw [w, hr] at z1
                cases z1
                exact q2 z2.symm
            · exact .inr (.inr (cov0 i q z))
    · rw [if_neg hlt]
      have hne := f.nr k hkl j hjl (Ne.symm hjk) j1.symm
      have hlt2 : row.getD j 0 < row.getD k 0 := by omega
      refine ⟨by rw [List.length_set]; exact g.len, suf' _ (fun x h => h) ⟨j, hr, .inr hlt2⟩, g.kn, fun r t ht => ?_, g.inj, g.ln, g.lk, fun i hi => ?_⟩
      · obtain ⟨a1, a2, a3, a4⟩ := g.kp r t ht
        exact ⟨a1, a2, a3, nask _ _ a4⟩
      · by_cases q : i = e
        · exact .inl (by rw [q]; simp)
        · rcases g.cov i hi with z | z | z
          · exact .inl z
          · exact .inr (.inl z)
          · exact .inr (.inr (cov0 i q z))
end
end G
set_option Elab.async false
set_option linter.all false
set_option maxRecDepth 100000
set_option maxHeartbeats 4000000
/-! P4b: asking, in the program -/
namespace G
open PySem
theorem nodup_lt : ∀ (m : Nat) (l : List Nat), l.Nodup → (∀ x ∈ l, x < m) → l.length ≤ m
  | 0, l, _, h => by
    cases l with
    | nil => simp
    | cons x l => exact absurd (h x List.mem_cons_self) (by omega)
  | m + 1, l, hn, h => by
    have h1 := nodup_lt m (l.erase m) (hn.erase m) fun x hx => by
      obtain ⟨a, b⟩ := (hn.mem_erase_iff).mp hx
      have := h x b
      omega
    by_cases hm : m ∈ l
    · rw [List.length_erase_of_mem hm] at h1
      omega
    · rw [List.erase_of_not_mem hm] at h1
      omega
theorem len_le1 {l : List Nat} (hn : l.Nodup) (h : ∀ a ∈ l, ∀ b ∈ l, a = b) : l.length ≤ 1 := by
  cases l with
  | nil => simp
  | cons x l => cases l with
    | nil => simp
    | cons y l =>
      exfalso
      have := h x List.mem_cons_self y (by simp)
      subst this
      simp at hn
/-- a list of numbers, sorted -/
def sortN (l : List Nat) : List Nat := (sortI (l.map fun (k : Nat) => (k : Int))).map Int.toNat
theorem sortN_cast (l : List Nat) : sortI (l.map fun (k : Nat) => (k : Int)) = (sortN l).map fun (k : Nat) => (k : Int) := by
  unfold sortN
  rw [List.map_map]
  have : ∀ x ∈ sortI (l.map fun (k : Nat) => (k : Int)), ((fun (k : Nat) => (k : Int)) ∘ Int.toNat) x = id x := fun x hx => by
    obtain ⟨k, _, rfl⟩ := List.mem_map.mp ((sortI_perm _).mem_iff.mp hx)
    simp
  rw [List.map_congr_left this, List.map_id]
theorem sortN_perm (l : List Nat) : (sortN l).Perm l := by
  have h := (sortI_perm (l.map fun (k : Nat) => (k : Int))).map Int.toNat
  rw [List.map_map] at h
  have e : (Int.toNat ∘ fun (k : Nat) => (k : Int)) = id := by funext k; simp
  rw [e, List.map_id] at h
  exact h
theorem sortN_lt {l : List Nat} (h : l.Nodup) : (sortN l).Pairwise (· < ·) := by
  have h1 := sortI_sorted (l.map fun (k : Nat) => (k : Int))
  rw [sortN_cast, List.pairwise_map] at h1
  have h2 : (sortN l).Nodup := (sortN_perm l).nodup_iff.mpr h
  exact (h1.and h2).imp fun {a b} ⟨p, q⟩ => by omega
section
variable {ts : List (Nat × Nat)} {row : List Int} {l : Nat} {full : Nat → List Nat} {lot : List Nat} {asks : List (List Nat)} {kept : List (Nat × Nat)}
/-- at the end: a kernel -/
theorem Gs.kern (f : Full ts row l full lot) (g : Gs ts row l full asks kept []) : Kern ts row lot (sortN (kept.map (·.2))) := by
  have mem : ∀ t, t ∈ sortN (kept.map (·.2)) ↔ ∃ r, kget kept r = some t := fun t => by
    rw [(sortN_perm _).mem_iff, List.mem_map]
    constructor
    · rintro ⟨⟨r, t'⟩, h, rfl⟩
      exact ⟨r, mem_kget g.kn h⟩
    · rintro ⟨r, h⟩
      exact ⟨(r, t), kget_mem h, rfl⟩
  have nd : (kept.map (·.2)).Nodup := by
    rw [List.nodup_iff_pairwise_ne, List.pairwise_map]
    have h1 := g.kn
    rw [List.nodup_iff_pairwise_ne, List.pairwise_map] at h1
    refine h1.imp_of_mem fun {a b} ha hb hne e => hne ?_
    obtain ⟨ra, ta⟩ := a
    obtain ⟨rb, tb⟩ := b
    have e' : ta = tb := e
    subst e'
    rw [← (g.kp ra ta (mem_kget g.kn ha)).1, ← (g.kp rb ta (mem_kget g.kn hb)).1]
  have srt := sortN_lt nd
  have snd : (sortN (kept.map (·.2))).Nodup := (sortN_perm _).nodup_iff.mpr nd
  refine ⟨srt, fun k hk => ?_, fun s hs e => ?_, fun k hk => ?_⟩
  · obtain ⟨r, h⟩ := (mem k).mp hk
    obtain ⟨_, a2, a3, _⟩ := g.kp r k h
    exact ((f.mem _ a2 k).mp a3).1
  · refine len_le1 (snd.filter _) fun a ha b hb => ?_
    obtain ⟨a1, a2⟩ := mem_atE.mp ha
    obtain ⟨b1, b2⟩ := mem_atE.mp hb
    obtain ⟨ra, ka⟩ := (mem a).mp a1
    obtain ⟨rb, kb⟩ := (mem b).mp b1
    have hr : ra = rb := by
      rcases hs with rfl | rfl
      · exact g.inj ra rb a b ka kb (by simp [en] at a2 b2; show (tie ts a).1 = (tie ts b).1; rw [a2, b2])
      · rw [← (g.kp ra a ka).1, ← (g.kp rb b kb).1]
        simp [en] at a2 b2
        show (tie ts a).2 = (tie ts b).2
        rw [a2, b2]
    subst hr
    rw [ka] at kb
    exact Option.some.inj kb
  · have he := f.lt k hk
    obtain ⟨c, hc, hd⟩ := g.suf _ he
    have hkf : k ∈ full (lf ts k) := (f.mem _ he k).mpr ⟨hk, rfl⟩
    rw [hc] at hkf
    rcases List.mem_append.mp hkf with h | h
    · obtain ⟨j, h1, h2⟩ := hd k h
      rcases h2 with rfl | h2
      · exact .inl ((mem j).mpr ⟨_, h1⟩)
      · refine .inr ⟨j, (mem j).mpr ⟨_, h1⟩, ?_⟩
        have := (g.kp _ j h1).1
        unfold ahd
        rw [decide_eq_true (show (tie ts j).2 = (tie ts k).2 from this), decide_eq_true h2]
        simp
    · rcases g.cov _ he with z | ⟨r, t, z1, z2⟩ | z
      · cases z
      · obtain ⟨_, _, a3, a4⟩ := g.kp r t z1
        rw [z2] at a3 a4
        have htc : t ∈ c := by
          rw [hc] at a3
          exact (List.mem_append.mp a3).resolve_right a4
        have hp := f.dec _ he
        rw [hc] at hp
        have := (List.pairwise_append.mp hp).2.2 t htc k h
        refine .inr ⟨t, (mem t).mpr ⟨r, z1⟩, ?_⟩
        unfold ahd
        rw [decide_eq_true (show (tie ts t).1 = (tie ts k).1 from z2), decide_eq_true this]
        simp
      · rw [z] at h; cases h
end
/-! ### the values -/
def pairV (row : List Int) (k : Nat) : PV := .tup [.int (-(row.getD k 0)), nv k]
def askV (row : List Int) (a : List Nat) : PV := .lst (a.map (pairV row))
def keptV (kept : List (Nat × Nat)) : List (Int × PV) := kept.map fun p => ((p.1 : Int), nv p.2)
theorem dGet_kept (kept : List (Nat × Nat)) (r : Nat) : dGet (keptV kept) (r : Int) = (kget kept r).map nv := by
  induction kept with
  | nil => rfl
  | cons p kept ih =>
    rw [kget_cons]
    unfold dGet keptV at ih ⊢
    rw [List.map_cons, List.find?_cons]
    by_cases h : p.1 = r
    · subst h; simp
    · rw [if_neg h]
      have : ¬ ((p.1 : Int) = (r : Int)) := by omega
      simp only [this, decide_false]
      exact ih
theorem dPut_kept (kept : List (Nat × Nat)) (r t : Nat) : dPut (r : Int) (nv t) (keptV kept) = keptV (kput r t kept) := by
  have e : ((keptV kept).any fun p => decide (p.1 = (r : Int))) = kept.any fun p => decide (p.1 = r) := by
    unfold keptV
    rw [List.any_map]
    congr 1
    funext p
    simp only [Function.comp]
    exact dec_nat p.1 r
  unfold dPut kput
  rw [e]
  split
  · unfold keptV
    rw [List.map_map, List.map_map]
    congr 1
    funext p
    simp only [Function.comp]
    by_cases h : p.1 = r
    · rw [if_pos h, if_pos (by omega)]
    · rw [if_neg h, if_neg (by omega)]
  · unfold keptV
    rw [List.map_append]
    rfl
theorem eqNil (xs : List PV) (h : shal 20 (.lst xs) = true) : eqop (.lst xs) (.lst []) = some xs.isEmpty := by
  have h2 : shal 20 (.lst []) = true := rfl
  unfold eqop
  simp only [h, h2, Bool.and_self, if_true]
  congr 1
  unfold eqv
  cases xs with
  | nil => simp [PV.toD, PV.toDs, PyData.eqv, PyData.eqvAll]
  | cons x xs => simp [PV.toD, PV.toDs, PyData.eqv, PyData.eqvAll]
theorem eq_nil_line (line : List Nat) : cmpop .ne (.lst (line.map nv)) (.lst []) = some (!line.isEmpty) := by
  have e : shal 20 (.lst (line.map nv)) = true := by simp [shal, List.all_map]
  simp [cmpop, eqNil _ e]
theorem eq_nil_ask (row : List Int) (a : List Nat) : cmpop .eq (askV row a) (.lst []) = some a.isEmpty := by
  have e : shal 20 (askV row a) = true := by simp [askV, shal, List.all_map, pairV]
  unfold askV at e ⊢
  simp [cmpop, eqNil _ e]
/-- a loop with a measure -/
theorem Run.whl {c : Slots → M Bool} {b : Slots → M Fl} {Q : Fl → Prop} (I : Nat → Slots → Prop) (hs : ∀ m ρ, I m ρ → (c ρ = M.ret false ∧ Q (.nx ρ)) ∨ (c ρ = M.ret true ∧ Run (b ρ) fun r => ∃ ρ' m', (r = .nx ρ' ∨ r = .ct ρ') ∧ m' < m ∧ I m' ρ')) : ∀ (fuel m : Nat) (ρ : Slots), I m ρ → m < fuel → Run (loopW c b fuel ρ) Q
  | 0, m, ρ, _, h => absurd h (by omega)
  | fuel + 1, m, ρ, hI, h => by
    rcases hs m ρ hI with ⟨e, q⟩ | ⟨e, _, e2, ρ', m', hr, hm, hI'⟩
    · rw [loopW, e, bnd_ret]
      simp only [Bool.false_eq_true, if_false]
      exact Run.ret q
    · rw [loopW, e, bnd_ret]
      simp only [if_true]
      rw [e2, bnd_ret]
      rcases hr with rfl | rfl
      · exact Run.whl I hs fuel m' ρ' hI' (by omega)
      · exact Run.whl I hs fuel m' ρ' hI' (by omega)
end G
set_option Elab.async false
set_option linter.all false
set_option maxRecDepth 100000
set_option maxHeartbeats 4000000
/-! P4c: asked_in gives a kernel -/
namespace G
open PySem
def fP (row : List Int) (k : Nat) : List Int := [-(row.getD k 0), (k : Int)]
def dec (x : List Int) : Nat := (x.getD 1 0).toNat
theorem dec_fP (row : List Int) (k : Nat) : dec (fP row k) = k := by simp [dec, fP]
def srt (row : List Int) (a : List Nat) : List Nat := (sortT (a.map (fP row))).map dec
theorem srt_map (row : List Int) (a : List Nat) : (srt row a).map (fP row) = sortT (a.map (fP row)) := by
  unfold srt
  rw [List.map_map]
  have : ∀ x ∈ sortT (a.map (fP row)), (fP row ∘ dec) x = id x := fun x hx => by
    obtain ⟨k, _, rfl⟩ := List.mem_map.mp ((sortT_perm _).mem_iff.mp hx)
    simp only [Function.comp, dec_fP, id]
  rw [List.map_congr_left this, List.map_id]
theorem srt_perm (row : List Int) (a : List Nat) : (srt row a).Perm a := by
  have h := (sortT_perm (a.map (fP row))).map dec
  rw [List.map_map] at h
  have e : (dec ∘ fP row) = id := by funext k; exact dec_fP row k
  rw [e, List.map_id] at h
  exact h
theorem srt_le (row : List Int) (a : List Nat) : (srt row a).Pairwise fun j k => row.getD k 0 ≤ row.getD j 0 := by
  have h := sortT_sorted (a.map (fP row))
  rw [← srt_map, List.pairwise_map] at h
  refine h.imp fun {j k} hjk => ?_
  have hjk : HT.lexLt (fP row k) (fP row j) = false := hjk
  unfold fP at hjk
  rw [HT.lexLt_cons] at hjk
  split at hjk
  · omega
  · simp only [decide_eq_false_iff_not] at hjk
    omega
theorem sorted_pairs (row : List Int) (a : List Nat) : b1op .sorted (.lst (a.map (pairV row))) = some (askV row (srt row a)) := by
  cases a with
  | nil => rfl
  | cons k a =>
    have e1 : asInts ((k :: a).map (pairV row)) = none := rfl
    have e2 : ∀ a : List Nat, asTups (a.map (pairV row)) = some (a.map (fP row)) := fun a => by
      induction a with
      | nil => rfl
      | cons k a ih =>
        rw [List.map_cons]
        simp only [pairV, asTups, asInts, Option.map_some, Option.bind_some]
        have ih' : asTups (a.map (pairV row)) = some (a.map (fP row)) := ih
        rw [ih']
        rfl
    have e3 : ((k :: a).map (fP row)).all (fun t => t.length == 2) = true := by simp [List.all_map, fP]
    simp only [b1op, e1, e2, Option.bind_some, e3, if_true]
    rw [← srt_map, List.map_map]
    rfl
theorem full_ok {ts : List (Nat × Nat)} {row : List Int} {l r : Nat} {lot : List Nat} (o : Ok3 l r ts lot) (hn : lot.Nodup) (pl : ∀ j ∈ lot, ∀ k ∈ lot, j ≠ k → lf ts j = lf ts k → row.getD j 0 ≠ row.getD k 0) (pr : ∀ j ∈ lot, ∀ k ∈ lot, j ≠ k → rt ts j = rt ts k → row.getD j 0 ≠ row.getD k 0) :
    Full ts row l (fun e => srt row (atE ts 0 e lot)) lot := by
  have mem : ∀ e k, k ∈ srt row (atE ts 0 e lot) ↔ k ∈ lot ∧ lf ts k = e := fun e k => by
    rw [(srt_perm _ _).mem_iff, mem_atE]
    rfl
  refine ⟨fun e _ => mem e, fun e _ => ?_, fun k hk => ?_, pr⟩
  · have nd : (srt row (atE ts 0 e lot)).Nodup := (srt_perm _ _).nodup_iff.mpr (hn.filter _)
    refine ((srt_le row _).and nd).imp_of_mem fun {j k} hj hk ⟨h1, h2⟩ => ?_
    obtain ⟨a1, a2⟩ := (mem e j).mp hj
    obtain ⟨b1, b2⟩ := (mem e k).mp hk
    have := pl j a1 k b1 h2 (by rw [a2, b2])
    omega
  · have hk' := o.lk k hk
    have : tie ts k ∈ ts := by
      unfold tie
      rw [List.getD_eq_getElem?_getD, List.getElem?_eq_getElem hk']
      exact List.getElem_mem hk'
    exact (o.lt _ this).1
theorem gs_start {ts : List (Nat × Nat)} {row : List Int} {l : Nat} {full : Nat → List Nat} : Gs ts row l full ((List.range l).map full) [] (List.range l).reverse := by
  have e : ∀ i, i < l → ((List.range l).map full).getD i [] = full i := fun i hi => by
    rw [List.getD_eq_getElem?_getD, List.getElem?_map, List.getElem?_range hi]
    rfl
  refine ⟨by simp, fun i hi => ⟨[], by rw [e i hi]; rfl, fun k h => absurd h (by simp)⟩, by simp, fun r t h => (by cases h), fun r r' t t' h => (by cases h), ?_, fun i hi => ⟨by simpa using hi, fun r t h => (by cases h)⟩, fun i hi => .inl (by simpa using hi)⟩
  exact (List.reverse_perm _).nodup_iff.mpr List.nodup_range
theorem left2_le {asks : List (List Nat)} {b : Nat} : (∀ a ∈ asks, a.length ≤ b) → left2 asks ≤ asks.length * b := by
  induction asks with
  | nil => intro _; simp [left2]
  | cons a asks ih =>
    intro h
    have h1 := h a List.mem_cons_self
    have h2 := ih fun x hx => h x (List.mem_cons_of_mem _ hx)
    simp only [left2, List.map_cons, List.sum_cons, List.length_cons] at h2 ⊢
    rw [Nat.succ_mul]
    omega
theorem shal_ints (xs : List Nat) : (xs.map nv).all fl = true := by simp [List.all_map, fl, flat]
theorem asks_get {row : List Int} {asks : List (List Nat)} {e : Nat} (h : e < asks.length) : (asks.map (askV row))[e]? = some (askV row (asks.getD e [])) := by
  rw [List.getElem?_map, List.getElem?_eq_getElem h, List.getD_eq_getElem?_getD, List.getElem?_eq_getElem h]
  rfl
theorem idx_dct {kvs : List (Int × PV)} {i : Int} {v : PV} (h : dGet kvs i = some v) : idxop (.dct kvs) (.int i) = M.ret v := by
  funext t
  simp only [idxop, asIo, h]
  rfl
theorem tuple_lst (xs : List PV) : b1op .tuple (.lst xs) = some (.tup xs) := rfl
theorem tuple_tup (xs : List PV) : b1op .tuple (.tup xs) = some (.tup xs) := rfl
theorem list_lst (xs : List PV) : b1op .list (.lst xs) = some (.lst xs) := rfl
theorem svals_kept (kept : List (Nat × Nat)) (h : kept.length < 64) : b1op .svals (.dct (keptV kept)) = some (.lst ((sortN (kept.map (·.2))).map nv)) := by
  have e1 : (keptV kept).map (·.2) = ((kept.map (·.2)).map fun (k : Nat) => (k : Int)).map PV.int := by
    unfold keptV
    rw [List.map_map, List.map_map, List.map_map]
    rfl
  simp only [b1op, e1, asInts_map, Option.bind_some]
  rw [if_pos (by rw [List.length_map, List.length_map]; exact h), sortN_cast, List.map_map]
  rfl
theorem asked_in_ok (n : Nat) {ts : List (Nat × Nat)} {row : List Int} {l r : Nat} {lot : List Nat} (o : Ok3 l r ts lot) (hl : row.length = ts.length) (hn : lot.Nodup) (pl : ∀ j ∈ lot, ∀ k ∈ lot, j ≠ k → lf ts j = lf ts k → row.getD j 0 ≠ row.getD k 0) (pr : ∀ j ∈ lot, ∀ k ∈ lot, j ≠ k → rt ts j = rt ts k → row.getD j 0 ≠ row.getD k 0) :
    ∃ K, Kern ts row lot K ∧ sem T (n + 2) 86 [webV l r ts, rowV row, lotV lot, lotL (List.range l)] = M.ret (lotV K) := by
  have F := full_ok (row := row) o hn pl pr
  suffices h : Run (sem T (n + 2) 86 [webV l r ts, rowV row, lotV lot, lotL (List.range l)]) fun v => ∃ K, Kern ts row lot K ∧ v = lotV K by
    obtain ⟨_, e, K, hK, rfl⟩ := h
    exact ⟨K, hK, e⟩
  rw [sem_call (fn := f_asked_in) rfl rfl]
  have e1 := o.side n (s := 0) (.inl rfl)
  have ec : cnt l r 0 = l := rfl
  rw [ec] at e1
  simp only [f_asked_in, evSs, evS, evE, evEs, evAnd, evOr, evI, evPs, setAll, getS_0, getS_s, setS_0, setS_s, lift_ret, bnd_ret, bnd_bnd, chk_ret, asBl_bl, asI_int, fin, idx_t0, idx_t1, idx_t2, asLs_lst, asIt_lst, asIt_tup, List.map_cons, List.map_nil, List.replicate, List.cons_append, List.nil_append, Tg.slots, wipeS, bindT, List.set_cons_zero, List.set_cons_succ]
  rw [show (nv 0 : PV) = .int 0 from rfl] at e1
  rw [e1]
  simp only [evSs, evS, evE, evEs, evAnd, evOr, evI, evPs, setAll, getS_0, getS_s, setS_0, setS_s, lift_ret, bnd_ret, bnd_bnd, chk_ret, asBl_bl, asI_int, fin, idx_t0, idx_t1, idx_t2, asLs_lst, asIt_lst, asIt_tup, List.map_cons, List.map_nil, List.replicate, List.cons_append, List.nil_append, grp]
  rw [compGo_map (g := fun x => match x with
    | .lst xs => askV row (srt row (xs.map fun y => match y with
      | .int i => i.toNat
      | _ => 0))
    | _ => .non) (fun x hx => ?_)]
  rotate_left
  · obtain ⟨e, he, rfl⟩ := List.mem_map.mp hx
    simp only [evSs, evS, evE, evEs, evAnd, evOr, evI, evPs, setAll, getS_0, getS_s, setS_0, setS_s, lift_ret, bnd_ret, bnd_bnd, chk_ret, asBl_bl, asI_int, fin, idx_t0, idx_t1, idx_t2, asLs_lst, asIt_lst, asIt_tup, List.map_cons, List.map_nil, List.replicate, List.cons_append, List.nil_append, Tg.slots, wipeS, bindT, List.set_cons_zero, List.set_cons_succ, lotL]
    rw [compGo_map (g := fun y => match y with
      | .int i => pairV row i.toNat
      | _ => .non) (fun y hy => ?_)]
    · rw [List.map_map]
      have e4 : ((fun y => match y with
        | PV.int i => pairV row i.toNat
        | _ => PV.non) ∘ nv) = pairV row := by funext k; simp [Function.comp]
      have e5 : ((fun y => match y with
        | PV.int i => i.toNat
        | _ => 0) ∘ nv) = id := by funext k; simp [Function.comp]
      rw [e4]
      simp only [evSs, evS, evE, evEs, evAnd, evOr, evI, evPs, setAll, getS_0, getS_s, setS_0, setS_s, lift_ret, bnd_ret, bnd_bnd, chk_ret, asBl_bl, asI_int, fin, idx_t0, idx_t1, idx_t2, asLs_lst, asIt_lst, asIt_tup, List.map_cons, List.map_nil, List.replicate, List.cons_append, List.nil_append, sorted_pairs, if_true]
      rw [List.map_map, e5, List.map_id]
    · obtain ⟨k, hk, rfl⟩ := List.mem_map.mp hy
      have hk2 := o.lk k (mem_atE.mp hk).1
      simp only [evSs, evS, evE, evEs, evAnd, evOr, evI, evPs, setAll, getS_0, getS_s, setS_0, setS_s, lift_ret, bnd_ret, bnd_bnd, chk_ret, asBl_bl, asI_int, fin, idx_t0, idx_t1, idx_t2, asLs_lst, asIt_lst, asIt_tup, List.map_cons, List.map_nil, List.replicate, List.cons_append, List.nil_append, Tg.slots, wipeS, bindT, List.set_cons_zero, List.set_cons_succ, idx_row (show k < row.length by omega), if_true]
      simp [pairV]
  · rw [List.map_map]
    have e4 : ((fun x => match x with
      | PV.lst xs => askV row (srt row (xs.map fun y => match y with
        | .int i => i.toNat
        | _ => 0))
      | _ => PV.non) ∘ fun e => lotL (atE ts 0 e lot)) = fun e => askV row (srt row (atE ts 0 e lot)) := by
      funext e
      have e5 : ((fun y => match y with
        | PV.int i => i.toNat
        | _ => 0) ∘ nv) = id := by funext k; simp [Function.comp]
      simp only [Function.comp, lotL, List.map_map]
      rw [e5, List.map_id]
    rw [e4]
    have e6 : elems2 (.lst ((List.range l).map fun e => askV row (srt row (atE ts 0 e lot)))) = true := by
      simp [elems2, List.all_map, askV, elems1, fl, flat, pairV]
    have e7 : elems1 (.lst ((List.range l).map nv).reverse) = true := by
      unfold elems1
      rw [← List.map_reverse]
      exact shal_ints _
    simp only [evSs, evS, evE, evEs, evAnd, evOr, evI, evPs, setAll, getS_0, getS_s, setS_0, setS_s, lift_ret, bnd_ret, bnd_bnd, chk_ret, asBl_bl, asI_int, fin, idx_t0, idx_t1, idx_t2, asLs_lst, asIt_lst, asIt_tup, List.map_cons, List.map_nil, List.replicate, List.cons_append, List.nil_append, stOk, e6, elems1, lotL, list_lst, List.all_nil]
    have e8 : (((List.range l).map nv).reverse.all fl) = true := e7
    simp only [e8, evSs, evS, evE, evEs, evAnd, evOr, evI, evPs, setAll, getS_0, getS_s, setS_0, setS_s, lift_ret, bnd_ret, bnd_bnd, chk_ret, asBl_bl, asI_int, fin, idx_t0, idx_t1, idx_t2, asLs_lst, asIt_lst, asIt_tup, List.map_cons, List.map_nil, List.replicate, List.cons_append, List.nil_append]
    rw [← List.map_reverse]
    rw [show ((List.range l).map fun e => askV row (srt row (atE ts 0 e lot))) = (((List.range l).map fun e => srt row (atE ts 0 e lot)).map (askV row)) by rw [List.map_map]; rfl]
    have hr : ∀ k ∈ lot, k < ts.length ∧ k < row.length ∧ (tie ts k).2 < r := fun k hk => by
      have hk' := o.lk k hk
      have : tie ts k ∈ ts := by
        unfold tie
        rw [List.getD_eq_getElem?_getD, List.getElem?_eq_getElem hk']
        exact List.getElem_mem hk'
      exact ⟨hk', by omega, (o.lt _ this).2⟩
    have klen : ∀ {asks : List (List Nat)} {kept : List (Nat × Nat)} {line : List Nat}, Gs ts row l (fun e => srt row (atE ts 0 e lot)) asks kept line → kept.length ≤ 8 := fun {asks kept line} g => by
      have := nodup_lt r (kept.map (·.1)) g.kn fun x hx => by
        obtain ⟨⟨a, t⟩, hp, rfl⟩ := List.mem_map.mp hx
        obtain ⟨a1, a2, a3, _⟩ := g.kp a t (mem_kget g.kn hp)
        have := (hr t ((F.mem _ a2 t).mp a3).1).2.2
        show a < r
        have h2 : (tie ts t).2 = a := a1
        omega
      rw [List.length_map] at this
      have := o.r8
      omega
    refine Run.bnd (Run.whl (fun m ρ => ∃ asks kept line o7 o8 o9 o10 o11, Gs ts row l (fun e => srt row (atE ts 0 e lot)) asks kept line ∧ m = 2 * left2 asks + line.length ∧
      ρ = [some (webV l r ts), some (rowV row), some (lotV lot), some (.lst ((List.range l).map nv)), some (.lst (asks.map (askV row))), some (.dct (keptV kept)), some (.lst (line.map nv)), o7, o8, o9, o10, o11]) ?_ fuelW _ _ ⟨_, [], _, _, _, _, _, _, gs_start, rfl, rfl⟩ ?_)
    · rintro m ρ ⟨asks, kept, line, o7, o8, o9, o10, o11, g, rfl, rfl⟩
      by_cases hline : line = []
      · subst hline
        refine .inl ⟨?_, ?_⟩
        · simp only [evSs, evS, evE, evEs, evAnd, evOr, evI, evPs, setAll, getS_0, getS_s, setS_0, setS_s, lift_ret, bnd_ret, bnd_bnd, chk_ret, asBl_bl, asI_int, fin, idx_t0, idx_t1, idx_t2, asLs_lst, asIt_lst, asIt_tup, List.map_cons, List.map_nil, List.replicate, List.cons_append, List.nil_append, cmpop]
          rfl
        · simp only [evSs, evS, evE, evEs, evAnd, evOr, evI, evPs, setAll, getS_0, getS_s, setS_0, setS_s, lift_ret, bnd_ret, bnd_bnd, chk_ret, asBl_bl, asI_int, fin, idx_t0, idx_t1, idx_t2, asLs_lst, asIt_lst, asIt_tup, List.map_cons, List.map_nil, List.replicate, List.cons_append, List.nil_append, svals_kept kept (Nat.lt_of_le_of_lt (klen g) (by decide)), tuple_lst]
          exact ⟨_, rfl, _, g.kern F, rfl⟩
      · refine .inr ⟨?_, ?_⟩
        · simp only [evSs, evS, evE, evEs, evAnd, evOr, evI, evPs, setAll, getS_0, getS_s, setS_0, setS_s, lift_ret, bnd_ret, bnd_bnd, chk_ret, asBl_bl, asI_int, fin, idx_t0, idx_t1, idx_t2, asLs_lst, asIt_lst, asIt_tup, List.map_cons, List.map_nil, List.replicate, List.cons_append, List.nil_append, eq_nil_line]
          have : line.isEmpty = false := by cases line with
            | nil => exact absurd rfl hline
            | cons a b => rfl
          rw [this]
          rfl
        · obtain ⟨line', e, rfl⟩ : ∃ line' e, line = line' ++ [e] := ⟨line.dropLast, line.getLast hline, (List.dropLast_concat_getLast hline).symm⟩
          have he : e < asks.length := by rw [g.len]; exact (g.lk e (by simp)).1
          have hxs : ((line' ++ [e]).map nv)[((line' ++ [e]).map nv).length - 1]? = some (nv e) := by simp
          have hdl : ((line' ++ [e]).map nv).dropLast = line'.map nv := by simp
          simp only [evSs, evS, evE, evEs, evAnd, evOr, evI, evPs, setAll, getS_0, getS_s, setS_0, setS_s, lift_ret, bnd_ret, bnd_bnd, chk_ret, asBl_bl, asI_int, fin, idx_t0, idx_t1, idx_t2, asLs_lst, asIt_lst, asIt_tup, List.map_cons, List.map_nil, List.replicate, List.cons_append, List.nil_append, lstAt, hxs, hdl, fl, flat, idx_lst (asks_get he), eq_nil_ask]
          cases ha : asks.getD e [] with
          | nil =>
            simp only [List.isEmpty_nil, if_true, evSs, evS, evE, evEs, evAnd, evOr, evI, evPs, setAll, getS_0, getS_s, setS_0, setS_s, lift_ret, bnd_ret, bnd_bnd, chk_ret, asBl_bl, asI_int, fin, idx_t0, idx_t1, idx_t2, asLs_lst, asIt_lst, asIt_tup, List.map_cons, List.map_nil, List.replicate, List.cons_append, List.nil_append]
            refine ⟨_, rfl, _, _, .inr rfl, ?_, asks, kept, line', _, _, _, _, _, g.empty ha, rfl, rfl⟩
            simp
          | cons k rest =>
            obtain ⟨hk, hke, hel, hg⟩ := g.ask F ha
            obtain ⟨hk1, hk2, hk3⟩ := hr k hk
            have hz : (asks.map (askV row))[e]? = some (.lst (.tup [.int (-(row.getD k 0)), nv k] :: rest.map (pairV row))) := by rw [asks_get he, ha]; rfl
            have hset : (asks.map (askV row)).set e (.lst (rest.map (pairV row))) = (asks.set e rest).map (askV row) := by rw [List.map_set]; rfl
            have hsum := sum_set he ha
            simp only [List.isEmpty_cons, Bool.false_eq_true, if_false, evSs, evS, evE, evEs, evAnd, evOr, evI, evPs, setAll, getS_0, getS_s, setS_0, setS_s, lift_ret, bnd_ret, bnd_bnd, chk_ret, asBl_bl, asI_int, fin, idx_t0, idx_t1, idx_t2, asLs_lst, asIt_lst, asIt_tup, List.map_cons, List.map_nil, List.replicate, List.cons_append, List.nil_append, List.length_map, atIx, atIx_nat he, hz, hset]
            simp only [show ([PV.int (-(row.getD k 0)), nv k] : List PV)[1]? = some (nv k) from rfl, evSs, evS, evE, evEs, evAnd, evOr, evI, evPs, setAll, getS_0, getS_s, setS_0, setS_s, lift_ret, bnd_ret, bnd_bnd, chk_ret, asBl_bl, asI_int, fin, idx_t0, idx_t1, idx_t2, asLs_lst, asIt_lst, asIt_tup, List.map_cons, List.map_nil, List.replicate, List.cons_append, List.nil_append, fl, flat, stOk, idx_web2, idx_ties hk1, idx_tie1]
            have hnin : cmpop .notin (nv (tie ts k).2) (.dct (keptV kept)) = some (!(kget kept (tie ts k).2).isSome) := by simp [cmpop, inop, dGet_kept]
            have hkl : decide ((keptV kept).length < 100000) = true := decide_eq_true (by
              have := klen g
              unfold keptV
              rw [List.length_map]
              omega)
            have hll : decide (line'.length < big) = true := decide_eq_true (by
              have := nodup_lt l line' (List.nodup_append.mp g.ln).1 fun x hx => (g.lk x (List.mem_append_left _ hx)).1
              have h8 := o.l8
              have : big = 16777216 := rfl
              omega)
            have hlen : (line' ++ [e]).length = line'.length + 1 := by simp
            rw [hlen]
            cases hkg : kget kept (tie ts k).2 with
            | none =>
              have hg' : Gs ts row l (fun e => srt row (atE ts 0 e lot)) (asks.set e rest) (kput (tie ts k).2 k kept) line' := by
                have := hg
                simp only [hkg] at this
                exact this
              simp only [hnin, hkg, Option.isSome_none, Bool.not_false, if_true, evSs, evS, evE, evEs, evAnd, evOr, evI, evPs, setAll, getS_0, getS_s, setS_0, setS_s, lift_ret, bnd_ret, bnd_bnd, chk_ret, asBl_bl, asI_int, fin, idx_t0, idx_t1, idx_t2, asLs_lst, asIt_lst, asIt_tup, List.map_cons, List.map_nil, List.replicate, List.cons_append, List.nil_append, hkl, Bool.and_self, dPut_kept]
              exact ⟨_, rfl, _, 2 * left2 (asks.set e rest) + line'.length, .inl rfl, by omega, _, _, line', _, _, _, _, _, hg', rfl, rfl⟩
            | some j =>
              have hg' : j ∈ lot ∧ (if row.getD k 0 < row.getD j 0 then Gs ts row l (fun e => srt row (atE ts 0 e lot)) (asks.set e rest) (kput (tie ts k).2 k kept) (line' ++ [(tie ts j).1]) else Gs ts row l (fun e => srt row (atE ts 0 e lot)) (asks.set e rest) kept (line' ++ [e])) := by
                have := hg
                simp only [hkg] at this
                exact this
              obtain ⟨hj, hg'⟩ := hg'
              obtain ⟨hj1, hj2, _⟩ := hr j hj
              have hdg : dGet (keptV kept) ((tie ts k).2 : Int) = some (nv j) := by rw [dGet_kept, hkg]; rfl
              simp only [hnin, hkg, Option.isSome_some, Bool.not_true, Bool.false_eq_true, if_false, evSs, evS, evE, evEs, evAnd, evOr, evI, evPs, setAll, getS_0, getS_s, setS_0, setS_s, lift_ret, bnd_ret, bnd_bnd, chk_ret, asBl_bl, asI_int, fin, idx_t0, idx_t1, idx_t2, asLs_lst, asIt_lst, asIt_tup, List.map_cons, List.map_nil, List.replicate, List.cons_append, List.nil_append, idx_row hk2, idx_dct hdg, idx_row hj2, lt_int]
              by_cases hlt : row.getD k 0 < row.getD j 0
              · rw [if_pos hlt] at hg'
                simp only [hlt, decide_true, if_true, evSs, evS, evE, evEs, evAnd, evOr, evI, evPs, setAll, getS_0, getS_s, setS_0, setS_s, lift_ret, bnd_ret, bnd_bnd, chk_ret, asBl_bl, asI_int, fin, idx_t0, idx_t1, idx_t2, asLs_lst, asIt_lst, asIt_tup, List.map_cons, List.map_nil, List.replicate, List.cons_append, List.nil_append, idx_ties hj1, idx_tie0, flat, hll, hkl, Bool.and_self, dPut_kept]
                refine ⟨_, rfl, _, 2 * left2 (asks.set e rest) + (line'.length + 1), .inl rfl, by omega, _, _, line' ++ [(tie ts j).1], some (nv e), some (nv k), some (nv (tie ts k).2), o10, o11, hg', by simp, ?_⟩
                rw [List.map_append]
                rfl
              · rw [if_neg hlt] at hg'
                simp only [hlt, decide_false, if_false, Bool.false_eq_true, evSs, evS, evE, evEs, evAnd, evOr, evI, evPs, setAll, getS_0, getS_s, setS_0, setS_s, lift_ret, bnd_ret, bnd_bnd, chk_ret, asBl_bl, asI_int, fin, idx_t0, idx_t1, idx_t2, asLs_lst, asIt_lst, asIt_tup, List.map_cons, List.map_nil, List.replicate, List.cons_append, List.nil_append, hll]
                refine ⟨_, rfl, _, 2 * left2 (asks.set e rest) + (line'.length + 1), .inl rfl, by omega, _, _, line' ++ [e], some (nv e), some (nv k), some (nv (tie ts k).2), o10, o11, hg', by simp, ?_⟩
                rw [List.map_append]
                rfl
    · have h1 : left2 ((List.range l).map fun e => srt row (atE ts 0 e lot)) ≤ ((List.range l).map fun e => srt row (atE ts 0 e lot)).length * 24 := left2_le fun a ha => by
        obtain ⟨e, _, rfl⟩ := List.mem_map.mp ha
        rw [(srt_perm _ _).length_eq]
        exact Nat.le_trans (atE_le _ _ _ _) o.len
      rw [List.length_map, List.length_range] at h1
      have h2 := o.l8
      have h3 : l * 24 ≤ 8 * 24 := Nat.mul_le_mul_right _ h2
      rw [List.length_reverse, List.length_range]
      have : fuelW = 1000000 := rfl
      omega
end G
set_option Elab.async false
set_option linter.all false
set_option maxRecDepth 100000
set_option maxHeartbeats 4000000
/-! P5: kernels, from both sides -/
namespace G
open PySem
theorem inj_of {l : List Nat} {f : Nat → Int} (h : (l.map f).Nodup) : ∀ j ∈ l, ∀ k ∈ l, j ≠ k → f j ≠ f k := by
  rw [List.nodup_iff_pairwise_ne, List.pairwise_map] at h
  intro j hj k hk hne
  induction l with
  | nil => cases hj
  | cons x l ih =>
    obtain ⟨h1, h2⟩ := List.pairwise_cons.mp h
    rcases List.mem_cons.mp hj with ej | hj'
    · rcases List.mem_cons.mp hk with ek | hk'
      · exact absurd (ej.trans ek.symm) hne
      · rw [ej]; exact h1 k hk'
    · rcases List.mem_cons.mp hk with ek | hk'
      · rw [ek]; exact fun e => h1 j hj' e.symm
      · exact ih h2 hj' hk'
theorem Proper.ne {ts : List (Nat × Nat)} {row : List Int} (p : Proper ts row) {s : Nat} (hs : s = 0 ∨ s = 1) {j k : Nat} (hj : j < ts.length) (hk : k < ts.length) (hne : j ≠ k) (he : en s (tie ts j) = en s (tie ts k)) : row.getD j 0 ≠ row.getD k 0 :=
  inj_of (p s hs (en s (tie ts k))) j (mem_atE.mpr ⟨List.mem_range.mpr hj, he⟩) k (mem_atE.mpr ⟨List.mem_range.mpr hk, rfl⟩) hne
theorem Lot.nodup {m : Nat} {lot : List Nat} (h : Lot m lot) : lot.Nodup := h.inc.imp fun {a b} z => Nat.ne_of_lt z
theorem kernel_in_ok (n : Nat) {ts : List (Nat × Nat)} {row : List Int} {l r : Nat} {lot : List Nat} (o : Ok3 l r ts lot) (hl : row.length = ts.length) (hn : lot.Nodup) (p : Proper ts row) :
    ∃ K, Kern ts row lot K ∧ sem T (n + 3) 192 [webV l r ts, rowV row, lotV lot] = M.ret (lotV K) := by
  obtain ⟨K, hK, e⟩ := asked_in_ok n o hl hn (fun j hj k hk hne he => p.ne (s := 0) (.inl rfl) (o.lk j hj) (o.lk k hk) hne he) (fun j hj k hk hne he => p.ne (s := 1) (.inr rfl) (o.lk j hj) (o.lk k hk) hne he)
  refine ⟨K, hK, ?_⟩
  rw [sem_call (fn := f_kernel_in) rfl rfl]
  have e0 : idxop (webV l r ts) (.int 0) = M.ret (nv l) := idx_web (s := 0) (.inl rfl)
  simp only [f_kernel_in, evSs, evS, evE, evEs, evAnd, evOr, evI, evPs, setAll, getS_0, getS_s, setS_0, setS_s, lift_ret, bnd_ret, bnd_bnd, chk_ret, asBl_bl, asI_int, fin, idx_t0, idx_t1, idx_t2, asLs_lst, asIt_lst, asIt_tup, List.map_cons, List.map_nil, List.replicate, List.cons_append, List.nil_append, e0, lrng_ok l (by have := o.l8; omega), e]
theorem kernel_ok (n : Nat) {ts : List (Nat × Nat)} {row : List Int} {l r : Nat} {lot : List Nat} (w : Web l r ts) (h : Row ts row) (hlot : Lot ts.length lot) : ∃ K, Kern ts row lot K ∧ sem T (n + 7) 191 [webV l r ts, rowV row, lotV lot] = M.ret (lotV K) := by
  obtain ⟨K, hK, e⟩ := kernel_in_ok (n + 3) (w.ok3 hlot) h.len hlot.nodup h.pr
  rw [show n + 3 + 3 = n + 6 by omega] at e
  refine ⟨K, hK, ?_⟩
  rw [sem_call (fn := f_kernel) rfl rfl]
  simp only [f_kernel, evSs, evS, evE, evEs, evAnd, evOr, evI, evPs, setAll, getS_0, getS_s, setS_0, setS_s, lift_ret, bnd_ret, bnd_bnd, chk_ret, asBl_bl, asI_int, fin, idx_t0, idx_t1, idx_t2, asLs_lst, asIt_lst, asIt_tup, List.map_cons, List.map_nil, List.replicate, List.cons_append, List.nil_append, Tg.slots, wipeS, bindT, List.set_cons_zero, List.set_cons_succ, sure_wishes_ok n w h hlot, Option.bind_some, e]
def swp (p : Nat × Nat) : Nat × Nat := (p.2, p.1)
theorem tie_swp (ts : List (Nat × Nat)) (k : Nat) : tie (ts.map swp) k = swp (tie ts k) := by
  unfold tie
  rw [List.getD_eq_getElem?_getD, List.getD_eq_getElem?_getD, List.getElem?_map]
  cases ts[k]? <;> rfl
theorem row_neg (row : List Int) (k : Nat) : (row.map fun c => -c).getD k 0 = -(row.getD k 0) := by
  rw [List.getD_eq_getElem?_getD, List.getD_eq_getElem?_getD, List.getElem?_map]
  cases row[k]? <;> rfl
theorem ahd_swp (ts : List (Nat × Nat)) (row : List Int) (j k : Nat) : ahd (ts.map swp) (row.map fun c => -c) j k = ahd ts row j k := by
  unfold ahd
  rw [tie_swp, tie_swp, row_neg, row_neg, Bool.or_comm]
  have e1 : decide (-(row.getD j 0) < -(row.getD k 0)) = decide (row.getD k 0 < row.getD j 0) := by
    rw [Bool.eq_iff_iff, decide_eq_true_eq, decide_eq_true_eq]; omega
  have e2 : decide (-(row.getD k 0) < -(row.getD j 0)) = decide (row.getD j 0 < row.getD k 0) := by
    rw [Bool.eq_iff_iff, decide_eq_true_eq, decide_eq_true_eq]; omega
  rw [e1, e2]
  rfl
theorem en_swp (ts : List (Nat × Nat)) {s : Nat} (hs : s = 0 ∨ s = 1) (k : Nat) : en s (tie (ts.map swp) k) = en (1 - s) (tie ts k) := by
  rw [tie_swp]
  rcases hs with rfl | rfl <;> rfl
theorem atE_swp (ts : List (Nat × Nat)) {s : Nat} (hs : s = 0 ∨ s = 1) (e : Nat) (lot : List Nat) : atE (ts.map swp) s e lot = atE ts (1 - s) e lot := by
  unfold atE
  congr 1
  funext k
  rw [en_swp ts hs]
theorem other_in_ok (n : Nat) {ts : List (Nat × Nat)} {row : List Int} {l r : Nat} {lot : List Nat} (o : Ok3 l r ts lot) (hl : row.length = ts.length) (hn : lot.Nodup) (p : Proper ts row) :
    ∃ K, Kern ts row lot K ∧ sem T (n + 3) 215 [webV l r ts, rowV row, lotV lot] = M.ret (lotV K) := by
  have o2 : Ok3 r l (ts.map swp) lot := ⟨o.r8, o.l8, by rw [List.length_map]; exact o.few, fun q hq => by
    obtain ⟨q', hq', rfl⟩ := List.mem_map.mp hq
    exact ⟨(o.lt q' hq').2, (o.lt q' hq').1⟩, fun k hk => by rw [List.length_map]; exact o.lk k hk, o.len⟩
  have ne : ∀ s, s = 0 ∨ s = 1 → ∀ j ∈ lot, ∀ k ∈ lot, j ≠ k → en s (tie (ts.map swp) j) = en s (tie (ts.map swp) k) → (row.map fun c => -c).getD j 0 ≠ (row.map fun c => -c).getD k 0 := fun s hs j hj k hk hne he => by
    rw [en_swp ts hs, en_swp ts hs] at he
    rw [row_neg, row_neg]
    have := p.ne (s := 1 - s) (by rcases hs with rfl | rfl <;> simp) (o.lk j hj) (o.lk k hk) hne he
    omega
  obtain ⟨K, hK, e⟩ := asked_in_ok n (row := row.map fun c => -c) o2 (by rw [List.length_map, List.length_map]; exact hl) hn (fun j hj k hk hne he => ne 0 (.inl rfl) j hj k hk hne he) (fun j hj k hk hne he => ne 1 (.inr rfl) j hj k hk hne he)
  refine ⟨K, ⟨hK.inc, hK.sub, fun s hs e => ?_, fun k hk => ?_⟩, ?_⟩
  · have := hK.pair (1 - s) (by rcases hs with rfl | rfl <;> simp) e
    rw [atE_swp ts (by rcases hs with rfl | rfl <;> simp), show 1 - (1 - s) = s by rcases hs with rfl | rfl <;> rfl] at this
    exact this
  · rcases hK.dom k hk with h | ⟨j, h1, h2⟩
    · exact .inl h
    · exact .inr ⟨j, h1, by rw [← ahd_swp]; exact h2⟩
  · rw [sem_call (fn := f_other_in) rfl rfl]
    have e0 : idxop (webV l r ts) (.int 0) = M.ret (nv l) := idx_web (s := 0) (.inl rfl)
    have e1 : idxop (webV l r ts) (.int 1) = M.ret (nv r) := idx_web (s := 1) (.inr rfl)
    simp only [f_other_in, evSs, evS, evE, evEs, evAnd, evOr, evI, evPs, setAll, getS_0, getS_s, setS_0, setS_s, lift_ret, bnd_ret, bnd_bnd, chk_ret, asBl_bl, asI_int, fin, idx_t0, idx_t1, idx_t2, asLs_lst, asIt_lst, asIt_tup, List.map_cons, List.map_nil, List.replicate, List.cons_append, List.nil_append, Tg.slots, wipeS, bindT, List.set_cons_zero, List.set_cons_succ, e0, e1, idx_web2]
    rw [compGo_map (g := fun x => match x with
      | .tup [a, b] => .tup [b, a]
      | _ => .non) (fun x hx => ?_)]
    rotate_left
    · obtain ⟨q, hq, rfl⟩ := List.mem_map.mp hx
      simp only [tieV, evSs, evS, evE, evEs, evAnd, evOr, evI, evPs, setAll, getS_0, getS_s, setS_0, setS_s, lift_ret, bnd_ret, bnd_bnd, chk_ret, asBl_bl, asI_int, fin, idx_t0, idx_t1, idx_t2, asLs_lst, asIt_lst, asIt_tup, List.map_cons, List.map_nil, List.replicate, List.cons_append, List.nil_append, Tg.slots, wipeS, bindT, List.set_cons_zero, List.set_cons_succ, Option.bind_some, if_true]
    · rw [List.map_map]
      have e4 : ((fun x => match x with
        | PV.tup [a, b] => PV.tup [b, a]
        | _ => PV.non) ∘ tieV) = tieV ∘ swp := by funext q; rfl
      rw [e4, ← List.map_map]
      simp only [evSs, evS, evE, evEs, evAnd, evOr, evI, evPs, setAll, getS_0, getS_s, setS_0, setS_s, lift_ret, bnd_ret, bnd_bnd, chk_ret, asBl_bl, asI_int, fin, idx_t0, idx_t1, idx_t2, asLs_lst, asIt_lst, asIt_tup, List.map_cons, List.map_nil, List.replicate, List.cons_append, List.nil_append, tuple_lst, stOk]
      rw [show asIt (rowV row) = M.ret (row.map .int) from asIt_tup _, bnd_ret]
      rw [compGo_map (g := fun x => match x with
        | .int i => .int (-i)
        | _ => .non) (fun x hx => ?_)]
      rotate_left
      · obtain ⟨c, hc, rfl⟩ := List.mem_map.mp hx
        simp only [evSs, evS, evE, evEs, evAnd, evOr, evI, evPs, setAll, getS_0, getS_s, setS_0, setS_s, lift_ret, bnd_ret, bnd_bnd, chk_ret, asBl_bl, asI_int, fin, idx_t0, idx_t1, idx_t2, asLs_lst, asIt_lst, asIt_tup, List.map_cons, List.map_nil, List.replicate, List.cons_append, List.nil_append, Tg.slots, wipeS, bindT, List.set_cons_zero, List.set_cons_succ, if_true]
      · rw [List.map_map]
        have e5 : ((fun x => match x with
          | PV.int i => PV.int (-i)
          | _ => PV.non) ∘ PV.int) = PV.int ∘ fun c => -c := by funext q; rfl
        rw [e5, ← List.map_map]
        simp only [evSs, evS, evE, evEs, evAnd, evOr, evI, evPs, setAll, getS_0, getS_s, setS_0, setS_s, lift_ret, bnd_ret, bnd_bnd, chk_ret, asBl_bl, asI_int, fin, idx_t0, idx_t1, idx_t2, asLs_lst, asIt_lst, asIt_tup, List.map_cons, List.map_nil, List.replicate, List.cons_append, List.nil_append, tuple_lst, e1, lrng_ok r (by have := o.r8; omega)]
        have e' : sem T (n + 2) 86 [.tup [nv r, nv l, .tup ((ts.map swp).map tieV)], .tup ((row.map fun c => -c).map .int), lotV lot, lotL (List.range r)] = M.ret (lotV K) := e
        rw [e']
        simp only [evSs, evS, evE, evEs, evAnd, evOr, evI, evPs, setAll, getS_0, getS_s, setS_0, setS_s, lift_ret, bnd_ret, bnd_bnd, chk_ret, asBl_bl, asI_int, fin, idx_t0, idx_t1, idx_t2, asLs_lst, asIt_lst, asIt_tup, List.map_cons, List.map_nil, List.replicate, List.cons_append, List.nil_append]
theorem other_kernel_ok (n : Nat) {ts : List (Nat × Nat)} {row : List Int} {l r : Nat} {lot : List Nat} (w : Web l r ts) (h : Row ts row) (hlot : Lot ts.length lot) : ∃ K, Kern ts row lot K ∧ sem T (n + 7) 216 [webV l r ts, rowV row, lotV lot] = M.ret (lotV K) := by
  obtain ⟨K, hK, e⟩ := other_in_ok (n + 3) (w.ok3 hlot) h.len hlot.nodup h.pr
  rw [show n + 3 + 3 = n + 6 by omega] at e
  refine ⟨K, hK, ?_⟩
  rw [sem_call (fn := f_other_kernel) rfl rfl]
  simp only [f_other_kernel, evSs, evS, evE, evEs, evAnd, evOr, evI, evPs, setAll, getS_0, getS_s, setS_0, setS_s, lift_ret, bnd_ret, bnd_bnd, chk_ret, asBl_bl, asI_int, fin, idx_t0, idx_t1, idx_t2, asLs_lst, asIt_lst, asIt_tup, List.map_cons, List.map_nil, List.replicate, List.cons_append, List.nil_append, Tg.slots, wipeS, bindT, List.set_cons_zero, List.set_cons_succ, sure_wishes_ok n w h hlot, Option.bind_some, e]
end G
set_option Elab.async false
set_option linter.all false
set_option maxRecDepth 100000
set_option maxHeartbeats 4000000
/-! P6: draws -/
namespace G
open PySem
def Wp {α : Type} (m : M α) (t : Tn) (Q : α → Tn → Prop) : Prop := ∃ a t', m t = some (a, t') ∧ Q a t'
theorem wp_ret {α : Type} (a : α) (t : Tn) (Q : α → Tn → Prop) : Wp (M.ret a) t Q ↔ Q a t := by
  constructor
  · rintro ⟨b, t', e, q⟩
    cases e
    exact q
  · exact fun q => ⟨a, t, rfl, q⟩
theorem wp_bnd {α β : Type} (m : M α) (f : α → M β) (t : Tn) (Q : β → Tn → Prop) : Wp (M.bnd m f) t Q ↔ Wp m t fun a t1 => Wp (f a) t1 Q := by
  constructor
  · rintro ⟨b, t', e, q⟩
    obtain ⟨a, t1, e1, e2⟩ := bnd_some.mp e
    exact ⟨a, t1, e1, b, t', e2, q⟩
  · rintro ⟨a, t1, e1, b, t', e2, q⟩
    exact ⟨b, t', bnd_some.mpr ⟨a, t1, e1, e2⟩, q⟩
theorem Wp.mono {α : Type} {m : M α} {t : Tn} {Q Q' : α → Tn → Prop} (h : Wp m t Q) (hq : ∀ a t', Q a t' → Q' a t') : Wp m t Q' := by
  obtain ⟨a, t', e, q⟩ := h
  exact ⟨a, t', e, hq a t' q⟩
theorem wp_t0 (x y z : Int) (Q : PV → Tn → Prop) : Wp (idxop .tin (.int 0)) (some (x, y, z)) Q ↔ Q (.int x) (some (x, y, z)) := by
  constructor
  · rintro ⟨b, t', e, q⟩
    simp [idxop, asIo] at e
    obtain ⟨rfl, rfl⟩ := e
    exact q
  · exact fun q => ⟨_, _, by simp [idxop, asIo], q⟩
theorem wp_t1 (x y z : Int) (Q : PV → Tn → Prop) : Wp (idxop .tin (.int 1)) (some (x, y, z)) Q ↔ Q (.int y) (some (x, y, z)) := by
  constructor
  · rintro ⟨b, t', e, q⟩
    simp [idxop, asIo] at e
    obtain ⟨rfl, rfl⟩ := e
    exact q
  · exact fun q => ⟨_, _, by simp [idxop, asIo], q⟩
theorem wp_t2 (x y z : Int) (Q : PV → Tn → Prop) : Wp (idxop .tin (.int 2)) (some (x, y, z)) Q ↔ Q (.int z) (some (x, y, z)) := by
  constructor
  · rintro ⟨b, t', e, q⟩
    simp [idxop, asIo] at e
    obtain ⟨rfl, rfl⟩ := e
    exact q
  · exact fun q => ⟨_, _, by simp [idxop, asIo], q⟩
theorem wp_s0 {α : Type} (a : α) (v x y z : Int) (Q : α → Tn → Prop) : Wp (M.tset a 0 v) (some (x, y, z)) Q ↔ Q a (some (v, y, z)) := by
  constructor
  · rintro ⟨b, t', e, q⟩
    simp [M.tset, tinSet] at e
    obtain ⟨rfl, rfl⟩ := e
    exact q
  · exact fun q => ⟨_, _, by simp [M.tset, tinSet], q⟩
theorem wp_s2 {α : Type} (a : α) (v x y z : Int) (Q : α → Tn → Prop) : Wp (M.tset a 2 v) (some (x, y, z)) Q ↔ Q a (some (x, y, v)) := by
  constructor
  · rintro ⟨b, t', e, q⟩
    simp [M.tset, tinSet] at e
    obtain ⟨rfl, rfl⟩ := e
    exact q
  · exact fun q => ⟨_, _, by simp [M.tset, tinSet], q⟩
def TB (m : Nat) (t : Tn) : Prop := ∃ x y z : Int, t = some (x, y, z) ∧ 0 ≤ x ∧ 0 ≤ z ∧ z ≤ m
theorem TB.mono {m m' : Nat} {t : Tn} (h : TB m t) (hm : m ≤ m') : TB m' t := by
  obtain ⟨x, y, z, e, h1, h2, h3⟩ := h
  exact ⟨x, y, z, e, h1, h2, by omega⟩
theorem add_int (a b : Int) : binop .add (.int a) (.int b) = some (.int (a + b)) := rfl
theorem sub_int (a b : Int) : binop .sub (.int a) (.int b) = some (.int (a - b)) := rfl
theorem int_int (a : Int) : b1op .int (.int a) = some (.int a) := rfl
theorem mod_int {a b : Int} (h : 0 < b) : binop .mod (.int a) (.int b) = some (.int (a % b)) := by
  simp only [binop, if_pos h]
theorem div_int {a b : Int} (h : 0 < b) (h2 : b < 1073741824) : binop .fdiv (.int a) (.int b) = some (.int (a / b)) := by
  simp only [binop]
  rw [if_pos ⟨h, h2⟩]
theorem mul_int {a b : Int} (h : small64 a = true ∨ small64 b = true) : binop .mul (.int a) (.int b) = some (.int (a * b)) := by
  simp only [binop]
  rw [if_pos]
  simpa using h
theorem small_of {a : Int} (h : 0 ≤ a) (h2 : a ≤ 1099511627776) : small64 a = true := by
  unfold small64
  simp
  omega
def big40 : Nat := 1000000000000
theorem take_ok (n m b : Nat) {t : Tn} (hb : 1 ≤ b) (hb2 : b < 1073741824) (h : TB m t) (hm : m < big40) : Wp (sem T (n + 1) 71 [.tin, nv b]) t fun v t' => ∃ r : Nat, v = nv r ∧ r < b ∧ TB (m + 1) t' := by
  obtain ⟨x, y, z, rfl, hx, hz, hzm⟩ := h
  have hbg : big40 = 1000000000000 := rfl
  rw [sem_call (fn := f_law_take) rfl rfl]
  simp only [f_law_take, evSs, evS, evE, evEs, evAnd, evOr, evI, evPs, setAll, getS_0, getS_s, setS_0, setS_s, lift_ret, bnd_ret, bnd_bnd, chk_ret, asBl_bl, asI_int, fin, idx_t0, idx_t1, idx_t2, asLs_lst, asIt_lst, asIt_tup, List.map_cons, List.map_nil, List.replicate, List.cons_append, List.nil_append, wp_bnd, wp_ret, wp_t0, gt_int]
  by_cases hx0 : 0 < x
  · simp only [hx0, decide_true, if_true, evSs, evS, evE, evEs, evAnd, evOr, evI, evPs, setAll, getS_0, getS_s, setS_0, setS_s, lift_ret, bnd_ret, bnd_bnd, chk_ret, asBl_bl, asI_int, fin, idx_t0, idx_t1, idx_t2, asLs_lst, asIt_lst, asIt_tup, List.map_cons, List.map_nil, List.replicate, List.cons_append, List.nil_append, wp_bnd, wp_ret, wp_t0, int_int, mod_int (show (0 : Int) < (b : Int) by omega), div_int (show (0 : Int) < (b : Int) by omega) (by omega), stOk, wp_s0]
    have h1 := Int.emod_nonneg x (show (b : Int) ≠ 0 by omega)
    have h2 := Int.emod_lt_of_pos x (show (0 : Int) < (b : Int) by omega)
    refine ⟨(x % b).toNat, by simp only [nv, Int.toNat_of_nonneg h1], by omega, _, _, _, rfl, Int.ediv_nonneg hx (by omega), hz, by omega⟩
  · simp only [hx0, decide_false, if_false, Bool.false_eq_true, evSs, evS, evE, evEs, evAnd, evOr, evI, evPs, setAll, getS_0, getS_s, setS_0, setS_s, lift_ret, bnd_ret, bnd_bnd, chk_ret, asBl_bl, asI_int, fin, idx_t0, idx_t1, idx_t2, asLs_lst, asIt_lst, asIt_tup, List.map_cons, List.map_nil, List.replicate, List.cons_append, List.nil_append, wp_bnd, wp_ret, wp_t0, wp_t1, wp_t2, wp_s2, add_int, int_int, stOk]
    have m1 : ∀ a : Int, binop .mul (.int 48271) (.int a) = some (.int (48271 * a)) := fun a => mul_int (.inl (by decide))
    have m2 : ∀ a : Int, binop .mul (.int a) (.int (39373 + (z + 1))) = some (.int (a * (39373 + (z + 1)))) := fun a => mul_int (.inr (small_of (by omega) (by omega)))
    have m3 : ∀ a w : Int, binop .mul (.int a) (.int (w % 40009 + 7)) = some (.int (a * (w % 40009 + 7))) := fun a w => mul_int (.inr (small_of (by omega) (by omega)))
    have m4 : ∀ a : Int, binop .mul (.int a) (.int 48271) = some (.int (a * 48271)) := fun a => mul_int (.inr (by decide))
    have d1 : ∀ a : Int, binop .mod (.int a) (.int 2147483647) = some (.int (a % 2147483647)) := fun a => mod_int (by decide)
    have d2 : ∀ a : Int, binop .mod (.int a) (.int 40009) = some (.int (a % 40009)) := fun a => mod_int (by decide)
    have d3 : ∀ a : Int, binop .mod (.int a) (.int 2147483629) = some (.int (a % 2147483629)) := fun a => mod_int (by decide)
    have d4 : ∀ a : Int, binop .mod (.int a) (.int 2147483587) = some (.int (a % 2147483587)) := fun a => mod_int (by decide)
    have d5 : ∀ a : Int, binop .mod (.int a) (.int (b : Int)) = some (.int (a % b)) := fun a => mod_int (by omega)
    have q1 : ∀ a : Int, binop .fdiv (.int a) (.int 1000003) = some (.int (a / 1000003)) := fun a => div_int (by decide) (by decide)
    have q2 : ∀ a : Int, binop .fdiv (.int a) (.int 64) = some (.int (a / 64)) := fun a => div_int (by decide) (by decide)
    simp only [m1, m2, m3, m4, d1, d2, d3, d4, d5, q1, q2, lift_ret, wp_ret, wp_t1, wp_t2, add_int, int_int]
    generalize ((((_ : Int) + _ + _) * _ % 2147483629 * 48271 + _) % 2147483587 / 64) = w
    have h1 := Int.emod_nonneg w (show (b : Int) ≠ 0 by omega)
    have h2 := Int.emod_lt_of_pos w (show (0 : Int) < (b : Int) by omega)
    exact ⟨(w % b).toNat, by simp only [nv, Int.toNat_of_nonneg h1], by omega, _, _, _, rfl, hx, by omega, by omega⟩
end G
set_option Elab.async false
set_option linter.all false
set_option maxRecDepth 100000
set_option maxHeartbeats 4000000
/-! P7: picks -/
namespace G
open PySem
theorem Wp.eq {α : Type} {m : M α} {a : α} {t : Tn} {Q : α → Tn → Prop} (h : m = M.ret a) (q : Q a t) : Wp m t Q := by
  rw [h, wp_ret]
  exact q
theorem Wp.loop {f : PV → Slots → M Fl} (I : Nat → Slots → Tn → Prop) {Q : Fl → Tn → Prop} : ∀ {xs : List PV} {i : Nat} {ρ : Slots} {t : Tn}, I i ρ t → (∀ j x, xs[j]? = some x → ∀ ρ t, I (i + j) ρ t → Wp (f x ρ) t fun r t' => ∃ ρ', r = .nx ρ' ∧ I (i + j + 1) ρ' t') → (∀ ρ t, I (i + xs.length) ρ t → Q (.nx ρ) t) → Wp (loopF f xs ρ) t Q
  | [], i, ρ, t, h, _, hk => by
    rw [loopF, wp_ret]
    exact hk ρ t h
  | x :: xs, i, ρ, t, h, hs, hk => by
    rw [loopF, wp_bnd]
    refine (hs 0 x rfl ρ t h).mono fun r t' ⟨ρ', e, h'⟩ => ?_
    subst e
    refine Wp.loop I (i := i + 1) h' (fun j y hy ρ t hI => ?_) fun ρ t hI => hk ρ t (by
      rw [List.length_cons, show i + (xs.length + 1) = i + 1 + xs.length by omega]
      exact hI)
    rw [show i + 1 + j = i + (j + 1) by omega] at hI ⊢
    exact hs (j + 1) y (by simpa using hy) ρ t hI
theorem Wp.loop0 {f : PV → Slots → M Fl} (I : Nat → Slots → Tn → Prop) {Q : Fl → Tn → Prop} {xs : List PV} {ρ : Slots} {t : Tn} (h0 : I 0 ρ t) (hs : ∀ j x, xs[j]? = some x → ∀ ρ t, I j ρ t → Wp (f x ρ) t fun r t' => ∃ ρ', r = .nx ρ' ∧ I (j + 1) ρ' t') (hk : ∀ ρ t, I xs.length ρ t → Q (.nx ρ) t) : Wp (loopF f xs ρ) t Q :=
  Wp.loop I (i := 0) h0 (fun j x hx ρ t hI => by
    rw [Nat.zero_add] at hI ⊢
    exact hs j x hx ρ t hI) fun ρ t hI => hk ρ t (by rw [Nat.zero_add] at hI; exact hI)
theorem Wp.comp {f : PV → M (Option PV)} (I : Nat → List PV → Tn → Prop) {Q : List PV → Tn → Prop} : ∀ {xs : List PV} {i : Nat} {acc : List PV} {t : Tn}, I i acc t → (∀ j x, xs[j]? = some x → ∀ acc t, I (i + j) acc t → Wp (f x) t fun r t' => I (i + j + 1) (match r with
    | some y => acc ++ [y]
    | none => acc) t') → (∀ ys t, I (i + xs.length) (acc ++ ys) t → Q ys t) → Wp (compGo f xs) t Q
  | [], i, acc, t, h, _, hk => by
    rw [compGo, wp_ret]
    exact hk [] t (by rw [List.append_nil]; exact h)
  | x :: xs, i, acc, t, h, hs, hk => by
    rw [compGo, wp_bnd]
    refine (hs 0 x rfl acc t h).mono fun r t' h' => ?_
    rw [wp_bnd]
    refine Wp.comp I (i := i + 1) h' (fun j y hy acc t hI => ?_) fun ys t hI => ?_
    · rw [show i + 1 + j = i + (j + 1) by omega] at hI ⊢
      exact hs (j + 1) y (by simpa using hy) acc t hI
    · rw [wp_ret]
      refine hk _ t ?_
      rw [List.length_cons, show i + (xs.length + 1) = i + 1 + xs.length by omega]
      cases r with
      | none => exact hI
      | some y =>
        have hI : I (i + 1 + xs.length) ((acc ++ [y]) ++ ys) t := hI
        rw [List.append_assoc] at hI
        exact hI
theorem Wp.comp0 {f : PV → M (Option PV)} (I : Nat → List PV → Tn → Prop) {Q : List PV → Tn → Prop} {xs : List PV} {t : Tn} (h0 : I 0 [] t) (hs : ∀ j x, xs[j]? = some x → ∀ acc t, I j acc t → Wp (f x) t fun r t' => I (j + 1) (match r with
    | some y => acc ++ [y]
    | none => acc) t') (hk : ∀ ys t, I xs.length ys t → Q ys t) : Wp (compGo f xs) t Q :=
  Wp.comp I (i := 0) h0 (fun j x hx acc t hI => by
    rw [Nat.zero_add] at hI ⊢
    exact hs j x hx acc t hI) fun ys t hI => hk ys t (by rw [Nat.zero_add, List.nil_append] at hI; exact hI)
theorem erase_perm : ∀ (l : List PV) (i : Nat) (h : i < l.length), (l[i] :: l.eraseIdx i).Perm l
  | [], i, h => absurd h (by simp)
  | x :: l, 0, h => List.Perm.refl _
  | x :: l, i + 1, h => by
    have ih := erase_perm l i (by simpa using h)
    rw [List.getElem_cons_succ, List.eraseIdx_cons_succ]
    exact (List.Perm.swap _ _ _).trans (ih.cons x)
/-- one of several -/
theorem law_of_ok (n m : Nat) {gs : List PV} {t : Tn} (hg : gs ≠ []) (hl : gs.length ≤ 1000000) (h : TB m t) (hm : m < big40) : Wp (sem T (n + 2) 54 [.tin, .lst gs]) t fun v t' => v ∈ gs ∧ TB (m + 1) t' := by
  have hpos : 0 < gs.length := List.length_pos_iff.mpr hg
  rw [sem_call (fn := f_law_of) rfl rfl]
  simp only [f_law_of, evSs, evS, evE, evEs, evAnd, evOr, evI, evPs, setAll, getS_0, getS_s, setS_0, setS_s, lift_ret, bnd_ret, bnd_bnd, chk_ret, asBl_bl, asI_int, fin, idx_t0, idx_t1, idx_t2, asLs_lst, asIt_lst, asIt_tup, List.map_cons, List.map_nil, List.replicate, List.cons_append, List.nil_append, wp_bnd, wp_ret, len_lst]
  refine (take_ok n m gs.length (by omega) (by omega) h hm).mono fun v t' ⟨r, e, hr, hb⟩ => ?_
  subst e
  have : gs[r]? = some gs[r] := List.getElem?_eq_getElem hr
  simp only [idx_lst this, wp_ret, evSs, evS, evE, evEs, evAnd, evOr, evI, evPs, setAll, getS_0, getS_s, setS_0, setS_s, lift_ret, bnd_ret, bnd_bnd, chk_ret, asBl_bl, asI_int, fin, idx_t0, idx_t1, idx_t2, asLs_lst, asIt_lst, asIt_tup, List.map_cons, List.map_nil, List.replicate, List.cons_append, List.nil_append]
  exact ⟨List.getElem_mem hr, hb⟩
theorem rng_chk {k : Nat} (h : k ≤ 1000000) : (decide (-1000000 ≤ (k : Int)) && decide ((k : Int) ≤ 1000000)) = true := by simp; omega
theorem rng_nat (k : Nat) : (rngPV 0 ((k : Int)).toNat) = (List.range k).map nv := by
  unfold rngPV
  simp
theorem pick_ok (n m c : Nat) {gs : List PV} {t : Tn} (hg : gs.all fl = true) (hl : gs.length ≤ 100000) (h : TB m t) (hm : m + gs.length < big40) : Wp (sem T (n + 2) 58 [.tin, .lst gs, nv c]) t fun v t' => ∃ res rest, v = .lst res ∧ (res ++ rest).Perm gs ∧ res.length = min c gs.length ∧ TB (m + gs.length) t' := by
  rw [sem_call (fn := f_law_pick) rfl rfl]
  have e1 : (if ((gs.length : Nat) : Int) < (c : Int) then ((gs.length : Nat) : Int) else (c : Int)) = ((min c gs.length : Nat) : Int) := by
    split <;> omega
  have e2 : elems1 (.lst gs) = true := hg
  have e3 : elems1 (.lst []) = true := rfl
  simp only [f_law_pick, evSs, evS, evE, evEs, evAnd, evOr, evI, evPs, setAll, getS_0, getS_s, setS_0, setS_s, lift_ret, bnd_ret, bnd_bnd, chk_ret, asBl_bl, asI_int, fin, idx_t0, idx_t1, idx_t2, asLs_lst, asIt_lst, asIt_tup, List.map_cons, List.map_nil, List.replicate, List.cons_append, List.nil_append, list_lst, stOk, e2, e3, int_int, len_lst, e1, rng_chk (show min c gs.length ≤ 1000000 by omega), rng_nat]
  rw [wp_bnd]
  refine Wp.loop0 (fun i ρ t => ∃ pool found olap, ρ = [some .tin, some (.lst gs), some (nv c), olap, some (.lst pool), some (.lst found)] ∧ (found ++ pool).Perm gs ∧ found.length = i ∧ TB (m + i) t) ⟨gs, [], _, rfl, by simp, rfl, h⟩ ?_ ?_
  · rintro j x hx ρ t ⟨pool, found, olap, rfl, hp, hf, ht⟩
    have hj : j < min c gs.length := by
      have := (List.getElem?_eq_some_iff.mp hx).1
      simpa using this
    have hlen := hp.length_eq
    rw [List.length_append] at hlen
    have hpool : 0 < pool.length := by omega
    simp only [evSs, evS, evE, evEs, evAnd, evOr, evI, evPs, setAll, getS_0, getS_s, setS_0, setS_s, lift_ret, bnd_ret, bnd_bnd, chk_ret, asBl_bl, asI_int, fin, idx_t0, idx_t1, idx_t2, asLs_lst, asIt_lst, asIt_tup, List.map_cons, List.map_nil, List.replicate, List.cons_append, List.nil_append, Tg.slots, wipeS, bindT, List.set_cons_zero, List.set_cons_succ, wp_bnd, wp_ret, len_lst]
    refine (take_ok n (m + j) pool.length (by omega) (by omega) ht (by omega)).mono fun v t' ⟨r, e, hr, hb⟩ => ?_
    subst e
    have hv : pool[r]? = some pool[r] := List.getElem?_eq_getElem hr
    have hfl : fl pool[r] = true := by
      have : pool[r] ∈ gs := hp.mem_iff.mp (List.mem_append_right _ (List.getElem_mem hr))
      exact List.all_eq_true.mp hg _ this
    have hbg : big = 16777216 := rfl
    simp only [evSs, evS, evE, evEs, evAnd, evOr, evI, evPs, setAll, getS_0, getS_s, setS_0, setS_s, lift_ret, bnd_ret, bnd_bnd, chk_ret, asBl_bl, asI_int, fin, idx_t0, idx_t1, idx_t2, asLs_lst, asIt_lst, asIt_tup, List.map_cons, List.map_nil, List.replicate, List.cons_append, List.nil_append, lstAt, wp_ret, Int.toNat_natCast, hv, hfl, decide_eq_true (show (0 : Int) ≤ (r : Int) by omega), decide_eq_true (show (r : Int) < 1000000 by omega), decide_eq_true (show found.length < big by omega), Bool.and_self]
    refine ⟨_, rfl, pool.eraseIdx r, found ++ [pool[r]], some x, rfl, ?_, by simp [hf], hb⟩
    rw [List.append_assoc]
    exact ((erase_perm pool r hr).append_left found).trans hp
  · rintro ρ t ⟨pool, found, olap, rfl, hp, hf, ht⟩
    rw [List.length_map, List.length_range] at hf ht
    simp only [evSs, evS, evE, evEs, evAnd, evOr, evI, evPs, setAll, getS_0, getS_s, setS_0, setS_s, lift_ret, bnd_ret, bnd_bnd, chk_ret, asBl_bl, asI_int, fin, idx_t0, idx_t1, idx_t2, asLs_lst, asIt_lst, asIt_tup, List.map_cons, List.map_nil, List.replicate, List.cons_append, List.nil_append, wp_ret]
    exact ⟨found, pool, rfl, hp, hf, ht.mono (by omega)⟩
end G
set_option Elab.async false
set_option linter.all false
set_option maxRecDepth 100000
set_option maxHeartbeats 4000000
/-! P8: drawn webs -/
namespace G
open PySem
def fT (p : Nat × Nat) : List Int := [(p.1 : Int), (p.2 : Int)]
def decT (x : List Int) : Nat × Nat := ((x.getD 0 0).toNat, (x.getD 1 0).toNat)
theorem decT_fT (p : Nat × Nat) : decT (fT p) = p := by simp [decT, fT]
def srtT (a : List (Nat × Nat)) : List (Nat × Nat) := (sortT (a.map fT)).map decT
theorem srtT_map (a : List (Nat × Nat)) : (srtT a).map fT = sortT (a.map fT) := by
  unfold srtT
  rw [List.map_map]
  have : ∀ x ∈ sortT (a.map fT), (fT ∘ decT) x = id x := fun x hx => by
    obtain ⟨k, _, rfl⟩ := List.mem_map.mp ((sortT_perm _).mem_iff.mp hx)
    simp only [Function.comp, decT_fT, id]
  rw [List.map_congr_left this, List.map_id]
theorem srtT_perm (a : List (Nat × Nat)) : (srtT a).Perm a := by
  have h := (sortT_perm (a.map fT)).map decT
  rw [List.map_map] at h
  have e : (decT ∘ fT) = id := by funext k; exact decT_fT k
  rw [e, List.map_id] at h
  exact h
theorem srtT_le (a : List (Nat × Nat)) : (srtT a).Pairwise tieLe := by
  have h := sortT_sorted (a.map fT)
  rw [← srtT_map, List.pairwise_map] at h
  refine h.imp fun {j k} hjk => ?_
  have hjk : HT.lexLt (fT k) (fT j) = false := hjk
  unfold fT at hjk
  rw [HT.lexLt_cons] at hjk
  unfold tieLe
  split at hjk
  · rw [HT.lexLt_cons] at hjk
    split at hjk
    · omega
    · simp only [decide_eq_false_iff_not] at hjk
      omega
  · simp only [decide_eq_false_iff_not] at hjk
    omega
theorem sorted_ties (a : List (Nat × Nat)) : b1op .sorted (.lst (a.map tieV)) = some (.lst ((srtT a).map tieV)) := by
  cases a with
  | nil => rfl
  | cons k a =>
    have e1 : asInts ((k :: a).map tieV) = none := rfl
    have e2 : ∀ a : List (Nat × Nat), asTups (a.map tieV) = some (a.map fT) := fun a => by
      induction a with
      | nil => rfl
      | cons k a ih =>
        rw [List.map_cons]
        simp only [tieV, asTups, asInts, Option.map_some, Option.bind_some]
        have ih' : asTups (a.map tieV) = some (a.map fT) := ih
        rw [ih']
        rfl
    have e3 : ((k :: a).map fT).all (fun t => t.length == 2) = true := by simp [List.all_map, fT]
    simp only [b1op, e1, e2, Option.bind_some, e3, if_true]
    rw [← srtT_map, List.map_map]
    rfl
theorem cut_take (k : Nat) (xs : List PV) : cut xs none (some (k : Int)) = xs.take k := by
  unfold cut
  have e1 : HT.sIx xs.length 0 none = 0 := rfl
  have e2 : HT.sIx xs.length xs.length (some (k : Int)) = min k xs.length := by
    simp [HT.sIx]
    omega
  rw [e1, e2, List.drop_zero, Nat.sub_zero]
  by_cases h : k ≤ xs.length
  · rw [Nat.min_eq_left h]
  · rw [Nat.min_eq_right (by omega), List.take_of_length_le (Nat.le_refl _), List.take_of_length_le (by omega)]
def every (l r : Nat) : List (Nat × Nat) := (List.range l).flatMap fun a => (List.range r).map fun b => (a, b)
theorem every_mem {l r : Nat} {p : Nat × Nat} (h : p ∈ every l r) : p.1 < l ∧ p.2 < r := by
  unfold every at h
  obtain ⟨a, ha, hp⟩ := List.mem_flatMap.mp h
  obtain ⟨b, hb, rfl⟩ := List.mem_map.mp hp
  exact ⟨List.mem_range.mp ha, List.mem_range.mp hb⟩
theorem every_succ (l r : Nat) : every (l + 1) r = every l r ++ (List.range r).map fun b => (l, b) := by
  unfold every
  rw [List.range_succ, List.flatMap_append]
  simp
theorem every_len (l r : Nat) : (every l r).length = l * r := by
  induction l with
  | zero => simp [every]
  | succ l ih => rw [every_succ, List.length_append, ih, List.length_map, List.length_range, Nat.succ_mul]
theorem ties_back {es : List (Nat × Nat)} : ∀ {res : List PV}, (∀ x ∈ res, ∃ p, p ∈ es ∧ tieV p = x) → ∃ ps : List (Nat × Nat), res = ps.map tieV ∧ ∀ p ∈ ps, p ∈ es
  | [], _ => ⟨[], rfl, fun p hp => absurd hp (by simp)⟩
  | x :: res, h => by
    obtain ⟨p, hp, rfl⟩ := h x List.mem_cons_self
    obtain ⟨ps, rfl, hps⟩ := ties_back fun y hy => h y (List.mem_cons_of_mem _ hy)
    exact ⟨p :: ps, rfl, fun q hq => (List.mem_cons.mp hq).elim (fun e => e ▸ hp) (hps q)⟩
def WebPost (m : Nat) (v : PV) (t : Tn) : Prop := ∃ l r ts, v = webV l r ts ∧ Web l r ts ∧ ts.length ≤ 14 ∧ TB m t
theorem web_fin {l r : Nat} {ps : List (Nat × Nat)} (h1 : 1 ≤ l) (h2 : l ≤ 5) (h3 : 1 ≤ r) (h4 : r ≤ 5) (hl : ps.length ≤ 14) (hp : ∀ p ∈ ps, p.1 < l ∧ p.2 < r) : Web l r (srtT ps) ∧ (srtT ps).length ≤ 14 := by
  have e := (srtT_perm ps).length_eq
  exact ⟨⟨h1, by omega, h3, by omega, by omega, fun p hp' => hp p ((srtT_perm ps).mem_iff.mp hp'), srtT_le ps⟩, by omega⟩
theorem ties_flat (ps : List (Nat × Nat)) : (ps.map tieV).all fl = true := by simp [List.all_map, fl, flat, tieV]
theorem pos_every {l r : Nat} (h1 : 1 ≤ l) (h3 : 1 ≤ r) : 0 < (every l r).length := by
  rw [every_len]
  exact Nat.mul_pos h1 h3
theorem law_web_ok (n m : Nat) {t : Tn} (h : TB m t) (hm : m + 1000 < big40) : Wp (sem T (n + 3) 73 [.tin, .int 14]) t (WebPost (m + 100)) := by
  rw [sem_call (fn := f_law_web) rfl rfl]
  simp only [f_law_web, evSs, evS, evE, evEs, evAnd, evOr, evI, evPs, setAll, getS_0, getS_s, setS_0, setS_s, lift_ret, bnd_ret, bnd_bnd, chk_ret, asBl_bl, asI_int, fin, idx_t0, idx_t1, idx_t2, asLs_lst, asIt_lst, asIt_tup, List.map_cons, List.map_nil, List.replicate, List.cons_append, List.nil_append, wp_bnd, wp_ret]
  rw [show (PV.int 5) = nv 5 from rfl]
  refine (take_ok (n + 1) m 5 (by omega) (by omega) h (by omega)).mono fun v t1 ⟨l0, e, hl0, hb1⟩ => ?_
  subst e
  simp only [evSs, evS, evE, evEs, evAnd, evOr, evI, evPs, setAll, getS_0, getS_s, setS_0, setS_s, lift_ret, bnd_ret, bnd_bnd, chk_ret, asBl_bl, asI_int, fin, idx_t0, idx_t1, idx_t2, asLs_lst, asIt_lst, asIt_tup, List.map_cons, List.map_nil, List.replicate, List.cons_append, List.nil_append, add_int, stOk, wp_bnd, wp_ret]
  refine (take_ok (n + 1) (m + 1) 5 (by omega) (by omega) hb1 (by omega)).mono fun v t2 ⟨r0, e, hr0, hb2⟩ => ?_
  subst e
  simp only [evSs, evS, evE, evEs, evAnd, evOr, evI, evPs, setAll, getS_0, getS_s, setS_0, setS_s, lift_ret, bnd_ret, bnd_bnd, chk_ret, asBl_bl, asI_int, fin, idx_t0, idx_t1, idx_t2, asLs_lst, asIt_lst, asIt_tup, List.map_cons, List.map_nil, List.replicate, List.cons_append, List.nil_append, add_int, stOk, wp_bnd, wp_ret]
  refine (take_ok (n + 1) (m + 2) 5 (by omega) (by omega) hb2 (by omega)).mono fun v t3 ⟨kd, e, hkd, hb3⟩ => ?_
  subst e
  rw [show (1 : Int) + (l0 : Int) = ((1 + l0 : Nat) : Int) by omega, show (1 : Int) + (r0 : Int) = ((1 + r0 : Nat) : Int) by omega]
  generalize hl : 1 + l0 = l
  generalize hr : 1 + r0 = r
  have h1 : 1 ≤ l := by omega
  have h2 : l ≤ 5 := by omega
  have h3 : 1 ≤ r := by omega
  have h4 : r ≤ 5 := by omega
  simp only [evSs, evS, evE, evEs, evAnd, evOr, evI, evPs, setAll, getS_0, getS_s, setS_0, setS_s, lift_ret, bnd_ret, bnd_bnd, chk_ret, asBl_bl, asI_int, fin, idx_t0, idx_t1, idx_t2, asLs_lst, asIt_lst, asIt_tup, List.map_cons, List.map_nil, List.replicate, List.cons_append, List.nil_append, stOk, wp_bnd, wp_ret, rng_chk (show l ≤ 1000000 by omega), rng_nat]
  refine Wp.loop0 (fun i ρ t => ∃ o3, ρ = [some .tin, some (.int 14), some (.lst ((every i r).map tieV)), o3, some (nv l), some (nv r), some (nv kd), none, none, none] ∧ TB (m + 3) t) ⟨_, rfl, hb3⟩ ?_ ?_
  · rintro j x hx ρ t ⟨o3, rfl, ht⟩
    have hj : x = nv j ∧ j < l := by
      rw [List.getElem?_map] at hx
      obtain ⟨k, hk, rfl⟩ := Option.map_eq_some_iff.mp hx
      have h5 := (List.getElem?_eq_some_iff.mp hk).1
      rw [List.length_range] at h5
      rw [List.getElem?_range h5] at hk
      cases hk
      exact ⟨rfl, h5⟩
    obtain ⟨rfl, hj⟩ := hj
    simp only [evSs, evS, evE, evEs, evAnd, evOr, evI, evPs, setAll, getS_0, getS_s, setS_0, setS_s, lift_ret, bnd_ret, bnd_bnd, chk_ret, asBl_bl, asI_int, fin, idx_t0, idx_t1, idx_t2, asLs_lst, asIt_lst, asIt_tup, List.map_cons, List.map_nil, List.replicate, List.cons_append, List.nil_append, Tg.slots, wipeS, bindT, List.set_cons_zero, List.set_cons_succ, wp_bnd, wp_ret, rng_chk (show r ≤ 1000000 by omega), rng_nat]
    rw [compGo_map (g := fun x => .tup [nv j, x]) (fun x hx => by simp only [evSs, evS, evE, evEs, evAnd, evOr, evI, evPs, setAll, getS_0, getS_s, setS_0, setS_s, lift_ret, bnd_ret, bnd_bnd, chk_ret, asBl_bl, asI_int, fin, idx_t0, idx_t1, idx_t2, asLs_lst, asIt_lst, asIt_tup, List.map_cons, List.map_nil, List.replicate, List.cons_append, List.nil_append, Tg.slots, wipeS, bindT, List.set_cons_zero, List.set_cons_succ, if_true])]
    have hlen : (every j r).length ≤ 25 := by
      rw [every_len]
      exact Nat.mul_le_mul (show j ≤ 5 by omega) h4
    have e5 : binop .add (.lst ((every j r).map tieV)) (.lst (((List.range r).map nv).map fun x => .tup [nv j, x])) = some (.lst ((every (j + 1) r).map tieV)) := by
      have hbg : big = 16777216 := rfl
      simp only [binop]
      rw [if_pos (by simp only [List.length_map, List.length_range]; omega), every_succ, List.map_append, List.map_map, List.map_map]
      rfl
    simp only [evSs, evS, evE, evEs, evAnd, evOr, evI, evPs, setAll, getS_0, getS_s, setS_0, setS_s, lift_ret, bnd_ret, bnd_bnd, chk_ret, asBl_bl, asI_int, fin, idx_t0, idx_t1, idx_t2, asLs_lst, asIt_lst, asIt_tup, List.map_cons, List.map_nil, List.replicate, List.cons_append, List.nil_append, e5, stOk, wp_ret]
    exact ⟨_, rfl, _, rfl, ht⟩
  · rintro ρ t ⟨o3, rfl, ht⟩
    rw [List.length_map, List.length_range]
    simp only [evSs, evS, evE, evEs, evAnd, evOr, evI, evPs, setAll, getS_0, getS_s, setS_0, setS_s, lift_ret, bnd_ret, bnd_bnd, chk_ret, asBl_bl, asI_int, fin, idx_t0, idx_t1, idx_t2, asLs_lst, asIt_lst, asIt_tup, List.map_cons, List.map_nil, List.replicate, List.cons_append, List.nil_append, Tg.slots, wipeS, bindT, List.set_cons_zero, List.set_cons_succ, wp_bnd, wp_ret, eq_int]
    have hev : (every l r).length ≤ 25 := by
      rw [every_len]
      exact Nat.mul_le_mul h2 h4
    have hne : (every l r).map tieV ≠ [] := by
      intro e
      have := pos_every h1 h3
      have e2 := congrArg List.length e
      rw [List.length_map] at e2
      rw [e2] at this
      exact absurd this (by simp)
    by_cases hk0 : (kd : Int) = 0
    · simp only [hk0, decide_true, if_true, evSs, evS, evE, evEs, evAnd, evOr, evI, evPs, setAll, getS_0, getS_s, setS_0, setS_s, lift_ret, bnd_ret, bnd_bnd, chk_ret, asBl_bl, asI_int, fin, idx_t0, idx_t1, idx_t2, asLs_lst, asIt_lst, asIt_tup, List.map_cons, List.map_nil, List.replicate, List.cons_append, List.nil_append, wp_bnd, wp_ret, add_int]
      rw [show (PV.int (14 + 1)) = nv 15 from rfl]
      refine (take_ok (n + 1) (m + 3) 15 (by omega) (by omega) ht (by omega)).mono fun v t4 ⟨c, e, hc, hb4⟩ => ?_
      subst e
      simp only [evSs, evS, evE, evEs, evAnd, evOr, evI, evPs, setAll, getS_0, getS_s, setS_0, setS_s, lift_ret, bnd_ret, bnd_bnd, chk_ret, asBl_bl, asI_int, fin, idx_t0, idx_t1, idx_t2, asLs_lst, asIt_lst, asIt_tup, List.map_cons, List.map_nil, List.replicate, List.cons_append, List.nil_append, wp_bnd, wp_ret, rng_chk (show c ≤ 1000000 by omega), rng_nat]
      refine Wp.comp0 (fun i acc t => (∃ ps : List (Nat × Nat), acc = ps.map tieV ∧ ps.length = i ∧ ∀ p ∈ ps, p.1 < l ∧ p.2 < r) ∧ TB (m + 4 + i) t) ⟨⟨[], rfl, rfl, fun p hp => absurd hp (by simp)⟩, hb4⟩ ?_ ?_
      · rintro j x hx acc t ⟨⟨ps, rfl, hj, hp⟩, ht⟩
        have hjc : j < c := by
          have := (List.getElem?_eq_some_iff.mp hx).1
          simpa using this
        simp only [evSs, evS, evE, evEs, evAnd, evOr, evI, evPs, setAll, getS_0, getS_s, setS_0, setS_s, lift_ret, bnd_ret, bnd_bnd, chk_ret, asBl_bl, asI_int, fin, idx_t0, idx_t1, idx_t2, asLs_lst, asIt_lst, asIt_tup, List.map_cons, List.map_nil, List.replicate, List.cons_append, List.nil_append, Tg.slots, wipeS, bindT, List.set_cons_zero, List.set_cons_succ, wp_bnd, wp_ret, if_true]
        refine (law_of_ok n (m + 4 + j) hne (by rw [List.length_map]; omega) ht (by omega)).mono fun v t' ⟨hv, hb⟩ => ?_
        obtain ⟨p, hp', rfl⟩ := List.mem_map.mp hv
        refine ⟨⟨ps ++ [p], by simp, by simp [hj], fun q hq => ?_⟩, hb⟩
        rcases List.mem_append.mp hq with hq | hq
        · exact hp q hq
        · rw [List.mem_singleton.mp hq]; exact every_mem hp'
      · rintro ys t ⟨⟨ps, rfl, hj, hp⟩, ht⟩
        rw [List.length_map, List.length_range] at hj ht
        simp only [evSs, evS, evE, evEs, evAnd, evOr, evI, evPs, setAll, getS_0, getS_s, setS_0, setS_s, lift_ret, bnd_ret, bnd_bnd, chk_ret, asBl_bl, asI_int, fin, idx_t0, idx_t1, idx_t2, asLs_lst, asIt_lst, asIt_tup, List.map_cons, List.map_nil, List.replicate, List.cons_append, List.nil_append, stOk, wp_bnd, wp_ret, sorted_ties, tuple_lst]
        obtain ⟨w, hw⟩ := web_fin h1 h2 h3 h4 (show ps.length ≤ 14 by omega) hp
        exact ⟨l, r, _, rfl, w, hw, ht.mono (by omega)⟩
    · simp only [hk0, decide_false, Bool.false_eq_true, if_false, evSs, evS, evE, evEs, evAnd, evOr, evI, evPs, setAll, getS_0, getS_s, setS_0, setS_s, lift_ret, bnd_ret, bnd_bnd, chk_ret, asBl_bl, asI_int, fin, idx_t0, idx_t1, idx_t2, asLs_lst, asIt_lst, asIt_tup, List.map_cons, List.map_nil, List.replicate, List.cons_append, List.nil_append, wp_bnd, wp_ret, eq_int]
      by_cases hk1 : (kd : Int) = 1
      · simp only [hk1, decide_true, if_true, evSs, evS, evE, evEs, evAnd, evOr, evI, evPs, setAll, getS_0, getS_s, setS_0, setS_s, lift_ret, bnd_ret, bnd_bnd, chk_ret, asBl_bl, asI_int, fin, idx_t0, idx_t1, idx_t2, asLs_lst, asIt_lst, asIt_tup, List.map_cons, List.map_nil, List.replicate, List.cons_append, List.nil_append, wp_bnd, wp_ret, slop]
        rw [show (some (14 : Int)) = some ((14 : Nat) : Int) from rfl, cut_take]
        rw [← List.map_take]
        simp only [evSs, evS, evE, evEs, evAnd, evOr, evI, evPs, setAll, getS_0, getS_s, setS_0, setS_s, lift_ret, bnd_ret, bnd_bnd, chk_ret, asBl_bl, asI_int, fin, idx_t0, idx_t1, idx_t2, asLs_lst, asIt_lst, asIt_tup, List.map_cons, List.map_nil, List.replicate, List.cons_append, List.nil_append, stOk, wp_bnd, wp_ret, sorted_ties, tuple_lst]
        obtain ⟨w, hw⟩ := web_fin h1 h2 h3 h4 (show ((every l r).take 14).length ≤ 14 by rw [List.length_take]; omega) (fun p hp => every_mem (List.mem_of_mem_take hp))
        exact ⟨l, r, _, rfl, w, hw, ht.mono (by omega)⟩
      · simp only [hk1, decide_false, Bool.false_eq_true, if_false, evSs, evS, evE, evEs, evAnd, evOr, evI, evPs, setAll, getS_0, getS_s, setS_0, setS_s, lift_ret, bnd_ret, bnd_bnd, chk_ret, asBl_bl, asI_int, fin, idx_t0, idx_t1, idx_t2, asLs_lst, asIt_lst, asIt_tup, List.map_cons, List.map_nil, List.replicate, List.cons_append, List.nil_append, wp_bnd, wp_ret, add_int]
        rw [show (PV.int (14 + 1)) = nv 15 from rfl]
        refine (take_ok (n + 1) (m + 3) 15 (by omega) (by omega) ht (by omega)).mono fun v t4 ⟨c, e, hc, hb4⟩ => ?_
        subst e
        refine (pick_ok n (m + 4) c (ties_flat (every l r)) (by rw [List.length_map]; omega) hb4 (by rw [List.length_map]; omega)).mono fun v t5 ⟨res, rest, e, hp, hlen, hb5⟩ => ?_
        subst e
        rw [List.length_map] at hlen hb5
        obtain ⟨ps, rfl, hps⟩ : ∃ ps : List (Nat × Nat), res = ps.map tieV ∧ ∀ p ∈ ps, p ∈ every l r := by
          exact ties_back fun x hx => List.mem_map.mp (hp.mem_iff.mp (List.mem_append_left _ hx))
        rw [List.length_map] at hlen
        simp only [evSs, evS, evE, evEs, evAnd, evOr, evI, evPs, setAll, getS_0, getS_s, setS_0, setS_s, lift_ret, bnd_ret, bnd_bnd, chk_ret, asBl_bl, asI_int, fin, idx_t0, idx_t1, idx_t2, asLs_lst, asIt_lst, asIt_tup, List.map_cons, List.map_nil, List.replicate, List.cons_append, List.nil_append, stOk, wp_bnd, wp_ret, sorted_ties, tuple_lst]
        obtain ⟨w, hw⟩ := web_fin h1 h2 h3 h4 (show ps.length ≤ 14 by omega) (fun p hp => every_mem (hps p hp))
        exact ⟨l, r, _, rfl, w, hw, hb5.mono (by omega)⟩
end G
set_option Elab.async false
set_option linter.all false
set_option maxRecDepth 100000
set_option maxHeartbeats 4000000
/-! P9: drawn colourings, drawn lists, sameness -/
namespace G
open PySem
theorem same_tt (n : Nat) : sem T (n + 1) 64 [.bl true, .bl true] = M.ret (.bl true) := by
  rw [sem_call (fn := f_law_same) rfl rfl]
  have e1 : cmpop .eq (.bl true) (.bl true) = some true := rfl
  have e2 : cmpop .eq (.bl false) (.bl false) = some true := rfl
  simp only [f_law_same, evSs, evS, evE, evEs, evAnd, evOr, evI, evPs, setAll, getS_0, getS_s, setS_0, setS_s, lift_ret, bnd_ret, bnd_bnd, chk_ret, asBl_bl, asI_int, fin, idx_t0, idx_t1, idx_t2, asLs_lst, asIt_lst, asIt_tup, List.map_cons, List.map_nil, List.replicate, List.cons_append, List.nil_append, tyIs, List.any_cons, List.any_nil, show (Ty.lst == Ty.bool) = false from rfl, show (Ty.lst == Ty.int) = false from rfl, show (Ty.tup == Ty.bool) = false from rfl, show (Ty.tup == Ty.int) = false from rfl, show (Ty.bool == Ty.bool) = true from rfl, show (Ty.str == Ty.bool) = false from rfl, show (Ty.str == Ty.int) = false from rfl, Bool.or_false, Bool.false_or, Bool.true_or, Bool.or_true, Bool.false_eq_true, if_false, if_true, cmpop, isNop]
  simp only [show eqop (.bl true) (.bl true) = some true from rfl, show eqop (.bl false) (.bl false) = some true from rfl, evSs, evS, evE, evEs, evAnd, evOr, evI, evPs, setAll, getS_0, getS_s, setS_0, setS_s, lift_ret, bnd_ret, bnd_bnd, chk_ret, asBl_bl, asI_int, fin, idx_t0, idx_t1, idx_t2, asLs_lst, asIt_lst, asIt_tup, List.map_cons, List.map_nil, List.replicate, List.cons_append, List.nil_append, if_true]
theorem same_2 (n : Nat) : sem T (n + 2) 64 [.lst [.bl true, .bl true], .lst [.bl true, .bl true]] = M.ret (.bl true) := by
  rw [sem_call (fn := f_law_same) rfl rfl]
  have e3 : b1op .all (.lst [.bl true, .bl true]) = some (.bl true) := rfl
  simp only [f_law_same, evSs, evS, evE, evEs, evAnd, evOr, evI, evPs, setAll, getS_0, getS_s, setS_0, setS_s, lift_ret, bnd_ret, bnd_bnd, chk_ret, asBl_bl, asI_int, fin, idx_t0, idx_t1, idx_t2, asLs_lst, asIt_lst, asIt_tup, List.map_cons, List.map_nil, List.replicate, List.cons_append, List.nil_append, Tg.slots, wipeS, bindT, List.set_cons_zero, List.set_cons_succ, tyIs, List.any_cons, List.any_nil, show (Ty.lst == Ty.lst) = true from rfl, show (Ty.tup == Ty.lst) = false from rfl, Bool.or_false, Bool.false_or, Bool.true_or, Bool.or_true, if_true, cmpop]
  simp only [show eqop (.bl true) (.bl true) = some true from rfl, show eqop (.bl false) (.bl false) = some true from rfl, evSs, evS, evE, evEs, evAnd, evOr, evI, evPs, setAll, getS_0, getS_s, setS_0, setS_s, lift_ret, bnd_ret, bnd_bnd, chk_ret, asBl_bl, asI_int, fin, idx_t0, idx_t1, idx_t2, asLs_lst, asIt_lst, asIt_tup, List.map_cons, List.map_nil, List.replicate, List.cons_append, List.nil_append, if_true, Option.map_some, Bool.not_true, Bool.false_eq_true, if_false, len_lst, List.length_cons, List.length_nil, show ∀ i : Int, eqop (.int i) (.int i) = some true from fun i => by simp [eqop], zipop, zipPV, compGo, Tg.slots, wipeS, bindT, List.set_cons_zero, List.set_cons_succ, Option.bind_some, same_tt n, e3]
def meet (ts : List (Nat × Nat)) (j k : Nat) : Bool := decide ((tie ts j).1 = (tie ts k).1) || decide ((tie ts j).2 = (tie ts k).2)
theorem law_meet_eq (n : Nat) {l r : Nat} {ts : List (Nat × Nat)} {j k : Nat} (hj : j < ts.length) (hk : k < ts.length) : sem T (n + 1) 49 [webV l r ts, nv j, nv k] = M.ret (.bl (meet ts j k)) := by
  rw [sem_call (fn := f_law_meet) rfl rfl]
  simp only [f_law_meet, evSs, evS, evE, evEs, evAnd, evOr, evI, evPs, setAll, getS_0, getS_s, setS_0, setS_s, lift_ret, bnd_ret, bnd_bnd, chk_ret, asBl_bl, asI_int, fin, idx_t0, idx_t1, idx_t2, asLs_lst, asIt_lst, asIt_tup, List.map_cons, List.map_nil, List.replicate, List.cons_append, List.nil_append, idx_web2, idx_ties hj, idx_ties hk, idx_tie0, idx_tie1, eq_int, dec_nat]
  unfold meet
  by_cases h1 : (tie ts j).1 = (tie ts k).1
  · simp only [h1, decide_true, if_true, evSs, evS, evE, evEs, evAnd, evOr, evI, evPs, setAll, getS_0, getS_s, setS_0, setS_s, lift_ret, bnd_ret, bnd_bnd, chk_ret, asBl_bl, asI_int, fin, idx_t0, idx_t1, idx_t2, asLs_lst, asIt_lst, asIt_tup, List.map_cons, List.map_nil, List.replicate, List.cons_append, List.nil_append, Bool.true_or]
  · simp only [h1, decide_false, if_false, Bool.false_eq_true, evSs, evS, evE, evEs, evAnd, evOr, evI, evPs, setAll, getS_0, getS_s, setS_0, setS_s, lift_ret, bnd_ret, bnd_bnd, chk_ret, asBl_bl, asI_int, fin, idx_t0, idx_t1, idx_t2, asLs_lst, asIt_lst, asIt_tup, List.map_cons, List.map_nil, List.replicate, List.cons_append, List.nil_append, Bool.false_or, idx_web2, idx_ties hj, idx_ties hk, idx_tie0, idx_tie1, eq_int, dec_nat]
theorem law_is_ahead_eq (n : Nat) {l r : Nat} {ts : List (Nat × Nat)} {row : List Int} {j k : Nat} (hl : row.length = ts.length) (hj : j < ts.length) (hk : k < ts.length) : sem T (n + 1) 24 [webV l r ts, rowV row, nv j, nv k] = M.ret (.bl (ahd ts row j k)) := by
  rw [sem_call (fn := f_law_is_ahead) rfl rfl]
  simp only [f_law_is_ahead, evSs, evS, evE, evEs, evAnd, evOr, evI, evPs, setAll, getS_0, getS_s, setS_0, setS_s, lift_ret, bnd_ret, bnd_bnd, chk_ret, asBl_bl, asI_int, fin, idx_t0, idx_t1, idx_t2, asLs_lst, asIt_lst, asIt_tup, List.map_cons, List.map_nil, List.replicate, List.cons_append, List.nil_append, idx_web2, idx_ties hj, idx_ties hk, idx_row (show j < row.length by omega), idx_row (show k < row.length by omega), idx_tie0, idx_tie1, eq_int, gt_int, lt_int, dec_nat]
  unfold ahd
  by_cases h1 : (tie ts j).1 = (tie ts k).1 <;> by_cases h2 : row.getD k 0 < row.getD j 0 <;> by_cases h3 : (tie ts j).2 = (tie ts k).2 <;> by_cases h4 : row.getD j 0 < row.getD k 0 <;>
    simp only [h1, h2, h3, h4, decide_true, decide_false, if_true, if_false, Bool.false_eq_true, evSs, evS, evE, evEs, evAnd, evOr, evI, evPs, setAll, getS_0, getS_s, setS_0, setS_s, lift_ret, bnd_ret, bnd_bnd, chk_ret, asBl_bl, asI_int, fin, idx_t0, idx_t1, idx_t2, asLs_lst, asIt_lst, asIt_tup, List.map_cons, List.map_nil, List.replicate, List.cons_append, List.nil_append, Bool.true_and, Bool.false_and, Bool.or_true, Bool.true_or, Bool.or_false, idx_web2, idx_ties hj, idx_ties hk, idx_row (show j < row.length by omega), idx_row (show k < row.length by omega), idx_tie0, idx_tie1, eq_int, gt_int, lt_int, dec_nat]
theorem law_ahead_eq (n : Nat) {l r : Nat} {ts : List (Nat × Nat)} {row : List Int} {lot : List Nat} {k : Nat} (hl : row.length = ts.length) (hlot : ∀ j ∈ lot, j < ts.length) (hk : k < ts.length) : sem T (n + 2) 0 [webV l r ts, rowV row, lotV lot, nv k] = M.ret (nv (cnA ts row lot k)) := by
  rw [sem_call (fn := f_law_ahead) rfl rfl]
  simp only [f_law_ahead, evSs, evS, evE, evEs, evAnd, evOr, evI, evPs, setAll, getS_0, getS_s, setS_0, setS_s, lift_ret, bnd_ret, bnd_bnd, chk_ret, asBl_bl, asI_int, fin, idx_t0, idx_t1, idx_t2, asLs_lst, asIt_lst, asIt_tup, List.map_cons, List.map_nil, List.replicate, List.cons_append, List.nil_append]
  rw [show asIt (lotV lot) = M.ret (lot.map nv) from asIt_tup _, bnd_ret]
  rw [compGo_ret (g := fun x => match x with
    | .int i => if ahd ts row i.toNat k then some (.int 1) else none
    | _ => none) (fun x hx => ?_)]
  · have e : ∀ lot : List Nat, ((lot.map nv).filterMap fun x => match x with
      | .int i => if ahd ts row i.toNat k then some (PV.int 1) else none
      | _ => none).length = cnA ts row lot k := fun lot => by
      unfold cnA
      induction lot with
      | nil => rfl
      | cons j lot ih =>
        rw [List.map_cons, List.filterMap_cons, List.filter_cons]
        simp only [Int.toNat_natCast]
        by_cases ha : ahd ts row j k = true
        · simp only [ha, if_true, List.length_cons, ih]
        · simp only [ha, if_false, Bool.false_eq_true, ih]
    simp only [evSs, evS, evE, evEs, evAnd, evOr, evI, evPs, setAll, getS_0, getS_s, setS_0, setS_s, lift_ret, bnd_ret, bnd_bnd, chk_ret, asBl_bl, asI_int, fin, idx_t0, idx_t1, idx_t2, asLs_lst, asIt_lst, asIt_tup, List.map_cons, List.map_nil, List.replicate, List.cons_append, List.nil_append, len_lst, e]
  · obtain ⟨j, hj, rfl⟩ := List.mem_map.mp hx
    simp only [evSs, evS, evE, evEs, evAnd, evOr, evI, evPs, setAll, getS_0, getS_s, setS_0, setS_s, lift_ret, bnd_ret, bnd_bnd, chk_ret, asBl_bl, asI_int, fin, idx_t0, idx_t1, idx_t2, asLs_lst, asIt_lst, asIt_tup, List.map_cons, List.map_nil, List.replicate, List.cons_append, List.nil_append, Tg.slots, wipeS, bindT, List.set_cons_zero, List.set_cons_succ, law_is_ahead_eq n hl (hlot j hj) hk, Int.toNat_natCast]
    by_cases ha : ahd ts row j k = true
    · simp only [ha, if_true]
    · simp only [ha, if_false, Bool.false_eq_true]
theorem notin_lst (c : Nat) (xs : List Nat) : cmpop .notin (nv c) (.lst (xs.map nv)) = some (!decide (c ∈ xs)) := by
  have e : inop (nv c) (.lst (xs.map nv)) = some (decide (c ∈ xs)) := by
    unfold inop
    simp only
    rw [if_pos]
    · congr 1
      rw [Bool.eq_iff_iff]
      simp only [List.any_eq_true, List.mem_map, decide_eq_true_eq]
      constructor
      · rintro ⟨x, ⟨j, hj, rfl⟩, h⟩
        rw [eqv_int, decide_eq_true_eq] at h
        have : j = c := by omega
        exact this ▸ hj
      · intro h
        exact ⟨nv c, ⟨c, h, rfl⟩, by rw [eqv_int]; simp⟩
    · simp [shal, List.all_map]
  simp [cmpop, e]
theorem notin_tup (c : Nat) (xs : List Nat) : cmpop .notin (nv c) (lotV xs) = some (!decide (c ∈ xs)) := by
  have e := in_tup c xs
  simp only [cmpop] at e ⊢
  rw [e]
  rfl
theorem nodup_sub {used : List Nat} : ∀ {l : List Nat}, l.Nodup → (∀ x ∈ l, x ∈ used) → l.length ≤ used.length := by
  induction used with
  | nil =>
    intro l _ h
    cases l with
    | nil => simp
    | cons x l => exact absurd (h x List.mem_cons_self) (by simp)
  | cons u used ih =>
    intro l hn h
    have h1 := ih (l := l.erase u) (hn.erase u) fun x hx => by
      obtain ⟨a, b⟩ := (hn.mem_erase_iff).mp hx
      exact (List.mem_cons.mp (h x b)).resolve_left a
    by_cases hm : u ∈ l
    · rw [List.length_erase_of_mem hm] at h1
      simp only [List.length_cons]
      omega
    · rw [List.erase_of_not_mem hm] at h1
      simp only [List.length_cons]
      omega
theorem free_len (used : List Nat) : 100 ≤ ((List.range 100).filter fun c => !decide (c ∈ used)).length + used.length := by
  have h1 : ((List.range 100).filter fun c => decide (c ∈ used)).length ≤ used.length := nodup_sub (List.nodup_range.filter _) fun x hx => by
    have := (List.mem_filter.mp hx).2
    simpa using this
  have h2 : ∀ l : List Nat, (l.filter fun c => !decide (c ∈ used)).length + (l.filter fun c => decide (c ∈ used)).length = l.length := fun l => by
    induction l with
    | nil => rfl
    | cons x l ih =>
      rw [List.filter_cons, List.filter_cons]
      by_cases h : x ∈ used
      · simp only [h, decide_true, Bool.not_true, Bool.false_eq_true, if_false, if_true, List.length_cons]
        omega
      · simp only [h, decide_false, Bool.not_false, Bool.false_eq_true, if_false, if_true, List.length_cons]
        omega
  have h3 := h2 (List.range 100)
  rw [List.length_range] at h3
  omega
def castR (fs : List Nat) : List Int := fs.map fun (k : Nat) => (k : Int)
theorem castR_get (fs : List Nat) (k : Nat) : (castR fs).getD k 0 = ((fs.getD k 0 : Nat) : Int) := by
  unfold castR
  rw [List.getD_eq_getElem?_getD, List.getD_eq_getElem?_getD, List.getElem?_map]
  cases fs[k]? <;> rfl
theorem proper_of {ts : List (Nat × Nat)} {fs : List Nat} (h : ∀ j k, j < k → k < ts.length → meet ts j k = true → fs.getD j 0 ≠ fs.getD k 0) : Proper ts (castR fs) := by
  intro s hs e
  rw [List.nodup_iff_pairwise_ne, List.pairwise_map]
  have hp : (atE ts s e (List.range ts.length)).Pairwise (· < ·) := List.pairwise_lt_range.filter _
  refine hp.imp_of_mem fun {j k} hj hk hlt => ?_
  rw [castR_get, castR_get]
  obtain ⟨a1, a2⟩ := mem_atE.mp hj
  obtain ⟨b1, b2⟩ := mem_atE.mp hk
  have := h j k hlt (List.mem_range.mp b1) (by
    unfold meet
    rcases hs with rfl | rfl
    · have : (tie ts j).1 = (tie ts k).1 := by simp [en] at a2 b2; rw [a2, b2]
      rw [decide_eq_true this]; rfl
    · have : (tie ts j).2 = (tie ts k).2 := by simp [en] at a2 b2; rw [a2, b2]
      rw [decide_eq_true this]; simp)
  omega
theorem getD_app {fs : List Nat} {c j : Nat} : (fs ++ [c]).getD j 0 = if j < fs.length then fs.getD j 0 else if j = fs.length then c else 0 := by
  rw [List.getD_eq_getElem?_getD, List.getD_eq_getElem?_getD]
  by_cases h : j < fs.length
  · rw [if_pos h, List.getElem?_append_left h]
  · rw [if_neg h, List.getElem?_append_right (by omega)]
    by_cases h2 : j = fs.length
    · subst h2; simp
    · rw [if_neg h2, List.getElem?_eq_none (by simp; omega)]
      rfl
theorem nv_get {fs : List Nat} {k : Nat} (h : k < fs.length) : (fs.map nv)[k]? = some (nv (fs.getD k 0)) := by
  rw [List.getElem?_map, List.getElem?_eq_getElem h, List.getD_eq_getElem?_getD, List.getElem?_eq_getElem h]
  rfl
theorem range_x {k j : Nat} {x : PV} (h : ((List.range k).map nv)[j]? = some x) : x = nv j ∧ j < k := by
  rw [List.getElem?_map] at h
  obtain ⟨i, hi, rfl⟩ := Option.map_eq_some_iff.mp h
  have h5 := (List.getElem?_eq_some_iff.mp hi).1
  rw [List.length_range] at h5
  rw [List.getElem?_range h5] at hi
  cases hi
  exact ⟨rfl, h5⟩
theorem law_row_ok (n m : Nat) {l r : Nat} {ts : List (Nat × Nat)} {t : Tn} (hn : ts.length ≤ 14) (h : TB m t) (hm : m + 1000 < big40) : Wp (sem T (n + 3) 62 [.tin, webV l r ts, .int 2]) t fun v t' => ∃ fs : List Nat, v = rowV (castR fs) ∧ Row ts (castR fs) ∧ TB (m + 100) t' := by
  rw [sem_call (fn := f_law_row) rfl rfl]
  have e3 : elems1 (.lst []) = true := rfl
  simp only [f_law_row, evSs, evS, evE, evEs, evAnd, evOr, evI, evPs, setAll, getS_0, getS_s, setS_0, setS_s, lift_ret, bnd_ret, bnd_bnd, chk_ret, asBl_bl, asI_int, fin, idx_t0, idx_t1, idx_t2, asLs_lst, asIt_lst, asIt_tup, List.map_cons, List.map_nil, List.replicate, List.cons_append, List.nil_append, stOk, e3, idx_web2, len_tup, List.length_map, rng_chk (show ts.length ≤ 1000000 by omega), rng_nat]
  rw [wp_bnd]
  refine Wp.loop0 (fun i ρ t => ∃ fs : List Nat, ∃ o4 o5 o6 o7 o8, ρ = [some .tin, some (webV l r ts), some (.int 2), some (.lst (fs.map nv)), o4, o5, o6, o7, o8] ∧ fs.length = i ∧ (∀ c ∈ fs, c < 100) ∧ (∀ j k, j < k → k < i → meet ts j k = true → fs.getD j 0 ≠ fs.getD k 0) ∧ TB (m + i) t)
    ⟨[], _, _, _, _, _, rfl, rfl, fun c hc => absurd hc (by simp), fun j k _ hk => absurd hk (by omega), h⟩ ?_ ?_
  · rintro i x hx ρ t ⟨fs, o4, o5, o6, o7, o8, rfl, hfs, hlt, hpr, ht⟩
    obtain ⟨rfl, hi⟩ := range_x hx
    simp only [evSs, evS, evE, evEs, evAnd, evOr, evI, evPs, setAll, getS_0, getS_s, setS_0, setS_s, lift_ret, bnd_ret, bnd_bnd, chk_ret, asBl_bl, asI_int, fin, idx_t0, idx_t1, idx_t2, asLs_lst, asIt_lst, asIt_tup, List.map_cons, List.map_nil, List.replicate, List.cons_append, List.nil_append, Tg.slots, wipeS, bindT, List.set_cons_zero, List.set_cons_succ, rng_chk (show i ≤ 1000000 by omega), rng_nat]
    rw [compGo_ret (g := fun x => match x with
      | .int j => if meet ts j.toNat i then some (nv (fs.getD j.toNat 0)) else none
      | _ => none) (fun x hx => ?_)]
    rotate_left
    · obtain ⟨j, hj, rfl⟩ := List.mem_map.mp hx
      have hj2 := List.mem_range.mp hj
      simp only [evSs, evS, evE, evEs, evAnd, evOr, evI, evPs, setAll, getS_0, getS_s, setS_0, setS_s, lift_ret, bnd_ret, bnd_bnd, chk_ret, asBl_bl, asI_int, fin, idx_t0, idx_t1, idx_t2, asLs_lst, asIt_lst, asIt_tup, List.map_cons, List.map_nil, List.replicate, List.cons_append, List.nil_append, Tg.slots, wipeS, bindT, List.set_cons_zero, List.set_cons_succ, law_meet_eq (n + 1) (show j < ts.length by omega) hi, Int.toNat_natCast]
      by_cases ha : meet ts j i = true
      · simp only [ha, if_true, evSs, evS, evE, evEs, evAnd, evOr, evI, evPs, setAll, getS_0, getS_s, setS_0, setS_s, lift_ret, bnd_ret, bnd_bnd, chk_ret, asBl_bl, asI_int, fin, idx_t0, idx_t1, idx_t2, asLs_lst, asIt_lst, asIt_tup, List.map_cons, List.map_nil, List.replicate, List.cons_append, List.nil_append, idx_lst (nv_get (show j < fs.length by omega))]
      · simp only [ha, Bool.false_eq_true, if_false]
    · generalize hus : ((List.range i).filterMap fun j => if meet ts j i then some (fs.getD j 0) else none) = used
      have e4 : (((List.range i).map nv).filterMap fun x => match x with
        | .int j => if meet ts j.toNat i then some (nv (fs.getD j.toNat 0)) else none
        | _ => none) = used.map nv := by
        rw [← hus, List.filterMap_map, List.map_filterMap]
        congr 1
        funext j
        simp only [Function.comp, Int.toNat_natCast]
        by_cases ha : meet ts j i = true
        · simp only [ha, if_true, Option.map_some]
        · simp only [ha, Bool.false_eq_true, if_false, Option.map_none]
      rw [e4]
      have hul : used.length ≤ i := by
        rw [← hus]
        have := List.length_filterMap_le (fun j => if meet ts j i then some (fs.getD j 0) else none) (List.range i)
        rw [List.length_range] at this
        exact this
      have e5 : elems1 (.lst (used.map nv)) = true := shal_ints used
      simp only [evSs, evS, evE, evEs, evAnd, evOr, evI, evPs, setAll, getS_0, getS_s, setS_0, setS_s, lift_ret, bnd_ret, bnd_bnd, chk_ret, asBl_bl, asI_int, fin, idx_t0, idx_t1, idx_t2, asLs_lst, asIt_lst, asIt_tup, List.map_cons, List.map_nil, List.replicate, List.cons_append, List.nil_append, Tg.slots, wipeS, bindT, List.set_cons_zero, List.set_cons_succ, stOk, e5]
      rw [show (decide (-1000000 ≤ (100 : Int)) && decide ((100 : Int) ≤ 1000000)) = true from rfl, show rngPV 0 ((100 : Int)).toNat = (List.range 100).map nv from rng_nat 100]
      simp only [evSs, evS, evE, evEs, evAnd, evOr, evI, evPs, setAll, getS_0, getS_s, setS_0, setS_s, lift_ret, bnd_ret, bnd_bnd, chk_ret, asBl_bl, asI_int, fin, idx_t0, idx_t1, idx_t2, asLs_lst, asIt_lst, asIt_tup, List.map_cons, List.map_nil, List.replicate, List.cons_append, List.nil_append]
      rw [compGo_filter (p := fun c => !decide (c ∈ used)) (fun x hx => ?_)]
      rotate_left
      · simp only [evSs, evS, evE, evEs, evAnd, evOr, evI, evPs, setAll, getS_0, getS_s, setS_0, setS_s, lift_ret, bnd_ret, bnd_bnd, chk_ret, asBl_bl, asI_int, fin, idx_t0, idx_t1, idx_t2, asLs_lst, asIt_lst, asIt_tup, List.map_cons, List.map_nil, List.replicate, List.cons_append, List.nil_append, Tg.slots, wipeS, bindT, List.set_cons_zero, List.set_cons_succ, notin_lst]
        by_cases hxu : x ∈ used
        · simp only [hxu, decide_true, Bool.not_true, Bool.false_eq_true, if_false]
        · simp only [hxu, decide_false, Bool.not_false, if_true, evSs, evS, evE, evEs, evAnd, evOr, evI, evPs, setAll, getS_0, getS_s, setS_0, setS_s, lift_ret, bnd_ret, bnd_bnd, chk_ret, asBl_bl, asI_int, fin, idx_t0, idx_t1, idx_t2, asLs_lst, asIt_lst, asIt_tup, List.map_cons, List.map_nil, List.replicate, List.cons_append, List.nil_append]
      · generalize hfr : ((List.range 100).filter fun c => !decide (c ∈ used)) = free
        have hfl := free_len used
        rw [hfr] at hfl
        simp only [evSs, evS, evE, evEs, evAnd, evOr, evI, evPs, setAll, getS_0, getS_s, setS_0, setS_s, lift_ret, bnd_ret, bnd_bnd, chk_ret, asBl_bl, asI_int, fin, idx_t0, idx_t1, idx_t2, asLs_lst, asIt_lst, asIt_tup, List.map_cons, List.map_nil, List.replicate, List.cons_append, List.nil_append, wp_bnd, wp_ret]
        rw [show (PV.int 2) = nv 2 from rfl]
        refine (take_ok (n + 1) (m + i) 2 (by omega) (by omega) ht (by omega)).mono fun v t' ⟨q, e, hq, hb⟩ => ?_
        subst e
        have hql : q < free.length := by omega
        have hbg : big = 16777216 := rfl
        simp only [idx_lst (nv_get hql), evSs, evS, evE, evEs, evAnd, evOr, evI, evPs, setAll, getS_0, getS_s, setS_0, setS_s, lift_ret, bnd_ret, bnd_bnd, chk_ret, asBl_bl, asI_int, fin, idx_t0, idx_t1, idx_t2, asLs_lst, asIt_lst, asIt_tup, List.map_cons, List.map_nil, List.replicate, List.cons_append, List.nil_append, wp_bnd, wp_ret, lstAt, fl, flat, List.length_map, decide_eq_true (show fs.length < big by omega)]
        have hmem : free.getD q 0 ∈ free := by
          rw [List.getD_eq_getElem?_getD, List.getElem?_eq_getElem hql]
          exact List.getElem_mem hql
        rw [← hfr] at hmem
        obtain ⟨c1, c2⟩ := List.mem_filter.mp hmem
        rw [hfr] at c1 c2
        have c3 : free.getD q 0 ∉ used := by simpa using c2
        refine ⟨_, rfl, fs ++ [free.getD q 0], _, _, _, o7, o8, by rw [List.map_append]; rfl, by simp [hfs], fun c hc => ?_, fun j k hjk hk hmt => ?_, hb⟩
        · rcases List.mem_append.mp hc with hc | hc
          · exact hlt c hc
          · rw [List.mem_singleton.mp hc]; exact List.mem_range.mp c1
        · rw [getD_app, getD_app]
          by_cases hk2 : k < fs.length
          · rw [if_pos (show j < fs.length by omega), if_pos hk2]
            exact hpr j k hjk (by omega) hmt
          · have hke : k = fs.length := by omega
            rw [if_pos (show j < fs.length by omega), if_neg hk2, if_pos hke]
            intro e
            apply c3
            rw [← hus, ← e]
            refine List.mem_filterMap.mpr ⟨j, List.mem_range.mpr (by omega), ?_⟩
            rw [show i = k by omega, hmt]
            rfl
  · rintro ρ t ⟨fs, o4, o5, o6, o7, o8, rfl, hfs, hlt, hpr, ht⟩
    rw [List.length_map, List.length_range] at hfs hpr ht
    simp only [evSs, evS, evE, evEs, evAnd, evOr, evI, evPs, setAll, getS_0, getS_s, setS_0, setS_s, lift_ret, bnd_ret, bnd_bnd, chk_ret, asBl_bl, asI_int, fin, idx_t0, idx_t1, idx_t2, asLs_lst, asIt_lst, asIt_tup, List.map_cons, List.map_nil, List.replicate, List.cons_append, List.nil_append, tuple_lst, wp_ret]
    refine ⟨fs, ?_, ⟨by unfold castR; rw [List.length_map, hfs], fun c hc => ?_, proper_of hpr⟩, ht.mono (by omega)⟩
    · exact lotV_eq fs
    · unfold castR at hc
      obtain ⟨k, hk, rfl⟩ := List.mem_map.mp hc
      have := hlt k hk
      omega
end G
set_option Elab.async false
set_option linter.all false
set_option maxRecDepth 100000
set_option maxHeartbeats 4000000
/-! P10: drawn lists, drawn orders -/
namespace G
open PySem
theorem nats_back {es : List Nat} : ∀ {res : List PV}, (∀ x ∈ res, ∃ p, p ∈ es ∧ nv p = x) → ∃ ps : List Nat, res = ps.map nv ∧ ∀ p ∈ ps, p ∈ es
  | [], _ => ⟨[], rfl, fun p hp => absurd hp (by simp)⟩
  | x :: res, h => by
    obtain ⟨p, hp, rfl⟩ := h x List.mem_cons_self
    obtain ⟨ps, rfl, hps⟩ := nats_back fun y hy => h y (List.mem_cons_of_mem _ hy)
    exact ⟨p :: ps, rfl, fun q hq => (List.mem_cons.mp hq).elim (fun e => e ▸ hp) (hps q)⟩
theorem nv_inj {a b : Nat} (h : nv a = nv b) : a = b := by
  have h : ((a : Int)) = (b : Int) := by injection h
  omega
theorem nodup_back {ps : List Nat} (h : (ps.map nv).Nodup) : ps.Nodup := by
  rw [List.nodup_iff_pairwise_ne, List.pairwise_map] at h
  rw [List.nodup_iff_pairwise_ne]
  exact h.imp fun {a b} hne e => hne (by rw [e])
theorem nodup_nv {ps : List Nat} (h : ps.Nodup) : (ps.map nv).Nodup := by
  rw [List.nodup_iff_pairwise_ne, List.pairwise_map]
  rw [List.nodup_iff_pairwise_ne] at h
  exact h.imp fun {a b} hne e => hne (nv_inj e)
/-- some of 0 .. k - 1, each once -/
theorem pick_range (n m c k : Nat) {t : Tn} (hl : k ≤ 100000) (h : TB m t) (hm : m + k < big40) : Wp (sem T (n + 2) 58 [.tin, lotL (List.range k), nv c]) t fun v t' => ∃ ps : List Nat, v = lotL ps ∧ ps.Nodup ∧ (∀ p ∈ ps, p < k) ∧ ps.length = min c k ∧ TB (m + k) t' := by
  refine (pick_ok n m c (gs := (List.range k).map nv) (shal_ints _) (by simp; omega) h (by simp; omega)).mono fun v t' ⟨res, rest, e, hp, hlen, hb⟩ => ?_
  subst e
  obtain ⟨ps, rfl, hps⟩ := nats_back (es := List.range k) fun x hx => List.mem_map.mp (hp.mem_iff.mp (List.mem_append_left _ hx))
  rw [List.length_map, List.length_map, List.length_range] at hlen
  rw [List.length_map, List.length_range] at hb
  have hnd : (ps.map nv ++ rest).Nodup := hp.nodup_iff.mpr (nodup_nv List.nodup_range)
  exact ⟨ps, rfl, nodup_back (List.nodup_append.mp hnd).1, fun p hp => List.mem_range.mp (hps p hp), hlen, hb⟩
theorem sorted_nats (a : List Nat) : b1op .sorted (.lst (a.map nv)) = some (.lst ((sortN a).map nv)) := by
  have e : asInts (a.map nv) = some (a.map fun (k : Nat) => (k : Int)) := by
    have := asInts_map (a.map fun (k : Nat) => (k : Int))
    rw [List.map_map] at this
    exact this
  simp only [b1op, e]
  rw [sortN_cast, List.map_map]
  rfl
theorem cnA_le (ts : List (Nat × Nat)) (row : List Int) (lot : List Nat) (k : Nat) : cnA ts row lot k ≤ lot.length := List.length_filter_le _ _
structure Long (ts : List (Nat × Nat)) (row : List Int) (Ls : List (List Nat)) (m : Nat) : Prop where
  len : Ls.length = m
  each : ∀ k L, Ls[k]? = some L → L.Pairwise (· < ·) ∧ (∀ c ∈ L, c < ts.length + 3) ∧ cnA ts row (List.range ts.length) k < L.length
theorem law_long_ok (n m : Nat) {l r : Nat} {ts : List (Nat × Nat)} {row : List Int} {t : Tn} (hl : row.length = ts.length) (hn : ts.length ≤ 14) (h : TB m t) (hm : m + 1000 < big40) :
    Wp (sem T (n + 4) 46 [.tin, webV l r ts, rowV row, .int ((ts.length : Int) + 3), .int 1]) t fun v t' => ∃ Ls, v = lsV Ls ∧ Long ts row Ls ts.length ∧ TB (m + 300) t' := by
  rw [sem_call (fn := f_law_long_lists) rfl rfl]
  have e3 : elems1 (.lst []) = true := rfl
  simp only [f_law_long_lists, evSs, evS, evE, evEs, evAnd, evOr, evI, evPs, setAll, getS_0, getS_s, setS_0, setS_s, lift_ret, bnd_ret, bnd_bnd, chk_ret, asBl_bl, asI_int, fin, idx_t0, idx_t1, idx_t2, asLs_lst, asIt_lst, asIt_tup, List.map_cons, List.map_nil, List.replicate, List.cons_append, List.nil_append, stOk, e3, idx_web2, len_tup, List.length_map, rng_chk (show ts.length ≤ 1000000 by omega), rng_nat]
  rw [wp_bnd]
  refine Wp.loop0 (fun i ρ t => ∃ Ls : List (List Nat), ∃ o6 o7, ρ = [some .tin, some (webV l r ts), some (rowV row), some (.int ((ts.length : Int) + 3)), some (.int 1), some (.lst (Ls.map lotV)), o6, o7] ∧ Long ts row Ls i ∧ TB (m + 20 * i) t)
    ⟨[], _, _, rfl, ⟨rfl, fun k L hk => by simp at hk⟩, h⟩ ?_ ?_
  · rintro i x hx ρ t ⟨Ls, o6, o7, rfl, hL, ht⟩
    obtain ⟨rfl, hi⟩ := range_x hx
    have e1 := law_ahead_eq (n + 1) (l := l) (r := r) hl (lot_range ts.length).lt hi
    have e2 := trng_ok ts.length (by omega)
    simp only [evSs, evS, evE, evEs, evAnd, evOr, evI, evPs, setAll, getS_0, getS_s, setS_0, setS_s, lift_ret, bnd_ret, bnd_bnd, chk_ret, asBl_bl, asI_int, fin, idx_t0, idx_t1, idx_t2, asLs_lst, asIt_lst, asIt_tup, List.map_cons, List.map_nil, List.replicate, List.cons_append, List.nil_append, Tg.slots, wipeS, bindT, List.set_cons_zero, List.set_cons_succ, wp_bnd, wp_ret, idx_web2, len_tup, List.length_map, e2, e1, add_int]
    rw [show (PV.int (1 + 1)) = nv 2 from rfl]
    refine (take_ok (n + 2) (m + 20 * i) 2 (by omega) (by omega) ht (by omega)).mono fun v t1 ⟨q, e, hq, hb⟩ => ?_
    subst e
    rw [show ((ts.length : Int) + 3) = ((ts.length + 3 : Nat) : Int) by omega]
    simp only [evSs, evS, evE, evEs, evAnd, evOr, evI, evPs, setAll, getS_0, getS_s, setS_0, setS_s, lift_ret, bnd_ret, bnd_bnd, chk_ret, asBl_bl, asI_int, fin, idx_t0, idx_t1, idx_t2, asLs_lst, asIt_lst, asIt_tup, List.map_cons, List.map_nil, List.replicate, List.cons_append, List.nil_append, stOk, wp_bnd, wp_ret, add_int, lrng_ok (ts.length + 3) (by omega)]
    rw [show ((cnA ts row (List.range ts.length) i : Int) + 1 + (q : Int)) = ((cnA ts row (List.range ts.length) i + 1 + q : Nat) : Int) by omega]
    refine (pick_range (n + 1) (m + 20 * i + 1) (cnA ts row (List.range ts.length) i + 1 + q) (ts.length + 3) (by omega) hb (by omega)).mono fun v t2 ⟨ps, e, hnd, hlt, hlen, hb2⟩ => ?_
    subst e
    have hca := cnA_le ts row (List.range ts.length) i
    rw [List.length_range] at hca
    have hbg : big = 16777216 := rfl
    have hfl : fl (.tup ((sortN ps).map nv)) = true := by simp [fl, flat, List.all_map]
    simp only [evSs, evS, evE, evEs, evAnd, evOr, evI, evPs, setAll, getS_0, getS_s, setS_0, setS_s, lift_ret, bnd_ret, bnd_bnd, chk_ret, asBl_bl, asI_int, fin, idx_t0, idx_t1, idx_t2, asLs_lst, asIt_lst, asIt_tup, List.map_cons, List.map_nil, List.replicate, List.cons_append, List.nil_append, lotL, sorted_nats, tuple_lst, wp_bnd, wp_ret, lstAt, hfl, List.length_map, decide_eq_true (show Ls.length < big by rw [hL.len]; omega)]
    refine ⟨_, rfl, Ls ++ [sortN ps], _, _, by rw [List.map_append]; rfl, ⟨by simp [hL.len], fun k L hk => ?_⟩, hb2.mono (by omega)⟩
    by_cases hk2 : k < Ls.length
    · rw [List.getElem?_append_left hk2] at hk
      exact hL.each k L hk
    · rw [List.getElem?_append_right (by omega)] at hk
      have hke : k = i := by
        have := (List.getElem?_eq_some_iff.mp hk).1
        have := hL.len
        simp at *
        omega
      subst hke
      rw [hL.len] at hk
      simp at hk
      subst hk
      refine ⟨sortN_lt hnd, fun c hc => hlt c ((sortN_perm ps).mem_iff.mp hc), ?_⟩
      rw [(sortN_perm ps).length_eq, hlen]
      omega
  · rintro ρ t ⟨Ls, o6, o7, rfl, hL, ht⟩
    rw [List.length_map, List.length_range] at hL ht
    simp only [evSs, evS, evE, evEs, evAnd, evOr, evI, evPs, setAll, getS_0, getS_s, setS_0, setS_s, lift_ret, bnd_ret, bnd_bnd, chk_ret, asBl_bl, asI_int, fin, idx_t0, idx_t1, idx_t2, asLs_lst, asIt_lst, asIt_tup, List.map_cons, List.map_nil, List.replicate, List.cons_append, List.nil_append, tuple_lst, wp_ret]
    exact ⟨Ls, rfl, hL, ht.mono (by omega)⟩
end G
set_option Elab.async false
set_option linter.all false
set_option maxRecDepth 100000
set_option maxHeartbeats 4000000
/-! P11: rounds and shows, plain -/
namespace G
theorem cn_le (ts : List (Nat × Nat)) (row : List Int) (left : List Nat) (q : Nat → Bool) (k : Nat) : cnA ts row (left.filter q) k ≤ cnA ts row left k := by
  unfold cnA
  induction left with
  | nil => simp
  | cons x l ih =>
    rw [List.filter_cons]
    by_cases h : q x = true <;> by_cases h2 : ahd ts row x k = true <;> simp only [h, h2, if_true, if_false, List.filter_cons, List.length_cons, Bool.false_eq_true] <;> omega
theorem cn_lt {ts : List (Nat × Nat)} {row : List Int} {left : List Nat} {q : Nat → Bool} {j k : Nat} (hj : j ∈ left) (ha : ahd ts row j k = true) (hq : q j = false) : cnA ts row (left.filter q) k + 1 ≤ cnA ts row left k := by
  induction left with
  | nil => cases hj
  | cons x l ih =>
    have hle := cn_le ts row l q k
    unfold cnA at ih hle ⊢
    rw [List.filter_cons]
    rcases List.mem_cons.mp hj with e | hj'
    · subst e
      simp only [hq, Bool.false_eq_true, if_false, List.filter_cons, ha, if_true, List.length_cons]
      omega
    · have := ih hj'
      by_cases h : q x = true <;> by_cases h2 : ahd ts row x k = true <;> simp only [h, h2, if_true, if_false, List.filter_cons, List.length_cons, Bool.false_eq_true] <;> omega
def putK (f : List Nat) (K : List Nat) (c : Nat) : List Nat := K.foldl (fun f k => f.set k c) f
theorem getD_setN (f : List Nat) (i k c : Nat) : (f.set i c).getD k 0 = if k = i ∧ i < f.length then c else f.getD k 0 := by
  rw [List.getD_eq_getElem?_getD, List.getD_eq_getElem?_getD]
  by_cases h : i = k
  · subst h
    by_cases hl : i < f.length
    · rw [List.getElem?_set_self hl, if_pos ⟨rfl, hl⟩]
      rfl
    · rw [if_neg fun z => hl z.2, List.getElem?_eq_none (by rw [List.length_set]; omega), List.getElem?_eq_none (by omega)]
  · rw [List.getElem?_set_ne h, if_neg fun z => h z.1.symm]
theorem putK_len (c : Nat) : ∀ (K f : List Nat), (putK f K c).length = f.length
  | [], f => rfl
  | k :: K, f => by
    show (putK (f.set k c) K c).length = _
    rw [putK_len c K, List.length_set]
theorem putK_get (c : Nat) : ∀ (K f : List Nat) (k : Nat), k < f.length → (putK f K c).getD k 0 = if k ∈ K then c else f.getD k 0
  | [], f, k, h => by simp [putK]
  | x :: K, f, k, h => by
    show (putK (f.set x c) K c).getD k 0 = _
    rw [putK_get c K _ k (by rw [List.length_set]; exact h), getD_setN]
    by_cases h1 : k ∈ K
    · simp [h1]
    · by_cases h2 : k = x
      · subst h2
        simp [h1, h]
      · simp [h1, h2]
def incK (f : List Nat) (K : List Nat) : List Nat := K.foldl (fun f k => f.set k (f.getD k 0 + 1)) f
theorem incK_len : ∀ (K f : List Nat), (incK f K).length = f.length
  | [], f => rfl
  | k :: K, f => by
    show (incK (f.set k _) K).length = _
    rw [incK_len K, List.length_set]
theorem incK_get : ∀ (K f : List Nat) (k : Nat), k < f.length → K.Nodup → (incK f K).getD k 0 = if k ∈ K then f.getD k 0 + 1 else f.getD k 0
  | [], f, k, h, _ => by simp [incK]
  | x :: K, f, k, h, hn => by
    obtain ⟨h1, h2⟩ := List.nodup_cons.mp hn
    show (incK (f.set x (f.getD x 0 + 1)) K).getD k 0 = _
    rw [incK_get K _ k (by rw [List.length_set]; exact h) h2, getD_setN]
    by_cases h3 : k = x
    · subst h3
      simp [h1, h]
    · by_cases h4 : k ∈ K
      · simp [h4, h3]
      · simp [h4, h3]
def cntP (L p : List Nat) : Nat := (L.filter fun c => decide (c ∈ p)).length
theorem cntP_nil (L : List Nat) : cntP L [] = 0 := by simp [cntP]
theorem cntP_add {L p : List Nat} {c : Nat} (hn : L.Nodup) (hc : c ∉ p) : cntP L (p ++ [c]) = cntP L p + (if c ∈ L then 1 else 0) := by
  unfold cntP
  induction L with
  | nil => simp
  | cons x L ih =>
    obtain ⟨h1, h2⟩ := List.nodup_cons.mp hn
    have ih := ih h2
    rw [List.filter_cons, List.filter_cons]
    by_cases hx : x = c
    · subst hx
      have e1 : x ∈ p ++ [x] := by simp
      rw [if_neg h1] at ih
      simp only [e1, hc, decide_true, decide_false, if_true, if_false, Bool.false_eq_true, List.length_cons, List.mem_cons, true_or]
      omega
    · have e2 : (x ∈ p ++ [c]) ↔ x ∈ p := by simp [hx]
      have e3 : (c ∈ x :: L) ↔ c ∈ L := by simp [Ne.symm hx]
      by_cases hp : x ∈ p
      · simp only [e2.mpr hp, hp, decide_true, if_true, List.length_cons]
        by_cases hcl : c ∈ L
        · rw [if_pos hcl] at ih; rw [if_pos (e3.mpr hcl)]; omega
        · rw [if_neg hcl] at ih; rw [if_neg fun z => hcl (e3.mp z)]; omega
      · have : ¬ x ∈ p ++ [c] := fun z => hp (e2.mp z)
        simp only [this, hp, decide_false, if_false, Bool.false_eq_true]
        by_cases hcl : c ∈ L
        · rw [if_pos hcl] at ih; rw [if_pos (e3.mpr hcl)]; omega
        · rw [if_neg hcl] at ih; rw [if_neg fun z => hcl (e3.mp z)]; omega
theorem cntP_all {L p : List Nat} (h : ∀ c ∈ L, c ∈ p) : cntP L p = L.length := by
  unfold cntP
  rw [List.filter_eq_self.mpr fun c hc => by simpa using h c hc]
/-- K taken away -/
def wo (left K : List Nat) : List Nat := left.filter fun k => !decide (k ∈ K)
theorem mem_wo {left K : List Nat} {k : Nat} : k ∈ wo left K ↔ k ∈ left ∧ k ∉ K := by
  unfold wo
  rw [List.mem_filter]
  simp
theorem meet_pair {ts : List (Nat × Nat)} {K : List Nat} (hp : Pairing ts K) {j k : Nat} (hj : j ∈ K) (hk : k ∈ K) (hm : meet ts j k = true) : j = k := by
  have one : ∀ s, s = 0 ∨ s = 1 → en s (tie ts j) = en s (tie ts k) → j = k := fun s hs he => by
    have h := hp s hs (en s (tie ts k))
    have h1 : j ∈ atE ts s (en s (tie ts k)) K := mem_atE.mpr ⟨hj, he⟩
    have h2 : k ∈ atE ts s (en s (tie ts k)) K := mem_atE.mpr ⟨hk, rfl⟩
    generalize atE ts s (en s (tie ts k)) K = l at h h1 h2
    match l, h, h1, h2 with
    | [x], _, h1, h2 => rw [List.mem_singleton.mp h1, List.mem_singleton.mp h2]
    | [], _, h1, _ => cases h1
    | _ :: _ :: _, h, _, _ => simp at h
  unfold meet at hm
  rw [Bool.or_eq_true, decide_eq_true_eq, decide_eq_true_eq] at hm
  rcases hm with hm | hm
  · exact one 0 (.inl rfl) hm
  · exact one 1 (.inr rfl) hm
section
variable (ts : List (Nat × Nat)) (row : List Int) (Ls : List (List Nat))
structure RA (p left found : List Nat) : Prop where
  lot : Lot ts.length left
  len : found.length = ts.length
  bnd : ∀ k ∈ left, cnA ts row left k + cntP (Ls.getD k []) p ≤ cnA ts row (List.range ts.length) k
  got : ∀ k, k < ts.length → k ∉ left → found.getD k 0 ∈ p ∧ found.getD k 0 ∈ Ls.getD k []
  ne : ∀ j k, j < ts.length → k < ts.length → j ∉ left → k ∉ left → j ≠ k → meet ts j k = true → found.getD j 0 ≠ found.getD k 0
end
section
variable {ts : List (Nat × Nat)} {row : List Int} {Ls : List (List Nat)}
theorem RA.start : RA ts row Ls [] (List.range ts.length) (List.replicate ts.length 0) :=
  ⟨lot_range _, by simp, fun k _ => by rw [cntP_nil]; omega, fun k hk hn => absurd (List.mem_range.mpr hk) hn, fun j k hj _ hn => absurd (List.mem_range.mpr hj) hn⟩
theorem wo_lot {m : Nat} {left K : List Nat} (h : Lot m left) : Lot m (wo left K) := ⟨h.inc.filter _, fun k hk => h.lt k (mem_wo.mp hk).1⟩
theorem RA.step {p left found K : List Nat} {c : Nat} (g : RA ts row Ls p left found) (hc : c ∉ p) (hn : ∀ k, (Ls.getD k []).Nodup) (hk : Kern ts row (left.filter fun k => decide (c ∈ Ls.getD k [])) K) : RA ts row Ls (p ++ [c]) (wo left K) (putK found K c) := by
  have sub : ∀ k ∈ K, k ∈ left ∧ c ∈ Ls.getD k [] := fun k h => by
    have := List.mem_filter.mp (hk.sub k h)
    exact ⟨this.1, by simpa using this.2⟩
  have out : ∀ k, k < ts.length → k ∉ wo left K → k ∈ K ∨ k ∉ left := fun k _ h => by
    by_cases z : k ∈ K
    · exact .inl z
    · exact .inr fun w => h (mem_wo.mpr ⟨w, z⟩)
  have get : ∀ k, k < ts.length → (putK found K c).getD k 0 = if k ∈ K then c else found.getD k 0 := fun k h => putK_get c K found k (by rw [g.len]; exact h)
  refine ⟨wo_lot g.lot, by rw [putK_len]; exact g.len, fun k h => ?_, fun k h1 h2 => ?_, fun j k h1 h2 h3 h4 h5 h6 => ?_⟩
  · obtain ⟨h1, h2⟩ := mem_wo.mp h
    have hb := g.bnd k h1
    rw [cntP_add (hn k) hc]
    by_cases hcl : c ∈ Ls.getD k []
    · rw [if_pos hcl]
      have hl : k ∈ left.filter fun k => decide (c ∈ Ls.getD k []) := List.mem_filter.mpr ⟨h1, by simpa using hcl⟩
      obtain ⟨j, hj, ha⟩ := (hk.dom k hl).resolve_left h2
      have := cn_lt (q := fun k => !decide (k ∈ K)) (sub j hj).1 ha (by simp [hj])
      unfold wo
      omega
    · rw [if_neg hcl]
      have := cn_le ts row left (fun k => !decide (k ∈ K)) k
      unfold wo
      omega
  · rw [get k h1]
    rcases out k h1 h2 with z | z
    · rw [if_pos z]
      exact ⟨by simp, (sub k z).2⟩
    · rw [if_neg fun w => z (sub k w).1]
      obtain ⟨a, b⟩ := g.got k h1 z
      exact ⟨List.mem_append_left _ a, b⟩
  · rw [get j h1, get k h2]
    rcases out j h1 h3 with z | z <;> rcases out k h2 h4 with z2 | z2
    · exact absurd (meet_pair hk.pair z z2 h6) h5
    · rw [if_pos z, if_neg fun w => z2 (sub k w).1]
      exact fun e => hc (e ▸ (g.got k h2 z2).1)
    · rw [if_neg fun w => z (sub j w).1, if_pos z2]
      exact fun e => hc (e ▸ (g.got j h1 z).1)
    · rw [if_neg fun w => z (sub j w).1, if_neg fun w => z2 (sub k w).1]
      exact g.ne j k h1 h2 z z2 h5 h6
theorem RA.done {p left found : List Nat} (g : RA ts row Ls p left found) (hL : Long ts row Ls ts.length) (hp : ∀ c, c < ts.length + 3 → c ∈ p) : left = [] := by
  cases left with
  | nil => rfl
  | cons k l =>
    exfalso
    have hk := g.lot.lt k List.mem_cons_self
    have hb := g.bnd k List.mem_cons_self
    have hkl : k < Ls.length := by rw [hL.len]; exact hk
    obtain ⟨_, h2, h3⟩ := hL.each k _ (List.getElem?_eq_getElem hkl)
    have e : Ls.getD k [] = Ls[k] := by rw [List.getD_eq_getElem?_getD, List.getElem?_eq_getElem hkl]; rfl
    rw [e, cntP_all fun c hc => hp c (h2 c hc)] at hb
    omega
theorem RA.isRow {p found : List Nat} (g : RA ts row Ls p [] found) (hp : ∀ c ∈ p, c ≤ 99) : Row ts (castR found) := by
  refine ⟨by unfold castR; rw [List.length_map, g.len], fun c hc => ?_, proper_of fun j k hjk hk hm => g.ne j k (by omega) hk (by simp) (by simp) (by omega) hm⟩
  unfold castR at hc
  obtain ⟨x, hx, rfl⟩ := List.mem_map.mp hc
  obtain ⟨i, hi, rfl⟩ := List.mem_iff_getElem.mp hx
  have := (g.got i (by rw [← g.len]; exact hi) (by simp)).1
  rw [List.getD_eq_getElem?_getD, List.getElem?_eq_getElem hi] at this
  have := hp _ this
  simp only [Option.getD_some] at this
  omega
end
/-! ### shows -/
section
variable (ts : List (Nat × Nat)) (row : List Int)
structure RB (u : Nat) (left shows found : List Nat) : Prop where
  lot : Lot ts.length left
  len : found.length = ts.length
  len2 : shows.length = ts.length
  bnd : ∀ k ∈ left, cnA ts row left k + shows.getD k 0 ≤ cnA ts row (List.range ts.length) k
  all : ∀ k, k < ts.length → shows.getD k 0 ≤ cnA ts row (List.range ts.length) k + 1
  got : ∀ k, k < ts.length → k ∉ left → found.getD k 0 < u
  ne : ∀ j k, j < ts.length → k < ts.length → j ∉ left → k ∉ left → j ≠ k → meet ts j k = true → found.getD j 0 ≠ found.getD k 0
  few : left.length ≤ ts.length - (u - 2 * ts.length)
end
section
variable {ts : List (Nat × Nat)} {row : List Int}
theorem RB.start : RB ts row 0 (List.range ts.length) (List.replicate ts.length 0) (List.replicate ts.length 0) := by
  have e : ∀ k, (List.replicate ts.length 0).getD k 0 = 0 := fun k => by
    rw [List.getD_eq_getElem?_getD]
    cases h : (List.replicate ts.length 0)[k]? with
    | none => rfl
    | some x =>
      have := List.mem_of_getElem? h
      rw [List.eq_of_mem_replicate this]
      rfl
  exact ⟨lot_range _, by simp, by simp, fun k _ => by rw [e]; omega, fun k _ => by rw [e]; omega, fun k hk hn => absurd (List.mem_range.mpr hk) hn, fun j k hj _ hn => absurd (List.mem_range.mpr hj) hn, by simp⟩
theorem RB.step {u : Nat} {left shows found lot K : List Nat} (g : RB ts row u left shows found) (hsub : ∀ k ∈ lot, k ∈ left) (hnd : lot.Nodup) (hk : Kern ts row lot K) (hall : 2 * ts.length ≤ u → lot = left) : RB ts row (u + 1) (wo left K) (incK shows lot) (putK found K u) := by
  have sub : ∀ k ∈ K, k ∈ left := fun k h => hsub k (hk.sub k h)
  have out : ∀ k, k < ts.length → k ∉ wo left K → k ∈ K ∨ k ∉ left := fun k _ h => by
    by_cases z : k ∈ K
    · exact .inl z
    · exact .inr fun w => h (mem_wo.mpr ⟨w, z⟩)
  have get : ∀ k, k < ts.length → (putK found K u).getD k 0 = if k ∈ K then u else found.getD k 0 := fun k h => putK_get u K found k (by rw [g.len]; exact h)
  have sh : ∀ k, k < ts.length → (incK shows lot).getD k 0 = if k ∈ lot then shows.getD k 0 + 1 else shows.getD k 0 := fun k h => incK_get lot shows k (by rw [g.len2]; exact h) hnd
  refine ⟨wo_lot g.lot, by rw [putK_len]; exact g.len, by rw [incK_len]; exact g.len2, fun k h => ?_, fun k h => ?_, fun k h1 h2 => ?_, fun j k h1 h2 h3 h4 h5 h6 => ?_, ?_⟩
  · obtain ⟨h1, h2⟩ := mem_wo.mp h
    have hb := g.bnd k h1
    rw [sh k (g.lot.lt k h1)]
    by_cases hkl : k ∈ lot
    · rw [if_pos hkl]
      obtain ⟨j, hj, ha⟩ := (hk.dom k hkl).resolve_left h2
      have := cn_lt (q := fun k => !decide (k ∈ K)) (sub j hj) ha (by simp [hj])
      unfold wo
      omega
    · rw [if_neg hkl]
      have := cn_le ts row left (fun k => !decide (k ∈ K)) k
      unfold wo
      omega
  · rw [sh k h]
    by_cases hkl : k ∈ lot
    · rw [if_pos hkl]
      have := g.bnd k (hsub k hkl)
      omega
    · rw [if_neg hkl]
      exact g.all k h
  · rw [get k h1]
    rcases out k h1 h2 with z | z
    · rw [if_pos z]; omega
    · rw [if_neg fun w => z (sub k w)]
      have := g.got k h1 z
      omega
  · rw [get j h1, get k h2]
    rcases out j h1 h3 with z | z <;> rcases out k h2 h4 with z2 | z2
    · exact absurd (meet_pair hk.pair z z2 h6) h5
    · rw [if_pos z, if_neg fun w => z2 (sub k w)]
      have := g.got k h2 z2
      omega
    · rw [if_neg fun w => z (sub j w), if_pos z2]
      have := g.got j h1 z
      omega
    · rw [if_neg fun w => z (sub j w), if_neg fun w => z2 (sub k w)]
      exact g.ne j k h1 h2 z z2 h5 h6
  · have hf := g.few
    have hle : (wo left K).length ≤ left.length := List.length_filter_le _ _
    by_cases hu : 2 * ts.length ≤ u
    · have hl := hall hu
      subst hl
      cases lot with
      | nil => simp [wo]
      | cons k l =>
        have hex : ∃ j, j ∈ K := by
          rcases hk.dom k List.mem_cons_self with h | ⟨j, h, _⟩
          · exact ⟨k, h⟩
          · exact ⟨j, h⟩
        obtain ⟨j, hj⟩ := hex
        have hjl := hk.sub j hj
        have hlt : (wo (k :: l) K).length < (k :: l).length := by
          have hnd2 : (wo (k :: l) K).Nodup := hnd.filter _
          have : (j :: wo (k :: l) K).length ≤ (k :: l).length := nodup_sub (List.nodup_cons.mpr ⟨fun z => (mem_wo.mp z).2 hj, hnd2⟩) fun x hx => by
            rcases List.mem_cons.mp hx with rfl | hx
            · exact hjl
            · exact (mem_wo.mp hx).1
          simp only [List.length_cons] at this ⊢
          omega
        omega
    · omega
theorem RB.done {u : Nat} {left shows found : List Nat} (g : RB ts row u left shows found) (hu : 3 * ts.length ≤ u) : left = [] := by
  have := g.few
  exact List.eq_nil_of_length_eq_zero (by omega)
theorem RB.isRow {u : Nat} {shows found : List Nat} (g : RB ts row u [] shows found) (hu : u ≤ 100) : Row ts (castR found) := by
  refine ⟨by unfold castR; rw [List.length_map, g.len], fun c hc => ?_, proper_of fun j k hjk hk hm => g.ne j k (by omega) hk (by simp) (by simp) (by omega) hm⟩
  unfold castR at hc
  obtain ⟨x, hx, rfl⟩ := List.mem_map.mp hc
  obtain ⟨i, hi, rfl⟩ := List.mem_iff_getElem.mp hx
  have := g.got i (by rw [← g.len]; exact hi) (by simp)
  rw [List.getD_eq_getElem?_getD, List.getElem?_eq_getElem hi] at this
  simp only [Option.getD_some] at this
  omega
end
end G
set_option Elab.async false
set_option linter.all false
set_option maxRecDepth 100000
set_option maxHeartbeats 8000000
/-! P12: the law -/
namespace G
open PySem
theorem mul_zeros (k : Nat) (h : k ≤ 1000000) : binop .mul (.lst [.int 0]) (nv k) = some (.lst ((List.replicate k 0).map nv)) := by
  have hbg : big = 16777216 := rfl
  simp only [binop]
  rw [if_pos ⟨by simp; omega, by omega, by omega⟩]
  congr 2
  rw [Int.toNat_natCast]
  induction k with
  | zero => rfl
  | succ k ih =>
    rw [List.replicate_succ, List.flatten_cons, ih (by omega), List.replicate_succ, List.map_cons]
    rfl
theorem ls_get {Ls : List (List Nat)} {k : Nat} (h : k < Ls.length) : (Ls.map lotV)[k]? = some (lotV (Ls.getD k [])) := by
  rw [List.getElem?_map, List.getElem?_eq_getElem h, List.getD_eq_getElem?_getD, List.getElem?_eq_getElem h]
  rfl
theorem set_nv (f : List Nat) (k c : Nat) : (f.map nv).set k (nv c) = (f.set k c).map nv := by rw [List.map_set]
theorem full_range {m : Nat} {ps : List Nat} (hn : ps.Nodup) (hl : ps.length = m) (hlt : ∀ p ∈ ps, p < m) : ∀ c, c < m → c ∈ ps := fun c hc => by
  by_cases h : c ∈ ps
  · exact h
  · exfalso
    have := nodup_lt m (c :: ps) (List.nodup_cons.mpr ⟨h, hn⟩) fun x hx => by
      rcases List.mem_cons.mp hx with rfl | hx
      · exact hc
      · exact hlt x hx
    simp only [List.length_cons] at this
    omega
theorem map_x {α : Type} {v : α → PV} {xs : List α} {j : Nat} {x : PV} (h : (xs.map v)[j]? = some x) : ∃ a, xs[j]? = some a ∧ x = v a := by
  rw [List.getElem?_map] at h
  obtain ⟨a, ha, rfl⟩ := Option.map_eq_some_iff.mp h
  exact ⟨a, ha, rfl⟩
theorem take_succ' {xs : List Nat} {j a : Nat} (h : xs[j]? = some a) : xs.take (j + 1) = xs.take j ++ [a] := by
  rw [List.take_succ, h]
  rfl
theorem putK_snoc (f K : List Nat) (a c : Nat) : putK f (K ++ [a]) c = (putK f K c).set a c := by
  unfold putK
  rw [List.foldl_append]
  rfl
theorem incK_snoc (f K : List Nat) (a : Nat) : incK f (K ++ [a]) = (incK f K).set a ((incK f K).getD a 0 + 1) := by
  unfold incK
  rw [List.foldl_append]
  rfl
abbrev Sl (own n row lens ls ord c turn left found lot some_ k shows lap : Option PV) : Slots := [none, some .tin, lap, own, n, row, lens, ls, ord, c, turn, left, found, lot, some_, k, shows]
def LenV (ts : List (Nat × Nat)) (row : List Int) : PV := .tup ((List.range ts.length).map fun k => nv (cnA ts row (List.range ts.length) k + 1))
theorem lens_get {ts : List (Nat × Nat)} {row : List Int} {k : Nat} (h : k < ts.length) : idxop (LenV ts row) (nv k) = M.ret (nv (cnA ts row (List.range ts.length) k + 1)) := by
  refine idx_tup ?_
  rw [List.getElem?_map, List.getElem?_range h]
  rfl
theorem filter_no (l : List Nat) : (l.filter fun _ => false) = [] := by
  induction l with
  | nil => rfl
  | cons x l ih => rw [List.filter_cons, if_neg (by simp), ih]
theorem max_ok {xs : List Nat} (h : 0 < xs.length) : ∃ mx, b1op .max (.lst (xs.map nv)) = some (.int mx) := by
  cases xs with
  | nil => simp at h
  | cons x xs =>
    have e : asInts (nv x :: xs.map nv) = some ((x : Int) :: xs.map fun (k : Nat) => (k : Int)) := by
      have := asInts_map ((x :: xs).map fun (k : Nat) => (k : Int))
      rw [List.map_map] at this
      exact this
    refine ⟨maxI x (xs.map fun (k : Nat) => (k : Int)), ?_⟩
    simp only [b1op, List.map_cons, e]
theorem ite_ret {α : Type} (b : Bool) (x y : α) : (if b = true then M.ret x else M.ret y) = M.ret (if b = true then x else y) := by
  by_cases h : b = true
  · rw [if_pos h, if_pos h]
  · rw [if_neg h, if_neg h]
theorem law_run (n : Nat) {t : Tn} (ht : TB 0 t) : Wp (evSs (sem T (n + 7)) f_law.body ((List.replicate f_law.ns none).set 1 (some .tin))) t fun q t' => q = .rt (.bl true) := by
  have hbg : big40 = 1000000000000 := rfl
  have e0 : (List.replicate f_law.ns (none : Option PV)).set 1 (some .tin) = [none, some .tin, none, none, none, none, none, none, none, none, none, none, none, none, none, none, none] := rfl
  rw [e0]
  simp only [f_law, evSs, evS, evE, evEs, evAnd, evOr, evI, evPs, setAll, getS_0, getS_s, setS_0, setS_s, lift_ret, bnd_ret, bnd_bnd, chk_ret, asBl_bl, asI_int, fin, idx_t0, idx_t1, idx_t2, asLs_lst, asIt_lst, asIt_tup, List.map_cons, List.map_nil, List.replicate, List.cons_append, List.nil_append]
  rw [show (decide (-1000000 ≤ (4 : Int)) && decide ((4 : Int) ≤ 1000000)) = true from rfl, show rngPV 0 ((4 : Int)).toNat = (List.range 4).map nv from rng_nat 4]
  simp only [evSs, evS, evE, evEs, evAnd, evOr, evI, evPs, setAll, getS_0, getS_s, setS_0, setS_s, lift_ret, bnd_ret, bnd_bnd, chk_ret, asBl_bl, asI_int, fin, idx_t0, idx_t1, idx_t2, asLs_lst, asIt_lst, asIt_tup, List.map_cons, List.map_nil, List.replicate, List.cons_append, List.nil_append]
  rw [wp_bnd]
  refine Wp.loop0 (fun i ρ t => ∃ lap own nn row lens ls ord c turn left found lot som k shows, ρ = Sl own nn row lens ls ord c turn left found lot som k shows lap ∧ TB (2000 * i) t) ⟨_, _, _, _, _, _, _, _, _, _, _, _, _, _, _, rfl, ht⟩ ?_ ?_
  · rintro i x hx ρ t ⟨lap, own, nn, row, lens, ls, ord, c, turn, left, found, lot, som, kk, shows, rfl, ht⟩
    obtain ⟨rfl, hi⟩ := range_x hx
    simp only [Sl, evSs, evS, evE, evEs, evAnd, evOr, evI, evPs, setAll, getS_0, getS_s, setS_0, setS_s, lift_ret, bnd_ret, bnd_bnd, chk_ret, asBl_bl, asI_int, fin, idx_t0, idx_t1, idx_t2, asLs_lst, asIt_lst, asIt_tup, List.map_cons, List.map_nil, List.replicate, List.cons_append, List.nil_append, Tg.slots, wipeS, bindT, List.set_cons_zero, List.set_cons_succ, wp_bnd, wp_ret]
    refine (law_web_ok (n + 4) (2000 * i) ht (by omega)).mono fun v t1 ⟨l, r, ts, e, w, h14, hb1⟩ => ?_
    subst e
    simp only [evSs, evS, evE, evEs, evAnd, evOr, evI, evPs, setAll, getS_0, getS_s, setS_0, setS_s, lift_ret, bnd_ret, bnd_bnd, chk_ret, asBl_bl, asI_int, fin, idx_t0, idx_t1, idx_t2, asLs_lst, asIt_lst, asIt_tup, List.map_cons, List.map_nil, List.replicate, List.cons_append, List.nil_append, stOk, wp_bnd, wp_ret, idx_web2, len_tup, List.length_map]
    refine (law_row_ok (n + 4) (2000 * i + 100) h14 hb1 (by omega)).mono fun v t2 ⟨fs, e, hrow, hb2⟩ => ?_
    subst e
    generalize castR fs = row at hrow ⊢
    simp only [evSs, evS, evE, evEs, evAnd, evOr, evI, evPs, setAll, getS_0, getS_s, setS_0, setS_s, lift_ret, bnd_ret, bnd_bnd, chk_ret, asBl_bl, asI_int, fin, idx_t0, idx_t1, idx_t2, asLs_lst, asIt_lst, asIt_tup, List.map_cons, List.map_nil, List.replicate, List.cons_append, List.nil_append, stOk, wp_bnd, wp_ret, asked_lengths_eq (n + 1) w hrow, add_int]
    refine (law_long_ok (n + 3) (2000 * i + 200) hrow.len h14 hb2 (by omega)).mono fun v t3 ⟨Ls, e, hL, hb3⟩ => ?_
    subst e
    rw [show ((ts.length : Int) + 3) = ((ts.length + 3 : Nat) : Int) by omega]
    simp only [evSs, evS, evE, evEs, evAnd, evOr, evI, evPs, setAll, getS_0, getS_s, setS_0, setS_s, lift_ret, bnd_ret, bnd_bnd, chk_ret, asBl_bl, asI_int, fin, idx_t0, idx_t1, idx_t2, asLs_lst, asIt_lst, asIt_tup, List.map_cons, List.map_nil, List.replicate, List.cons_append, List.nil_append, stOk, wp_bnd, wp_ret, lrng_ok (ts.length + 3) (by omega)]
    refine (pick_range (n + 5) (2000 * i + 500) (ts.length + 3) (ts.length + 3) (by omega) hb3 (by omega)).mono fun v t4 ⟨ord, e, hnd, hlt, hlen, hb4⟩ => ?_
    subst e
    rw [Nat.min_self] at hlen
    have hall := full_range hnd hlen hlt
    simp only [evSs, evS, evE, evEs, evAnd, evOr, evI, evPs, setAll, getS_0, getS_s, setS_0, setS_s, lift_ret, bnd_ret, bnd_bnd, chk_ret, asBl_bl, asI_int, fin, idx_t0, idx_t1, idx_t2, asLs_lst, asIt_lst, asIt_tup, List.map_cons, List.map_nil, List.replicate, List.cons_append, List.nil_append, stOk, wp_bnd, wp_ret, lrng_ok ts.length (by omega), mul_zeros ts.length (by omega), show elems1 (.lst ((List.replicate ts.length 0).map nv)) = true from shal_ints _]
    rw [show asIt (lotL ord) = M.ret (ord.map nv) from asIt_lst _, wp_ret]
    refine Wp.loop0 (fun j ρ t => ∃ left found, ∃ o9 o13 o14 o15, ρ = Sl (some (webV l r ts)) (some (nv ts.length)) (some (rowV row)) (some (LenV ts row)) (some (lsV Ls)) (some (lotL ord)) o9 turn (some (lotL left)) (some (lotL found)) o13 o14 o15 shows (some (nv i)) ∧ RA ts row Ls (ord.take j) left found ∧ TB (2000 * i + 600 + j) t) ⟨List.range ts.length, List.replicate ts.length 0, _, _, _, _, rfl, by rw [List.take_zero]; exact RA.start, hb4.mono (by omega)⟩ ?_ ?_
    · rintro j x hx ρ t ⟨left, found, o9, o13, o14, o15, rfl, g, ht⟩
      obtain ⟨c, hc, rfl⟩ := map_x hx
      have hj : j < ts.length + 3 := by
        have := (List.getElem?_eq_some_iff.mp hc).1
        omega
      have hcl : c ≤ 16 := by
        have := hlt c (List.mem_of_getElem? hc)
        omega
      have hcp : c ∉ ord.take j := by
        have h2 := hnd
        rw [← List.take_append_drop j ord] at h2
        have h3 := (List.nodup_append.mp h2).2.2
        intro z
        have : c ∈ ord.drop j := by
          rw [List.drop_eq_getElem_cons (List.getElem?_eq_some_iff.mp hc).1, (List.getElem?_eq_some_iff.mp hc).2]
          exact List.mem_cons_self
        exact h3 c z c this rfl
      have hLn : ∀ k, (Ls.getD k []).Nodup := fun k => by
        rw [List.getD_eq_getElem?_getD]
        cases hq : Ls[k]? with
        | none => exact List.nodup_nil
        | some L => exact (hL.each k L hq).1.imp fun {a b} z => Nat.ne_of_lt z
      simp only [Sl, evSs, evS, evE, evEs, evAnd, evOr, evI, evPs, setAll, getS_0, getS_s, setS_0, setS_s, lift_ret, bnd_ret, bnd_bnd, chk_ret, asBl_bl, asI_int, fin, idx_t0, idx_t1, idx_t2, asLs_lst, asIt_lst, asIt_tup, List.map_cons, List.map_nil, List.replicate, List.cons_append, List.nil_append, Tg.slots, wipeS, bindT, List.set_cons_zero, List.set_cons_succ, wp_bnd, wp_ret, lotL]
      rw [compGo_filter (p := fun k => decide (c ∈ Ls.getD k [])) (fun x hx => by
        have hxl : x < Ls.length := by rw [hL.len]; exact g.lot.lt x hx
        simp only [evSs, evS, evE, evEs, evAnd, evOr, evI, evPs, setAll, getS_0, getS_s, setS_0, setS_s, lift_ret, bnd_ret, bnd_bnd, chk_ret, asBl_bl, asI_int, fin, idx_t0, idx_t1, idx_t2, asLs_lst, asIt_lst, asIt_tup, List.map_cons, List.map_nil, List.replicate, List.cons_append, List.nil_append, Tg.slots, wipeS, bindT, List.set_cons_zero, List.set_cons_succ, lsV, idx_tup (ls_get hxl), in_tup]
        exact ite_ret _ _ _)]
      generalize hlot : (left.filter fun k => decide (c ∈ Ls.getD k [])) = lot
      have hlotL : Lot ts.length lot := by
        rw [← hlot]
        exact ⟨g.lot.inc.filter _, fun k hk => g.lot.lt k (List.mem_filter.mp hk).1⟩
      simp only [evSs, evS, evE, evEs, evAnd, evOr, evI, evPs, setAll, getS_0, getS_s, setS_0, setS_s, lift_ret, bnd_ret, bnd_bnd, chk_ret, asBl_bl, asI_int, fin, idx_t0, idx_t1, idx_t2, asLs_lst, asIt_lst, asIt_tup, List.map_cons, List.map_nil, List.replicate, List.cons_append, List.nil_append, Tg.slots, wipeS, bindT, List.set_cons_zero, List.set_cons_succ, wp_bnd, wp_ret, tuple_lst, stOk]
      rw [show (PV.int 2) = nv 2 from rfl]
      refine (take_ok (n + 6) (2000 * i + 600 + j) 2 (by omega) (by omega) ht (by omega)).mono fun v t5 ⟨q, e, hq, hb5⟩ => ?_
      subst e
      have hK : ∃ K, Kern ts row lot K ∧ (if decide ((q : Int) = 0) = true then sem T (n + 7) 191 [webV l r ts, rowV row, .tup (lot.map nv)] else sem T (n + 7) 216 [webV l r ts, rowV row, .tup (lot.map nv)]) = M.ret (lotV K) := by
        split
        · exact kernel_ok n w hrow hlotL
        · exact other_kernel_ok n w hrow hlotL
      obtain ⟨K, hK, eK⟩ := hK
      have eik := is_kernel_ok n w hrow hlotL hK
      simp only [eq_int, lift_ret, wp_ret, bnd_ret, eK, stOk, chk_ret]
      have eik' : sem T (n + 7) 157 [webV l r ts, rowV row, .tup (lot.map nv), lotV K] = M.ret (.bl true) := eik
      simp only [eik', same_tt (n + 6), evSs, evS, evE, evEs, evAnd, evOr, evI, evPs, setAll, getS_0, getS_s, setS_0, setS_s, lift_ret, bnd_ret, bnd_bnd, chk_ret, asBl_bl, asI_int, fin, idx_t0, idx_t1, idx_t2, asLs_lst, asIt_lst, asIt_tup, List.map_cons, List.map_nil, List.replicate, List.cons_append, List.nil_append, Tg.slots, wipeS, bindT, List.set_cons_zero, List.set_cons_succ, wp_bnd, wp_ret, Bool.not_true, Bool.false_eq_true, if_false]
      rw [compGo_filter (p := fun k => !decide (k ∈ K)) (fun x hx => by
        simp only [evSs, evS, evE, evEs, evAnd, evOr, evI, evPs, setAll, getS_0, getS_s, setS_0, setS_s, lift_ret, bnd_ret, bnd_bnd, chk_ret, asBl_bl, asI_int, fin, idx_t0, idx_t1, idx_t2, asLs_lst, asIt_lst, asIt_tup, List.map_cons, List.map_nil, List.replicate, List.cons_append, List.nil_append, Tg.slots, wipeS, bindT, List.set_cons_zero, List.set_cons_succ, notin_tup]
        exact ite_ret _ _ _)]
      rw [show (left.filter fun k => !decide (k ∈ K)) = wo left K from rfl]
      simp only [evSs, evS, evE, evEs, evAnd, evOr, evI, evPs, setAll, getS_0, getS_s, setS_0, setS_s, lift_ret, bnd_ret, bnd_bnd, chk_ret, asBl_bl, asI_int, fin, idx_t0, idx_t1, idx_t2, asLs_lst, asIt_lst, asIt_tup, List.map_cons, List.map_nil, List.replicate, List.cons_append, List.nil_append, Tg.slots, wipeS, bindT, List.set_cons_zero, List.set_cons_succ, wp_bnd, wp_ret, stOk]
      rw [show asIt (lotV K) = M.ret (K.map nv) from asIt_tup _, wp_ret]
      have hKlt : ∀ k ∈ K, k < found.length := fun k hk => by rw [g.len]; exact hlotL.lt k (hK.sub k hk)
      refine Wp.loop0 (fun j2 ρ t => ∃ o15, ρ = Sl (some (webV l r ts)) (some (nv ts.length)) (some (rowV row)) (some (LenV ts row)) (some (lsV Ls)) (some (lotL ord)) (some (nv c)) turn (some (lotL (wo left K))) (some (lotL (putK found (K.take j2) c))) (some (lotV lot)) (some (lotV K)) o15 shows (some (nv i)) ∧ TB (2000 * i + 600 + j + 1) t) ⟨_, rfl, hb5⟩ ?_ ?_
      · rintro j2 x hx ρ t ⟨o15, rfl, ht⟩
        obtain ⟨a, ha, rfl⟩ := map_x hx
        have haK := hKlt a (List.mem_of_getElem? ha)
        have haP : a < (putK found (K.take j2) c).length := by rw [putK_len]; exact haK
        simp only [Sl, lotL, evSs, evS, evE, evEs, evAnd, evOr, evI, evPs, setAll, getS_0, getS_s, setS_0, setS_s, lift_ret, bnd_ret, bnd_bnd, chk_ret, asBl_bl, asI_int, fin, idx_t0, idx_t1, idx_t2, asLs_lst, asIt_lst, asIt_tup, List.map_cons, List.map_nil, List.replicate, List.cons_append, List.nil_append, Tg.slots, wipeS, bindT, List.set_cons_zero, List.set_cons_succ, wp_bnd, wp_ret, fl, flat, List.length_map, atIx, atIx_nat haP, set_nv]
        exact ⟨_, rfl, _, by rw [take_succ' ha, putK_snoc], ht⟩
      · rintro ρ t ⟨o15, rfl, ht⟩
        rw [List.length_map, List.take_length] 
        simp only [Sl, evSs, evS, evE, evEs, evAnd, evOr, evI, evPs, setAll, getS_0, getS_s, setS_0, setS_s, lift_ret, bnd_ret, bnd_bnd, chk_ret, asBl_bl, asI_int, fin, idx_t0, idx_t1, idx_t2, asLs_lst, asIt_lst, asIt_tup, List.map_cons, List.map_nil, List.replicate, List.cons_append, List.nil_append, wp_ret]
        refine ⟨_, rfl, wo left K, putK found K c, _, _, _, _, rfl, ?_, ht.mono (by omega)⟩
        rw [take_succ' hc]
        exact g.step hcp hLn (by rw [hlot]; exact hK)
    · rintro ρ t ⟨left, found, o9, o13, o14, o15, rfl, g, ht⟩
      rw [List.length_map, List.take_length] at g
      rw [List.length_map] at ht
      have hleft := g.done hL hall
      subst hleft
      have hrowF := g.isRow fun c hc => by have := hlt c hc; omega
      have hLsts : Lsts ts Ls := ⟨hL.len, fun L hLm => by
        obtain ⟨k, hk, rfl⟩ := List.mem_iff_getElem.mp hLm
        obtain ⟨a1, a2, _⟩ := hL.each k _ (List.getElem?_eq_getElem hk)
        exact ⟨a1, fun c hc => by have := a2 c hc; omega⟩⟩
      have ef := is_from_lists_ok n w hLsts (row := found) hrowF (fun k c L hk hLk => by
        have hkl := (List.getElem?_eq_some_iff.mp hk).1
        have := (g.got k (by rw [← g.len]; exact hkl) (by simp)).2
        rw [List.getD_eq_getElem?_getD, List.getD_eq_getElem?_getD, hk, hLk] at this
        exact this)
      have ec := is_colouring_ok (n + 1) w hrowF
      rw [show rowV (castR found) = lotV found from (lotV_eq found).symm] at ec
      have ef' : sem T (n + 7) 156 [webV l r ts, lsV Ls, .tup (found.map nv)] = M.ret (.bl true) := ef
      have ec' : sem T (n + 7) 148 [webV l r ts, .tup (found.map nv)] = M.ret (.bl true) := ec
      have enl : cmpop .ne (.lst []) (.lst []) = some false := by simpa using eq_nil_line []
      have mul3 : binop .mul (.int 3) (nv ts.length) = some (.int (3 * (ts.length : Int))) := mul_int (.inl (by decide))
      simp only [Sl, lotL, evSs, evS, evE, evEs, evAnd, evOr, evI, evPs, setAll, getS_0, getS_s, setS_0, setS_s, lift_ret, bnd_ret, bnd_bnd, chk_ret, asBl_bl, asI_int, fin, idx_t0, idx_t1, idx_t2, asLs_lst, asIt_lst, asIt_tup, List.map_cons, List.map_nil, List.replicate, List.cons_append, List.nil_append, Tg.slots, wipeS, bindT, List.set_cons_zero, List.set_cons_succ, wp_bnd, wp_ret, enl, Bool.false_eq_true, if_false, tuple_lst, ef', ec', same_2 (n + 5), Bool.not_true, stOk, lrng_ok ts.length (by omega), mul_zeros ts.length (by omega), show elems1 (.lst ((List.replicate ts.length 0).map nv)) = true from shal_ints _, mul3, add_int]
      rw [show (3 * (ts.length : Int) + 3) = ((3 * ts.length + 3 : Nat) : Int) by omega]
      simp only [rng_chk (show 3 * ts.length + 3 ≤ 1000000 by omega), rng_nat, evSs, evS, evE, evEs, evAnd, evOr, evI, evPs, setAll, getS_0, getS_s, setS_0, setS_s, lift_ret, bnd_ret, bnd_bnd, chk_ret, asBl_bl, asI_int, fin, idx_t0, idx_t1, idx_t2, asLs_lst, asIt_lst, asIt_tup, List.map_cons, List.map_nil, List.replicate, List.cons_append, List.nil_append, wp_bnd, wp_ret]
      refine Wp.loop0 (fun u ρ t => ∃ left shows found, ∃ o10 o13 o14 o15, ρ = Sl (some (webV l r ts)) (some (nv ts.length)) (some (rowV row)) (some (LenV ts row)) (some (lsV Ls)) (some (lotL ord)) o9 o10 (some (lotL left)) (some (lotL found)) o13 o14 o15 (some (lotL shows)) (some (nv i)) ∧ RB ts row u left shows found ∧ TB (2000 * i + 700 + 20 * u) t) ⟨List.range ts.length, _, _, _, _, _, _, rfl, RB.start, ht.mono (by omega)⟩ ?_ ?_
      · rintro u x hx ρ t ⟨left, shows, found, o10, o13, o14, o15, rfl, g, ht⟩
        obtain ⟨rfl, hu⟩ := range_x hx
        have mul2 : binop .mul (.int 2) (nv ts.length) = some (.int (2 * (ts.length : Int))) := mul_int (.inl (by decide))
        simp only [Sl, lotL, evSs, evS, evE, evEs, evAnd, evOr, evI, evPs, setAll, getS_0, getS_s, setS_0, setS_s, lift_ret, bnd_ret, bnd_bnd, chk_ret, asBl_bl, asI_int, fin, idx_t0, idx_t1, idx_t2, asLs_lst, asIt_lst, asIt_tup, List.map_cons, List.map_nil, List.replicate, List.cons_append, List.nil_append, Tg.slots, wipeS, bindT, List.set_cons_zero, List.set_cons_succ, wp_bnd, wp_ret, mul2]
        have hll := g.lot.len
        refine Wp.comp0 (fun j acc t => (∃ lot : List Nat, acc = lot.map nv ∧ lot.Sublist (left.take j) ∧ (2 * ts.length ≤ u → lot = left.take j)) ∧ TB (2000 * i + 700 + 20 * u + j) t) ⟨⟨[], rfl, by simp, fun _ => by simp⟩, ht⟩ ?_ ?_
        · rintro j x hx acc t ⟨⟨lot, rfl, hs, hall2⟩, ht⟩
          obtain ⟨a, ha, rfl⟩ := map_x hx
          have hjl := (List.getElem?_eq_some_iff.mp ha).1
          simp only [evSs, evS, evE, evEs, evAnd, evOr, evI, evPs, setAll, getS_0, getS_s, setS_0, setS_s, lift_ret, bnd_ret, bnd_bnd, chk_ret, asBl_bl, asI_int, fin, idx_t0, idx_t1, idx_t2, asLs_lst, asIt_lst, asIt_tup, List.map_cons, List.map_nil, List.replicate, List.cons_append, List.nil_append, Tg.slots, wipeS, bindT, List.set_cons_zero, List.set_cons_succ, wp_bnd, wp_ret]
          rw [show (PV.int 3) = nv 3 from rfl]
          refine (take_ok (n + 6) (2000 * i + 700 + 20 * u + j) 3 (by omega) (by omega) ht (by omega)).mono fun v t5 ⟨q, e, hq, hb5⟩ => ?_
          subst e
          have hyes : (∃ lot' : List Nat, (lot.map nv ++ [nv a]) = lot'.map nv ∧ lot'.Sublist (left.take (j + 1)) ∧ (2 * ts.length ≤ u → lot' = left.take (j + 1))) := by
            refine ⟨lot ++ [a], by simp, ?_, fun h => ?_⟩
            · rw [take_succ' ha]
              exact hs.append (List.Sublist.refl _)
            · rw [take_succ' ha, hall2 h]
          by_cases hq0 : (0 : Int) < (q : Int)
          · simp only [gt_int, hq0, decide_true, lift_ret, wp_ret, bnd_ret, asBl_bl, if_true, evSs, evS, evE, evEs, evAnd, evOr, evI, evPs, setAll, getS_0, getS_s, setS_0, setS_s, lift_ret, bnd_ret, bnd_bnd, chk_ret, asBl_bl, asI_int, fin, idx_t0, idx_t1, idx_t2, asLs_lst, asIt_lst, asIt_tup, List.map_cons, List.map_nil, List.replicate, List.cons_append, List.nil_append]
            exact ⟨hyes, hb5⟩
          · simp only [gt_int, hq0, decide_false, lift_ret, wp_ret, bnd_ret, asBl_bl, Bool.false_eq_true, if_false, evSs, evS, evE, evEs, evAnd, evOr, evI, evPs, setAll, getS_0, getS_s, setS_0, setS_s, lift_ret, bnd_ret, bnd_bnd, chk_ret, asBl_bl, asI_int, fin, idx_t0, idx_t1, idx_t2, asLs_lst, asIt_lst, asIt_tup, List.map_cons, List.map_nil, List.replicate, List.cons_append, List.nil_append, ge_int]
            by_cases hu2 : (2 * (ts.length : Int)) ≤ (u : Int)
            · simp only [hu2, decide_true, if_true, evSs, evS, evE, evEs, evAnd, evOr, evI, evPs, setAll, getS_0, getS_s, setS_0, setS_s, lift_ret, bnd_ret, bnd_bnd, chk_ret, asBl_bl, asI_int, fin, idx_t0, idx_t1, idx_t2, asLs_lst, asIt_lst, asIt_tup, List.map_cons, List.map_nil, List.replicate, List.cons_append, List.nil_append, wp_ret]
              exact ⟨hyes, hb5⟩
            · simp only [hu2, decide_false, Bool.false_eq_true, if_false, evSs, evS, evE, evEs, evAnd, evOr, evI, evPs, setAll, getS_0, getS_s, setS_0, setS_s, lift_ret, bnd_ret, bnd_bnd, chk_ret, asBl_bl, asI_int, fin, idx_t0, idx_t1, idx_t2, asLs_lst, asIt_lst, asIt_tup, List.map_cons, List.map_nil, List.replicate, List.cons_append, List.nil_append, wp_ret]
              refine ⟨⟨lot, rfl, ?_, fun h => absurd h (by omega)⟩, hb5⟩
              rw [take_succ' ha]
              exact hs.trans (List.sublist_append_left _ _)
        · rintro ys t ⟨⟨lot, rfl, hs, hall2⟩, ht⟩
          rw [List.length_map, List.take_length] at hs hall2
          rw [List.length_map] at ht
          have hlotL : Lot ts.length lot := ⟨g.lot.inc.sublist hs, fun k hk => g.lot.lt k (hs.subset hk)⟩
          obtain ⟨K, hK, eK⟩ := kernel_ok n w hrow hlotL
          have eK' : sem T (n + 7) 191 [webV l r ts, rowV row, .tup (lot.map nv)] = M.ret (lotV K) := eK
          have hKL : Lot ts.length K := ⟨hK.inc, fun k hk => hlotL.lt k (hK.sub k hk)⟩
          simp only [eK', evSs, evS, evE, evEs, evAnd, evOr, evI, evPs, setAll, getS_0, getS_s, setS_0, setS_s, lift_ret, bnd_ret, bnd_bnd, chk_ret, asBl_bl, asI_int, fin, idx_t0, idx_t1, idx_t2, asLs_lst, asIt_lst, asIt_tup, List.map_cons, List.map_nil, List.replicate, List.cons_append, List.nil_append, wp_bnd, wp_ret, stOk]
          refine Wp.loop0 (fun j ρ t => ∃ o15, ρ = Sl (some (webV l r ts)) (some (nv ts.length)) (some (rowV row)) (some (LenV ts row)) (some (lsV Ls)) (some (lotL ord)) o9 (some (nv u)) (some (lotL left)) (some (lotL found)) (some (lotV lot)) (some (lotV K)) o15 (some (lotL (incK shows (lot.take j)))) (some (nv i)) ∧ TB (2000 * i + 700 + 20 * u + left.length) t) ⟨_, rfl, ht⟩ ?_ ?_
          · rintro j x hx ρ t ⟨o15, rfl, ht⟩
            obtain ⟨a, ha, rfl⟩ := map_x hx
            have hap : a < (incK shows (lot.take j)).length := by rw [incK_len, g.len2]; exact hlotL.lt a (List.mem_of_getElem? ha)
            simp only [Sl, lotL, evSs, evS, evE, evEs, evAnd, evOr, evI, evPs, setAll, getS_0, getS_s, setS_0, setS_s, lift_ret, bnd_ret, bnd_bnd, chk_ret, asBl_bl, asI_int, fin, idx_t0, idx_t1, idx_t2, asLs_lst, asIt_lst, asIt_tup, List.map_cons, List.map_nil, List.replicate, List.cons_append, List.nil_append, Tg.slots, wipeS, bindT, List.set_cons_zero, List.set_cons_succ, wp_bnd, wp_ret, idx_lst (nv_get hap), add_int]
            rw [show (((incK shows (lot.take j)).getD a 0 : Nat) : Int) + 1 = (((incK shows (lot.take j)).getD a 0 + 1 : Nat) : Int) by omega]
            simp only [fl, flat, List.length_map, atIx, atIx_nat hap, set_nv, evSs, evS, evE, evEs, evAnd, evOr, evI, evPs, setAll, getS_0, getS_s, setS_0, setS_s, lift_ret, bnd_ret, bnd_bnd, chk_ret, asBl_bl, asI_int, fin, idx_t0, idx_t1, idx_t2, asLs_lst, asIt_lst, asIt_tup, List.map_cons, List.map_nil, List.replicate, List.cons_append, List.nil_append, wp_ret]
            exact ⟨_, rfl, _, by rw [take_succ' ha, incK_snoc], ht⟩
          · rintro ρ t ⟨o15, rfl, ht⟩
            rw [List.length_map, List.take_length]
            simp only [Sl, evSs, evS, evE, evEs, evAnd, evOr, evI, evPs, setAll, getS_0, getS_s, setS_0, setS_s, lift_ret, bnd_ret, bnd_bnd, chk_ret, asBl_bl, asI_int, fin, idx_t0, idx_t1, idx_t2, asLs_lst, asIt_lst, asIt_tup, List.map_cons, List.map_nil, List.replicate, List.cons_append, List.nil_append, Tg.slots, wipeS, bindT, List.set_cons_zero, List.set_cons_succ, wp_bnd, wp_ret]
            rw [show asIt (lotV K) = M.ret (K.map nv) from asIt_tup _, wp_ret]
            refine Wp.loop0 (fun j ρ t => ∃ o15, ρ = Sl (some (webV l r ts)) (some (nv ts.length)) (some (rowV row)) (some (LenV ts row)) (some (lsV Ls)) (some (lotL ord)) o9 (some (nv u)) (some (lotL left)) (some (lotL (putK found (K.take j) u))) (some (lotV lot)) (some (lotV K)) o15 (some (lotL (incK shows lot))) (some (nv i)) ∧ TB (2000 * i + 700 + 20 * u + left.length) t) ⟨_, rfl, ht⟩ ?_ ?_
            · rintro j x hx ρ t ⟨o15, rfl, ht⟩
              obtain ⟨a, ha, rfl⟩ := map_x hx
              have hap : a < (putK found (K.take j) u).length := by rw [putK_len, g.len]; exact hKL.lt a (List.mem_of_getElem? ha)
              simp only [Sl, lotL, evSs, evS, evE, evEs, evAnd, evOr, evI, evPs, setAll, getS_0, getS_s, setS_0, setS_s, lift_ret, bnd_ret, bnd_bnd, chk_ret, asBl_bl, asI_int, fin, idx_t0, idx_t1, idx_t2, asLs_lst, asIt_lst, asIt_tup, List.map_cons, List.map_nil, List.replicate, List.cons_append, List.nil_append, Tg.slots, wipeS, bindT, List.set_cons_zero, List.set_cons_succ, wp_bnd, wp_ret, fl, flat, List.length_map, atIx, atIx_nat hap, set_nv]
              exact ⟨_, rfl, _, by rw [take_succ' ha, putK_snoc], ht⟩
            · rintro ρ t ⟨o15, rfl, ht⟩
              rw [List.length_map, List.take_length]
              have g' := g.step (fun k hk => hs.subset hk) hlotL.nodup hK (fun h => hall2 h)
              simp only [Sl, lotL, evSs, evS, evE, evEs, evAnd, evOr, evI, evPs, setAll, getS_0, getS_s, setS_0, setS_s, lift_ret, bnd_ret, bnd_bnd, chk_ret, asBl_bl, asI_int, fin, idx_t0, idx_t1, idx_t2, asLs_lst, asIt_lst, asIt_tup, List.map_cons, List.map_nil, List.replicate, List.cons_append, List.nil_append, Tg.slots, wipeS, bindT, List.set_cons_zero, List.set_cons_succ, wp_bnd, wp_ret]
              rw [compGo_filter (p := fun k => !decide (k ∈ K)) (fun x hx => by
                simp only [evSs, evS, evE, evEs, evAnd, evOr, evI, evPs, setAll, getS_0, getS_s, setS_0, setS_s, lift_ret, bnd_ret, bnd_bnd, chk_ret, asBl_bl, asI_int, fin, idx_t0, idx_t1, idx_t2, asLs_lst, asIt_lst, asIt_tup, List.map_cons, List.map_nil, List.replicate, List.cons_append, List.nil_append, Tg.slots, wipeS, bindT, List.set_cons_zero, List.set_cons_succ, notin_tup]
                exact ite_ret _ _ _)]
              rw [show (left.filter fun k => !decide (k ∈ K)) = wo left K from rfl]
              generalize wo left K = left' at g' ⊢
              generalize putK found K u = found' at g' ⊢
              generalize incK shows lot = shows' at g' ⊢
              simp only [evSs, evS, evE, evEs, evAnd, evOr, evI, evPs, setAll, getS_0, getS_s, setS_0, setS_s, lift_ret, bnd_ret, bnd_bnd, chk_ret, asBl_bl, asI_int, fin, idx_t0, idx_t1, idx_t2, asLs_lst, asIt_lst, asIt_tup, List.map_cons, List.map_nil, List.replicate, List.cons_append, List.nil_append, Tg.slots, wipeS, bindT, List.set_cons_zero, List.set_cons_succ, wp_bnd, wp_ret, stOk]
              have sget : ∀ k ∈ left', idxop (.lst (shows'.map nv)) (nv k) = M.ret (nv (shows'.getD k 0)) := fun k hk => idx_lst (nv_get (by rw [g'.len2]; exact g'.lot.lt k hk))
              rw [compGo_filter (p := fun _ => false) (fun x hx => by
                have hb := g'.bnd x hx
                simp only [evSs, evS, evE, evEs, evAnd, evOr, evI, evPs, setAll, getS_0, getS_s, setS_0, setS_s, lift_ret, bnd_ret, bnd_bnd, chk_ret, asBl_bl, asI_int, fin, idx_t0, idx_t1, idx_t2, asLs_lst, asIt_lst, asIt_tup, List.map_cons, List.map_nil, List.replicate, List.cons_append, List.nil_append, Tg.slots, wipeS, bindT, List.set_cons_zero, List.set_cons_succ, sget x hx, lens_get (g'.lot.lt x hx), ge_int]
                rw [decide_eq_false (by omega)]
                rfl)]
              have enl : cmpop .ne (.lst []) (.lst []) = some false := by simpa using eq_nil_line []
              simp only [filter_no, evSs, evS, evE, evEs, evAnd, evOr, evI, evPs, setAll, getS_0, getS_s, setS_0, setS_s, lift_ret, bnd_ret, bnd_bnd, chk_ret, asBl_bl, asI_int, fin, idx_t0, idx_t1, idx_t2, asLs_lst, asIt_lst, asIt_tup, List.map_cons, List.map_nil, List.replicate, List.cons_append, List.nil_append, Tg.slots, wipeS, bindT, List.set_cons_zero, List.set_cons_succ, wp_bnd, wp_ret, enl, Bool.false_eq_true, if_false, slop]
              rw [show (some (6 : Int)) = some ((6 : Nat) : Int) from rfl, cut_take, ← List.map_take]
              rw [compGo_filter (p := fun _ => false) (fun x hx => by
                have hxl := List.mem_of_mem_take hx
                have hb := g'.bnd x hxl
                have hxt := g'.lot.lt x hxl
                have ea : sem T (n + 7) 74 [webV l r ts, rowV row, .tup (left'.map nv), nv x] = M.ret (nv (cnA ts row left' x)) := ahead_eq n w hrow g'.lot hxt
                simp only [evSs, evS, evE, evEs, evAnd, evOr, evI, evPs, setAll, getS_0, getS_s, setS_0, setS_s, lift_ret, bnd_ret, bnd_bnd, chk_ret, asBl_bl, asI_int, fin, idx_t0, idx_t1, idx_t2, asLs_lst, asIt_lst, asIt_tup, List.map_cons, List.map_nil, List.replicate, List.cons_append, List.nil_append, Tg.slots, wipeS, bindT, List.set_cons_zero, List.set_cons_succ, lens_get hxt, sub_int, tuple_lst, ea, sget x hxl, lt_int]
                rw [decide_eq_false (by omega)]
                rfl)]
              have ep := is_pairing_ok (n + 1) w hKL hK.pair
              simp only [filter_no, evSs, evS, evE, evEs, evAnd, evOr, evI, evPs, setAll, getS_0, getS_s, setS_0, setS_s, lift_ret, bnd_ret, bnd_bnd, chk_ret, asBl_bl, asI_int, fin, idx_t0, idx_t1, idx_t2, asLs_lst, asIt_lst, asIt_tup, List.map_cons, List.map_nil, List.replicate, List.cons_append, List.nil_append, Tg.slots, wipeS, bindT, List.set_cons_zero, List.set_cons_succ, wp_bnd, wp_ret, enl, Bool.false_eq_true, if_false, ep, same_tt (n + 6), Bool.not_true]
              exact ⟨_, rfl, left', shows', found', _, _, _, _, rfl, g', ht.mono (by omega)⟩
      · rintro ρ t ⟨left, shows, found, o10, o13, o14, o15, rfl, g, ht⟩
        rw [List.length_map, List.length_range] at g ht
        have hleft := g.done (by omega)
        subst hleft
        have hrowF := g.isRow (by omega)
        have ec := is_colouring_ok (n + 1) w hrowF
        rw [show rowV (castR found) = lotV found from (lotV_eq found).symm] at ec
        have ec' : sem T (n + 7) 148 [webV l r ts, .tup (found.map nv)] = M.ret (.bl true) := ec
        have enl : cmpop .ne (.lst []) (.lst []) = some false := by simpa using eq_nil_line []
        have sget : ∀ k, k < ts.length → idxop (.lst (shows.map nv)) (nv k) = M.ret (nv (shows.getD k 0)) := fun k hk => idx_lst (nv_get (by rw [g.len2]; exact hk))
        by_cases hn0 : (0 : Int) < (ts.length : Int)
        · obtain ⟨mx, emx⟩ := max_ok (xs := found) (by rw [g.len]; omega)
          by_cases hmx : mx < 100
          · simp only [Sl, lotL, evSs, evS, evE, evEs, evAnd, evOr, evI, evPs, setAll, getS_0, getS_s, setS_0, setS_s, lift_ret, bnd_ret, bnd_bnd, chk_ret, asBl_bl, asI_int, fin, idx_t0, idx_t1, idx_t2, asLs_lst, asIt_lst, asIt_tup, List.map_cons, List.map_nil, List.replicate, List.cons_append, List.nil_append, Tg.slots, wipeS, bindT, List.set_cons_zero, List.set_cons_succ, wp_bnd, wp_ret, enl, Bool.false_eq_true, if_false, gt_int, hn0, decide_true, if_true, emx, lt_int, hmx, tuple_lst, ec', same_tt (n + 6), Bool.not_true, rng_chk (show ts.length ≤ 1000000 by omega), rng_nat]
            rw [compGo_filter (p := fun _ => false) (fun x hx => by
              have hxt := List.mem_range.mp hx
              have hb := g.all x hxt
              simp only [evSs, evS, evE, evEs, evAnd, evOr, evI, evPs, setAll, getS_0, getS_s, setS_0, setS_s, lift_ret, bnd_ret, bnd_bnd, chk_ret, asBl_bl, asI_int, fin, idx_t0, idx_t1, idx_t2, asLs_lst, asIt_lst, asIt_tup, List.map_cons, List.map_nil, List.replicate, List.cons_append, List.nil_append, Tg.slots, wipeS, bindT, List.set_cons_zero, List.set_cons_succ, sget x hxt, lens_get hxt, gt_int]
              rw [decide_eq_false (by omega)]
              rfl)]
            simp only [filter_no, evSs, evS, evE, evEs, evAnd, evOr, evI, evPs, setAll, getS_0, getS_s, setS_0, setS_s, lift_ret, bnd_ret, bnd_bnd, chk_ret, asBl_bl, asI_int, fin, idx_t0, idx_t1, idx_t2, asLs_lst, asIt_lst, asIt_tup, List.map_cons, List.map_nil, List.replicate, List.cons_append, List.nil_append, Tg.slots, wipeS, bindT, List.set_cons_zero, List.set_cons_succ, wp_bnd, wp_ret, enl, Bool.false_eq_true, if_false]
            exact ⟨_, rfl, _, _, _, _, _, _, _, _, _, _, _, _, _, _, _, rfl, ht.mono (by omega)⟩
          · simp only [Sl, lotL, evSs, evS, evE, evEs, evAnd, evOr, evI, evPs, setAll, getS_0, getS_s, setS_0, setS_s, lift_ret, bnd_ret, bnd_bnd, chk_ret, asBl_bl, asI_int, fin, idx_t0, idx_t1, idx_t2, asLs_lst, asIt_lst, asIt_tup, List.map_cons, List.map_nil, List.replicate, List.cons_append, List.nil_append, Tg.slots, wipeS, bindT, List.set_cons_zero, List.set_cons_succ, wp_bnd, wp_ret, enl, Bool.false_eq_true, if_false, gt_int, hn0, decide_true, if_true, emx, lt_int, hmx, decide_false, rng_chk (show ts.length ≤ 1000000 by omega), rng_nat]
            rw [compGo_filter (p := fun _ => false) (fun x hx => by
              have hxt := List.mem_range.mp hx
              have hb := g.all x hxt
              simp only [evSs, evS, evE, evEs, evAnd, evOr, evI, evPs, setAll, getS_0, getS_s, setS_0, setS_s, lift_ret, bnd_ret, bnd_bnd, chk_ret, asBl_bl, asI_int, fin, idx_t0, idx_t1, idx_t2, asLs_lst, asIt_lst, asIt_tup, List.map_cons, List.map_nil, List.replicate, List.cons_append, List.nil_append, Tg.slots, wipeS, bindT, List.set_cons_zero, List.set_cons_succ, sget x hxt, lens_get hxt, gt_int]
              rw [decide_eq_false (by omega)]
              rfl)]
            simp only [filter_no, evSs, evS, evE, evEs, evAnd, evOr, evI, evPs, setAll, getS_0, getS_s, setS_0, setS_s, lift_ret, bnd_ret, bnd_bnd, chk_ret, asBl_bl, asI_int, fin, idx_t0, idx_t1, idx_t2, asLs_lst, asIt_lst, asIt_tup, List.map_cons, List.map_nil, List.replicate, List.cons_append, List.nil_append, Tg.slots, wipeS, bindT, List.set_cons_zero, List.set_cons_succ, wp_bnd, wp_ret, enl, Bool.false_eq_true, if_false]
            exact ⟨_, rfl, _, _, _, _, _, _, _, _, _, _, _, _, _, _, _, rfl, ht.mono (by omega)⟩
        · simp only [Sl, lotL, evSs, evS, evE, evEs, evAnd, evOr, evI, evPs, setAll, getS_0, getS_s, setS_0, setS_s, lift_ret, bnd_ret, bnd_bnd, chk_ret, asBl_bl, asI_int, fin, idx_t0, idx_t1, idx_t2, asLs_lst, asIt_lst, asIt_tup, List.map_cons, List.map_nil, List.replicate, List.cons_append, List.nil_append, Tg.slots, wipeS, bindT, List.set_cons_zero, List.set_cons_succ, wp_bnd, wp_ret, enl, Bool.false_eq_true, if_false, gt_int, hn0, decide_false, rng_chk (show ts.length ≤ 1000000 by omega), rng_nat]
          rw [compGo_filter (p := fun _ => false) (fun x hx => by
            have hxt := List.mem_range.mp hx
            omega)]
          simp only [filter_no, evSs, evS, evE, evEs, evAnd, evOr, evI, evPs, setAll, getS_0, getS_s, setS_0, setS_s, lift_ret, bnd_ret, bnd_bnd, chk_ret, asBl_bl, asI_int, fin, idx_t0, idx_t1, idx_t2, asLs_lst, asIt_lst, asIt_tup, List.map_cons, List.map_nil, List.replicate, List.cons_append, List.nil_append, Tg.slots, wipeS, bindT, List.set_cons_zero, List.set_cons_succ, wp_bnd, wp_ret, enl, Bool.false_eq_true, if_false]
          exact ⟨_, rfl, _, _, _, _, _, _, _, _, _, _, _, _, _, _, _, rfl, ht.mono (by omega)⟩
  · rintro ρ t ⟨lap, own, nn, row, lens, ls, ord, c, turn, left, found, lot, som, kk, shows, rfl, ht⟩
    simp only [Sl, evSs, evS, evE, evEs, evAnd, evOr, evI, evPs, setAll, getS_0, getS_s, setS_0, setS_s, lift_ret, bnd_ret, bnd_bnd, chk_ret, asBl_bl, asI_int, fin, idx_t0, idx_t1, idx_t2, asLs_lst, asIt_lst, asIt_tup, List.map_cons, List.map_nil, List.replicate, List.cons_append, List.nil_append, wp_ret]
end G
set_option Elab.async false
set_option linter.all false
set_option maxRecDepth 100000
set_option maxHeartbeats 4000000
/-! P13: the draws' start; the law for every script -/
namespace G
open PySem
theorem enum_x : ∀ {es : List Int} {k j : Nat} {x : PV}, (enumFrom k (es.map .int))[j]? = some x → ∃ b : Int, x = .tup [nv (k + j), .int b] ∧ j < es.length
  | [], k, j, x, h => by simp [enumFrom] at h
  | e :: es, k, 0, x, h => by
    simp [enumFrom] at h
    subst h
    exact ⟨e, rfl, by simp⟩
  | e :: es, k, j + 1, x, h => by
    simp only [List.map_cons, enumFrom, List.getElem?_cons_succ] at h
    obtain ⟨b, hb, hl⟩ := enum_x (k := k + 1) (j := j) h
    exact ⟨b, by rw [hb, show k + 1 + j = k + (j + 1) by omega], by simp; omega⟩
theorem cut_ints (ns : List Int) (lo hi : Option Int) : ∃ es : List Int, cut (ns.map .int) lo hi = es.map .int ∧ es.length ≤ ns.length := by
  unfold cut
  refine ⟨(ns.drop (HT.sIx (ns.map PV.int).length 0 lo)).take (HT.sIx (ns.map PV.int).length (ns.map PV.int).length hi - HT.sIx (ns.map PV.int).length 0 lo), by rw [List.map_take, List.map_drop], ?_⟩
  rw [List.length_take, List.length_drop]
  omega
theorem cells_ok (n : Nat) {ns : List Int} (h : ns.length ≤ 63) : ∃ c : Int, sem T (n + 1) 12 [.scr ns, .int 1] = M.ret (.lst [.int c]) := by
  suffices h2 : Run (sem T (n + 1) 12 [.scr ns, .int 1]) fun v => ∃ c : Int, v = .lst [.int c] by
    obtain ⟨_, e, c, rfl⟩ := h2
    exact ⟨c, e⟩
  rw [sem_call (fn := f_law_cells) rfl rfl]
  cases ns with
  | nil =>
    have e1 : cut [] none (some (1 : Int)) = [] := by simpa using cut_take 1 []
    obtain ⟨es, hes, hl⟩ := cut_ints [] (some 1) (some 63)
    simp only [List.map_cons, List.map_nil] at hes
    simp only [f_law_cells, evSs, evS, evE, evEs, evAnd, evOr, evI, evPs, setAll, getS_0, getS_s, setS_0, setS_s, lift_ret, bnd_ret, bnd_bnd, chk_ret, asBl_bl, asI_int, fin, idx_t0, idx_t1, idx_t2, asLs_lst, asIt_lst, asIt_tup, List.map_cons, List.map_nil, List.replicate, List.cons_append, List.nil_append, slop, e1, list_lst, stOk, show elems1 (.lst [.int 0]) = true from rfl, hes]
    refine Run.bnd (Run.loop (fun ρ => ∃ c o3 o4 o5, ρ = [some (.scr []), some (.int 1), some (.lst [.int c]), o3, o4, o5]) ⟨0, _, _, _, rfl⟩ ?_ ?_)
    · rintro x' hx ρ ⟨c, o3, o4, o5, rfl⟩
      obtain ⟨j, hj⟩ := List.getElem?_of_mem hx
      obtain ⟨b, rfl, hjl⟩ := enum_x hj
      have m1 : binop .mod (nv (0 + j)) (.int 1) = some (.int 0) := by
        have := mod_int (a := ((0 + j : Nat) : Int)) (b := 1) (by decide)
        rw [Int.emod_one] at this
        exact this
      have m2 : binop .mul (.int b) (.int (((0 + j : Nat) : Int) + 2)) = some (.int (b * (((0 + j : Nat) : Int) + 2))) := mul_int (.inr (small_of (by omega) (by simp only [List.length_cons, List.length_nil] at h hl; omega)))
      have i0 : idxop (.lst [.int c]) (.int 0) = M.ret (.int c) := idx_lst (xs := [.int c]) (k := 0) rfl
      have a0 : L2.ixN ([PV.int c]).length (0 : Int) = some 0 := atIx_nat (n := 1) (k := 0) (by decide)
      simp only [evSs, evS, evE, evEs, evAnd, evOr, evI, evPs, setAll, getS_0, getS_s, setS_0, setS_s, lift_ret, bnd_ret, bnd_bnd, chk_ret, asBl_bl, asI_int, fin, idx_t0, idx_t1, idx_t2, asLs_lst, asIt_lst, asIt_tup, List.map_cons, List.map_nil, List.replicate, List.cons_append, List.nil_append, Tg.slots, wipeS, bindT, List.set_cons_zero, List.set_cons_succ, Option.bind_some, int_int, m1, stOk, i0, add_int, m2, fl, flat, atIx, a0, List.set_cons_zero]
      exact nx_ret ⟨_, _, _, _, rfl⟩
    · rintro ρ ⟨c, o3, o4, o5, rfl⟩
      simp only [evSs, evS, evE, evEs, evAnd, evOr, evI, evPs, setAll, getS_0, getS_s, setS_0, setS_s, lift_ret, bnd_ret, bnd_bnd, chk_ret, asBl_bl, asI_int, fin, idx_t0, idx_t1, idx_t2, asLs_lst, asIt_lst, asIt_tup, List.map_cons, List.map_nil, List.replicate, List.cons_append, List.nil_append]
      exact ⟨_, rfl, c, rfl⟩
  | cons x ns =>
    have e1 : cut (PV.int x :: ns.map .int) none (some (1 : Int)) = [PV.int x] := by
      have := cut_take 1 (PV.int x :: ns.map .int)
      simpa using this
    obtain ⟨es, hes, hl⟩ := cut_ints (x :: ns) (some 1) (some 63)
    simp only [List.map_cons, List.map_nil] at hes
    simp only [f_law_cells, evSs, evS, evE, evEs, evAnd, evOr, evI, evPs, setAll, getS_0, getS_s, setS_0, setS_s, lift_ret, bnd_ret, bnd_bnd, chk_ret, asBl_bl, asI_int, fin, idx_t0, idx_t1, idx_t2, asLs_lst, asIt_lst, asIt_tup, List.map_cons, List.map_nil, List.replicate, List.cons_append, List.nil_append, slop, e1, list_lst, stOk, show elems1 (.lst [.int x]) = true from rfl, hes]
    refine Run.bnd (Run.loop (fun ρ => ∃ c o3 o4 o5, ρ = [some (.scr (x :: ns)), some (.int 1), some (.lst [.int c]), o3, o4, o5]) ⟨x, _, _, _, rfl⟩ ?_ ?_)
    · rintro x' hx ρ ⟨c, o3, o4, o5, rfl⟩
      obtain ⟨j, hj⟩ := List.getElem?_of_mem hx
      obtain ⟨b, rfl, hjl⟩ := enum_x hj
      have m1 : binop .mod (nv (0 + j)) (.int 1) = some (.int 0) := by
        have := mod_int (a := ((0 + j : Nat) : Int)) (b := 1) (by decide)
        rw [Int.emod_one] at this
        exact this
      have m2 : binop .mul (.int b) (.int (((0 + j : Nat) : Int) + 2)) = some (.int (b * (((0 + j : Nat) : Int) + 2))) := mul_int (.inr (small_of (by omega) (by simp only [List.length_cons, List.length_nil] at h hl; omega)))
      have i0 : idxop (.lst [.int c]) (.int 0) = M.ret (.int c) := idx_lst (xs := [.int c]) (k := 0) rfl
      have a0 : L2.ixN ([PV.int c]).length (0 : Int) = some 0 := atIx_nat (n := 1) (k := 0) (by decide)
      simp only [evSs, evS, evE, evEs, evAnd, evOr, evI, evPs, setAll, getS_0, getS_s, setS_0, setS_s, lift_ret, bnd_ret, bnd_bnd, chk_ret, asBl_bl, asI_int, fin, idx_t0, idx_t1, idx_t2, asLs_lst, asIt_lst, asIt_tup, List.map_cons, List.map_nil, List.replicate, List.cons_append, List.nil_append, Tg.slots, wipeS, bindT, List.set_cons_zero, List.set_cons_succ, Option.bind_some, int_int, m1, stOk, i0, add_int, m2, fl, flat, atIx, a0, List.set_cons_zero]
      exact nx_ret ⟨_, _, _, _, rfl⟩
    · rintro ρ ⟨c, o3, o4, o5, rfl⟩
      simp only [evSs, evS, evE, evEs, evAnd, evOr, evI, evPs, setAll, getS_0, getS_s, setS_0, setS_s, lift_ret, bnd_ret, bnd_bnd, chk_ret, asBl_bl, asI_int, fin, idx_t0, idx_t1, idx_t2, asLs_lst, asIt_lst, asIt_tup, List.map_cons, List.map_nil, List.replicate, List.cons_append, List.nil_append]
      exact ⟨_, rfl, c, rfl⟩
theorem box_ok (n : Nat) (c : Int) : ∃ a b : Int, 0 ≤ a ∧ sem T (n + 1) 9 [.lst [.int c], .int 0] = M.ret (.lst [.int a, .int b, .int 0]) := by
  rw [sem_call (fn := f_law_box) rfl rfl]
  have i0 : idxop (.lst [.int c]) (.int 0) = M.ret (.int c) := idx_lst (xs := [.int c]) (k := 0) rfl
  have ab : ∀ c : Int, b1op .abs (.int c) = some (.int (if c < 0 then -c else c)) := fun c => rfl
  have pw : binop .pow (.int 10) (.int 18) = some (.int 1000000000000000000) := rfl
  have ib : ∀ b : Bool, b1op .int (.bl b) = some (.int (if b then 1 else 0)) := fun b => rfl
  have lt1 : cmpop .lt (.int 0) (.int (([PV.int c]).length : Nat)) = some true := rfl
  have mm : ∀ (a : Int) (b : Bool), binop .mul (.int a) (.int (if b then 1 else 0)) = some (.int (a * (if b then 1 else 0))) := fun a b => mul_int (.inr (by cases b <;> decide))
  have m0 : binop .mul (.int 39373) (.int 0) = some (.int (39373 * 0)) := mul_int (.inl (by decide))
  have md : ∀ a : Int, binop .mod (.int a) (.int 2305843009213693951) = some (.int (a % 2305843009213693951)) := fun a => mod_int (by decide)
  refine ⟨(if c < 0 then -c else c) * (if decide (1000000000000000000 ≤ (if c < 0 then -c else c)) = true then 1 else 0), c % 2305843009213693951 + 39373 * 0 + 25159025, ?_, ?_⟩
  · refine Int.mul_nonneg ?_ ?_
    · split <;> omega
    · split <;> omega
  · simp only [f_law_box, evSs, evS, evE, evEs, evAnd, evOr, evI, evPs, setAll, getS_0, getS_s, setS_0, setS_s, lift_ret, bnd_ret, bnd_bnd, chk_ret, asBl_bl, asI_int, fin, idx_t0, idx_t1, idx_t2, asLs_lst, asIt_lst, asIt_tup, List.map_cons, List.map_nil, List.replicate, List.cons_append, List.nil_append, len_lst, lt1, if_true, i0, stOk, ab, pw, ge_int, ib, mm, m0, md, int_int, add_int]
theorem law_sem (ns : List Int) (h : ns.length ≤ 63) : LawSem T 40 e0 f_law ns := by
  obtain ⟨c, hc⟩ := cells_ok 39 h
  obtain ⟨a, b, ha, hb⟩ := box_ok 39 c
  have ht : TB 0 (some (a, b, 0)) := ⟨a, b, 0, rfl, ha, by omega, by omega⟩
  obtain ⟨q, t', e, rfl⟩ := law_run 33 ht
  refine ⟨a, b, 0, t', ?_, e⟩
  have e1 : ([PV.scr ns].map some ++ List.replicate (f_law.ns - 1) none) = some (PV.scr ns) :: List.replicate (f_law.ns - 1) none := rfl
  rw [e1]
  have e2 : evE (sem T 40) e0 (some (PV.scr ns) :: List.replicate (f_law.ns - 1) none) = M.ret (.lst [.int a, .int b, .int 0]) := by
    simp only [e0, evE, evEs, getS_0, lift_ret, bnd_ret]
    rw [hc]
    simp only [bnd_ret]
    rw [hb]
  rw [e2]
  rfl
end G
set_option Elab.async false
set_option linter.all false
set_option maxRecDepth 100000
set_option maxHeartbeats 0
namespace HeadK
open PySem PySem.Spec PyProof.Rows L2
def top (i : Nat) : Stmt := PySem.Challenge.pw_listsofcolours_k25_main_rounds_in_any_or.main.body.getD i (.Pass ⟨0, 0, 0, 0⟩)
def mkD (i : Nat) (x : Str) : He.DefD := ⟨(x, none), x, x, defArgs (top i), defBody (top i), defScope (top i), [], []⟩
def fn_0 : List He.DefD := [mkD 6 "is_number", mkD 7 "is_within", mkD 8 "sure_within", mkD 9 "is_long", mkD 10 "are_numbers", mkD 11 "is_set", mkD 12 "tupled", mkD 14 "is_tie", mkD 15 "is_web_in", mkD 16 "sure_web", mkD 17 "is_lot_in", mkD 18 "sure_lot", mkD 19 "all_lot", mkD 20 "at_side", mkD 21 "is_pairing_in", mkD 22 "is_pairing", mkD 24 "is_row_in", mkD 25 "is_proper", mkD 26 "is_colouring_in", mkD 27 "sure_colouring", mkD 28 "is_colouring", mkD 30 "is_ahead", mkD 31 "ahead_in", mkD 32 "is_kernel_in", mkD 33 "asked_in", mkD 34 "kernel_in", mkD 35 "other_in", mkD 36 "sure_wishes", mkD 37 "ahead", mkD 38 "kernel"]
def fn_1 : List He.DefD := [mkD 39 "other_kernel", mkD 40 "is_kernel", mkD 42 "is_list", mkD 43 "is_lists_in", mkD 44 "sure_lists", mkD 45 "is_from_in", mkD 46 "is_from_lists", mkD 47 "asked_lengths", mkD 49 "_law_box", mkD 50 "_law_take", mkD 51 "_law_cells", mkD 52 "_law_of", mkD 53 "_law_pick", mkD 54 "_law_same", mkD 55 "_law_web", mkD 56 "_law_meet", mkD 57 "_law_row", mkD 58 "_law_is_ahead", mkD 59 "_law_ahead", mkD 60 "_law_long_lists", mkD 61 "law"]
def fn : List He.DefD := fn_0 ++ fn_1
def fa_0 : List He.Fa := [.glo "is_number", .glo "is_within", .glo "sure_within", .glo "is_long", .glo "are_numbers", .glo "is_set", .glo "tupled", .glo "is_tie", .glo "is_web_in", .glo "sure_web", .glo "is_lot_in", .glo "sure_lot", .glo "all_lot", .glo "at_side", .glo "is_pairing_in", .glo "is_pairing", .glo "is_row_in", .glo "is_proper", .glo "is_colouring_in", .glo "sure_colouring", .glo "is_colouring", .glo "is_ahead", .glo "ahead_in", .glo "is_kernel_in", .glo "asked_in", .glo "kernel_in", .glo "other_in", .glo "sure_wishes", .glo "ahead", .glo "kernel"]
def fa_1 : List He.Fa := [.glo "other_kernel", .glo "is_kernel", .glo "is_list", .glo "is_lists_in", .glo "sure_lists", .glo "is_from_in", .glo "is_from_lists", .glo "asked_lengths", .glo "_law_box", .glo "_law_take", .glo "_law_cells", .glo "_law_of", .glo "_law_pick", .glo "_law_same", .glo "_law_web", .glo "_law_meet", .glo "_law_row", .glo "_law_is_ahead", .glo "_law_ahead", .glo "_law_long_lists", .glo "law", .int "MOST_ENDS" 8, .int "MOST_TIES" 24, .int "MOST_COLOUR" 99, .free "isinstance", .free "int", .free "bool", .free "str", .free "tuple", .free "list"]
def fa_2 : List He.Fa := [.free "all", .free "any", .free "len", .free "sorted", .free "set", .free "max", .free "min", .free "sum", .free "abs", .free "range", .free "enumerate", .free "zip", .free "dict"]
def fa : List He.Fa := fa_0 ++ fa_1 ++ fa_2
def loose_0 : List Str := ["Unfit", "MOST_ENDS", "MOST_TIES", "MOST_COLOUR", "is_number", "is_within", "sure_within", "is_long", "are_numbers", "is_set", "tupled", "is_tie", "is_web_in", "sure_web", "is_lot_in", "sure_lot", "all_lot", "at_side", "is_pairing_in", "is_pairing", "is_row_in", "is_proper", "is_colouring_in", "sure_colouring", "is_colouring", "is_ahead", "ahead_in", "is_kernel_in", "asked_in", "kernel_in"]
def loose_1 : List Str := ["other_in", "sure_wishes", "ahead", "kernel", "other_kernel", "is_kernel", "is_list", "is_lists_in", "sure_lists", "is_from_in", "is_from_lists", "asked_lengths", "_law_box", "_law_take", "_law_cells", "_law_of", "_law_pick", "_law_same", "_law_web", "_law_meet", "_law_row", "_law_is_ahead", "_law_ahead", "_law_long_lists"]
def loose : List Str := loose_0 ++ loose_1
abbrev R : PySem.W.OpenRow := PySem.W.OpenLaw.row PySem.Challenge.rw_listsofcolours_k25_main_rounds_in_any_or
abbrev hk : PySem.W.Hook := He.hookD 4 fa fn
def ob (s : PySem.W.SharedT) : He.AlD := He.obsDG 4 fa fn (HandSHeadRun.getT s)
theorem ob_eq (s : PySem.W.SharedT) : ob s = hk.obs s.abs := He.obsDG_eq (HandSHeadRun.getT_eq s)
theorem run (w : World) : HandSHeadRun.RunEq R (PySem.W.view R.prog [61]) hk ob 6000 loose w := by
  intro os
  kernel_rfl
end HeadK
set_option Elab.async false
set_option linter.all false
set_option maxRecDepth 100000
set_option maxHeartbeats 0
namespace G
open PySem PySem.Spec PyProof.Rows L2
def B (K : PySem.W.Frag) : Tab := ⟨T, nm, fun f => He.ga K (nm f), cs⟩
theorem ck_f_is_number (K : PySem.W.Frag) : chkD (B K) (HeadK.mkD 6 "is_number") f_is_number N_f_is_number = true := by kernel_rfl
theorem bd_f_is_number : ∀ (kV doc pm : Value) (an : Option Addr) (cdv ct : Value) (us : List Value), us.length = (N_f_is_number.take f_is_number.ps).length → bindArgs (PySem.W.fnOf "is_number" "is_number" (defArgs (HeadK.top 6)) (defBody (HeadK.top 6)) (defScope (HeadK.top 6)) .none kV doc pm an cdv ct) ⟨us, []⟩ = pure ((N_f_is_number.take f_is_number.ps).zip us) := fun _ _ _ _ _ _ us hl => match us, hl with | [_], _ => by rfl
theorem ck_f_is_within (K : PySem.W.Frag) : chkD (B K) (HeadK.mkD 7 "is_within") f_is_within N_f_is_within = true := by kernel_rfl
theorem bd_f_is_within : ∀ (kV doc pm : Value) (an : Option Addr) (cdv ct : Value) (us : List Value), us.length = (N_f_is_within.take f_is_within.ps).length → bindArgs (PySem.W.fnOf "is_within" "is_within" (defArgs (HeadK.top 7)) (defBody (HeadK.top 7)) (defScope (HeadK.top 7)) .none kV doc pm an cdv ct) ⟨us, []⟩ = pure ((N_f_is_within.take f_is_within.ps).zip us) := fun _ _ _ _ _ _ us hl => match us, hl with | [_, _, _], _ => by rfl
theorem ck_f_sure_within (K : PySem.W.Frag) : chkD (B K) (HeadK.mkD 8 "sure_within") f_sure_within N_f_sure_within = true := by kernel_rfl
theorem bd_f_sure_within : ∀ (kV doc pm : Value) (an : Option Addr) (cdv ct : Value) (us : List Value), us.length = (N_f_sure_within.take f_sure_within.ps).length → bindArgs (PySem.W.fnOf "sure_within" "sure_within" (defArgs (HeadK.top 8)) (defBody (HeadK.top 8)) (defScope (HeadK.top 8)) .none kV doc pm an cdv ct) ⟨us, []⟩ = pure ((N_f_sure_within.take f_sure_within.ps).zip us) := fun _ _ _ _ _ _ us hl => match us, hl with | [_, _, _], _ => by rfl
theorem ck_f_is_long (K : PySem.W.Frag) : chkD (B K) (HeadK.mkD 9 "is_long") f_is_long N_f_is_long = true := by kernel_rfl
theorem bd_f_is_long : ∀ (kV doc pm : Value) (an : Option Addr) (cdv ct : Value) (us : List Value), us.length = (N_f_is_long.take f_is_long.ps).length → bindArgs (PySem.W.fnOf "is_long" "is_long" (defArgs (HeadK.top 9)) (defBody (HeadK.top 9)) (defScope (HeadK.top 9)) .none kV doc pm an cdv ct) ⟨us, []⟩ = pure ((N_f_is_long.take f_is_long.ps).zip us) := fun _ _ _ _ _ _ us hl => match us, hl with | [_, _], _ => by rfl
theorem ck_f_are_numbers (K : PySem.W.Frag) : chkD (B K) (HeadK.mkD 10 "are_numbers") f_are_numbers N_f_are_numbers = true := by kernel_rfl
theorem bd_f_are_numbers : ∀ (kV doc pm : Value) (an : Option Addr) (cdv ct : Value) (us : List Value), us.length = (N_f_are_numbers.take f_are_numbers.ps).length → bindArgs (PySem.W.fnOf "are_numbers" "are_numbers" (defArgs (HeadK.top 10)) (defBody (HeadK.top 10)) (defScope (HeadK.top 10)) .none kV doc pm an cdv ct) ⟨us, []⟩ = pure ((N_f_are_numbers.take f_are_numbers.ps).zip us) := fun _ _ _ _ _ _ us hl => match us, hl with | [_], _ => by rfl
theorem ck_f_is_set (K : PySem.W.Frag) : chkD (B K) (HeadK.mkD 11 "is_set") f_is_set N_f_is_set = true := by kernel_rfl
theorem bd_f_is_set : ∀ (kV doc pm : Value) (an : Option Addr) (cdv ct : Value) (us : List Value), us.length = (N_f_is_set.take f_is_set.ps).length → bindArgs (PySem.W.fnOf "is_set" "is_set" (defArgs (HeadK.top 11)) (defBody (HeadK.top 11)) (defScope (HeadK.top 11)) .none kV doc pm an cdv ct) ⟨us, []⟩ = pure ((N_f_is_set.take f_is_set.ps).zip us) := fun _ _ _ _ _ _ us hl => match us, hl with | [_], _ => by rfl
theorem ck_f_tupled (K : PySem.W.Frag) : chkD (B K) (HeadK.mkD 12 "tupled") f_tupled N_f_tupled = true := by kernel_rfl
theorem bd_f_tupled : ∀ (kV doc pm : Value) (an : Option Addr) (cdv ct : Value) (us : List Value), us.length = (N_f_tupled.take f_tupled.ps).length → bindArgs (PySem.W.fnOf "tupled" "tupled" (defArgs (HeadK.top 12)) (defBody (HeadK.top 12)) (defScope (HeadK.top 12)) .none kV doc pm an cdv ct) ⟨us, []⟩ = pure ((N_f_tupled.take f_tupled.ps).zip us) := fun _ _ _ _ _ _ us hl => match us, hl with | [_], _ => by rfl
theorem ck_f_is_tie (K : PySem.W.Frag) : chkD (B K) (HeadK.mkD 14 "is_tie") f_is_tie N_f_is_tie = true := by kernel_rfl
theorem bd_f_is_tie : ∀ (kV doc pm : Value) (an : Option Addr) (cdv ct : Value) (us : List Value), us.length = (N_f_is_tie.take f_is_tie.ps).length → bindArgs (PySem.W.fnOf "is_tie" "is_tie" (defArgs (HeadK.top 14)) (defBody (HeadK.top 14)) (defScope (HeadK.top 14)) .none kV doc pm an cdv ct) ⟨us, []⟩ = pure ((N_f_is_tie.take f_is_tie.ps).zip us) := fun _ _ _ _ _ _ us hl => match us, hl with | [_, _, _], _ => by rfl
theorem ck_f_is_web_in (K : PySem.W.Frag) : chkD (B K) (HeadK.mkD 15 "is_web_in") f_is_web_in N_f_is_web_in = true := by kernel_rfl
theorem bd_f_is_web_in : ∀ (kV doc pm : Value) (an : Option Addr) (cdv ct : Value) (us : List Value), us.length = (N_f_is_web_in.take f_is_web_in.ps).length → bindArgs (PySem.W.fnOf "is_web_in" "is_web_in" (defArgs (HeadK.top 15)) (defBody (HeadK.top 15)) (defScope (HeadK.top 15)) .none kV doc pm an cdv ct) ⟨us, []⟩ = pure ((N_f_is_web_in.take f_is_web_in.ps).zip us) := fun _ _ _ _ _ _ us hl => match us, hl with | [_], _ => by rfl
theorem ck_f_sure_web (K : PySem.W.Frag) : chkD (B K) (HeadK.mkD 16 "sure_web") f_sure_web N_f_sure_web = true := by kernel_rfl
theorem bd_f_sure_web : ∀ (kV doc pm : Value) (an : Option Addr) (cdv ct : Value) (us : List Value), us.length = (N_f_sure_web.take f_sure_web.ps).length → bindArgs (PySem.W.fnOf "sure_web" "sure_web" (defArgs (HeadK.top 16)) (defBody (HeadK.top 16)) (defScope (HeadK.top 16)) .none kV doc pm an cdv ct) ⟨us, []⟩ = pure ((N_f_sure_web.take f_sure_web.ps).zip us) := fun _ _ _ _ _ _ us hl => match us, hl with | [_], _ => by rfl
theorem ck_f_is_lot_in (K : PySem.W.Frag) : chkD (B K) (HeadK.mkD 17 "is_lot_in") f_is_lot_in N_f_is_lot_in = true := by kernel_rfl
theorem bd_f_is_lot_in : ∀ (kV doc pm : Value) (an : Option Addr) (cdv ct : Value) (us : List Value), us.length = (N_f_is_lot_in.take f_is_lot_in.ps).length → bindArgs (PySem.W.fnOf "is_lot_in" "is_lot_in" (defArgs (HeadK.top 17)) (defBody (HeadK.top 17)) (defScope (HeadK.top 17)) .none kV doc pm an cdv ct) ⟨us, []⟩ = pure ((N_f_is_lot_in.take f_is_lot_in.ps).zip us) := fun _ _ _ _ _ _ us hl => match us, hl with | [_, _], _ => by rfl
theorem ck_f_sure_lot (K : PySem.W.Frag) : chkD (B K) (HeadK.mkD 18 "sure_lot") f_sure_lot N_f_sure_lot = true := by kernel_rfl
theorem bd_f_sure_lot : ∀ (kV doc pm : Value) (an : Option Addr) (cdv ct : Value) (us : List Value), us.length = (N_f_sure_lot.take f_sure_lot.ps).length → bindArgs (PySem.W.fnOf "sure_lot" "sure_lot" (defArgs (HeadK.top 18)) (defBody (HeadK.top 18)) (defScope (HeadK.top 18)) .none kV doc pm an cdv ct) ⟨us, []⟩ = pure ((N_f_sure_lot.take f_sure_lot.ps).zip us) := fun _ _ _ _ _ _ us hl => match us, hl with | [_, _], _ => by rfl
theorem ck_f_all_lot (K : PySem.W.Frag) : chkD (B K) (HeadK.mkD 19 "all_lot") f_all_lot N_f_all_lot = true := by kernel_rfl
theorem bd_f_all_lot : ∀ (kV doc pm : Value) (an : Option Addr) (cdv ct : Value) (us : List Value), us.length = (N_f_all_lot.take f_all_lot.ps).length → bindArgs (PySem.W.fnOf "all_lot" "all_lot" (defArgs (HeadK.top 19)) (defBody (HeadK.top 19)) (defScope (HeadK.top 19)) .none kV doc pm an cdv ct) ⟨us, []⟩ = pure ((N_f_all_lot.take f_all_lot.ps).zip us) := fun _ _ _ _ _ _ us hl => match us, hl with | [_], _ => by rfl
theorem ck_f_at_side (K : PySem.W.Frag) : chkD (B K) (HeadK.mkD 20 "at_side") f_at_side N_f_at_side = true := by kernel_rfl
theorem bd_f_at_side : ∀ (kV doc pm : Value) (an : Option Addr) (cdv ct : Value) (us : List Value), us.length = (N_f_at_side.take f_at_side.ps).length → bindArgs (PySem.W.fnOf "at_side" "at_side" (defArgs (HeadK.top 20)) (defBody (HeadK.top 20)) (defScope (HeadK.top 20)) .none kV doc pm an cdv ct) ⟨us, []⟩ = pure ((N_f_at_side.take f_at_side.ps).zip us) := fun _ _ _ _ _ _ us hl => match us, hl with | [_, _, _], _ => by rfl
theorem ck_f_is_pairing_in (K : PySem.W.Frag) : chkD (B K) (HeadK.mkD 21 "is_pairing_in") f_is_pairing_in N_f_is_pairing_in = true := by kernel_rfl
theorem bd_f_is_pairing_in : ∀ (kV doc pm : Value) (an : Option Addr) (cdv ct : Value) (us : List Value), us.length = (N_f_is_pairing_in.take f_is_pairing_in.ps).length → bindArgs (PySem.W.fnOf "is_pairing_in" "is_pairing_in" (defArgs (HeadK.top 21)) (defBody (HeadK.top 21)) (defScope (HeadK.top 21)) .none kV doc pm an cdv ct) ⟨us, []⟩ = pure ((N_f_is_pairing_in.take f_is_pairing_in.ps).zip us) := fun _ _ _ _ _ _ us hl => match us, hl with | [_, _], _ => by rfl
theorem ck_f_is_pairing (K : PySem.W.Frag) : chkD (B K) (HeadK.mkD 22 "is_pairing") f_is_pairing N_f_is_pairing = true := by kernel_rfl
theorem bd_f_is_pairing : ∀ (kV doc pm : Value) (an : Option Addr) (cdv ct : Value) (us : List Value), us.length = (N_f_is_pairing.take f_is_pairing.ps).length → bindArgs (PySem.W.fnOf "is_pairing" "is_pairing" (defArgs (HeadK.top 22)) (defBody (HeadK.top 22)) (defScope (HeadK.top 22)) .none kV doc pm an cdv ct) ⟨us, []⟩ = pure ((N_f_is_pairing.take f_is_pairing.ps).zip us) := fun _ _ _ _ _ _ us hl => match us, hl with | [_, _], _ => by rfl
theorem ck_f_is_row_in (K : PySem.W.Frag) : chkD (B K) (HeadK.mkD 24 "is_row_in") f_is_row_in N_f_is_row_in = true := by kernel_rfl
theorem bd_f_is_row_in : ∀ (kV doc pm : Value) (an : Option Addr) (cdv ct : Value) (us : List Value), us.length = (N_f_is_row_in.take f_is_row_in.ps).length → bindArgs (PySem.W.fnOf "is_row_in" "is_row_in" (defArgs (HeadK.top 24)) (defBody (HeadK.top 24)) (defScope (HeadK.top 24)) .none kV doc pm an cdv ct) ⟨us, []⟩ = pure ((N_f_is_row_in.take f_is_row_in.ps).zip us) := fun _ _ _ _ _ _ us hl => match us, hl with | [_, _], _ => by rfl
theorem ck_f_is_proper (K : PySem.W.Frag) : chkD (B K) (HeadK.mkD 25 "is_proper") f_is_proper N_f_is_proper = true := by kernel_rfl
theorem bd_f_is_proper : ∀ (kV doc pm : Value) (an : Option Addr) (cdv ct : Value) (us : List Value), us.length = (N_f_is_proper.take f_is_proper.ps).length → bindArgs (PySem.W.fnOf "is_proper" "is_proper" (defArgs (HeadK.top 25)) (defBody (HeadK.top 25)) (defScope (HeadK.top 25)) .none kV doc pm an cdv ct) ⟨us, []⟩ = pure ((N_f_is_proper.take f_is_proper.ps).zip us) := fun _ _ _ _ _ _ us hl => match us, hl with | [_, _], _ => by rfl
theorem ck_f_is_colouring_in (K : PySem.W.Frag) : chkD (B K) (HeadK.mkD 26 "is_colouring_in") f_is_colouring_in N_f_is_colouring_in = true := by kernel_rfl
theorem bd_f_is_colouring_in : ∀ (kV doc pm : Value) (an : Option Addr) (cdv ct : Value) (us : List Value), us.length = (N_f_is_colouring_in.take f_is_colouring_in.ps).length → bindArgs (PySem.W.fnOf "is_colouring_in" "is_colouring_in" (defArgs (HeadK.top 26)) (defBody (HeadK.top 26)) (defScope (HeadK.top 26)) .none kV doc pm an cdv ct) ⟨us, []⟩ = pure ((N_f_is_colouring_in.take f_is_colouring_in.ps).zip us) := fun _ _ _ _ _ _ us hl => match us, hl with | [_, _], _ => by rfl
theorem ck_f_sure_colouring (K : PySem.W.Frag) : chkD (B K) (HeadK.mkD 27 "sure_colouring") f_sure_colouring N_f_sure_colouring = true := by kernel_rfl
theorem bd_f_sure_colouring : ∀ (kV doc pm : Value) (an : Option Addr) (cdv ct : Value) (us : List Value), us.length = (N_f_sure_colouring.take f_sure_colouring.ps).length → bindArgs (PySem.W.fnOf "sure_colouring" "sure_colouring" (defArgs (HeadK.top 27)) (defBody (HeadK.top 27)) (defScope (HeadK.top 27)) .none kV doc pm an cdv ct) ⟨us, []⟩ = pure ((N_f_sure_colouring.take f_sure_colouring.ps).zip us) := fun _ _ _ _ _ _ us hl => match us, hl with | [_, _], _ => by rfl
theorem ck_f_is_colouring (K : PySem.W.Frag) : chkD (B K) (HeadK.mkD 28 "is_colouring") f_is_colouring N_f_is_colouring = true := by kernel_rfl
theorem bd_f_is_colouring : ∀ (kV doc pm : Value) (an : Option Addr) (cdv ct : Value) (us : List Value), us.length = (N_f_is_colouring.take f_is_colouring.ps).length → bindArgs (PySem.W.fnOf "is_colouring" "is_colouring" (defArgs (HeadK.top 28)) (defBody (HeadK.top 28)) (defScope (HeadK.top 28)) .none kV doc pm an cdv ct) ⟨us, []⟩ = pure ((N_f_is_colouring.take f_is_colouring.ps).zip us) := fun _ _ _ _ _ _ us hl => match us, hl with | [_, _], _ => by rfl
theorem ck_f_is_ahead (K : PySem.W.Frag) : chkD (B K) (HeadK.mkD 30 "is_ahead") f_is_ahead N_f_is_ahead = true := by kernel_rfl
theorem bd_f_is_ahead : ∀ (kV doc pm : Value) (an : Option Addr) (cdv ct : Value) (us : List Value), us.length = (N_f_is_ahead.take f_is_ahead.ps).length → bindArgs (PySem.W.fnOf "is_ahead" "is_ahead" (defArgs (HeadK.top 30)) (defBody (HeadK.top 30)) (defScope (HeadK.top 30)) .none kV doc pm an cdv ct) ⟨us, []⟩ = pure ((N_f_is_ahead.take f_is_ahead.ps).zip us) := fun _ _ _ _ _ _ us hl => match us, hl with | [_, _, _, _], _ => by rfl
theorem ck_f_ahead_in (K : PySem.W.Frag) : chkD (B K) (HeadK.mkD 31 "ahead_in") f_ahead_in N_f_ahead_in = true := by kernel_rfl
theorem bd_f_ahead_in : ∀ (kV doc pm : Value) (an : Option Addr) (cdv ct : Value) (us : List Value), us.length = (N_f_ahead_in.take f_ahead_in.ps).length → bindArgs (PySem.W.fnOf "ahead_in" "ahead_in" (defArgs (HeadK.top 31)) (defBody (HeadK.top 31)) (defScope (HeadK.top 31)) .none kV doc pm an cdv ct) ⟨us, []⟩ = pure ((N_f_ahead_in.take f_ahead_in.ps).zip us) := fun _ _ _ _ _ _ us hl => match us, hl with | [_, _, _, _], _ => by rfl
theorem ck_f_is_kernel_in (K : PySem.W.Frag) : chkD (B K) (HeadK.mkD 32 "is_kernel_in") f_is_kernel_in N_f_is_kernel_in = true := by kernel_rfl
theorem bd_f_is_kernel_in : ∀ (kV doc pm : Value) (an : Option Addr) (cdv ct : Value) (us : List Value), us.length = (N_f_is_kernel_in.take f_is_kernel_in.ps).length → bindArgs (PySem.W.fnOf "is_kernel_in" "is_kernel_in" (defArgs (HeadK.top 32)) (defBody (HeadK.top 32)) (defScope (HeadK.top 32)) .none kV doc pm an cdv ct) ⟨us, []⟩ = pure ((N_f_is_kernel_in.take f_is_kernel_in.ps).zip us) := fun _ _ _ _ _ _ us hl => match us, hl with | [_, _, _, _], _ => by rfl
theorem ck_f_asked_in (K : PySem.W.Frag) : chkD (B K) (HeadK.mkD 33 "asked_in") f_asked_in N_f_asked_in = true := by kernel_rfl
theorem bd_f_asked_in : ∀ (kV doc pm : Value) (an : Option Addr) (cdv ct : Value) (us : List Value), us.length = (N_f_asked_in.take f_asked_in.ps).length → bindArgs (PySem.W.fnOf "asked_in" "asked_in" (defArgs (HeadK.top 33)) (defBody (HeadK.top 33)) (defScope (HeadK.top 33)) .none kV doc pm an cdv ct) ⟨us, []⟩ = pure ((N_f_asked_in.take f_asked_in.ps).zip us) := fun _ _ _ _ _ _ us hl => match us, hl with | [_, _, _, _], _ => by rfl
theorem ck_f_kernel_in (K : PySem.W.Frag) : chkD (B K) (HeadK.mkD 34 "kernel_in") f_kernel_in N_f_kernel_in = true := by kernel_rfl
theorem bd_f_kernel_in : ∀ (kV doc pm : Value) (an : Option Addr) (cdv ct : Value) (us : List Value), us.length = (N_f_kernel_in.take f_kernel_in.ps).length → bindArgs (PySem.W.fnOf "kernel_in" "kernel_in" (defArgs (HeadK.top 34)) (defBody (HeadK.top 34)) (defScope (HeadK.top 34)) .none kV doc pm an cdv ct) ⟨us, []⟩ = pure ((N_f_kernel_in.take f_kernel_in.ps).zip us) := fun _ _ _ _ _ _ us hl => match us, hl with | [_, _, _], _ => by rfl
theorem ck_f_other_in (K : PySem.W.Frag) : chkD (B K) (HeadK.mkD 35 "other_in") f_other_in N_f_other_in = true := by kernel_rfl
theorem bd_f_other_in : ∀ (kV doc pm : Value) (an : Option Addr) (cdv ct : Value) (us : List Value), us.length = (N_f_other_in.take f_other_in.ps).length → bindArgs (PySem.W.fnOf "other_in" "other_in" (defArgs (HeadK.top 35)) (defBody (HeadK.top 35)) (defScope (HeadK.top 35)) .none kV doc pm an cdv ct) ⟨us, []⟩ = pure ((N_f_other_in.take f_other_in.ps).zip us) := fun _ _ _ _ _ _ us hl => match us, hl with | [_, _, _], _ => by rfl
theorem ck_f_sure_wishes (K : PySem.W.Frag) : chkD (B K) (HeadK.mkD 36 "sure_wishes") f_sure_wishes N_f_sure_wishes = true := by kernel_rfl
theorem bd_f_sure_wishes : ∀ (kV doc pm : Value) (an : Option Addr) (cdv ct : Value) (us : List Value), us.length = (N_f_sure_wishes.take f_sure_wishes.ps).length → bindArgs (PySem.W.fnOf "sure_wishes" "sure_wishes" (defArgs (HeadK.top 36)) (defBody (HeadK.top 36)) (defScope (HeadK.top 36)) .none kV doc pm an cdv ct) ⟨us, []⟩ = pure ((N_f_sure_wishes.take f_sure_wishes.ps).zip us) := fun _ _ _ _ _ _ us hl => match us, hl with | [_, _, _], _ => by rfl
theorem ck_f_ahead (K : PySem.W.Frag) : chkD (B K) (HeadK.mkD 37 "ahead") f_ahead N_f_ahead = true := by kernel_rfl
theorem bd_f_ahead : ∀ (kV doc pm : Value) (an : Option Addr) (cdv ct : Value) (us : List Value), us.length = (N_f_ahead.take f_ahead.ps).length → bindArgs (PySem.W.fnOf "ahead" "ahead" (defArgs (HeadK.top 37)) (defBody (HeadK.top 37)) (defScope (HeadK.top 37)) .none kV doc pm an cdv ct) ⟨us, []⟩ = pure ((N_f_ahead.take f_ahead.ps).zip us) := fun _ _ _ _ _ _ us hl => match us, hl with | [_, _, _, _], _ => by rfl
theorem ck_f_kernel (K : PySem.W.Frag) : chkD (B K) (HeadK.mkD 38 "kernel") f_kernel N_f_kernel = true := by kernel_rfl
theorem bd_f_kernel : ∀ (kV doc pm : Value) (an : Option Addr) (cdv ct : Value) (us : List Value), us.length = (N_f_kernel.take f_kernel.ps).length → bindArgs (PySem.W.fnOf "kernel" "kernel" (defArgs (HeadK.top 38)) (defBody (HeadK.top 38)) (defScope (HeadK.top 38)) .none kV doc pm an cdv ct) ⟨us, []⟩ = pure ((N_f_kernel.take f_kernel.ps).zip us) := fun _ _ _ _ _ _ us hl => match us, hl with | [_, _, _], _ => by rfl
theorem ck_f_other_kernel (K : PySem.W.Frag) : chkD (B K) (HeadK.mkD 39 "other_kernel") f_other_kernel N_f_other_kernel = true := by kernel_rfl
theorem bd_f_other_kernel : ∀ (kV doc pm : Value) (an : Option Addr) (cdv ct : Value) (us : List Value), us.length = (N_f_other_kernel.take f_other_kernel.ps).length → bindArgs (PySem.W.fnOf "other_kernel" "other_kernel" (defArgs (HeadK.top 39)) (defBody (HeadK.top 39)) (defScope (HeadK.top 39)) .none kV doc pm an cdv ct) ⟨us, []⟩ = pure ((N_f_other_kernel.take f_other_kernel.ps).zip us) := fun _ _ _ _ _ _ us hl => match us, hl with | [_, _, _], _ => by rfl
theorem ck_f_is_kernel (K : PySem.W.Frag) : chkD (B K) (HeadK.mkD 40 "is_kernel") f_is_kernel N_f_is_kernel = true := by kernel_rfl
theorem bd_f_is_kernel : ∀ (kV doc pm : Value) (an : Option Addr) (cdv ct : Value) (us : List Value), us.length = (N_f_is_kernel.take f_is_kernel.ps).length → bindArgs (PySem.W.fnOf "is_kernel" "is_kernel" (defArgs (HeadK.top 40)) (defBody (HeadK.top 40)) (defScope (HeadK.top 40)) .none kV doc pm an cdv ct) ⟨us, []⟩ = pure ((N_f_is_kernel.take f_is_kernel.ps).zip us) := fun _ _ _ _ _ _ us hl => match us, hl with | [_, _, _, _], _ => by rfl
theorem ck_f_is_list (K : PySem.W.Frag) : chkD (B K) (HeadK.mkD 42 "is_list") f_is_list N_f_is_list = true := by kernel_rfl
theorem bd_f_is_list : ∀ (kV doc pm : Value) (an : Option Addr) (cdv ct : Value) (us : List Value), us.length = (N_f_is_list.take f_is_list.ps).length → bindArgs (PySem.W.fnOf "is_list" "is_list" (defArgs (HeadK.top 42)) (defBody (HeadK.top 42)) (defScope (HeadK.top 42)) .none kV doc pm an cdv ct) ⟨us, []⟩ = pure ((N_f_is_list.take f_is_list.ps).zip us) := fun _ _ _ _ _ _ us hl => match us, hl with | [_], _ => by rfl
theorem ck_f_is_lists_in (K : PySem.W.Frag) : chkD (B K) (HeadK.mkD 43 "is_lists_in") f_is_lists_in N_f_is_lists_in = true := by kernel_rfl
theorem bd_f_is_lists_in : ∀ (kV doc pm : Value) (an : Option Addr) (cdv ct : Value) (us : List Value), us.length = (N_f_is_lists_in.take f_is_lists_in.ps).length → bindArgs (PySem.W.fnOf "is_lists_in" "is_lists_in" (defArgs (HeadK.top 43)) (defBody (HeadK.top 43)) (defScope (HeadK.top 43)) .none kV doc pm an cdv ct) ⟨us, []⟩ = pure ((N_f_is_lists_in.take f_is_lists_in.ps).zip us) := fun _ _ _ _ _ _ us hl => match us, hl with | [_, _], _ => by rfl
theorem ck_f_sure_lists (K : PySem.W.Frag) : chkD (B K) (HeadK.mkD 44 "sure_lists") f_sure_lists N_f_sure_lists = true := by kernel_rfl
theorem bd_f_sure_lists : ∀ (kV doc pm : Value) (an : Option Addr) (cdv ct : Value) (us : List Value), us.length = (N_f_sure_lists.take f_sure_lists.ps).length → bindArgs (PySem.W.fnOf "sure_lists" "sure_lists" (defArgs (HeadK.top 44)) (defBody (HeadK.top 44)) (defScope (HeadK.top 44)) .none kV doc pm an cdv ct) ⟨us, []⟩ = pure ((N_f_sure_lists.take f_sure_lists.ps).zip us) := fun _ _ _ _ _ _ us hl => match us, hl with | [_, _], _ => by rfl
theorem ck_f_is_from_in (K : PySem.W.Frag) : chkD (B K) (HeadK.mkD 45 "is_from_in") f_is_from_in N_f_is_from_in = true := by kernel_rfl
theorem bd_f_is_from_in : ∀ (kV doc pm : Value) (an : Option Addr) (cdv ct : Value) (us : List Value), us.length = (N_f_is_from_in.take f_is_from_in.ps).length → bindArgs (PySem.W.fnOf "is_from_in" "is_from_in" (defArgs (HeadK.top 45)) (defBody (HeadK.top 45)) (defScope (HeadK.top 45)) .none kV doc pm an cdv ct) ⟨us, []⟩ = pure ((N_f_is_from_in.take f_is_from_in.ps).zip us) := fun _ _ _ _ _ _ us hl => match us, hl with | [_, _, _], _ => by rfl
theorem ck_f_is_from_lists (K : PySem.W.Frag) : chkD (B K) (HeadK.mkD 46 "is_from_lists") f_is_from_lists N_f_is_from_lists = true := by kernel_rfl
theorem bd_f_is_from_lists : ∀ (kV doc pm : Value) (an : Option Addr) (cdv ct : Value) (us : List Value), us.length = (N_f_is_from_lists.take f_is_from_lists.ps).length → bindArgs (PySem.W.fnOf "is_from_lists" "is_from_lists" (defArgs (HeadK.top 46)) (defBody (HeadK.top 46)) (defScope (HeadK.top 46)) .none kV doc pm an cdv ct) ⟨us, []⟩ = pure ((N_f_is_from_lists.take f_is_from_lists.ps).zip us) := fun _ _ _ _ _ _ us hl => match us, hl with | [_, _, _], _ => by rfl
theorem ck_f_asked_lengths (K : PySem.W.Frag) : chkD (B K) (HeadK.mkD 47 "asked_lengths") f_asked_lengths N_f_asked_lengths = true := by kernel_rfl
theorem bd_f_asked_lengths : ∀ (kV doc pm : Value) (an : Option Addr) (cdv ct : Value) (us : List Value), us.length = (N_f_asked_lengths.take f_asked_lengths.ps).length → bindArgs (PySem.W.fnOf "asked_lengths" "asked_lengths" (defArgs (HeadK.top 47)) (defBody (HeadK.top 47)) (defScope (HeadK.top 47)) .none kV doc pm an cdv ct) ⟨us, []⟩ = pure ((N_f_asked_lengths.take f_asked_lengths.ps).zip us) := fun _ _ _ _ _ _ us hl => match us, hl with | [_, _], _ => by rfl
theorem ck_f_law_box (K : PySem.W.Frag) : chkD (B K) (HeadK.mkD 49 "_law_box") f_law_box N_f_law_box = true := by kernel_rfl
theorem bd_f_law_box : ∀ (kV doc pm : Value) (an : Option Addr) (cdv ct : Value) (us : List Value), us.length = (N_f_law_box.take f_law_box.ps).length → bindArgs (PySem.W.fnOf "_law_box" "_law_box" (defArgs (HeadK.top 49)) (defBody (HeadK.top 49)) (defScope (HeadK.top 49)) .none kV doc pm an cdv ct) ⟨us, []⟩ = pure ((N_f_law_box.take f_law_box.ps).zip us) := fun _ _ _ _ _ _ us hl => match us, hl with | [_, _], _ => by rfl
theorem ck_f_law_take (K : PySem.W.Frag) : chkD (B K) (HeadK.mkD 50 "_law_take") f_law_take N_f_law_take = true := by kernel_rfl
theorem bd_f_law_take : ∀ (kV doc pm : Value) (an : Option Addr) (cdv ct : Value) (us : List Value), us.length = (N_f_law_take.take f_law_take.ps).length → bindArgs (PySem.W.fnOf "_law_take" "_law_take" (defArgs (HeadK.top 50)) (defBody (HeadK.top 50)) (defScope (HeadK.top 50)) .none kV doc pm an cdv ct) ⟨us, []⟩ = pure ((N_f_law_take.take f_law_take.ps).zip us) := fun _ _ _ _ _ _ us hl => match us, hl with | [_, _], _ => by rfl
theorem ck_f_law_cells (K : PySem.W.Frag) : chkD (B K) (HeadK.mkD 51 "_law_cells") f_law_cells N_f_law_cells = true := by kernel_rfl
theorem bd_f_law_cells : ∀ (kV doc pm : Value) (an : Option Addr) (cdv ct : Value) (us : List Value), us.length = (N_f_law_cells.take f_law_cells.ps).length → bindArgs (PySem.W.fnOf "_law_cells" "_law_cells" (defArgs (HeadK.top 51)) (defBody (HeadK.top 51)) (defScope (HeadK.top 51)) .none kV doc pm an cdv ct) ⟨us, []⟩ = pure ((N_f_law_cells.take f_law_cells.ps).zip us) := fun _ _ _ _ _ _ us hl => match us, hl with | [_, _], _ => by rfl
theorem ck_f_law_of (K : PySem.W.Frag) : chkD (B K) (HeadK.mkD 52 "_law_of") f_law_of N_f_law_of = true := by kernel_rfl
theorem bd_f_law_of : ∀ (kV doc pm : Value) (an : Option Addr) (cdv ct : Value) (us : List Value), us.length = (N_f_law_of.take f_law_of.ps).length → bindArgs (PySem.W.fnOf "_law_of" "_law_of" (defArgs (HeadK.top 52)) (defBody (HeadK.top 52)) (defScope (HeadK.top 52)) .none kV doc pm an cdv ct) ⟨us, []⟩ = pure ((N_f_law_of.take f_law_of.ps).zip us) := fun _ _ _ _ _ _ us hl => match us, hl with | [_, _], _ => by rfl
theorem ck_f_law_pick (K : PySem.W.Frag) : chkD (B K) (HeadK.mkD 53 "_law_pick") f_law_pick N_f_law_pick = true := by kernel_rfl
theorem bd_f_law_pick : ∀ (kV doc pm : Value) (an : Option Addr) (cdv ct : Value) (us : List Value), us.length = (N_f_law_pick.take f_law_pick.ps).length → bindArgs (PySem.W.fnOf "_law_pick" "_law_pick" (defArgs (HeadK.top 53)) (defBody (HeadK.top 53)) (defScope (HeadK.top 53)) .none kV doc pm an cdv ct) ⟨us, []⟩ = pure ((N_f_law_pick.take f_law_pick.ps).zip us) := fun _ _ _ _ _ _ us hl => match us, hl with | [_, _, _], _ => by rfl
theorem ck_f_law_same (K : PySem.W.Frag) : chkD (B K) (HeadK.mkD 54 "_law_same") f_law_same N_f_law_same = true := by kernel_rfl
theorem bd_f_law_same : ∀ (kV doc pm : Value) (an : Option Addr) (cdv ct : Value) (us : List Value), us.length = (N_f_law_same.take f_law_same.ps).length → bindArgs (PySem.W.fnOf "_law_same" "_law_same" (defArgs (HeadK.top 54)) (defBody (HeadK.top 54)) (defScope (HeadK.top 54)) .none kV doc pm an cdv ct) ⟨us, []⟩ = pure ((N_f_law_same.take f_law_same.ps).zip us) := fun _ _ _ _ _ _ us hl => match us, hl with | [_, _], _ => by rfl
theorem ck_f_law_web (K : PySem.W.Frag) : chkD (B K) (HeadK.mkD 55 "_law_web") f_law_web N_f_law_web = true := by kernel_rfl
theorem bd_f_law_web : ∀ (kV doc pm : Value) (an : Option Addr) (cdv ct : Value) (us : List Value), us.length = (N_f_law_web.take f_law_web.ps).length → bindArgs (PySem.W.fnOf "_law_web" "_law_web" (defArgs (HeadK.top 55)) (defBody (HeadK.top 55)) (defScope (HeadK.top 55)) .none kV doc pm an cdv ct) ⟨us, []⟩ = pure ((N_f_law_web.take f_law_web.ps).zip us) := fun _ _ _ _ _ _ us hl => match us, hl with | [_, _], _ => by rfl
theorem ck_f_law_meet (K : PySem.W.Frag) : chkD (B K) (HeadK.mkD 56 "_law_meet") f_law_meet N_f_law_meet = true := by kernel_rfl
theorem bd_f_law_meet : ∀ (kV doc pm : Value) (an : Option Addr) (cdv ct : Value) (us : List Value), us.length = (N_f_law_meet.take f_law_meet.ps).length → bindArgs (PySem.W.fnOf "_law_meet" "_law_meet" (defArgs (HeadK.top 56)) (defBody (HeadK.top 56)) (defScope (HeadK.top 56)) .none kV doc pm an cdv ct) ⟨us, []⟩ = pure ((N_f_law_meet.take f_law_meet.ps).zip us) := fun _ _ _ _ _ _ us hl => match us, hl with | [_, _, _], _ => by rfl
theorem ck_f_law_row (K : PySem.W.Frag) : chkD (B K) (HeadK.mkD 57 "_law_row") f_law_row N_f_law_row = true := by kernel_rfl
theorem bd_f_law_row : ∀ (kV doc pm : Value) (an : Option Addr) (cdv ct : Value) (us : List Value), us.length = (N_f_law_row.take f_law_row.ps).length → bindArgs (PySem.W.fnOf "_law_row" "_law_row" (defArgs (HeadK.top 57)) (defBody (HeadK.top 57)) (defScope (HeadK.top 57)) .none kV doc pm an cdv ct) ⟨us, []⟩ = pure ((N_f_law_row.take f_law_row.ps).zip us) := fun _ _ _ _ _ _ us hl => match us, hl with | [_, _, _], _ => by rfl
theorem ck_f_law_is_ahead (K : PySem.W.Frag) : chkD (B K) (HeadK.mkD 58 "_law_is_ahead") f_law_is_ahead N_f_law_is_ahead = true := by kernel_rfl
theorem bd_f_law_is_ahead : ∀ (kV doc pm : Value) (an : Option Addr) (cdv ct : Value) (us : List Value), us.length = (N_f_law_is_ahead.take f_law_is_ahead.ps).length → bindArgs (PySem.W.fnOf "_law_is_ahead" "_law_is_ahead" (defArgs (HeadK.top 58)) (defBody (HeadK.top 58)) (defScope (HeadK.top 58)) .none kV doc pm an cdv ct) ⟨us, []⟩ = pure ((N_f_law_is_ahead.take f_law_is_ahead.ps).zip us) := fun _ _ _ _ _ _ us hl => match us, hl with | [_, _, _, _], _ => by rfl
theorem ck_f_law_ahead (K : PySem.W.Frag) : chkD (B K) (HeadK.mkD 59 "_law_ahead") f_law_ahead N_f_law_ahead = true := by kernel_rfl
theorem bd_f_law_ahead : ∀ (kV doc pm : Value) (an : Option Addr) (cdv ct : Value) (us : List Value), us.length = (N_f_law_ahead.take f_law_ahead.ps).length → bindArgs (PySem.W.fnOf "_law_ahead" "_law_ahead" (defArgs (HeadK.top 59)) (defBody (HeadK.top 59)) (defScope (HeadK.top 59)) .none kV doc pm an cdv ct) ⟨us, []⟩ = pure ((N_f_law_ahead.take f_law_ahead.ps).zip us) := fun _ _ _ _ _ _ us hl => match us, hl with | [_, _, _, _], _ => by rfl
theorem ck_f_law_long_lists (K : PySem.W.Frag) : chkD (B K) (HeadK.mkD 60 "_law_long_lists") f_law_long_lists N_f_law_long_lists = true := by kernel_rfl
theorem bd_f_law_long_lists : ∀ (kV doc pm : Value) (an : Option Addr) (cdv ct : Value) (us : List Value), us.length = (N_f_law_long_lists.take f_law_long_lists.ps).length → bindArgs (PySem.W.fnOf "_law_long_lists" "_law_long_lists" (defArgs (HeadK.top 60)) (defBody (HeadK.top 60)) (defScope (HeadK.top 60)) .none kV doc pm an cdv ct) ⟨us, []⟩ = pure ((N_f_law_long_lists.take f_law_long_lists.ps).zip us) := fun _ _ _ _ _ _ us hl => match us, hl with | [_, _, _, _, _], _ => by rfl
section
variable {K : PySem.W.Frag} {h : Heap} {mg : Str → Option Value}
theorem rg_f_is_number (X : K.In h) (G : h.Ns mainGlobals mg) (c : He.SaysD HeadK.fa HeadK.fn K) : ∃ (d : He.DefD) (N : List Str) (fd : FuncData), FunD K d.name d.qual d.params d.body d.scope [] [] ((B K).ad 166) fd ∧ chkD (B K) d f_is_number N = true ∧ Binds K fd (N.take f_is_number.ps) [] ∧ mg ((B K).nm 166) = some (.ref ((B K).ad 166)) := by
  obtain ⟨fd, F⟩ := c.def_ 0 (d := HeadK.mkD 6 "is_number") rfl
  exact ⟨_, N_f_is_number, fd, F, ck_f_is_number K, FunD.bindsN F bd_f_is_number, He.glo_ok X G (c.fact 0 (f := .glo "is_number") rfl)⟩
theorem rg_f_is_within (X : K.In h) (G : h.Ns mainGlobals mg) (c : He.SaysD HeadK.fa HeadK.fn K) : ∃ (d : He.DefD) (N : List Str) (fd : FuncData), FunD K d.name d.qual d.params d.body d.scope [] [] ((B K).ad 190) fd ∧ chkD (B K) d f_is_within N = true ∧ Binds K fd (N.take f_is_within.ps) [] ∧ mg ((B K).nm 190) = some (.ref ((B K).ad 190)) := by
  obtain ⟨fd, F⟩ := c.def_ 1 (d := HeadK.mkD 7 "is_within") rfl
  exact ⟨_, N_f_is_within, fd, F, ck_f_is_within K, FunD.bindsN F bd_f_is_within, He.glo_ok X G (c.fact 1 (f := .glo "is_within") rfl)⟩
theorem rg_f_sure_within (X : K.In h) (G : h.Ns mainGlobals mg) (c : He.SaysD HeadK.fa HeadK.fn K) : ∃ (d : He.DefD) (N : List Str) (fd : FuncData), FunD K d.name d.qual d.params d.body d.scope [] [] ((B K).ad 267) fd ∧ chkD (B K) d f_sure_within N = true ∧ Binds K fd (N.take f_sure_within.ps) [] ∧ mg ((B K).nm 267) = some (.ref ((B K).ad 267)) := by
  obtain ⟨fd, F⟩ := c.def_ 2 (d := HeadK.mkD 8 "sure_within") rfl
  exact ⟨_, N_f_sure_within, fd, F, ck_f_sure_within K, FunD.bindsN F bd_f_sure_within, He.glo_ok X G (c.fact 2 (f := .glo "sure_within") rfl)⟩
theorem rg_f_is_long (X : K.In h) (G : h.Ns mainGlobals mg) (c : He.SaysD HeadK.fa HeadK.fn K) : ∃ (d : He.DefD) (N : List Str) (fd : FuncData), FunD K d.name d.qual d.params d.body d.scope [] [] ((B K).ad 164) fd ∧ chkD (B K) d f_is_long N = true ∧ Binds K fd (N.take f_is_long.ps) [] ∧ mg ((B K).nm 164) = some (.ref ((B K).ad 164)) := by
  obtain ⟨fd, F⟩ := c.def_ 3 (d := HeadK.mkD 9 "is_long") rfl
  exact ⟨_, N_f_is_long, fd, F, ck_f_is_long K, FunD.bindsN F bd_f_is_long, He.glo_ok X G (c.fact 3 (f := .glo "is_long") rfl)⟩
theorem rg_f_are_numbers (X : K.In h) (G : h.Ns mainGlobals mg) (c : He.SaysD HeadK.fa HeadK.fn K) : ∃ (d : He.DefD) (N : List Str) (fd : FuncData), FunD K d.name d.qual d.params d.body d.scope [] [] ((B K).ad 83) fd ∧ chkD (B K) d f_are_numbers N = true ∧ Binds K fd (N.take f_are_numbers.ps) [] ∧ mg ((B K).nm 83) = some (.ref ((B K).ad 83)) := by
  obtain ⟨fd, F⟩ := c.def_ 4 (d := HeadK.mkD 10 "are_numbers") rfl
  exact ⟨_, N_f_are_numbers, fd, F, ck_f_are_numbers K, FunD.bindsN F bd_f_are_numbers, He.glo_ok X G (c.fact 4 (f := .glo "are_numbers") rfl)⟩
theorem rg_f_is_set (X : K.In h) (G : h.Ns mainGlobals mg) (c : He.SaysD HeadK.fa HeadK.fn K) : ∃ (d : He.DefD) (N : List Str) (fd : FuncData), FunD K d.name d.qual d.params d.body d.scope [] [] ((B K).ad 177) fd ∧ chkD (B K) d f_is_set N = true ∧ Binds K fd (N.take f_is_set.ps) [] ∧ mg ((B K).nm 177) = some (.ref ((B K).ad 177)) := by
  obtain ⟨fd, F⟩ := c.def_ 5 (d := HeadK.mkD 11 "is_set") rfl
  exact ⟨_, N_f_is_set, fd, F, ck_f_is_set K, FunD.bindsN F bd_f_is_set, He.glo_ok X G (c.fact 5 (f := .glo "is_set") rfl)⟩
theorem rg_f_tupled (X : K.In h) (G : h.Ns mainGlobals mg) (c : He.SaysD HeadK.fa HeadK.fn K) : ∃ (d : He.DefD) (N : List Str) (fd : FuncData), FunD K d.name d.qual d.params d.body d.scope [] [] ((B K).ad 278) fd ∧ chkD (B K) d f_tupled N = true ∧ Binds K fd (N.take f_tupled.ps) [] ∧ mg ((B K).nm 278) = some (.ref ((B K).ad 278)) := by
  obtain ⟨fd, F⟩ := c.def_ 6 (d := HeadK.mkD 12 "tupled") rfl
  exact ⟨_, N_f_tupled, fd, F, ck_f_tupled K, FunD.bindsN F bd_f_tupled, He.glo_ok X G (c.fact 6 (f := .glo "tupled") rfl)⟩
theorem rg_f_is_tie (X : K.In h) (G : h.Ns mainGlobals mg) (c : He.SaysD HeadK.fa HeadK.fn K) : ∃ (d : He.DefD) (N : List Str) (fd : FuncData), FunD K d.name d.qual d.params d.body d.scope [] [] ((B K).ad 187) fd ∧ chkD (B K) d f_is_tie N = true ∧ Binds K fd (N.take f_is_tie.ps) [] ∧ mg ((B K).nm 187) = some (.ref ((B K).ad 187)) := by
  obtain ⟨fd, F⟩ := c.def_ 7 (d := HeadK.mkD 14 "is_tie") rfl
  exact ⟨_, N_f_is_tie, fd, F, ck_f_is_tie K, FunD.bindsN F bd_f_is_tie, He.glo_ok X G (c.fact 7 (f := .glo "is_tie") rfl)⟩
theorem rg_f_is_web_in (X : K.In h) (G : h.Ns mainGlobals mg) (c : He.SaysD HeadK.fa HeadK.fn K) : ∃ (d : He.DefD) (N : List Str) (fd : FuncData), FunD K d.name d.qual d.params d.body d.scope [] [] ((B K).ad 189) fd ∧ chkD (B K) d f_is_web_in N = true ∧ Binds K fd (N.take f_is_web_in.ps) [] ∧ mg ((B K).nm 189) = some (.ref ((B K).ad 189)) := by
  obtain ⟨fd, F⟩ := c.def_ 8 (d := HeadK.mkD 15 "is_web_in") rfl
  exact ⟨_, N_f_is_web_in, fd, F, ck_f_is_web_in K, FunD.bindsN F bd_f_is_web_in, He.glo_ok X G (c.fact 8 (f := .glo "is_web_in") rfl)⟩
theorem rg_f_sure_web (X : K.In h) (G : h.Ns mainGlobals mg) (c : He.SaysD HeadK.fa HeadK.fn K) : ∃ (d : He.DefD) (N : List Str) (fd : FuncData), FunD K d.name d.qual d.params d.body d.scope [] [] ((B K).ad 265) fd ∧ chkD (B K) d f_sure_web N = true ∧ Binds K fd (N.take f_sure_web.ps) [] ∧ mg ((B K).nm 265) = some (.ref ((B K).ad 265)) := by
  obtain ⟨fd, F⟩ := c.def_ 9 (d := HeadK.mkD 16 "sure_web") rfl
  exact ⟨_, N_f_sure_web, fd, F, ck_f_sure_web K, FunD.bindsN F bd_f_sure_web, He.glo_ok X G (c.fact 9 (f := .glo "sure_web") rfl)⟩
theorem rg_f_is_lot_in (X : K.In h) (G : h.Ns mainGlobals mg) (c : He.SaysD HeadK.fa HeadK.fn K) : ∃ (d : He.DefD) (N : List Str) (fd : FuncData), FunD K d.name d.qual d.params d.body d.scope [] [] ((B K).ad 165) fd ∧ chkD (B K) d f_is_lot_in N = true ∧ Binds K fd (N.take f_is_lot_in.ps) [] ∧ mg ((B K).nm 165) = some (.ref ((B K).ad 165)) := by
  obtain ⟨fd, F⟩ := c.def_ 10 (d := HeadK.mkD 17 "is_lot_in") rfl
  exact ⟨_, N_f_is_lot_in, fd, F, ck_f_is_lot_in K, FunD.bindsN F bd_f_is_lot_in, He.glo_ok X G (c.fact 10 (f := .glo "is_lot_in") rfl)⟩
theorem rg_f_sure_lot (X : K.In h) (G : h.Ns mainGlobals mg) (c : He.SaysD HeadK.fa HeadK.fn K) : ∃ (d : He.DefD) (N : List Str) (fd : FuncData), FunD K d.name d.qual d.params d.body d.scope [] [] ((B K).ad 259) fd ∧ chkD (B K) d f_sure_lot N = true ∧ Binds K fd (N.take f_sure_lot.ps) [] ∧ mg ((B K).nm 259) = some (.ref ((B K).ad 259)) := by
  obtain ⟨fd, F⟩ := c.def_ 11 (d := HeadK.mkD 18 "sure_lot") rfl
  exact ⟨_, N_f_sure_lot, fd, F, ck_f_sure_lot K, FunD.bindsN F bd_f_sure_lot, He.glo_ok X G (c.fact 11 (f := .glo "sure_lot") rfl)⟩
theorem rg_f_all_lot (X : K.In h) (G : h.Ns mainGlobals mg) (c : He.SaysD HeadK.fa HeadK.fn K) : ∃ (d : He.DefD) (N : List Str) (fd : FuncData), FunD K d.name d.qual d.params d.body d.scope [] [] ((B K).ad 79) fd ∧ chkD (B K) d f_all_lot N = true ∧ Binds K fd (N.take f_all_lot.ps) [] ∧ mg ((B K).nm 79) = some (.ref ((B K).ad 79)) := by
  obtain ⟨fd, F⟩ := c.def_ 12 (d := HeadK.mkD 19 "all_lot") rfl
  exact ⟨_, N_f_all_lot, fd, F, ck_f_all_lot K, FunD.bindsN F bd_f_all_lot, He.glo_ok X G (c.fact 12 (f := .glo "all_lot") rfl)⟩
theorem rg_f_at_side (X : K.In h) (G : h.Ns mainGlobals mg) (c : He.SaysD HeadK.fa HeadK.fn K) : ∃ (d : He.DefD) (N : List Str) (fd : FuncData), FunD K d.name d.qual d.params d.body d.scope [] [] ((B K).ad 88) fd ∧ chkD (B K) d f_at_side N = true ∧ Binds K fd (N.take f_at_side.ps) [] ∧ mg ((B K).nm 88) = some (.ref ((B K).ad 88)) := by
  obtain ⟨fd, F⟩ := c.def_ 13 (d := HeadK.mkD 20 "at_side") rfl
  exact ⟨_, N_f_at_side, fd, F, ck_f_at_side K, FunD.bindsN F bd_f_at_side, He.glo_ok X G (c.fact 13 (f := .glo "at_side") rfl)⟩
theorem rg_f_is_pairing_in (X : K.In h) (G : h.Ns mainGlobals mg) (c : He.SaysD HeadK.fa HeadK.fn K) : ∃ (d : He.DefD) (N : List Str) (fd : FuncData), FunD K d.name d.qual d.params d.body d.scope [] [] ((B K).ad 170) fd ∧ chkD (B K) d f_is_pairing_in N = true ∧ Binds K fd (N.take f_is_pairing_in.ps) [] ∧ mg ((B K).nm 170) = some (.ref ((B K).ad 170)) := by
  obtain ⟨fd, F⟩ := c.def_ 14 (d := HeadK.mkD 21 "is_pairing_in") rfl
  exact ⟨_, N_f_is_pairing_in, fd, F, ck_f_is_pairing_in K, FunD.bindsN F bd_f_is_pairing_in, He.glo_ok X G (c.fact 14 (f := .glo "is_pairing_in") rfl)⟩
theorem rg_f_is_pairing (X : K.In h) (G : h.Ns mainGlobals mg) (c : He.SaysD HeadK.fa HeadK.fn K) : ∃ (d : He.DefD) (N : List Str) (fd : FuncData), FunD K d.name d.qual d.params d.body d.scope [] [] ((B K).ad 169) fd ∧ chkD (B K) d f_is_pairing N = true ∧ Binds K fd (N.take f_is_pairing.ps) [] ∧ mg ((B K).nm 169) = some (.ref ((B K).ad 169)) := by
  obtain ⟨fd, F⟩ := c.def_ 15 (d := HeadK.mkD 22 "is_pairing") rfl
  exact ⟨_, N_f_is_pairing, fd, F, ck_f_is_pairing K, FunD.bindsN F bd_f_is_pairing, He.glo_ok X G (c.fact 15 (f := .glo "is_pairing") rfl)⟩
theorem rg_f_is_row_in (X : K.In h) (G : h.Ns mainGlobals mg) (c : He.SaysD HeadK.fa HeadK.fn K) : ∃ (d : He.DefD) (N : List Str) (fd : FuncData), FunD K d.name d.qual d.params d.body d.scope [] [] ((B K).ad 175) fd ∧ chkD (B K) d f_is_row_in N = true ∧ Binds K fd (N.take f_is_row_in.ps) [] ∧ mg ((B K).nm 175) = some (.ref ((B K).ad 175)) := by
  obtain ⟨fd, F⟩ := c.def_ 16 (d := HeadK.mkD 24 "is_row_in") rfl
  exact ⟨_, N_f_is_row_in, fd, F, ck_f_is_row_in K, FunD.bindsN F bd_f_is_row_in, He.glo_ok X G (c.fact 16 (f := .glo "is_row_in") rfl)⟩
theorem rg_f_is_proper (X : K.In h) (G : h.Ns mainGlobals mg) (c : He.SaysD HeadK.fa HeadK.fn K) : ∃ (d : He.DefD) (N : List Str) (fd : FuncData), FunD K d.name d.qual d.params d.body d.scope [] [] ((B K).ad 173) fd ∧ chkD (B K) d f_is_proper N = true ∧ Binds K fd (N.take f_is_proper.ps) [] ∧ mg ((B K).nm 173) = some (.ref ((B K).ad 173)) := by
  obtain ⟨fd, F⟩ := c.def_ 17 (d := HeadK.mkD 25 "is_proper") rfl
  exact ⟨_, N_f_is_proper, fd, F, ck_f_is_proper K, FunD.bindsN F bd_f_is_proper, He.glo_ok X G (c.fact 17 (f := .glo "is_proper") rfl)⟩
theorem rg_f_is_colouring_in (X : K.In h) (G : h.Ns mainGlobals mg) (c : He.SaysD HeadK.fa HeadK.fn K) : ∃ (d : He.DefD) (N : List Str) (fd : FuncData), FunD K d.name d.qual d.params d.body d.scope [] [] ((B K).ad 149) fd ∧ chkD (B K) d f_is_colouring_in N = true ∧ Binds K fd (N.take f_is_colouring_in.ps) [] ∧ mg ((B K).nm 149) = some (.ref ((B K).ad 149)) := by
  obtain ⟨fd, F⟩ := c.def_ 18 (d := HeadK.mkD 26 "is_colouring_in") rfl
  exact ⟨_, N_f_is_colouring_in, fd, F, ck_f_is_colouring_in K, FunD.bindsN F bd_f_is_colouring_in, He.glo_ok X G (c.fact 18 (f := .glo "is_colouring_in") rfl)⟩
theorem rg_f_sure_colouring (X : K.In h) (G : h.Ns mainGlobals mg) (c : He.SaysD HeadK.fa HeadK.fn K) : ∃ (d : He.DefD) (N : List Str) (fd : FuncData), FunD K d.name d.qual d.params d.body d.scope [] [] ((B K).ad 255) fd ∧ chkD (B K) d f_sure_colouring N = true ∧ Binds K fd (N.take f_sure_colouring.ps) [] ∧ mg ((B K).nm 255) = some (.ref ((B K).ad 255)) := by
  obtain ⟨fd, F⟩ := c.def_ 19 (d := HeadK.mkD 27 "sure_colouring") rfl
  exact ⟨_, N_f_sure_colouring, fd, F, ck_f_sure_colouring K, FunD.bindsN F bd_f_sure_colouring, He.glo_ok X G (c.fact 19 (f := .glo "sure_colouring") rfl)⟩
theorem rg_f_is_colouring (X : K.In h) (G : h.Ns mainGlobals mg) (c : He.SaysD HeadK.fa HeadK.fn K) : ∃ (d : He.DefD) (N : List Str) (fd : FuncData), FunD K d.name d.qual d.params d.body d.scope [] [] ((B K).ad 148) fd ∧ chkD (B K) d f_is_colouring N = true ∧ Binds K fd (N.take f_is_colouring.ps) [] ∧ mg ((B K).nm 148) = some (.ref ((B K).ad 148)) := by
  obtain ⟨fd, F⟩ := c.def_ 20 (d := HeadK.mkD 28 "is_colouring") rfl
  exact ⟨_, N_f_is_colouring, fd, F, ck_f_is_colouring K, FunD.bindsN F bd_f_is_colouring, He.glo_ok X G (c.fact 20 (f := .glo "is_colouring") rfl)⟩
theorem rg_f_is_ahead (X : K.In h) (G : h.Ns mainGlobals mg) (c : He.SaysD HeadK.fa HeadK.fn K) : ∃ (d : He.DefD) (N : List Str) (fd : FuncData), FunD K d.name d.qual d.params d.body d.scope [] [] ((B K).ad 138) fd ∧ chkD (B K) d f_is_ahead N = true ∧ Binds K fd (N.take f_is_ahead.ps) [] ∧ mg ((B K).nm 138) = some (.ref ((B K).ad 138)) := by
  obtain ⟨fd, F⟩ := c.def_ 21 (d := HeadK.mkD 30 "is_ahead") rfl
  exact ⟨_, N_f_is_ahead, fd, F, ck_f_is_ahead K, FunD.bindsN F bd_f_is_ahead, He.glo_ok X G (c.fact 21 (f := .glo "is_ahead") rfl)⟩
theorem rg_f_ahead_in (X : K.In h) (G : h.Ns mainGlobals mg) (c : He.SaysD HeadK.fa HeadK.fn K) : ∃ (d : He.DefD) (N : List Str) (fd : FuncData), FunD K d.name d.qual d.params d.body d.scope [] [] ((B K).ad 75) fd ∧ chkD (B K) d f_ahead_in N = true ∧ Binds K fd (N.take f_ahead_in.ps) [] ∧ mg ((B K).nm 75) = some (.ref ((B K).ad 75)) := by
  obtain ⟨fd, F⟩ := c.def_ 22 (d := HeadK.mkD 31 "ahead_in") rfl
  exact ⟨_, N_f_ahead_in, fd, F, ck_f_ahead_in K, FunD.bindsN F bd_f_ahead_in, He.glo_ok X G (c.fact 22 (f := .glo "ahead_in") rfl)⟩
theorem rg_f_is_kernel_in (X : K.In h) (G : h.Ns mainGlobals mg) (c : He.SaysD HeadK.fa HeadK.fn K) : ∃ (d : He.DefD) (N : List Str) (fd : FuncData), FunD K d.name d.qual d.params d.body d.scope [] [] ((B K).ad 158) fd ∧ chkD (B K) d f_is_kernel_in N = true ∧ Binds K fd (N.take f_is_kernel_in.ps) [] ∧ mg ((B K).nm 158) = some (.ref ((B K).ad 158)) := by
  obtain ⟨fd, F⟩ := c.def_ 23 (d := HeadK.mkD 32 "is_kernel_in") rfl
  exact ⟨_, N_f_is_kernel_in, fd, F, ck_f_is_kernel_in K, FunD.bindsN F bd_f_is_kernel_in, He.glo_ok X G (c.fact 23 (f := .glo "is_kernel_in") rfl)⟩
theorem rg_f_asked_in (X : K.In h) (G : h.Ns mainGlobals mg) (c : He.SaysD HeadK.fa HeadK.fn K) : ∃ (d : He.DefD) (N : List Str) (fd : FuncData), FunD K d.name d.qual d.params d.body d.scope [] [] ((B K).ad 86) fd ∧ chkD (B K) d f_asked_in N = true ∧ Binds K fd (N.take f_asked_in.ps) [] ∧ mg ((B K).nm 86) = some (.ref ((B K).ad 86)) := by
  obtain ⟨fd, F⟩ := c.def_ 24 (d := HeadK.mkD 33 "asked_in") rfl
  exact ⟨_, N_f_asked_in, fd, F, ck_f_asked_in K, FunD.bindsN F bd_f_asked_in, He.glo_ok X G (c.fact 24 (f := .glo "asked_in") rfl)⟩
theorem rg_f_kernel_in (X : K.In h) (G : h.Ns mainGlobals mg) (c : He.SaysD HeadK.fa HeadK.fn K) : ∃ (d : He.DefD) (N : List Str) (fd : FuncData), FunD K d.name d.qual d.params d.body d.scope [] [] ((B K).ad 192) fd ∧ chkD (B K) d f_kernel_in N = true ∧ Binds K fd (N.take f_kernel_in.ps) [] ∧ mg ((B K).nm 192) = some (.ref ((B K).ad 192)) := by
  obtain ⟨fd, F⟩ := c.def_ 25 (d := HeadK.mkD 34 "kernel_in") rfl
  exact ⟨_, N_f_kernel_in, fd, F, ck_f_kernel_in K, FunD.bindsN F bd_f_kernel_in, He.glo_ok X G (c.fact 25 (f := .glo "kernel_in") rfl)⟩
theorem rg_f_other_in (X : K.In h) (G : h.Ns mainGlobals mg) (c : He.SaysD HeadK.fa HeadK.fn K) : ∃ (d : He.DefD) (N : List Str) (fd : FuncData), FunD K d.name d.qual d.params d.body d.scope [] [] ((B K).ad 215) fd ∧ chkD (B K) d f_other_in N = true ∧ Binds K fd (N.take f_other_in.ps) [] ∧ mg ((B K).nm 215) = some (.ref ((B K).ad 215)) := by
  obtain ⟨fd, F⟩ := c.def_ 26 (d := HeadK.mkD 35 "other_in") rfl
  exact ⟨_, N_f_other_in, fd, F, ck_f_other_in K, FunD.bindsN F bd_f_other_in, He.glo_ok X G (c.fact 26 (f := .glo "other_in") rfl)⟩
theorem rg_f_sure_wishes (X : K.In h) (G : h.Ns mainGlobals mg) (c : He.SaysD HeadK.fa HeadK.fn K) : ∃ (d : He.DefD) (N : List Str) (fd : FuncData), FunD K d.name d.qual d.params d.body d.scope [] [] ((B K).ad 266) fd ∧ chkD (B K) d f_sure_wishes N = true ∧ Binds K fd (N.take f_sure_wishes.ps) [] ∧ mg ((B K).nm 266) = some (.ref ((B K).ad 266)) := by
  obtain ⟨fd, F⟩ := c.def_ 27 (d := HeadK.mkD 36 "sure_wishes") rfl
  exact ⟨_, N_f_sure_wishes, fd, F, ck_f_sure_wishes K, FunD.bindsN F bd_f_sure_wishes, He.glo_ok X G (c.fact 27 (f := .glo "sure_wishes") rfl)⟩
theorem rg_f_ahead (X : K.In h) (G : h.Ns mainGlobals mg) (c : He.SaysD HeadK.fa HeadK.fn K) : ∃ (d : He.DefD) (N : List Str) (fd : FuncData), FunD K d.name d.qual d.params d.body d.scope [] [] ((B K).ad 74) fd ∧ chkD (B K) d f_ahead N = true ∧ Binds K fd (N.take f_ahead.ps) [] ∧ mg ((B K).nm 74) = some (.ref ((B K).ad 74)) := by
  obtain ⟨fd, F⟩ := c.def_ 28 (d := HeadK.mkD 37 "ahead") rfl
  exact ⟨_, N_f_ahead, fd, F, ck_f_ahead K, FunD.bindsN F bd_f_ahead, He.glo_ok X G (c.fact 28 (f := .glo "ahead") rfl)⟩
theorem rg_f_kernel (X : K.In h) (G : h.Ns mainGlobals mg) (c : He.SaysD HeadK.fa HeadK.fn K) : ∃ (d : He.DefD) (N : List Str) (fd : FuncData), FunD K d.name d.qual d.params d.body d.scope [] [] ((B K).ad 191) fd ∧ chkD (B K) d f_kernel N = true ∧ Binds K fd (N.take f_kernel.ps) [] ∧ mg ((B K).nm 191) = some (.ref ((B K).ad 191)) := by
  obtain ⟨fd, F⟩ := c.def_ 29 (d := HeadK.mkD 38 "kernel") rfl
  exact ⟨_, N_f_kernel, fd, F, ck_f_kernel K, FunD.bindsN F bd_f_kernel, He.glo_ok X G (c.fact 29 (f := .glo "kernel") rfl)⟩
theorem rg_f_other_kernel (X : K.In h) (G : h.Ns mainGlobals mg) (c : He.SaysD HeadK.fa HeadK.fn K) : ∃ (d : He.DefD) (N : List Str) (fd : FuncData), FunD K d.name d.qual d.params d.body d.scope [] [] ((B K).ad 216) fd ∧ chkD (B K) d f_other_kernel N = true ∧ Binds K fd (N.take f_other_kernel.ps) [] ∧ mg ((B K).nm 216) = some (.ref ((B K).ad 216)) := by
  obtain ⟨fd, F⟩ := c.def_ 30 (d := HeadK.mkD 39 "other_kernel") rfl
  exact ⟨_, N_f_other_kernel, fd, F, ck_f_other_kernel K, FunD.bindsN F bd_f_other_kernel, He.glo_ok X G (c.fact 30 (f := .glo "other_kernel") rfl)⟩
theorem rg_f_is_kernel (X : K.In h) (G : h.Ns mainGlobals mg) (c : He.SaysD HeadK.fa HeadK.fn K) : ∃ (d : He.DefD) (N : List Str) (fd : FuncData), FunD K d.name d.qual d.params d.body d.scope [] [] ((B K).ad 157) fd ∧ chkD (B K) d f_is_kernel N = true ∧ Binds K fd (N.take f_is_kernel.ps) [] ∧ mg ((B K).nm 157) = some (.ref ((B K).ad 157)) := by
  obtain ⟨fd, F⟩ := c.def_ 31 (d := HeadK.mkD 40 "is_kernel") rfl
  exact ⟨_, N_f_is_kernel, fd, F, ck_f_is_kernel K, FunD.bindsN F bd_f_is_kernel, He.glo_ok X G (c.fact 31 (f := .glo "is_kernel") rfl)⟩
theorem rg_f_is_list (X : K.In h) (G : h.Ns mainGlobals mg) (c : He.SaysD HeadK.fa HeadK.fn K) : ∃ (d : He.DefD) (N : List Str) (fd : FuncData), FunD K d.name d.qual d.params d.body d.scope [] [] ((B K).ad 161) fd ∧ chkD (B K) d f_is_list N = true ∧ Binds K fd (N.take f_is_list.ps) [] ∧ mg ((B K).nm 161) = some (.ref ((B K).ad 161)) := by
  obtain ⟨fd, F⟩ := c.def_ 32 (d := HeadK.mkD 42 "is_list") rfl
  exact ⟨_, N_f_is_list, fd, F, ck_f_is_list K, FunD.bindsN F bd_f_is_list, He.glo_ok X G (c.fact 32 (f := .glo "is_list") rfl)⟩
theorem rg_f_is_lists_in (X : K.In h) (G : h.Ns mainGlobals mg) (c : He.SaysD HeadK.fa HeadK.fn K) : ∃ (d : He.DefD) (N : List Str) (fd : FuncData), FunD K d.name d.qual d.params d.body d.scope [] [] ((B K).ad 163) fd ∧ chkD (B K) d f_is_lists_in N = true ∧ Binds K fd (N.take f_is_lists_in.ps) [] ∧ mg ((B K).nm 163) = some (.ref ((B K).ad 163)) := by
  obtain ⟨fd, F⟩ := c.def_ 33 (d := HeadK.mkD 43 "is_lists_in") rfl
  exact ⟨_, N_f_is_lists_in, fd, F, ck_f_is_lists_in K, FunD.bindsN F bd_f_is_lists_in, He.glo_ok X G (c.fact 33 (f := .glo "is_lists_in") rfl)⟩
theorem rg_f_sure_lists (X : K.In h) (G : h.Ns mainGlobals mg) (c : He.SaysD HeadK.fa HeadK.fn K) : ∃ (d : He.DefD) (N : List Str) (fd : FuncData), FunD K d.name d.qual d.params d.body d.scope [] [] ((B K).ad 258) fd ∧ chkD (B K) d f_sure_lists N = true ∧ Binds K fd (N.take f_sure_lists.ps) [] ∧ mg ((B K).nm 258) = some (.ref ((B K).ad 258)) := by
  obtain ⟨fd, F⟩ := c.def_ 34 (d := HeadK.mkD 44 "sure_lists") rfl
  exact ⟨_, N_f_sure_lists, fd, F, ck_f_sure_lists K, FunD.bindsN F bd_f_sure_lists, He.glo_ok X G (c.fact 34 (f := .glo "sure_lists") rfl)⟩
theorem rg_f_is_from_in (X : K.In h) (G : h.Ns mainGlobals mg) (c : He.SaysD HeadK.fa HeadK.fn K) : ∃ (d : He.DefD) (N : List Str) (fd : FuncData), FunD K d.name d.qual d.params d.body d.scope [] [] ((B K).ad 155) fd ∧ chkD (B K) d f_is_from_in N = true ∧ Binds K fd (N.take f_is_from_in.ps) [] ∧ mg ((B K).nm 155) = some (.ref ((B K).ad 155)) := by
  obtain ⟨fd, F⟩ := c.def_ 35 (d := HeadK.mkD 45 "is_from_in") rfl
  exact ⟨_, N_f_is_from_in, fd, F, ck_f_is_from_in K, FunD.bindsN F bd_f_is_from_in, He.glo_ok X G (c.fact 35 (f := .glo "is_from_in") rfl)⟩
theorem rg_f_is_from_lists (X : K.In h) (G : h.Ns mainGlobals mg) (c : He.SaysD HeadK.fa HeadK.fn K) : ∃ (d : He.DefD) (N : List Str) (fd : FuncData), FunD K d.name d.qual d.params d.body d.scope [] [] ((B K).ad 156) fd ∧ chkD (B K) d f_is_from_lists N = true ∧ Binds K fd (N.take f_is_from_lists.ps) [] ∧ mg ((B K).nm 156) = some (.ref ((B K).ad 156)) := by
  obtain ⟨fd, F⟩ := c.def_ 36 (d := HeadK.mkD 46 "is_from_lists") rfl
  exact ⟨_, N_f_is_from_lists, fd, F, ck_f_is_from_lists K, FunD.bindsN F bd_f_is_from_lists, He.glo_ok X G (c.fact 36 (f := .glo "is_from_lists") rfl)⟩
theorem rg_f_asked_lengths (X : K.In h) (G : h.Ns mainGlobals mg) (c : He.SaysD HeadK.fa HeadK.fn K) : ∃ (d : He.DefD) (N : List Str) (fd : FuncData), FunD K d.name d.qual d.params d.body d.scope [] [] ((B K).ad 87) fd ∧ chkD (B K) d f_asked_lengths N = true ∧ Binds K fd (N.take f_asked_lengths.ps) [] ∧ mg ((B K).nm 87) = some (.ref ((B K).ad 87)) := by
  obtain ⟨fd, F⟩ := c.def_ 37 (d := HeadK.mkD 47 "asked_lengths") rfl
  exact ⟨_, N_f_asked_lengths, fd, F, ck_f_asked_lengths K, FunD.bindsN F bd_f_asked_lengths, He.glo_ok X G (c.fact 37 (f := .glo "asked_lengths") rfl)⟩
theorem rg_f_law_box (X : K.In h) (G : h.Ns mainGlobals mg) (c : He.SaysD HeadK.fa HeadK.fn K) : ∃ (d : He.DefD) (N : List Str) (fd : FuncData), FunD K d.name d.qual d.params d.body d.scope [] [] ((B K).ad 9) fd ∧ chkD (B K) d f_law_box N = true ∧ Binds K fd (N.take f_law_box.ps) [] ∧ mg ((B K).nm 9) = some (.ref ((B K).ad 9)) := by
  obtain ⟨fd, F⟩ := c.def_ 38 (d := HeadK.mkD 49 "_law_box") rfl
  exact ⟨_, N_f_law_box, fd, F, ck_f_law_box K, FunD.bindsN F bd_f_law_box, He.glo_ok X G (c.fact 38 (f := .glo "_law_box") rfl)⟩
theorem rg_f_law_take (X : K.In h) (G : h.Ns mainGlobals mg) (c : He.SaysD HeadK.fa HeadK.fn K) : ∃ (d : He.DefD) (N : List Str) (fd : FuncData), FunD K d.name d.qual d.params d.body d.scope [] [] ((B K).ad 71) fd ∧ chkD (B K) d f_law_take N = true ∧ Binds K fd (N.take f_law_take.ps) [] ∧ mg ((B K).nm 71) = some (.ref ((B K).ad 71)) := by
  obtain ⟨fd, F⟩ := c.def_ 39 (d := HeadK.mkD 50 "_law_take") rfl
  exact ⟨_, N_f_law_take, fd, F, ck_f_law_take K, FunD.bindsN F bd_f_law_take, He.glo_ok X G (c.fact 39 (f := .glo "_law_take") rfl)⟩
theorem rg_f_law_cells (X : K.In h) (G : h.Ns mainGlobals mg) (c : He.SaysD HeadK.fa HeadK.fn K) : ∃ (d : He.DefD) (N : List Str) (fd : FuncData), FunD K d.name d.qual d.params d.body d.scope [] [] ((B K).ad 12) fd ∧ chkD (B K) d f_law_cells N = true ∧ Binds K fd (N.take f_law_cells.ps) [] ∧ mg ((B K).nm 12) = some (.ref ((B K).ad 12)) := by
  obtain ⟨fd, F⟩ := c.def_ 40 (d := HeadK.mkD 51 "_law_cells") rfl
  exact ⟨_, N_f_law_cells, fd, F, ck_f_law_cells K, FunD.bindsN F bd_f_law_cells, He.glo_ok X G (c.fact 40 (f := .glo "_law_cells") rfl)⟩
theorem rg_f_law_of (X : K.In h) (G : h.Ns mainGlobals mg) (c : He.SaysD HeadK.fa HeadK.fn K) : ∃ (d : He.DefD) (N : List Str) (fd : FuncData), FunD K d.name d.qual d.params d.body d.scope [] [] ((B K).ad 54) fd ∧ chkD (B K) d f_law_of N = true ∧ Binds K fd (N.take f_law_of.ps) [] ∧ mg ((B K).nm 54) = some (.ref ((B K).ad 54)) := by
  obtain ⟨fd, F⟩ := c.def_ 41 (d := HeadK.mkD 52 "_law_of") rfl
  exact ⟨_, N_f_law_of, fd, F, ck_f_law_of K, FunD.bindsN F bd_f_law_of, He.glo_ok X G (c.fact 41 (f := .glo "_law_of") rfl)⟩
theorem rg_f_law_pick (X : K.In h) (G : h.Ns mainGlobals mg) (c : He.SaysD HeadK.fa HeadK.fn K) : ∃ (d : He.DefD) (N : List Str) (fd : FuncData), FunD K d.name d.qual d.params d.body d.scope [] [] ((B K).ad 58) fd ∧ chkD (B K) d f_law_pick N = true ∧ Binds K fd (N.take f_law_pick.ps) [] ∧ mg ((B K).nm 58) = some (.ref ((B K).ad 58)) := by
  obtain ⟨fd, F⟩ := c.def_ 42 (d := HeadK.mkD 53 "_law_pick") rfl
  exact ⟨_, N_f_law_pick, fd, F, ck_f_law_pick K, FunD.bindsN F bd_f_law_pick, He.glo_ok X G (c.fact 42 (f := .glo "_law_pick") rfl)⟩
theorem rg_f_law_same (X : K.In h) (G : h.Ns mainGlobals mg) (c : He.SaysD HeadK.fa HeadK.fn K) : ∃ (d : He.DefD) (N : List Str) (fd : FuncData), FunD K d.name d.qual d.params d.body d.scope [] [] ((B K).ad 64) fd ∧ chkD (B K) d f_law_same N = true ∧ Binds K fd (N.take f_law_same.ps) [] ∧ mg ((B K).nm 64) = some (.ref ((B K).ad 64)) := by
  obtain ⟨fd, F⟩ := c.def_ 43 (d := HeadK.mkD 54 "_law_same") rfl
  exact ⟨_, N_f_law_same, fd, F, ck_f_law_same K, FunD.bindsN F bd_f_law_same, He.glo_ok X G (c.fact 43 (f := .glo "_law_same") rfl)⟩
theorem rg_f_law_web (X : K.In h) (G : h.Ns mainGlobals mg) (c : He.SaysD HeadK.fa HeadK.fn K) : ∃ (d : He.DefD) (N : List Str) (fd : FuncData), FunD K d.name d.qual d.params d.body d.scope [] [] ((B K).ad 73) fd ∧ chkD (B K) d f_law_web N = true ∧ Binds K fd (N.take f_law_web.ps) [] ∧ mg ((B K).nm 73) = some (.ref ((B K).ad 73)) := by
  obtain ⟨fd, F⟩ := c.def_ 44 (d := HeadK.mkD 55 "_law_web") rfl
  exact ⟨_, N_f_law_web, fd, F, ck_f_law_web K, FunD.bindsN F bd_f_law_web, He.glo_ok X G (c.fact 44 (f := .glo "_law_web") rfl)⟩
theorem rg_f_law_meet (X : K.In h) (G : h.Ns mainGlobals mg) (c : He.SaysD HeadK.fa HeadK.fn K) : ∃ (d : He.DefD) (N : List Str) (fd : FuncData), FunD K d.name d.qual d.params d.body d.scope [] [] ((B K).ad 49) fd ∧ chkD (B K) d f_law_meet N = true ∧ Binds K fd (N.take f_law_meet.ps) [] ∧ mg ((B K).nm 49) = some (.ref ((B K).ad 49)) := by
  obtain ⟨fd, F⟩ := c.def_ 45 (d := HeadK.mkD 56 "_law_meet") rfl
  exact ⟨_, N_f_law_meet, fd, F, ck_f_law_meet K, FunD.bindsN F bd_f_law_meet, He.glo_ok X G (c.fact 45 (f := .glo "_law_meet") rfl)⟩
theorem rg_f_law_row (X : K.In h) (G : h.Ns mainGlobals mg) (c : He.SaysD HeadK.fa HeadK.fn K) : ∃ (d : He.DefD) (N : List Str) (fd : FuncData), FunD K d.name d.qual d.params d.body d.scope [] [] ((B K).ad 62) fd ∧ chkD (B K) d f_law_row N = true ∧ Binds K fd (N.take f_law_row.ps) [] ∧ mg ((B K).nm 62) = some (.ref ((B K).ad 62)) := by
  obtain ⟨fd, F⟩ := c.def_ 46 (d := HeadK.mkD 57 "_law_row") rfl
  exact ⟨_, N_f_law_row, fd, F, ck_f_law_row K, FunD.bindsN F bd_f_law_row, He.glo_ok X G (c.fact 46 (f := .glo "_law_row") rfl)⟩
theorem rg_f_law_is_ahead (X : K.In h) (G : h.Ns mainGlobals mg) (c : He.SaysD HeadK.fa HeadK.fn K) : ∃ (d : He.DefD) (N : List Str) (fd : FuncData), FunD K d.name d.qual d.params d.body d.scope [] [] ((B K).ad 24) fd ∧ chkD (B K) d f_law_is_ahead N = true ∧ Binds K fd (N.take f_law_is_ahead.ps) [] ∧ mg ((B K).nm 24) = some (.ref ((B K).ad 24)) := by
  obtain ⟨fd, F⟩ := c.def_ 47 (d := HeadK.mkD 58 "_law_is_ahead") rfl
  exact ⟨_, N_f_law_is_ahead, fd, F, ck_f_law_is_ahead K, FunD.bindsN F bd_f_law_is_ahead, He.glo_ok X G (c.fact 47 (f := .glo "_law_is_ahead") rfl)⟩
theorem rg_f_law_ahead (X : K.In h) (G : h.Ns mainGlobals mg) (c : He.SaysD HeadK.fa HeadK.fn K) : ∃ (d : He.DefD) (N : List Str) (fd : FuncData), FunD K d.name d.qual d.params d.body d.scope [] [] ((B K).ad 0) fd ∧ chkD (B K) d f_law_ahead N = true ∧ Binds K fd (N.take f_law_ahead.ps) [] ∧ mg ((B K).nm 0) = some (.ref ((B K).ad 0)) := by
  obtain ⟨fd, F⟩ := c.def_ 48 (d := HeadK.mkD 59 "_law_ahead") rfl
  exact ⟨_, N_f_law_ahead, fd, F, ck_f_law_ahead K, FunD.bindsN F bd_f_law_ahead, He.glo_ok X G (c.fact 48 (f := .glo "_law_ahead") rfl)⟩
theorem rg_f_law_long_lists (X : K.In h) (G : h.Ns mainGlobals mg) (c : He.SaysD HeadK.fa HeadK.fn K) : ∃ (d : He.DefD) (N : List Str) (fd : FuncData), FunD K d.name d.qual d.params d.body d.scope [] [] ((B K).ad 46) fd ∧ chkD (B K) d f_law_long_lists N = true ∧ Binds K fd (N.take f_law_long_lists.ps) [] ∧ mg ((B K).nm 46) = some (.ref ((B K).ad 46)) := by
  obtain ⟨fd, F⟩ := c.def_ 49 (d := HeadK.mkD 60 "_law_long_lists") rfl
  exact ⟨_, N_f_law_long_lists, fd, F, ck_f_law_long_lists K, FunD.bindsN F bd_f_law_long_lists, He.glo_ok X G (c.fact 49 (f := .glo "_law_long_lists") rfl)⟩
theorem rg (X : K.In h) (G : h.Ns mainGlobals mg) (c : He.SaysD HeadK.fa HeadK.fn K) : Rg (B K) K mg := by
  refine ⟨fun f fn hT => ?_, fun x hx => ?_, fun x i hx => ?_⟩
  · have hT : T f = some fn := hT
    unfold T at hT
    split at hT
    · cases hT; exact rg_f_is_number X G c
    · cases hT; exact rg_f_is_within X G c
    · cases hT; exact rg_f_sure_within X G c
    · cases hT; exact rg_f_is_long X G c
    · cases hT; exact rg_f_are_numbers X G c
    · cases hT; exact rg_f_is_set X G c
    · cases hT; exact rg_f_tupled X G c
    · cases hT; exact rg_f_is_tie X G c
    · cases hT; exact rg_f_is_web_in X G c
    · cases hT; exact rg_f_sure_web X G c
    · cases hT; exact rg_f_is_lot_in X G c
    · cases hT; exact rg_f_sure_lot X G c
    · cases hT; exact rg_f_all_lot X G c
    · cases hT; exact rg_f_at_side X G c
    · cases hT; exact rg_f_is_pairing_in X G c
    · cases hT; exact rg_f_is_pairing X G c
    · cases hT; exact rg_f_is_row_in X G c
    · cases hT; exact rg_f_is_proper X G c
    · cases hT; exact rg_f_is_colouring_in X G c
    · cases hT; exact rg_f_sure_colouring X G c
    · cases hT; exact rg_f_is_colouring X G c
    · cases hT; exact rg_f_is_ahead X G c
    · cases hT; exact rg_f_ahead_in X G c
    · cases hT; exact rg_f_is_kernel_in X G c
    · cases hT; exact rg_f_asked_in X G c
    · cases hT; exact rg_f_kernel_in X G c
    · cases hT; exact rg_f_other_in X G c
    · cases hT; exact rg_f_sure_wishes X G c
    · cases hT; exact rg_f_ahead X G c
    · cases hT; exact rg_f_kernel X G c
    · cases hT; exact rg_f_other_kernel X G c
    · cases hT; exact rg_f_is_kernel X G c
    · cases hT; exact rg_f_is_list X G c
    · cases hT; exact rg_f_is_lists_in X G c
    · cases hT; exact rg_f_sure_lists X G c
    · cases hT; exact rg_f_is_from_in X G c
    · cases hT; exact rg_f_is_from_lists X G c
    · cases hT; exact rg_f_asked_lengths X G c
    · cases hT; exact rg_f_law_box X G c
    · cases hT; exact rg_f_law_take X G c
    · cases hT; exact rg_f_law_cells X G c
    · cases hT; exact rg_f_law_of X G c
    · cases hT; exact rg_f_law_pick X G c
    · cases hT; exact rg_f_law_same X G c
    · cases hT; exact rg_f_law_web X G c
    · cases hT; exact rg_f_law_meet X G c
    · cases hT; exact rg_f_law_row X G c
    · cases hT; exact rg_f_law_is_ahead X G c
    · cases hT; exact rg_f_law_ahead X G c
    · cases hT; exact rg_f_law_long_lists X G c
    · cases hT
  · simp only [bnames, List.mem_cons, List.not_mem_nil, or_false] at hx
    rcases hx with rfl | rfl | rfl | rfl | rfl | rfl | rfl | rfl | rfl | rfl | rfl | rfl | rfl | rfl | rfl | rfl | rfl | rfl | rfl
    · exact He.free_ok X G (c.fact 62 (f := .free "len") rfl)
    · exact He.free_ok X G (c.fact 60 (f := .free "all") rfl)
    · exact He.free_ok X G (c.fact 61 (f := .free "any") rfl)
    · exact He.free_ok X G (c.fact 58 (f := .free "tuple") rfl)
    · exact He.free_ok X G (c.fact 59 (f := .free "list") rfl)
    · exact He.free_ok X G (c.fact 63 (f := .free "sorted") rfl)
    · exact He.free_ok X G (c.fact 65 (f := .free "max") rfl)
    · exact He.free_ok X G (c.fact 66 (f := .free "min") rfl)
    · exact He.free_ok X G (c.fact 67 (f := .free "sum") rfl)
    · exact He.free_ok X G (c.fact 68 (f := .free "abs") rfl)
    · exact He.free_ok X G (c.fact 55 (f := .free "int") rfl)
    · exact He.free_ok X G (c.fact 72 (f := .free "dict") rfl)
    · exact He.free_ok X G (c.fact 64 (f := .free "set") rfl)
    · exact He.free_ok X G (c.fact 69 (f := .free "range") rfl)
    · exact He.free_ok X G (c.fact 54 (f := .free "isinstance") rfl)
    · exact He.free_ok X G (c.fact 56 (f := .free "bool") rfl)
    · exact He.free_ok X G (c.fact 57 (f := .free "str") rfl)
    · exact He.free_ok X G (c.fact 70 (f := .free "enumerate") rfl)
    · exact He.free_ok X G (c.fact 71 (f := .free "zip") rfl)
  · have hx : (x, i) ∈ cs := hx
    simp only [cs, List.mem_cons, List.not_mem_nil, or_false, Prod.mk.injEq] at hx
    rcases hx with ⟨rfl, rfl⟩ | ⟨rfl, rfl⟩ | ⟨rfl, rfl⟩
    · obtain ⟨t, e⟩ := He.int_ok X G (c.fact 51 (f := .int "MOST_ENDS" 8) rfl)
      exact ⟨_, e, ⟨t, rfl⟩⟩
    · obtain ⟨t, e⟩ := He.int_ok X G (c.fact 52 (f := .int "MOST_TIES" 24) rfl)
      exact ⟨_, e, ⟨t, rfl⟩⟩
    · obtain ⟨t, e⟩ := He.int_ok X G (c.fact 53 (f := .int "MOST_COLOUR" 99) rfl)
      exact ⟨_, e, ⟨t, rfl⟩⟩
end
theorem ck_law (K : PySem.W.Frag) : cL (B K) (HeadK.mkD 61 "law") f_law N_law e0 = true := by kernel_rfl
theorem bd_law : ∀ (kV doc pm : Value) (an : Option Addr) (cdv ct : Value) (us : List Value), us.length = (["script"] : List Str).length → bindArgs (PySem.W.fnOf "law" "law" (defArgs (HeadK.top 61)) (defBody (HeadK.top 61)) (defScope (HeadK.top 61)) .none kV doc pm an cdv ct) ⟨us, []⟩ = pure ((["script"] : List Str).zip us) := fun _ _ _ _ _ _ us hl => match us, hl with | [_], _ => by rfl
theorem facts {n : Nat} (hs : ∀ ns : List Int, ns.length ≤ 63 → LawSem T n e0 f_law ns) {P : Program} {w : World} {K : PySem.W.Frag} {h : Heap} {mg : Str → Option Value} {f : Addr} (X : K.In h) (G : h.Ns mainGlobals mg) (hfa : mg ("law" : Str) = some (.ref f)) (c : He.SaysD HeadK.fa HeadK.fn K) :
    ∃ fd : FuncData, (∀ (s : Shared) (v : Value), BindsTo s fd ⟨[v], []⟩ [("script", v)]) ∧ ∀ base : Heap, K.In base → base.Ns mainGlobals mg → FnOk P w K mg base CX0 (n + 1) f fd ["script"] (spLaw K) := by
  obtain ⟨fd, F⟩ := c.def_ 50 (d := HeadK.mkD 61 "law") rfl
  have e := hfa.symm.trans (He.glo_ok X G (c.fact 50 (f := .glo "law") rfl))
  cases e
  have b := FunD.bindsA (ps := ["script"]) F bd_law
  exact ⟨fd, fun s v => b s [v] rfl, fun base _ _ => law_ok (rg X G c) F (ck_law K) hs⟩
end G
open PySem PySem.W PySem.Calls PyProof.Rows
theorem law_holds (hs : ∀ ns : List Int, ns.length ≤ 63 → G.LawSem G.T 40 G.e0 G.f_law ns) : PySem.Challenge.rw_listsofcolours_k25_main_rounds_in_any_or.Holds := by
  w_on; o_law
  refine HandSHeadRun.head_any (r := OpenLaw.row PySem.Challenge.rw_listsofcolours_k25_main_rounds_in_any_or) (q := view (OpenLaw.row PySem.Challenge.rw_listsofcolours_k25_main_rounds_in_any_or).prog [61]) (H := HeadK.hk) (ob := HeadK.ob) (M := 6000) (loose := HeadK.loose) (d := HandSHeadRun.topDef (OpenLaw.row PySem.Challenge.rw_listsofcolours_k25_main_rounds_in_any_or).prog 61) (kwd := []) HeadK.ob_eq
    (by kernel_rfl) (fun s => by kernel_rfl) HeadK.run (by kernel_rfl) (by kernel_rfl) (by kernel_rfl) (by rfl) (by first | assumption | decide +kernel) (by decide +kernel) ⟨rfl, rfl, rfl, rfl, rfl, by decide +kernel⟩ ?hw ?hc
  case hw => w_witness2
  case hc =>
    refine L2.walk_ofE (l := PySem.Challenge.rw_listsofcolours_k25_main_rounds_in_any_or) (n := 63) (k := 41) (x := "script") (CX := L2.CX0) rfl (by decide) (by kernel_rfl) ⟨rfl, by decide, by decide⟩ ?F (fun _ _ _ _ z => z)
    intro w mg fa h Y hG hmg0
    obtain ⟨K, KX, c⟩ := Y
    have hmg : mg ("law" : PySem.Str) = some (.ref fa) := by
      have e : (HandSHeadRun.topDef (OpenLaw.row PySem.Challenge.rw_listsofcolours_k25_main_rounds_in_any_or).prog 61).name = ("law" : PySem.Str) := by kernel_rfl
      rw [← e]
      exact hmg0
    obtain ⟨fd, hb, hF⟩ := G.facts hs (P := (PySem.Challenge.rw_listsofcolours_k25_main_rounds_in_any_or).prog) (w := w) KX hG hmg c
    exact ⟨K, fd, G.spLaw K, KX, hb, fun H a ns hl hO hS => ⟨a, ns, rfl, hO, hS, hl, fun _ => rfl⟩, hF⟩
theorem PySem.Challenge.cw_listsofcolours_k25_main_rounds_in_any_or_holds : PySem.Challenge.rw_listsofcolours_k25_main_rounds_in_any_or.Holds :=
  law_holds fun ns h => G.law_sem ns h
